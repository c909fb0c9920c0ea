/- What the functions that are reached do, by the engine: for the proof (laws.FnDiskSafe): part 2. No conditions. -/
import Derived.Test.YtliagpcoflhphaaDoorGa
import Derived.Test.YtliagpcoflhphaaDoorProg
set_option linter.all false
namespace Go.Proofs.YtliagpcoflhphaaDoor.E
open Go
set_option maxRecDepth 100000
set_option maxHeartbeats 0
noncomputable def Es_l20Write:Env where
 tt := mkTI Tryd.prog
 fn := fun f => match f with
  | 36 => some (mss_l20Rd_pick,FSem.wk mss_l20Rd_pick Fs_l20Rd_pick)
  | 43 => some (mss_l20Rd_oddR,FSem.wk mss_l20Rd_oddR Fs_l20Rd_oddR)
  | 77 => some (mss_l20KeyR,FSem.wk mss_l20KeyR Fs_l20KeyR)
  | 109 => some (mss_l20ValR,FSem.wk mss_l20ValR Fs_l20ValR)
  | _ => none
 bxf := fun _ => none
 mv := []
 keep := fun _ => []
 keepB := fun _ => []
 keepX := fun _ => []
 keepXB := fun _ => []
theorem goodFs_l20Write:∀ f ms F,Es_l20Write.fn f = some (ms,F) → Sound Tryd.prog f ms F := fun f ms F h => by
 unfold Es_l20Write at h
 dsimp only at h
 split at h
 ·injection h with h; injection h with e1 e2; subst e1 e2; exact Sound.wk ss_l20Rd_pick
 ·injection h with h; injection h with e1 e2; subst e1 e2; exact Sound.wk ss_l20Rd_oddR
 ·injection h with h; injection h with e1 e2; subst e1 e2; exact Sound.wk ss_l20KeyR
 ·injection h with h; injection h with e1 e2; subst e1 e2; exact Sound.wk ss_l20ValR
 ·cases h
theorem goodBs_l20Write:∀ f ms F,Es_l20Write.bxf f = some (ms,F) → SoundB Tryd.prog f ms F := fun f ms F h => by cases h
theorem goods_l20Write:Good Tryd.prog Es_l20Write := ⟨rfl,goodFs_l20Write,goodBs_l20Write⟩
noncomputable def Os_l20Write_0:Orc := fun _ _ => none
noncomputable def mss_l20Write:List PM := [.bx,.own]
noncomputable def lss_l20Write:List (Nat×Code) := loopsAll 0 (Tryd.f78.body.getD .skip)
theorem ks_l20Write_0:OrcOk Es_l20Write Os_l20Write_0 lss_l20Write 0 := orcOk_none
noncomputable def g_As_l20Write (r0:List Int) (r1:Int) (a2:Int):Bool := g_As_l20Key r0 r1 a2&&(g_pickA r0 (g_Vs_l20Key_2 r0 r1 a2) (3:Int)&&bif g_pick r0 (g_Vs_l20Key_2 r0 r1 a2) (3:Int) == (0:Int) then g_As_l20Rd_odd r0 (IntKind.wrap IntKind.i64 (g_Vs_l20Key_2 r0 r1 a2 + (1:Int))) a2 else g_As_l20Val r0 (IntKind.wrap IntKind.i64 (g_Vs_l20Key_2 r0 r1 a2 + (1:Int))) a2)
noncomputable def g_Vs_l20Write_0 (r0:List Int) (r1:Int) (a2:Int):ByteArray := bif g_pick r0 (g_Vs_l20Key_2 r0 r1 a2) (3:Int) == (0:Int) then bif g_Vs_l20Rd_odd_0 r0 (IntKind.wrap IntKind.i64 (g_Vs_l20Key_2 r0 r1 a2 + (1:Int))) a2 then g_Vs_l20Key_0 r0 r1 a2 else g_Vs_l20Key_0 r0 r1 a2 else g_Vs_l20Key_0 r0 r1 a2
noncomputable def g_Vs_l20Write_1 (r0:List Int) (r1:Int) (a2:Int):Bool := bif g_pick r0 (g_Vs_l20Key_2 r0 r1 a2) (3:Int) == (0:Int) then bif g_Vs_l20Rd_odd_0 r0 (IntKind.wrap IntKind.i64 (g_Vs_l20Key_2 r0 r1 a2 + (1:Int))) a2 then true else true else false
noncomputable def g_Vs_l20Write_2 (r0:List Int) (r1:Int) (a2:Int):List Int := bif g_pick r0 (g_Vs_l20Key_2 r0 r1 a2) (3:Int) == (0:Int) then bif g_Vs_l20Rd_odd_0 r0 (IntKind.wrap IntKind.i64 (g_Vs_l20Key_2 r0 r1 a2 + (1:Int))) a2 then [(1:Int)] else [] else g_Vs_l20Val_0 r0 (IntKind.wrap IntKind.i64 (g_Vs_l20Key_2 r0 r1 a2 + (1:Int))) a2
noncomputable def g_Vs_l20Write_3 (r0:List Int) (r1:Int) (a2:Int):List Int := bif g_pick r0 (g_Vs_l20Key_2 r0 r1 a2) (3:Int) == (0:Int) then bif g_Vs_l20Rd_odd_0 r0 (IntKind.wrap IntKind.i64 (g_Vs_l20Key_2 r0 r1 a2 + (1:Int))) a2 then r0 else r0 else r0
noncomputable def g_Vs_l20Write_4 (r0:List Int) (r1:Int) (a2:Int):Int := bif g_pick r0 (g_Vs_l20Key_2 r0 r1 a2) (3:Int) == (0:Int) then bif g_Vs_l20Rd_odd_0 r0 (IntKind.wrap IntKind.i64 (g_Vs_l20Key_2 r0 r1 a2 + (1:Int))) a2 then g_Vs_l20Rd_odd_2 r0 (IntKind.wrap IntKind.i64 (g_Vs_l20Key_2 r0 r1 a2 + (1:Int))) a2 else g_Vs_l20Rd_odd_2 r0 (IntKind.wrap IntKind.i64 (g_Vs_l20Key_2 r0 r1 a2 + (1:Int))) a2 else g_Vs_l20Val_2 r0 (IntKind.wrap IntKind.i64 (g_Vs_l20Key_2 r0 r1 a2 + (1:Int))) a2
noncomputable def Fs_l20Write:FSem := fun ys => match ys with
 | [.val true [.sl .any 5 (.int .u8) r0,.int .i64 r1],.val false [.int .i64 a2]] => some ((g_As_l20Write r0 r1 a2),.val true [.str (g_Vs_l20Write_0 r0 r1 a2),.bool (g_Vs_l20Write_1 r0 r1 a2),.sl .any 3 (.int .i64) (g_Vs_l20Write_2 r0 r1 a2)],[[.sl .any 5 (.int .u8) (g_Vs_l20Write_3 r0 r1 a2),.int .i64 (g_Vs_l20Write_4 r0 r1 a2)]])
 | _ => none
theorem vs_l20Write (r0:List Int) (r1:Int) (a2:Int):collapseH .fr Es_l20Write Os_l20Write_0 (execFn Es_l20Write Tryd.f78 mss_l20Write [.val true [.sl .any 5 (.int .u8) r0,.int .i64 r1],.val false [.int .i64 a2]]) = some ((g_As_l20Write r0 r1 a2),.val true [.str (g_Vs_l20Write_0 r0 r1 a2),.bool (g_Vs_l20Write_1 r0 r1 a2),.sl .any 3 (.int .i64) (g_Vs_l20Write_2 r0 r1 a2)],[[.sl .any 5 (.int .u8) (g_Vs_l20Write_3 r0 r1 a2),.int .i64 (g_Vs_l20Write_4 r0 r1 a2)]]) := by kernel_rfl
theorem ss_l20Write:Sound Tryd.prog 78 mss_l20Write Fs_l20Write := by
 refine fn_gen goods_l20Write (by kernel_rfl) .fr (fn := Tryd.f78) (c := (Tryd.f78.body.getD .skip)) (o := Os_l20Write_0) (k := 0) (by kernel_rfl) (by kernel_rfl) (by kernel_rfl) (by kernel_rfl) (by decide) ks_l20Write_0 ?_
 intro ys r outs h
 unfold Fs_l20Write at h
 split at h
 ·exact (vs_l20Write _ _ _).trans h
 ·cases h
noncomputable def mss_l20WriteR:List PM := mss_l20Write
theorem sames_l20Write (r0:List Int) (r1:Int) (a2:Int):g_Vs_l20Write_3 r0 r1 a2 = r0 := by
 unfold g_Vs_l20Write_3
 simp only [Bool.cond_self]
noncomputable def Fs_l20WriteR:FSem := fun ys => match ys with
 | [.val true [.sl .any 5 (.int .u8) r0,.int .i64 r1],.val false [.int .i64 a2]] => some ((g_As_l20Write r0 r1 a2),.val true [.str (g_Vs_l20Write_0 r0 r1 a2),.bool (g_Vs_l20Write_1 r0 r1 a2),.sl .any 3 (.int .i64) (g_Vs_l20Write_2 r0 r1 a2)],[[.sl .any 5 (.int .u8) r0,.int .i64 (g_Vs_l20Write_4 r0 r1 a2)]])
 | _ => none
theorem ss_l20WriteR:Sound Tryd.prog 78 mss_l20WriteR Fs_l20WriteR := by
 refine ⟨ss_l20Write.fn,fun w S ψ ys vs r outs hF hh hg => ss_l20Write.calls w S ψ ys vs r outs (Eq.trans ?_ hF) hh hg⟩
 unfold Fs_l20WriteR at hF ⊢
 split at hF
 ·rename_i  r0 r1 a2
  show (some ((g_As_l20Write r0 r1 a2),.val true [.str (g_Vs_l20Write_0 r0 r1 a2),.bool (g_Vs_l20Write_1 r0 r1 a2),.sl .any 3 (.int .i64) (g_Vs_l20Write_2 r0 r1 a2)],[[.sl .any 5 (.int .u8) (g_Vs_l20Write_3 r0 r1 a2),.int .i64 (g_Vs_l20Write_4 r0 r1 a2)]]):Option (Bool×RV×List (List Cell))) = _
  rw [sames_l20Write]
 ·cases hF
noncomputable def Es_l20Writes:Env where
 tt := mkTI Tryd.prog
 fn := fun f => match f with
  | 36 => some (mss_l20Rd_pick,FSem.wk mss_l20Rd_pick Fs_l20Rd_pick)
  | 43 => some (mss_l20Rd_oddR,FSem.wk mss_l20Rd_oddR Fs_l20Rd_oddR)
  | 78 => some (mss_l20WriteR,FSem.wk mss_l20WriteR Fs_l20WriteR)
  | _ => none
 bxf := fun _ => none
 mv := []
 keep := fun b => match b with
  | 0 => [(0,false),(1,false),(5,true),(6,false)]
  | _ => []
 keepB := fun b => match b with
  | 0 => [(0,false)]
  | _ => []
 keepX := fun b => match b with
  | 0 => [(0,false),(1,false),(5,true)]
  | _ => []
 keepXB := fun b => match b with
  | 0 => [(0,false)]
  | _ => []
theorem goodFs_l20Writes:∀ f ms F,Es_l20Writes.fn f = some (ms,F) → Sound Tryd.prog f ms F := fun f ms F h => by
 unfold Es_l20Writes at h
 dsimp only at h
 split at h
 ·injection h with h; injection h with e1 e2; subst e1 e2; exact Sound.wk ss_l20Rd_pick
 ·injection h with h; injection h with e1 e2; subst e1 e2; exact Sound.wk ss_l20Rd_oddR
 ·injection h with h; injection h with e1 e2; subst e1 e2; exact Sound.wk ss_l20WriteR
 ·cases h
theorem goodBs_l20Writes:∀ f ms F,Es_l20Writes.bxf f = some (ms,F) → SoundB Tryd.prog f ms F := fun f ms F h => by cases h
theorem goods_l20Writes:Good Tryd.prog Es_l20Writes := ⟨rfl,goodFs_l20Writes,goodBs_l20Writes⟩
noncomputable def Os_l20Writes_0:Orc := fun _ _ => none
noncomputable def mss_l20Writes:List PM := [.bx,.own]
noncomputable def lss_l20Writes:List (Nat×Code) := loopsAll 0 (Tryd.f76.body.getD .skip)
noncomputable def cs_l20Writes_0:Code := (loopOf 0 (Tryd.f76.body.getD .skip)).getD .skip
theorem lseqs_l20Writes:lss_l20Writes = [(0,cs_l20Writes_0)] := by kernel_rfl
theorem ms_l20Writes_0:∀ p,p ∈ lss_l20Writes → p.1 = 0 → p.2 = cs_l20Writes_0 := by
 intro p hp
 rw [lseqs_l20Writes] at hp
 simp only [List.mem_cons,List.not_mem_nil,or_false] at hp
 subst hp; simp
theorem ks_l20Writes_0:OrcOk Es_l20Writes Os_l20Writes_0 lss_l20Writes 0 := orcOk_none
noncomputable def hs_l20Writes_0 (y0:Int) (y1:List (ByteArray×(Bool×(List Int)))) (y2:Int) (y3:List Int) (y4:Int):List (Pl×LV) := [(.T 0,.t (.val false [.ptr 0 0 0])),(.T 1,.t (.val false [.int .i64 y0])),(.T 5,.t (.val false [.row 5 0 0])),(.R 5 0,.r 0 (some ⟨false,.non,false,76,(.pair .str (.pair .bool (.sl 3 (.int .i64)))),y1⟩)),(.T 6,.t (.val false [.int .i64 y2])),(.B 0,.b 0 false [.sl .any 5 (.int .u8) y3,.int .i64 y4])]
noncomputable def g_Ss_l20Writes_0 (y0:Int) (y3:List Int):((List (ByteArray×(Bool×(List Int))))×Int×Int) → RT ((List (ByteArray×(Bool×(List Int))))×Int×Int) (((List (ByteArray×(Bool×(List Int))))×Int))
 | (y1,y2,y4) => .br (true) (.br (decide (y2 > (0:Int))) (.br (g_As_l20Write y3 y4 (0:Int)) (.br (decide ((List.length y1 + List.length [(g_Vs_l20Write_0 y3 y4 (0:Int),g_Vs_l20Write_1 y3 y4 (0:Int),g_Vs_l20Write_2 y3 y4 (0:Int))]) * nat_lit 48 ≤ nat_lit 140737488355328 ∧ List.length y1 + List.length [(g_Vs_l20Write_0 y3 y4 (0:Int),g_Vs_l20Write_1 y3 y4 (0:Int),g_Vs_l20Write_2 y3 y4 (0:Int))] ≤ nat_lit 9223372036854775807)) (.br (true) (.go ((y1 ++ [(g_Vs_l20Write_0 y3 y4 (0:Int),g_Vs_l20Write_1 y3 y4 (0:Int),g_Vs_l20Write_2 y3 y4 (0:Int))],IntKind.wrap IntKind.i64 (y2 - (1:Int)),g_Vs_l20Write_4 y3 y4 (0:Int)))) .bad) .bad) .bad) (.out ((y1,y4)))) .bad
noncomputable def g_Ls_l20Writes_0 (y0:Int) (y3:List Int) (x:(List (ByteArray×(Bool×(List Int))))×Int×Int):Option (((List (ByteArray×(Bool×(List Int))))×Int)) := loopO (g_Ss_l20Writes_0 y0 y3) x
noncomputable def xs_l20Writes_0 (y0:Int) (y3:List Int):(((List (ByteArray×(Bool×(List Int))))×Int)) → Ex×List (Pl×LV) := fun r => (.exit 0,[(.T 0,.t (.val false [.ptr 0 0 0])),(.T 1,.t (.val false [.int .i64 y0])),(.T 5,.t (.val false [.row 5 0 0])),(.R 5 0,.r 0 (some ⟨false,.non,false,76,(.pair .str (.pair .bool (.sl 3 (.int .i64)))),r.1⟩)),(.B 0,.b 0 false [.sl .any 5 (.int .u8) y3,.int .i64 r.2])])
noncomputable def Os_l20Writes_1:Orc := fun b h => match b,h with
 | 0,[(.T 0,.t (.val false [.ptr 0 0 0])),(.T 1,.t (.val false [.int .i64 y0])),(.T 5,.t (.val false [.row 5 0 0])),(.R 5 0,.r 0 (some ⟨false,.non,false,76,(.pair .str (.pair .bool (.sl 3 (.int .i64)))),y1⟩)),(.T 6,.t (.val false [.int .i64 y2])),(.B 0,.b 0 false [.sl .any 5 (.int .u8) y3,.int .i64 y4])] => some (okO (g_Ls_l20Writes_0 y0 y3 (y1,y2,y4)),(.leaf (.exit 0) [(.T 0,.t (.val false [.ptr 0 0 0])),(.T 1,.t (.val false [.int .i64 y0])),(.T 5,.t (.val false [.row 5 0 0])),(.R 5 0,.r 0 (some ⟨false,.non,false,76,(.pair .str (.pair .bool (.sl 3 (.int .i64)))),(valO (g_Ls_l20Writes_0 y0 y3 (y1,y2,y4))).1⟩)),(.B 0,.b 0 false [.sl .any 5 (.int .u8) y3,.int .i64 (valO (g_Ls_l20Writes_0 y0 y3 (y1,y2,y4))).2])]))
 | b,h => Os_l20Writes_0 b h
theorem bs_l20Writes_0 (y0:Int) (y1:List (ByteArray×(Bool×(List Int)))) (y2:Int) (y3:List Int) (y4:Int):Tr.bt Es_l20Writes Os_l20Writes_0 (exec Es_l20Writes 0 cs_l20Writes_0 (St.of (hs_l20Writes_0 y0 y1 y2 y3 y4)) (leafRd Es_l20Writes 0)) = (g_Ss_l20Writes_0 y0 y3 (y1,y2,y4)).bt (fun ((y1,y2,y4):(List (ByteArray×(Bool×(List Int))))×Int×Int) => (hs_l20Writes_0 y0 y1 y2 y3 y4)) (xs_l20Writes_0 y0 y3) := by kernel_rfl
theorem ks_l20Writes_1:OrcOk Es_l20Writes Os_l20Writes_1 lss_l20Writes 1 := orc_add ks_l20Writes_0 (fun n p hp h ex h' ho => by
 obtain ⟨b,c⟩ := p
 obtain ⟨xt,h1,h2⟩ := ho
 have h1:Os_l20Writes_1 b h = some (true,xt) := h1
 unfold Os_l20Writes_1 at h1
 split at h1
 ·injection h1 with h1
  injection h1 with e1 e2
  subst e2
  have hc:c = cs_l20Writes_0 := ms_l20Writes_0 _ hp rfl
  subst hc
  right
  rename_i y0 y1 y2 y3 y4
  have key := LT_step ks_l20Writes_0 hp (fun q hq => loopsAll_in _ _ _ _ hp hq) (fun ((y1,y2,y4):(List (ByteArray×(Bool×(List Int))))×Int×Int) => (hs_l20Writes_0 y0 y1 y2 y3 y4)) (xs_l20Writes_0 y0 y3) (g_Ss_l20Writes_0 y0 y3) (fun x => by first | exact bs_l20Writes_0 y0 x.1 x.2.1 y3 x.2.2) n (x := (y1,y2,y4)) (okO_some e1)
  have hx:∀ r,XT.sel (.leaf (.exit 0) [(.T 0,.t (.val false [.ptr 0 0 0])),(.T 1,.t (.val false [.int .i64 y0])),(.T 5,.t (.val false [.row 5 0 0])),(.R 5 0,.r 0 (some ⟨false,.non,false,76,(.pair .str (.pair .bool (.sl 3 (.int .i64)))),r.1⟩)),(.B 0,.b 0 false [.sl .any 5 (.int .u8) y3,.int .i64 r.2])]) = xs_l20Writes_0 y0 y3 r := fun r => by first | rfl | (rcases r with r | r <;> rfl) | (rcases r with r | r | r <;> rfl) | (rcases r with r | r | r | r <;> rfl)
  have h3 := (hx (valO (g_Ls_l20Writes_0 y0 y3 (y1,y2,y4)))).symm.trans h2
  have e3 := congrArg Prod.fst h3
  have e4 := congrArg Prod.snd h3
  simp only at e3 e4
  rw [← e3,← e4]
  exact key
 ·exact .inl ⟨xt,h1,h2⟩)
noncomputable def g_As_l20Writes (r0:List Int) (r1:Int) (a2:Int):Bool := g_pickA r0 r1 (6:Int)&&(okO (g_Ls_l20Writes_0 a2 r0 ([],g_pick r0 r1 (6:Int),IntKind.wrap IntKind.i64 (r1 + (1:Int))))&&(g_As_l20Rd_odd r0 (valO (g_Ls_l20Writes_0 a2 r0 ([],g_pick r0 r1 (6:Int),IntKind.wrap IntKind.i64 (r1 + (1:Int))))).2 a2&&(!g_Vs_l20Rd_odd_0 r0 (valO (g_Ls_l20Writes_0 a2 r0 ([],g_pick r0 r1 (6:Int),IntKind.wrap IntKind.i64 (r1 + (1:Int))))).2 a2 || g_As_l20Write r0 (g_Vs_l20Rd_odd_2 r0 (valO (g_Ls_l20Writes_0 a2 r0 ([],g_pick r0 r1 (6:Int),IntKind.wrap IntKind.i64 (r1 + (1:Int))))).2 a2) (2:Int)&&decide ((List.length (valO (g_Ls_l20Writes_0 a2 r0 ([],g_pick r0 r1 (6:Int),IntKind.wrap IntKind.i64 (r1 + (1:Int))))).1 + List.length [(g_Vs_l20Write_0 r0 (g_Vs_l20Rd_odd_2 r0 (valO (g_Ls_l20Writes_0 a2 r0 ([],g_pick r0 r1 (6:Int),IntKind.wrap IntKind.i64 (r1 + (1:Int))))).2 a2) (2:Int),g_Vs_l20Write_1 r0 (g_Vs_l20Rd_odd_2 r0 (valO (g_Ls_l20Writes_0 a2 r0 ([],g_pick r0 r1 (6:Int),IntKind.wrap IntKind.i64 (r1 + (1:Int))))).2 a2) (2:Int),g_Vs_l20Write_2 r0 (g_Vs_l20Rd_odd_2 r0 (valO (g_Ls_l20Writes_0 a2 r0 ([],g_pick r0 r1 (6:Int),IntKind.wrap IntKind.i64 (r1 + (1:Int))))).2 a2) (2:Int))]) * nat_lit 48 ≤ nat_lit 140737488355328 ∧ List.length (valO (g_Ls_l20Writes_0 a2 r0 ([],g_pick r0 r1 (6:Int),IntKind.wrap IntKind.i64 (r1 + (1:Int))))).1 + List.length [(g_Vs_l20Write_0 r0 (g_Vs_l20Rd_odd_2 r0 (valO (g_Ls_l20Writes_0 a2 r0 ([],g_pick r0 r1 (6:Int),IntKind.wrap IntKind.i64 (r1 + (1:Int))))).2 a2) (2:Int),g_Vs_l20Write_1 r0 (g_Vs_l20Rd_odd_2 r0 (valO (g_Ls_l20Writes_0 a2 r0 ([],g_pick r0 r1 (6:Int),IntKind.wrap IntKind.i64 (r1 + (1:Int))))).2 a2) (2:Int),g_Vs_l20Write_2 r0 (g_Vs_l20Rd_odd_2 r0 (valO (g_Ls_l20Writes_0 a2 r0 ([],g_pick r0 r1 (6:Int),IntKind.wrap IntKind.i64 (r1 + (1:Int))))).2 a2) (2:Int))] ≤ nat_lit 9223372036854775807))))
noncomputable def g_Vs_l20Writes_0 (r0:List Int) (r1:Int) (a2:Int):List (ByteArray×(Bool×(List Int))) := bif g_Vs_l20Rd_odd_0 r0 (valO (g_Ls_l20Writes_0 a2 r0 ([],g_pick r0 r1 (6:Int),IntKind.wrap IntKind.i64 (r1 + (1:Int))))).2 a2 then (valO (g_Ls_l20Writes_0 a2 r0 ([],g_pick r0 r1 (6:Int),IntKind.wrap IntKind.i64 (r1 + (1:Int))))).1 ++ [(g_Vs_l20Write_0 r0 (g_Vs_l20Rd_odd_2 r0 (valO (g_Ls_l20Writes_0 a2 r0 ([],g_pick r0 r1 (6:Int),IntKind.wrap IntKind.i64 (r1 + (1:Int))))).2 a2) (2:Int),g_Vs_l20Write_1 r0 (g_Vs_l20Rd_odd_2 r0 (valO (g_Ls_l20Writes_0 a2 r0 ([],g_pick r0 r1 (6:Int),IntKind.wrap IntKind.i64 (r1 + (1:Int))))).2 a2) (2:Int),g_Vs_l20Write_2 r0 (g_Vs_l20Rd_odd_2 r0 (valO (g_Ls_l20Writes_0 a2 r0 ([],g_pick r0 r1 (6:Int),IntKind.wrap IntKind.i64 (r1 + (1:Int))))).2 a2) (2:Int))] else (valO (g_Ls_l20Writes_0 a2 r0 ([],g_pick r0 r1 (6:Int),IntKind.wrap IntKind.i64 (r1 + (1:Int))))).1
noncomputable def g_Vs_l20Writes_1 (r0:List Int) (r1:Int) (a2:Int):List Int := bif g_Vs_l20Rd_odd_0 r0 (valO (g_Ls_l20Writes_0 a2 r0 ([],g_pick r0 r1 (6:Int),IntKind.wrap IntKind.i64 (r1 + (1:Int))))).2 a2 then r0 else r0
noncomputable def g_Vs_l20Writes_2 (r0:List Int) (r1:Int) (a2:Int):Int := bif g_Vs_l20Rd_odd_0 r0 (valO (g_Ls_l20Writes_0 a2 r0 ([],g_pick r0 r1 (6:Int),IntKind.wrap IntKind.i64 (r1 + (1:Int))))).2 a2 then g_Vs_l20Write_4 r0 (g_Vs_l20Rd_odd_2 r0 (valO (g_Ls_l20Writes_0 a2 r0 ([],g_pick r0 r1 (6:Int),IntKind.wrap IntKind.i64 (r1 + (1:Int))))).2 a2) (2:Int) else g_Vs_l20Rd_odd_2 r0 (valO (g_Ls_l20Writes_0 a2 r0 ([],g_pick r0 r1 (6:Int),IntKind.wrap IntKind.i64 (r1 + (1:Int))))).2 a2
noncomputable def Fs_l20Writes:FSem := fun ys => match ys with
 | [.val true [.sl .any 5 (.int .u8) r0,.int .i64 r1],.val false [.int .i64 a2]] => some ((g_As_l20Writes r0 r1 a2),.val false [.own .any false 76 (.pair .str (.pair .bool (.sl 3 (.int .i64)))) (g_Vs_l20Writes_0 r0 r1 a2)],[[.sl .any 5 (.int .u8) (g_Vs_l20Writes_1 r0 r1 a2),.int .i64 (g_Vs_l20Writes_2 r0 r1 a2)]])
 | _ => none
theorem vs_l20Writes (r0:List Int) (r1:Int) (a2:Int):collapseH .std Es_l20Writes Os_l20Writes_1 (execFn Es_l20Writes Tryd.f76 mss_l20Writes [.val true [.sl .any 5 (.int .u8) r0,.int .i64 r1],.val false [.int .i64 a2]]) = some ((g_As_l20Writes r0 r1 a2),.val false [.own .any false 76 (.pair .str (.pair .bool (.sl 3 (.int .i64)))) (g_Vs_l20Writes_0 r0 r1 a2)],[[.sl .any 5 (.int .u8) (g_Vs_l20Writes_1 r0 r1 a2),.int .i64 (g_Vs_l20Writes_2 r0 r1 a2)]]) := by kernel_rfl
theorem ss_l20Writes:Sound Tryd.prog 76 mss_l20Writes Fs_l20Writes := by
 refine fn_gen goods_l20Writes (by kernel_rfl) .std (fn := Tryd.f76) (c := (Tryd.f76.body.getD .skip)) (o := Os_l20Writes_1) (k := 1) (by kernel_rfl) (by kernel_rfl) (by kernel_rfl) (by kernel_rfl) (by decide) ks_l20Writes_1 ?_
 intro ys r outs h
 unfold Fs_l20Writes at h
 split at h
 ·exact (vs_l20Writes _ _ _).trans h
 ·cases h
noncomputable def mss_l20WritesR:List PM := mss_l20Writes
theorem sames_l20Writes (r0:List Int) (r1:Int) (a2:Int):g_Vs_l20Writes_1 r0 r1 a2 = r0 := by
 unfold g_Vs_l20Writes_1
 simp only [Bool.cond_self]
noncomputable def Fs_l20WritesR:FSem := fun ys => match ys with
 | [.val true [.sl .any 5 (.int .u8) r0,.int .i64 r1],.val false [.int .i64 a2]] => some ((g_As_l20Writes r0 r1 a2),.val false [.own .any false 76 (.pair .str (.pair .bool (.sl 3 (.int .i64)))) (g_Vs_l20Writes_0 r0 r1 a2)],[[.sl .any 5 (.int .u8) r0,.int .i64 (g_Vs_l20Writes_2 r0 r1 a2)]])
 | _ => none
theorem ss_l20WritesR:Sound Tryd.prog 76 mss_l20WritesR Fs_l20WritesR := by
 refine ⟨ss_l20Writes.fn,fun w S ψ ys vs r outs hF hh hg => ss_l20Writes.calls w S ψ ys vs r outs (Eq.trans ?_ hF) hh hg⟩
 unfold Fs_l20WritesR at hF ⊢
 split at hF
 ·rename_i  r0 r1 a2
  show (some ((g_As_l20Writes r0 r1 a2),.val false [.own .any false 76 (.pair .str (.pair .bool (.sl 3 (.int .i64)))) (g_Vs_l20Writes_0 r0 r1 a2)],[[.sl .any 5 (.int .u8) (g_Vs_l20Writes_1 r0 r1 a2),.int .i64 (g_Vs_l20Writes_2 r0 r1 a2)]]):Option (Bool×RV×List (List Cell))) = _
  rw [sames_l20Writes]
 ·cases hF
noncomputable def Es_l20Note:Env where
 tt := mkTI Tryd.prog
 fn := fun f => match f with
  | 36 => some (mss_l20Rd_pick,FSem.wk mss_l20Rd_pick Fs_l20Rd_pick)
  | 43 => some (mss_l20Rd_oddR,FSem.wk mss_l20Rd_oddR Fs_l20Rd_oddR)
  | 76 => some (mss_l20WritesR,FSem.wk mss_l20WritesR Fs_l20WritesR)
  | 77 => some (mss_l20KeyR,FSem.wk mss_l20KeyR Fs_l20KeyR)
  | 78 => some (mss_l20WriteR,FSem.wk mss_l20WriteR Fs_l20WriteR)
  | _ => none
 bxf := fun _ => none
 mv := []
 keep := fun b => match b with
  | 0 => [(0,false),(1,false),(4,false),(5,false),(6,false)]
  | _ => []
 keepB := fun b => match b with
  | 0 => [(4,false),(5,false),(0,false)]
  | _ => []
 keepX := fun b => match b with
  | 0 => [(0,false),(1,false),(4,false),(5,false)]
  | _ => []
 keepXB := fun b => match b with
  | 0 => [(4,false),(5,false),(0,false)]
  | _ => []
theorem goodFs_l20Note:∀ f ms F,Es_l20Note.fn f = some (ms,F) → Sound Tryd.prog f ms F := fun f ms F h => by
 unfold Es_l20Note at h
 dsimp only at h
 split at h
 ·injection h with h; injection h with e1 e2; subst e1 e2; exact Sound.wk ss_l20Rd_pick
 ·injection h with h; injection h with e1 e2; subst e1 e2; exact Sound.wk ss_l20Rd_oddR
 ·injection h with h; injection h with e1 e2; subst e1 e2; exact Sound.wk ss_l20WritesR
 ·injection h with h; injection h with e1 e2; subst e1 e2; exact Sound.wk ss_l20KeyR
 ·injection h with h; injection h with e1 e2; subst e1 e2; exact Sound.wk ss_l20WriteR
 ·cases h
theorem goodBs_l20Note:∀ f ms F,Es_l20Note.bxf f = some (ms,F) → SoundB Tryd.prog f ms F := fun f ms F h => by cases h
theorem goods_l20Note:Good Tryd.prog Es_l20Note := ⟨rfl,goodFs_l20Note,goodBs_l20Note⟩
noncomputable def Os_l20Note_0:Orc := fun _ _ => none
noncomputable def mss_l20Note:List PM := [.bx,.own]
noncomputable def lss_l20Note:List (Nat×Code) := loopsAll 0 (Tryd.f44.body.getD .skip)
noncomputable def cs_l20Note_0:Code := (loopOf 0 (Tryd.f44.body.getD .skip)).getD .skip
theorem lseqs_l20Note:lss_l20Note = [(0,cs_l20Note_0)] := by kernel_rfl
theorem ms_l20Note_0:∀ p,p ∈ lss_l20Note → p.1 = 0 → p.2 = cs_l20Note_0 := by
 intro p hp
 rw [lseqs_l20Note] at hp
 simp only [List.mem_cons,List.not_mem_nil,or_false] at hp
 subst hp; simp
theorem ks_l20Note_0:OrcOk Es_l20Note Os_l20Note_0 lss_l20Note 0 := orcOk_none
noncomputable def hs_l20Note_0 (y0:Int) (y1:Int) (y2:Int) (y3:Int) (y4:List ByteArray) (y5:List (ByteArray×(Bool×(List Int)))) (y6:Int) (y7:Int) (y8:List ByteArray) (y9:List (ByteArray×(Bool×(List Int)))) (y10:List Int) (y11:Int):List (Pl×LV) := [(.T 0,.t (.val false [.ptr 0 0 0])),(.T 1,.t (.val false [.int .i64 y0])),(.T 4,.t (.val false [.ptr 4 0 0])),(.T 5,.t (.val false [.ptr 5 0 0])),(.T 6,.t (.val false [.int .i64 y1])),(.B 4,.b 0 false [.int .i64 y2,.int .i64 y3,.row 4 5 0,.row 4 7 0]),(.R 4 5,.r 0 (some ⟨false,.any,true,9,.str,y4⟩)),(.R 4 7,.r 0 (some ⟨false,.any,true,76,(.pair .str (.pair .bool (.sl 3 (.int .i64)))),y5⟩)),(.B 5,.b 0 false [.int .i64 y6,.int .i64 y7,.row 5 5 0,.row 5 7 0]),(.R 5 5,.r 0 (some ⟨false,.any,true,9,.str,y8⟩)),(.R 5 7,.r 0 (some ⟨false,.any,false,76,(.pair .str (.pair .bool (.sl 3 (.int .i64)))),y9⟩)),(.B 0,.b 0 false [.sl .any 5 (.int .u8) y10,.int .i64 y11])]
noncomputable def g_Ss_l20Note_0 (y0:Int) (y2:Int) (y3:Int) (y4:List ByteArray) (y5:List (ByteArray×(Bool×(List Int)))) (y6:Int) (y7:Int) (y9:List (ByteArray×(Bool×(List Int)))) (y10:List Int) (y11:Int):(Int×(List ByteArray)) → RT (Int×(List ByteArray)) (((List ByteArray)))
 | (y1,y8) => .br (true) (.br (decide (y1 < (↑(List.length y9):Int))) (.br (decide ((0:Int) ≤ y1 ∧ y1 < (↑(List.length y9):Int))) (.br (decide (Int.toNat y1 < List.length y9)) (.br (decide ((List.length y8 + List.length [(at_ (Ty.pair Ty.str (Ty.pair Ty.bool (Ty.sl (nat_lit 3) (Ty.int IntKind.i64)))) y9 (Int.toNat y1)).1]) * nat_lit 16 ≤ nat_lit 140737488355328 ∧ List.length y8 + List.length [(at_ (Ty.pair Ty.str (Ty.pair Ty.bool (Ty.sl (nat_lit 3) (Ty.int IntKind.i64)))) y9 (Int.toNat y1)).1] ≤ nat_lit 9223372036854775807)) (.br (true) (.go ((IntKind.wrap IntKind.i64 (y1 + (1:Int)),y8 ++ [(at_ (Ty.pair Ty.str (Ty.pair Ty.bool (Ty.sl (nat_lit 3) (Ty.int IntKind.i64)))) y9 (Int.toNat y1)).1]))) .bad) .bad) .bad) .bad) (.out (y8))) .bad
noncomputable def g_Ls_l20Note_0 (y0:Int) (y2:Int) (y3:Int) (y4:List ByteArray) (y5:List (ByteArray×(Bool×(List Int)))) (y6:Int) (y7:Int) (y9:List (ByteArray×(Bool×(List Int)))) (y10:List Int) (y11:Int) (x:Int×(List ByteArray)):Option (((List ByteArray))) := loopO (g_Ss_l20Note_0 y0 y2 y3 y4 y5 y6 y7 y9 y10 y11) x
noncomputable def xs_l20Note_0 (y0:Int) (y2:Int) (y3:Int) (y4:List ByteArray) (y5:List (ByteArray×(Bool×(List Int)))) (y6:Int) (y7:Int) (y9:List (ByteArray×(Bool×(List Int)))) (y10:List Int) (y11:Int):(((List ByteArray))) → Ex×List (Pl×LV) := fun r => (.exit 0,[(.T 0,.t (.val false [.ptr 0 0 0])),(.T 1,.t (.val false [.int .i64 y0])),(.T 4,.t (.val false [.ptr 4 0 0])),(.T 5,.t (.val false [.ptr 5 0 0])),(.B 4,.b 0 false [.int .i64 y2,.int .i64 y3,.row 4 5 0,.row 4 7 0]),(.R 4 5,.r 0 (some ⟨false,.any,true,9,.str,y4⟩)),(.R 4 7,.r 0 (some ⟨false,.any,true,76,(.pair .str (.pair .bool (.sl 3 (.int .i64)))),y5⟩)),(.B 5,.b 0 false [.int .i64 y6,.int .i64 y7,.row 5 5 0,.row 5 7 0]),(.R 5 5,.r 0 (some ⟨false,.any,true,9,.str,r⟩)),(.R 5 7,.r 0 (some ⟨false,.any,false,76,(.pair .str (.pair .bool (.sl 3 (.int .i64)))),y9⟩)),(.B 0,.b 0 false [.sl .any 5 (.int .u8) y10,.int .i64 y11])])
noncomputable def Os_l20Note_1:Orc := fun b h => match b,h with
 | 0,[(.T 0,.t (.val false [.ptr 0 0 0])),(.T 1,.t (.val false [.int .i64 y0])),(.T 4,.t (.val false [.ptr 4 0 0])),(.T 5,.t (.val false [.ptr 5 0 0])),(.T 6,.t (.val false [.int .i64 y1])),(.B 4,.b 0 false [.int .i64 y2,.int .i64 y3,.row 4 5 0,.row 4 7 0]),(.R 4 5,.r 0 (some ⟨false,.any,true,9,.str,y4⟩)),(.R 4 7,.r 0 (some ⟨false,.any,true,76,(.pair .str (.pair .bool (.sl 3 (.int .i64)))),y5⟩)),(.B 5,.b 0 false [.int .i64 y6,.int .i64 y7,.row 5 5 0,.row 5 7 0]),(.R 5 5,.r 0 (some ⟨false,.any,true,9,.str,y8⟩)),(.R 5 7,.r 0 (some ⟨false,.any,false,76,(.pair .str (.pair .bool (.sl 3 (.int .i64)))),y9⟩)),(.B 0,.b 0 false [.sl .any 5 (.int .u8) y10,.int .i64 y11])] => some (okO (g_Ls_l20Note_0 y0 y2 y3 y4 y5 y6 y7 y9 y10 y11 (y1,y8)),(.leaf (.exit 0) [(.T 0,.t (.val false [.ptr 0 0 0])),(.T 1,.t (.val false [.int .i64 y0])),(.T 4,.t (.val false [.ptr 4 0 0])),(.T 5,.t (.val false [.ptr 5 0 0])),(.B 4,.b 0 false [.int .i64 y2,.int .i64 y3,.row 4 5 0,.row 4 7 0]),(.R 4 5,.r 0 (some ⟨false,.any,true,9,.str,y4⟩)),(.R 4 7,.r 0 (some ⟨false,.any,true,76,(.pair .str (.pair .bool (.sl 3 (.int .i64)))),y5⟩)),(.B 5,.b 0 false [.int .i64 y6,.int .i64 y7,.row 5 5 0,.row 5 7 0]),(.R 5 5,.r 0 (some ⟨false,.any,true,9,.str,(valO (g_Ls_l20Note_0 y0 y2 y3 y4 y5 y6 y7 y9 y10 y11 (y1,y8)))⟩)),(.R 5 7,.r 0 (some ⟨false,.any,false,76,(.pair .str (.pair .bool (.sl 3 (.int .i64)))),y9⟩)),(.B 0,.b 0 false [.sl .any 5 (.int .u8) y10,.int .i64 y11])]))
 | b,h => Os_l20Note_0 b h
theorem bs_l20Note_0 (y0:Int) (y1:Int) (y2:Int) (y3:Int) (y4:List ByteArray) (y5:List (ByteArray×(Bool×(List Int)))) (y6:Int) (y7:Int) (y8:List ByteArray) (y9:List (ByteArray×(Bool×(List Int)))) (y10:List Int) (y11:Int):Tr.bt Es_l20Note Os_l20Note_0 (exec Es_l20Note 0 cs_l20Note_0 (St.of (hs_l20Note_0 y0 y1 y2 y3 y4 y5 y6 y7 y8 y9 y10 y11)) (leafRd Es_l20Note 0)) = (g_Ss_l20Note_0 y0 y2 y3 y4 y5 y6 y7 y9 y10 y11 (y1,y8)).bt (fun ((y1,y8):Int×(List ByteArray)) => (hs_l20Note_0 y0 y1 y2 y3 y4 y5 y6 y7 y8 y9 y10 y11)) (xs_l20Note_0 y0 y2 y3 y4 y5 y6 y7 y9 y10 y11) := by kernel_rfl
theorem ks_l20Note_1:OrcOk Es_l20Note Os_l20Note_1 lss_l20Note 1 := orc_add ks_l20Note_0 (fun n p hp h ex h' ho => by
 obtain ⟨b,c⟩ := p
 obtain ⟨xt,h1,h2⟩ := ho
 have h1:Os_l20Note_1 b h = some (true,xt) := h1
 unfold Os_l20Note_1 at h1
 split at h1
 ·injection h1 with h1
  injection h1 with e1 e2
  subst e2
  have hc:c = cs_l20Note_0 := ms_l20Note_0 _ hp rfl
  subst hc
  right
  rename_i y0 y1 y2 y3 y4 y5 y6 y7 y8 y9 y10 y11
  have key := LT_step ks_l20Note_0 hp (fun q hq => loopsAll_in _ _ _ _ hp hq) (fun ((y1,y8):Int×(List ByteArray)) => (hs_l20Note_0 y0 y1 y2 y3 y4 y5 y6 y7 y8 y9 y10 y11)) (xs_l20Note_0 y0 y2 y3 y4 y5 y6 y7 y9 y10 y11) (g_Ss_l20Note_0 y0 y2 y3 y4 y5 y6 y7 y9 y10 y11) (fun x => by first | exact bs_l20Note_0 y0 x.1 y2 y3 y4 y5 y6 y7 x.2 y9 y10 y11) n (x := (y1,y8)) (okO_some e1)
  have hx:∀ r,XT.sel (.leaf (.exit 0) [(.T 0,.t (.val false [.ptr 0 0 0])),(.T 1,.t (.val false [.int .i64 y0])),(.T 4,.t (.val false [.ptr 4 0 0])),(.T 5,.t (.val false [.ptr 5 0 0])),(.B 4,.b 0 false [.int .i64 y2,.int .i64 y3,.row 4 5 0,.row 4 7 0]),(.R 4 5,.r 0 (some ⟨false,.any,true,9,.str,y4⟩)),(.R 4 7,.r 0 (some ⟨false,.any,true,76,(.pair .str (.pair .bool (.sl 3 (.int .i64)))),y5⟩)),(.B 5,.b 0 false [.int .i64 y6,.int .i64 y7,.row 5 5 0,.row 5 7 0]),(.R 5 5,.r 0 (some ⟨false,.any,true,9,.str,r⟩)),(.R 5 7,.r 0 (some ⟨false,.any,false,76,(.pair .str (.pair .bool (.sl 3 (.int .i64)))),y9⟩)),(.B 0,.b 0 false [.sl .any 5 (.int .u8) y10,.int .i64 y11])]) = xs_l20Note_0 y0 y2 y3 y4 y5 y6 y7 y9 y10 y11 r := fun r => by first | rfl | (rcases r with r | r <;> rfl) | (rcases r with r | r | r <;> rfl) | (rcases r with r | r | r | r <;> rfl)
  have h3 := (hx (valO (g_Ls_l20Note_0 y0 y2 y3 y4 y5 y6 y7 y9 y10 y11 (y1,y8)))).symm.trans h2
  have e3 := congrArg Prod.fst h3
  have e4 := congrArg Prod.snd h3
  simp only at e3 e4
  rw [← e3,← e4]
  exact key
 ·exact .inl ⟨xt,h1,h2⟩)
noncomputable def g_As_l20Note (r0:List Int) (r1:Int) (a2:Int):Bool := g_pickA r0 r1 (5:Int)&&(decide ((0:Int) ≤ g_pick r0 r1 (5:Int) ∧ g_pick r0 r1 (5:Int) < (5:Int))&&(decide (Int.toNat (g_pick r0 r1 (5:Int)) < nat_lit 5)&&(g_pickA r0 (IntKind.wrap IntKind.i64 (r1 + (1:Int))) (5:Int)&&bif at_ (Ty.int IntKind.i64) [(1:Int),(1:Int),(2:Int),(3:Int),(4:Int)] (Int.toNat (g_pick r0 r1 (5:Int))) == (1:Int) then g_As_l20Writes r0 (IntKind.wrap IntKind.i64 (IntKind.wrap IntKind.i64 (r1 + (1:Int)) + (1:Int))) (0:Int)&&(okO (g_Ls_l20Note_0 a2 (0:Int) (0:Int) [] [] (at_ (Ty.int IntKind.i64) [(1:Int),(1:Int),(2:Int),(3:Int),(4:Int)] (Int.toNat (g_pick r0 r1 (5:Int)))) (g_pick r0 (IntKind.wrap IntKind.i64 (r1 + (1:Int))) (5:Int)) (g_Vs_l20Writes_0 r0 (IntKind.wrap IntKind.i64 (IntKind.wrap IntKind.i64 (r1 + (1:Int)) + (1:Int))) (0:Int)) r0 (g_Vs_l20Writes_2 r0 (IntKind.wrap IntKind.i64 (IntKind.wrap IntKind.i64 (r1 + (1:Int)) + (1:Int))) (0:Int)) ((0:Int),[]))&&(g_pickA r0 (g_Vs_l20Writes_2 r0 (IntKind.wrap IntKind.i64 (IntKind.wrap IntKind.i64 (r1 + (1:Int)) + (1:Int))) (0:Int)) (2:Int)&&bif g_pick r0 (g_Vs_l20Writes_2 r0 (IntKind.wrap IntKind.i64 (IntKind.wrap IntKind.i64 (r1 + (1:Int)) + (1:Int))) (0:Int)) (2:Int) == (0:Int) then g_As_l20Key r0 (IntKind.wrap IntKind.i64 (g_Vs_l20Writes_2 r0 (IntKind.wrap IntKind.i64 (IntKind.wrap IntKind.i64 (r1 + (1:Int)) + (1:Int))) (0:Int) + (1:Int))) (0:Int)&&(decide ((List.length (valO (g_Ls_l20Note_0 a2 (0:Int) (0:Int) [] [] (at_ (Ty.int IntKind.i64) [(1:Int),(1:Int),(2:Int),(3:Int),(4:Int)] (Int.toNat (g_pick r0 r1 (5:Int)))) (g_pick r0 (IntKind.wrap IntKind.i64 (r1 + (1:Int))) (5:Int)) (g_Vs_l20Writes_0 r0 (IntKind.wrap IntKind.i64 (IntKind.wrap IntKind.i64 (r1 + (1:Int)) + (1:Int))) (0:Int)) r0 (g_Vs_l20Writes_2 r0 (IntKind.wrap IntKind.i64 (IntKind.wrap IntKind.i64 (r1 + (1:Int)) + (1:Int))) (0:Int)) ((0:Int),[]))) + List.length [g_Vs_l20Key_0 r0 (IntKind.wrap IntKind.i64 (g_Vs_l20Writes_2 r0 (IntKind.wrap IntKind.i64 (IntKind.wrap IntKind.i64 (r1 + (1:Int)) + (1:Int))) (0:Int) + (1:Int))) (0:Int)]) * nat_lit 16 ≤ nat_lit 140737488355328 ∧ List.length (valO (g_Ls_l20Note_0 a2 (0:Int) (0:Int) [] [] (at_ (Ty.int IntKind.i64) [(1:Int),(1:Int),(2:Int),(3:Int),(4:Int)] (Int.toNat (g_pick r0 r1 (5:Int)))) (g_pick r0 (IntKind.wrap IntKind.i64 (r1 + (1:Int))) (5:Int)) (g_Vs_l20Writes_0 r0 (IntKind.wrap IntKind.i64 (IntKind.wrap IntKind.i64 (r1 + (1:Int)) + (1:Int))) (0:Int)) r0 (g_Vs_l20Writes_2 r0 (IntKind.wrap IntKind.i64 (IntKind.wrap IntKind.i64 (r1 + (1:Int)) + (1:Int))) (0:Int)) ((0:Int),[]))) + List.length [g_Vs_l20Key_0 r0 (IntKind.wrap IntKind.i64 (g_Vs_l20Writes_2 r0 (IntKind.wrap IntKind.i64 (IntKind.wrap IntKind.i64 (r1 + (1:Int)) + (1:Int))) (0:Int) + (1:Int))) (0:Int)] ≤ nat_lit 9223372036854775807)&&(g_As_l20Rd_odd r0 (g_Vs_l20Key_2 r0 (IntKind.wrap IntKind.i64 (g_Vs_l20Writes_2 r0 (IntKind.wrap IntKind.i64 (IntKind.wrap IntKind.i64 (r1 + (1:Int)) + (1:Int))) (0:Int) + (1:Int))) (0:Int)) a2&&(!g_Vs_l20Rd_odd_0 r0 (g_Vs_l20Key_2 r0 (IntKind.wrap IntKind.i64 (g_Vs_l20Writes_2 r0 (IntKind.wrap IntKind.i64 (IntKind.wrap IntKind.i64 (r1 + (1:Int)) + (1:Int))) (0:Int) + (1:Int))) (0:Int)) a2 || g_pickA r0 (g_Vs_l20Rd_odd_2 r0 (g_Vs_l20Key_2 r0 (IntKind.wrap IntKind.i64 (g_Vs_l20Writes_2 r0 (IntKind.wrap IntKind.i64 (IntKind.wrap IntKind.i64 (r1 + (1:Int)) + (1:Int))) (0:Int) + (1:Int))) (0:Int)) a2) (5:Int)&&bif g_pick r0 (g_Vs_l20Rd_odd_2 r0 (g_Vs_l20Key_2 r0 (IntKind.wrap IntKind.i64 (g_Vs_l20Writes_2 r0 (IntKind.wrap IntKind.i64 (IntKind.wrap IntKind.i64 (r1 + (1:Int)) + (1:Int))) (0:Int) + (1:Int))) (0:Int)) a2) (5:Int) == (0:Int) then g_pickA r0 (IntKind.wrap IntKind.i64 (g_Vs_l20Rd_odd_2 r0 (g_Vs_l20Key_2 r0 (IntKind.wrap IntKind.i64 (g_Vs_l20Writes_2 r0 (IntKind.wrap IntKind.i64 (IntKind.wrap IntKind.i64 (r1 + (1:Int)) + (1:Int))) (0:Int) + (1:Int))) (0:Int)) a2 + (1:Int))) (2:Int)&&(decide ((0:Int) ≤ g_pick r0 (IntKind.wrap IntKind.i64 (g_Vs_l20Rd_odd_2 r0 (g_Vs_l20Key_2 r0 (IntKind.wrap IntKind.i64 (g_Vs_l20Writes_2 r0 (IntKind.wrap IntKind.i64 (IntKind.wrap IntKind.i64 (r1 + (1:Int)) + (1:Int))) (0:Int) + (1:Int))) (0:Int)) a2 + (1:Int))) (2:Int) ∧ g_pick r0 (IntKind.wrap IntKind.i64 (g_Vs_l20Rd_odd_2 r0 (g_Vs_l20Key_2 r0 (IntKind.wrap IntKind.i64 (g_Vs_l20Writes_2 r0 (IntKind.wrap IntKind.i64 (IntKind.wrap IntKind.i64 (r1 + (1:Int)) + (1:Int))) (0:Int) + (1:Int))) (0:Int)) a2 + (1:Int))) (2:Int) < (2:Int))&&decide (Int.toNat (g_pick r0 (IntKind.wrap IntKind.i64 (g_Vs_l20Rd_odd_2 r0 (g_Vs_l20Key_2 r0 (IntKind.wrap IntKind.i64 (g_Vs_l20Writes_2 r0 (IntKind.wrap IntKind.i64 (IntKind.wrap IntKind.i64 (r1 + (1:Int)) + (1:Int))) (0:Int) + (1:Int))) (0:Int)) a2 + (1:Int))) (2:Int)) < nat_lit 2)) else bif g_pick r0 (g_Vs_l20Rd_odd_2 r0 (g_Vs_l20Key_2 r0 (IntKind.wrap IntKind.i64 (g_Vs_l20Writes_2 r0 (IntKind.wrap IntKind.i64 (IntKind.wrap IntKind.i64 (r1 + (1:Int)) + (1:Int))) (0:Int) + (1:Int))) (0:Int)) a2) (5:Int) == (1:Int) then g_pickA r0 (IntKind.wrap IntKind.i64 (g_Vs_l20Rd_odd_2 r0 (g_Vs_l20Key_2 r0 (IntKind.wrap IntKind.i64 (g_Vs_l20Writes_2 r0 (IntKind.wrap IntKind.i64 (IntKind.wrap IntKind.i64 (r1 + (1:Int)) + (1:Int))) (0:Int) + (1:Int))) (0:Int)) a2 + (1:Int))) (2:Int)&&(decide ((0:Int) ≤ g_pick r0 (IntKind.wrap IntKind.i64 (g_Vs_l20Rd_odd_2 r0 (g_Vs_l20Key_2 r0 (IntKind.wrap IntKind.i64 (g_Vs_l20Writes_2 r0 (IntKind.wrap IntKind.i64 (IntKind.wrap IntKind.i64 (r1 + (1:Int)) + (1:Int))) (0:Int) + (1:Int))) (0:Int)) a2 + (1:Int))) (2:Int) ∧ g_pick r0 (IntKind.wrap IntKind.i64 (g_Vs_l20Rd_odd_2 r0 (g_Vs_l20Key_2 r0 (IntKind.wrap IntKind.i64 (g_Vs_l20Writes_2 r0 (IntKind.wrap IntKind.i64 (IntKind.wrap IntKind.i64 (r1 + (1:Int)) + (1:Int))) (0:Int) + (1:Int))) (0:Int)) a2 + (1:Int))) (2:Int) < (2:Int))&&decide (Int.toNat (g_pick r0 (IntKind.wrap IntKind.i64 (g_Vs_l20Rd_odd_2 r0 (g_Vs_l20Key_2 r0 (IntKind.wrap IntKind.i64 (g_Vs_l20Writes_2 r0 (IntKind.wrap IntKind.i64 (IntKind.wrap IntKind.i64 (r1 + (1:Int)) + (1:Int))) (0:Int) + (1:Int))) (0:Int)) a2 + (1:Int))) (2:Int)) < nat_lit 2)) else bif g_pick r0 (g_Vs_l20Rd_odd_2 r0 (g_Vs_l20Key_2 r0 (IntKind.wrap IntKind.i64 (g_Vs_l20Writes_2 r0 (IntKind.wrap IntKind.i64 (IntKind.wrap IntKind.i64 (r1 + (1:Int)) + (1:Int))) (0:Int) + (1:Int))) (0:Int)) a2) (5:Int) == (2:Int) then decide ((List.length (valO (g_Ls_l20Note_0 a2 (0:Int) (0:Int) [] [] (at_ (Ty.int IntKind.i64) [(1:Int),(1:Int),(2:Int),(3:Int),(4:Int)] (Int.toNat (g_pick r0 r1 (5:Int)))) (g_pick r0 (IntKind.wrap IntKind.i64 (r1 + (1:Int))) (5:Int)) (g_Vs_l20Writes_0 r0 (IntKind.wrap IntKind.i64 (IntKind.wrap IntKind.i64 (r1 + (1:Int)) + (1:Int))) (0:Int)) r0 (g_Vs_l20Writes_2 r0 (IntKind.wrap IntKind.i64 (IntKind.wrap IntKind.i64 (r1 + (1:Int)) + (1:Int))) (0:Int)) ((0:Int),[])) ++ [g_Vs_l20Key_0 r0 (IntKind.wrap IntKind.i64 (g_Vs_l20Writes_2 r0 (IntKind.wrap IntKind.i64 (IntKind.wrap IntKind.i64 (r1 + (1:Int)) + (1:Int))) (0:Int) + (1:Int))) (0:Int)]) + nat_lit 1) * nat_lit 16 ≤ nat_lit 140737488355328 ∧ List.length (valO (g_Ls_l20Note_0 a2 (0:Int) (0:Int) [] [] (at_ (Ty.int IntKind.i64) [(1:Int),(1:Int),(2:Int),(3:Int),(4:Int)] (Int.toNat (g_pick r0 r1 (5:Int)))) (g_pick r0 (IntKind.wrap IntKind.i64 (r1 + (1:Int))) (5:Int)) (g_Vs_l20Writes_0 r0 (IntKind.wrap IntKind.i64 (IntKind.wrap IntKind.i64 (r1 + (1:Int)) + (1:Int))) (0:Int)) r0 (g_Vs_l20Writes_2 r0 (IntKind.wrap IntKind.i64 (IntKind.wrap IntKind.i64 (r1 + (1:Int)) + (1:Int))) (0:Int)) ((0:Int),[])) ++ [g_Vs_l20Key_0 r0 (IntKind.wrap IntKind.i64 (g_Vs_l20Writes_2 r0 (IntKind.wrap IntKind.i64 (IntKind.wrap IntKind.i64 (r1 + (1:Int)) + (1:Int))) (0:Int) + (1:Int))) (0:Int)]) + nat_lit 1 ≤ nat_lit 9223372036854775807) else bif g_pick r0 (g_Vs_l20Rd_odd_2 r0 (g_Vs_l20Key_2 r0 (IntKind.wrap IntKind.i64 (g_Vs_l20Writes_2 r0 (IntKind.wrap IntKind.i64 (IntKind.wrap IntKind.i64 (r1 + (1:Int)) + (1:Int))) (0:Int) + (1:Int))) (0:Int)) a2) (5:Int) == (3:Int) then decide ((List.length (g_Vs_l20Writes_0 r0 (IntKind.wrap IntKind.i64 (IntKind.wrap IntKind.i64 (r1 + (1:Int)) + (1:Int))) (0:Int)) + nat_lit 1) * nat_lit 48 ≤ nat_lit 140737488355328 ∧ List.length (g_Vs_l20Writes_0 r0 (IntKind.wrap IntKind.i64 (IntKind.wrap IntKind.i64 (r1 + (1:Int)) + (1:Int))) (0:Int)) + nat_lit 1 ≤ nat_lit 9223372036854775807) else g_As_l20Write r0 (IntKind.wrap IntKind.i64 (g_Vs_l20Rd_odd_2 r0 (g_Vs_l20Key_2 r0 (IntKind.wrap IntKind.i64 (g_Vs_l20Writes_2 r0 (IntKind.wrap IntKind.i64 (IntKind.wrap IntKind.i64 (r1 + (1:Int)) + (1:Int))) (0:Int) + (1:Int))) (0:Int)) a2 + (1:Int))) (1:Int)&&decide ((List.length (g_Vs_l20Writes_0 r0 (IntKind.wrap IntKind.i64 (IntKind.wrap IntKind.i64 (r1 + (1:Int)) + (1:Int))) (0:Int)) + List.length [(g_Vs_l20Write_0 r0 (IntKind.wrap IntKind.i64 (g_Vs_l20Rd_odd_2 r0 (g_Vs_l20Key_2 r0 (IntKind.wrap IntKind.i64 (g_Vs_l20Writes_2 r0 (IntKind.wrap IntKind.i64 (IntKind.wrap IntKind.i64 (r1 + (1:Int)) + (1:Int))) (0:Int) + (1:Int))) (0:Int)) a2 + (1:Int))) (1:Int),g_Vs_l20Write_1 r0 (IntKind.wrap IntKind.i64 (g_Vs_l20Rd_odd_2 r0 (g_Vs_l20Key_2 r0 (IntKind.wrap IntKind.i64 (g_Vs_l20Writes_2 r0 (IntKind.wrap IntKind.i64 (IntKind.wrap IntKind.i64 (r1 + (1:Int)) + (1:Int))) (0:Int) + (1:Int))) (0:Int)) a2 + (1:Int))) (1:Int),g_Vs_l20Write_2 r0 (IntKind.wrap IntKind.i64 (g_Vs_l20Rd_odd_2 r0 (g_Vs_l20Key_2 r0 (IntKind.wrap IntKind.i64 (g_Vs_l20Writes_2 r0 (IntKind.wrap IntKind.i64 (IntKind.wrap IntKind.i64 (r1 + (1:Int)) + (1:Int))) (0:Int) + (1:Int))) (0:Int)) a2 + (1:Int))) (1:Int))]) * nat_lit 48 ≤ nat_lit 140737488355328 ∧ List.length (g_Vs_l20Writes_0 r0 (IntKind.wrap IntKind.i64 (IntKind.wrap IntKind.i64 (r1 + (1:Int)) + (1:Int))) (0:Int)) + List.length [(g_Vs_l20Write_0 r0 (IntKind.wrap IntKind.i64 (g_Vs_l20Rd_odd_2 r0 (g_Vs_l20Key_2 r0 (IntKind.wrap IntKind.i64 (g_Vs_l20Writes_2 r0 (IntKind.wrap IntKind.i64 (IntKind.wrap IntKind.i64 (r1 + (1:Int)) + (1:Int))) (0:Int) + (1:Int))) (0:Int)) a2 + (1:Int))) (1:Int),g_Vs_l20Write_1 r0 (IntKind.wrap IntKind.i64 (g_Vs_l20Rd_odd_2 r0 (g_Vs_l20Key_2 r0 (IntKind.wrap IntKind.i64 (g_Vs_l20Writes_2 r0 (IntKind.wrap IntKind.i64 (IntKind.wrap IntKind.i64 (r1 + (1:Int)) + (1:Int))) (0:Int) + (1:Int))) (0:Int)) a2 + (1:Int))) (1:Int),g_Vs_l20Write_2 r0 (IntKind.wrap IntKind.i64 (g_Vs_l20Rd_odd_2 r0 (g_Vs_l20Key_2 r0 (IntKind.wrap IntKind.i64 (g_Vs_l20Writes_2 r0 (IntKind.wrap IntKind.i64 (IntKind.wrap IntKind.i64 (r1 + (1:Int)) + (1:Int))) (0:Int) + (1:Int))) (0:Int)) a2 + (1:Int))) (1:Int))] ≤ nat_lit 9223372036854775807)))) else g_As_l20Rd_odd r0 (IntKind.wrap IntKind.i64 (g_Vs_l20Writes_2 r0 (IntKind.wrap IntKind.i64 (IntKind.wrap IntKind.i64 (r1 + (1:Int)) + (1:Int))) (0:Int) + (1:Int))) a2&&(!g_Vs_l20Rd_odd_0 r0 (IntKind.wrap IntKind.i64 (g_Vs_l20Writes_2 r0 (IntKind.wrap IntKind.i64 (IntKind.wrap IntKind.i64 (r1 + (1:Int)) + (1:Int))) (0:Int) + (1:Int))) a2 || g_pickA r0 (g_Vs_l20Rd_odd_2 r0 (IntKind.wrap IntKind.i64 (g_Vs_l20Writes_2 r0 (IntKind.wrap IntKind.i64 (IntKind.wrap IntKind.i64 (r1 + (1:Int)) + (1:Int))) (0:Int) + (1:Int))) a2) (5:Int)&&bif g_pick r0 (g_Vs_l20Rd_odd_2 r0 (IntKind.wrap IntKind.i64 (g_Vs_l20Writes_2 r0 (IntKind.wrap IntKind.i64 (IntKind.wrap IntKind.i64 (r1 + (1:Int)) + (1:Int))) (0:Int) + (1:Int))) a2) (5:Int) == (0:Int) then g_pickA r0 (IntKind.wrap IntKind.i64 (g_Vs_l20Rd_odd_2 r0 (IntKind.wrap IntKind.i64 (g_Vs_l20Writes_2 r0 (IntKind.wrap IntKind.i64 (IntKind.wrap IntKind.i64 (r1 + (1:Int)) + (1:Int))) (0:Int) + (1:Int))) a2 + (1:Int))) (2:Int)&&(decide ((0:Int) ≤ g_pick r0 (IntKind.wrap IntKind.i64 (g_Vs_l20Rd_odd_2 r0 (IntKind.wrap IntKind.i64 (g_Vs_l20Writes_2 r0 (IntKind.wrap IntKind.i64 (IntKind.wrap IntKind.i64 (r1 + (1:Int)) + (1:Int))) (0:Int) + (1:Int))) a2 + (1:Int))) (2:Int) ∧ g_pick r0 (IntKind.wrap IntKind.i64 (g_Vs_l20Rd_odd_2 r0 (IntKind.wrap IntKind.i64 (g_Vs_l20Writes_2 r0 (IntKind.wrap IntKind.i64 (IntKind.wrap IntKind.i64 (r1 + (1:Int)) + (1:Int))) (0:Int) + (1:Int))) a2 + (1:Int))) (2:Int) < (2:Int))&&decide (Int.toNat (g_pick r0 (IntKind.wrap IntKind.i64 (g_Vs_l20Rd_odd_2 r0 (IntKind.wrap IntKind.i64 (g_Vs_l20Writes_2 r0 (IntKind.wrap IntKind.i64 (IntKind.wrap IntKind.i64 (r1 + (1:Int)) + (1:Int))) (0:Int) + (1:Int))) a2 + (1:Int))) (2:Int)) < nat_lit 2)) else bif g_pick r0 (g_Vs_l20Rd_odd_2 r0 (IntKind.wrap IntKind.i64 (g_Vs_l20Writes_2 r0 (IntKind.wrap IntKind.i64 (IntKind.wrap IntKind.i64 (r1 + (1:Int)) + (1:Int))) (0:Int) + (1:Int))) a2) (5:Int) == (1:Int) then g_pickA r0 (IntKind.wrap IntKind.i64 (g_Vs_l20Rd_odd_2 r0 (IntKind.wrap IntKind.i64 (g_Vs_l20Writes_2 r0 (IntKind.wrap IntKind.i64 (IntKind.wrap IntKind.i64 (r1 + (1:Int)) + (1:Int))) (0:Int) + (1:Int))) a2 + (1:Int))) (2:Int)&&(decide ((0:Int) ≤ g_pick r0 (IntKind.wrap IntKind.i64 (g_Vs_l20Rd_odd_2 r0 (IntKind.wrap IntKind.i64 (g_Vs_l20Writes_2 r0 (IntKind.wrap IntKind.i64 (IntKind.wrap IntKind.i64 (r1 + (1:Int)) + (1:Int))) (0:Int) + (1:Int))) a2 + (1:Int))) (2:Int) ∧ g_pick r0 (IntKind.wrap IntKind.i64 (g_Vs_l20Rd_odd_2 r0 (IntKind.wrap IntKind.i64 (g_Vs_l20Writes_2 r0 (IntKind.wrap IntKind.i64 (IntKind.wrap IntKind.i64 (r1 + (1:Int)) + (1:Int))) (0:Int) + (1:Int))) a2 + (1:Int))) (2:Int) < (2:Int))&&decide (Int.toNat (g_pick r0 (IntKind.wrap IntKind.i64 (g_Vs_l20Rd_odd_2 r0 (IntKind.wrap IntKind.i64 (g_Vs_l20Writes_2 r0 (IntKind.wrap IntKind.i64 (IntKind.wrap IntKind.i64 (r1 + (1:Int)) + (1:Int))) (0:Int) + (1:Int))) a2 + (1:Int))) (2:Int)) < nat_lit 2)) else bif g_pick r0 (g_Vs_l20Rd_odd_2 r0 (IntKind.wrap IntKind.i64 (g_Vs_l20Writes_2 r0 (IntKind.wrap IntKind.i64 (IntKind.wrap IntKind.i64 (r1 + (1:Int)) + (1:Int))) (0:Int) + (1:Int))) a2) (5:Int) == (2:Int) then decide ((List.length (valO (g_Ls_l20Note_0 a2 (0:Int) (0:Int) [] [] (at_ (Ty.int IntKind.i64) [(1:Int),(1:Int),(2:Int),(3:Int),(4:Int)] (Int.toNat (g_pick r0 r1 (5:Int)))) (g_pick r0 (IntKind.wrap IntKind.i64 (r1 + (1:Int))) (5:Int)) (g_Vs_l20Writes_0 r0 (IntKind.wrap IntKind.i64 (IntKind.wrap IntKind.i64 (r1 + (1:Int)) + (1:Int))) (0:Int)) r0 (g_Vs_l20Writes_2 r0 (IntKind.wrap IntKind.i64 (IntKind.wrap IntKind.i64 (r1 + (1:Int)) + (1:Int))) (0:Int)) ((0:Int),[]))) + nat_lit 1) * nat_lit 16 ≤ nat_lit 140737488355328 ∧ List.length (valO (g_Ls_l20Note_0 a2 (0:Int) (0:Int) [] [] (at_ (Ty.int IntKind.i64) [(1:Int),(1:Int),(2:Int),(3:Int),(4:Int)] (Int.toNat (g_pick r0 r1 (5:Int)))) (g_pick r0 (IntKind.wrap IntKind.i64 (r1 + (1:Int))) (5:Int)) (g_Vs_l20Writes_0 r0 (IntKind.wrap IntKind.i64 (IntKind.wrap IntKind.i64 (r1 + (1:Int)) + (1:Int))) (0:Int)) r0 (g_Vs_l20Writes_2 r0 (IntKind.wrap IntKind.i64 (IntKind.wrap IntKind.i64 (r1 + (1:Int)) + (1:Int))) (0:Int)) ((0:Int),[]))) + nat_lit 1 ≤ nat_lit 9223372036854775807) else bif g_pick r0 (g_Vs_l20Rd_odd_2 r0 (IntKind.wrap IntKind.i64 (g_Vs_l20Writes_2 r0 (IntKind.wrap IntKind.i64 (IntKind.wrap IntKind.i64 (r1 + (1:Int)) + (1:Int))) (0:Int) + (1:Int))) a2) (5:Int) == (3:Int) then decide ((List.length (g_Vs_l20Writes_0 r0 (IntKind.wrap IntKind.i64 (IntKind.wrap IntKind.i64 (r1 + (1:Int)) + (1:Int))) (0:Int)) + nat_lit 1) * nat_lit 48 ≤ nat_lit 140737488355328 ∧ List.length (g_Vs_l20Writes_0 r0 (IntKind.wrap IntKind.i64 (IntKind.wrap IntKind.i64 (r1 + (1:Int)) + (1:Int))) (0:Int)) + nat_lit 1 ≤ nat_lit 9223372036854775807) else g_As_l20Write r0 (IntKind.wrap IntKind.i64 (g_Vs_l20Rd_odd_2 r0 (IntKind.wrap IntKind.i64 (g_Vs_l20Writes_2 r0 (IntKind.wrap IntKind.i64 (IntKind.wrap IntKind.i64 (r1 + (1:Int)) + (1:Int))) (0:Int) + (1:Int))) a2 + (1:Int))) (1:Int)&&decide ((List.length (g_Vs_l20Writes_0 r0 (IntKind.wrap IntKind.i64 (IntKind.wrap IntKind.i64 (r1 + (1:Int)) + (1:Int))) (0:Int)) + List.length [(g_Vs_l20Write_0 r0 (IntKind.wrap IntKind.i64 (g_Vs_l20Rd_odd_2 r0 (IntKind.wrap IntKind.i64 (g_Vs_l20Writes_2 r0 (IntKind.wrap IntKind.i64 (IntKind.wrap IntKind.i64 (r1 + (1:Int)) + (1:Int))) (0:Int) + (1:Int))) a2 + (1:Int))) (1:Int),g_Vs_l20Write_1 r0 (IntKind.wrap IntKind.i64 (g_Vs_l20Rd_odd_2 r0 (IntKind.wrap IntKind.i64 (g_Vs_l20Writes_2 r0 (IntKind.wrap IntKind.i64 (IntKind.wrap IntKind.i64 (r1 + (1:Int)) + (1:Int))) (0:Int) + (1:Int))) a2 + (1:Int))) (1:Int),g_Vs_l20Write_2 r0 (IntKind.wrap IntKind.i64 (g_Vs_l20Rd_odd_2 r0 (IntKind.wrap IntKind.i64 (g_Vs_l20Writes_2 r0 (IntKind.wrap IntKind.i64 (IntKind.wrap IntKind.i64 (r1 + (1:Int)) + (1:Int))) (0:Int) + (1:Int))) a2 + (1:Int))) (1:Int))]) * nat_lit 48 ≤ nat_lit 140737488355328 ∧ List.length (g_Vs_l20Writes_0 r0 (IntKind.wrap IntKind.i64 (IntKind.wrap IntKind.i64 (r1 + (1:Int)) + (1:Int))) (0:Int)) + List.length [(g_Vs_l20Write_0 r0 (IntKind.wrap IntKind.i64 (g_Vs_l20Rd_odd_2 r0 (IntKind.wrap IntKind.i64 (g_Vs_l20Writes_2 r0 (IntKind.wrap IntKind.i64 (IntKind.wrap IntKind.i64 (r1 + (1:Int)) + (1:Int))) (0:Int) + (1:Int))) a2 + (1:Int))) (1:Int),g_Vs_l20Write_1 r0 (IntKind.wrap IntKind.i64 (g_Vs_l20Rd_odd_2 r0 (IntKind.wrap IntKind.i64 (g_Vs_l20Writes_2 r0 (IntKind.wrap IntKind.i64 (IntKind.wrap IntKind.i64 (r1 + (1:Int)) + (1:Int))) (0:Int) + (1:Int))) a2 + (1:Int))) (1:Int),g_Vs_l20Write_2 r0 (IntKind.wrap IntKind.i64 (g_Vs_l20Rd_odd_2 r0 (IntKind.wrap IntKind.i64 (g_Vs_l20Writes_2 r0 (IntKind.wrap IntKind.i64 (IntKind.wrap IntKind.i64 (r1 + (1:Int)) + (1:Int))) (0:Int) + (1:Int))) a2 + (1:Int))) (1:Int))] ≤ nat_lit 9223372036854775807)))) else g_As_l20Rd_odd r0 (IntKind.wrap IntKind.i64 (IntKind.wrap IntKind.i64 (r1 + (1:Int)) + (1:Int))) a2&&(!g_Vs_l20Rd_odd_0 r0 (IntKind.wrap IntKind.i64 (IntKind.wrap IntKind.i64 (r1 + (1:Int)) + (1:Int))) a2 || g_pickA r0 (g_Vs_l20Rd_odd_2 r0 (IntKind.wrap IntKind.i64 (IntKind.wrap IntKind.i64 (r1 + (1:Int)) + (1:Int))) a2) (5:Int)&&bif g_pick r0 (g_Vs_l20Rd_odd_2 r0 (IntKind.wrap IntKind.i64 (IntKind.wrap IntKind.i64 (r1 + (1:Int)) + (1:Int))) a2) (5:Int) == (0:Int) then g_pickA r0 (IntKind.wrap IntKind.i64 (g_Vs_l20Rd_odd_2 r0 (IntKind.wrap IntKind.i64 (IntKind.wrap IntKind.i64 (r1 + (1:Int)) + (1:Int))) a2 + (1:Int))) (2:Int)&&(decide ((0:Int) ≤ g_pick r0 (IntKind.wrap IntKind.i64 (g_Vs_l20Rd_odd_2 r0 (IntKind.wrap IntKind.i64 (IntKind.wrap IntKind.i64 (r1 + (1:Int)) + (1:Int))) a2 + (1:Int))) (2:Int) ∧ g_pick r0 (IntKind.wrap IntKind.i64 (g_Vs_l20Rd_odd_2 r0 (IntKind.wrap IntKind.i64 (IntKind.wrap IntKind.i64 (r1 + (1:Int)) + (1:Int))) a2 + (1:Int))) (2:Int) < (2:Int))&&decide (Int.toNat (g_pick r0 (IntKind.wrap IntKind.i64 (g_Vs_l20Rd_odd_2 r0 (IntKind.wrap IntKind.i64 (IntKind.wrap IntKind.i64 (r1 + (1:Int)) + (1:Int))) a2 + (1:Int))) (2:Int)) < nat_lit 2)) else bif g_pick r0 (g_Vs_l20Rd_odd_2 r0 (IntKind.wrap IntKind.i64 (IntKind.wrap IntKind.i64 (r1 + (1:Int)) + (1:Int))) a2) (5:Int) == (1:Int) then g_pickA r0 (IntKind.wrap IntKind.i64 (g_Vs_l20Rd_odd_2 r0 (IntKind.wrap IntKind.i64 (IntKind.wrap IntKind.i64 (r1 + (1:Int)) + (1:Int))) a2 + (1:Int))) (2:Int)&&(decide ((0:Int) ≤ g_pick r0 (IntKind.wrap IntKind.i64 (g_Vs_l20Rd_odd_2 r0 (IntKind.wrap IntKind.i64 (IntKind.wrap IntKind.i64 (r1 + (1:Int)) + (1:Int))) a2 + (1:Int))) (2:Int) ∧ g_pick r0 (IntKind.wrap IntKind.i64 (g_Vs_l20Rd_odd_2 r0 (IntKind.wrap IntKind.i64 (IntKind.wrap IntKind.i64 (r1 + (1:Int)) + (1:Int))) a2 + (1:Int))) (2:Int) < (2:Int))&&decide (Int.toNat (g_pick r0 (IntKind.wrap IntKind.i64 (g_Vs_l20Rd_odd_2 r0 (IntKind.wrap IntKind.i64 (IntKind.wrap IntKind.i64 (r1 + (1:Int)) + (1:Int))) a2 + (1:Int))) (2:Int)) < nat_lit 2)) else bif g_pick r0 (g_Vs_l20Rd_odd_2 r0 (IntKind.wrap IntKind.i64 (IntKind.wrap IntKind.i64 (r1 + (1:Int)) + (1:Int))) a2) (5:Int) == (2:Int) then true else bif g_pick r0 (g_Vs_l20Rd_odd_2 r0 (IntKind.wrap IntKind.i64 (IntKind.wrap IntKind.i64 (r1 + (1:Int)) + (1:Int))) a2) (5:Int) == (3:Int) then true else g_As_l20Write r0 (IntKind.wrap IntKind.i64 (g_Vs_l20Rd_odd_2 r0 (IntKind.wrap IntKind.i64 (IntKind.wrap IntKind.i64 (r1 + (1:Int)) + (1:Int))) a2 + (1:Int))) (1:Int)&&decide ((nat_lit 0 + List.length [(g_Vs_l20Write_0 r0 (IntKind.wrap IntKind.i64 (g_Vs_l20Rd_odd_2 r0 (IntKind.wrap IntKind.i64 (IntKind.wrap IntKind.i64 (r1 + (1:Int)) + (1:Int))) a2 + (1:Int))) (1:Int),g_Vs_l20Write_1 r0 (IntKind.wrap IntKind.i64 (g_Vs_l20Rd_odd_2 r0 (IntKind.wrap IntKind.i64 (IntKind.wrap IntKind.i64 (r1 + (1:Int)) + (1:Int))) a2 + (1:Int))) (1:Int),g_Vs_l20Write_2 r0 (IntKind.wrap IntKind.i64 (g_Vs_l20Rd_odd_2 r0 (IntKind.wrap IntKind.i64 (IntKind.wrap IntKind.i64 (r1 + (1:Int)) + (1:Int))) a2 + (1:Int))) (1:Int))]) * nat_lit 48 ≤ nat_lit 140737488355328 ∧ nat_lit 0 + List.length [(g_Vs_l20Write_0 r0 (IntKind.wrap IntKind.i64 (g_Vs_l20Rd_odd_2 r0 (IntKind.wrap IntKind.i64 (IntKind.wrap IntKind.i64 (r1 + (1:Int)) + (1:Int))) a2 + (1:Int))) (1:Int),g_Vs_l20Write_1 r0 (IntKind.wrap IntKind.i64 (g_Vs_l20Rd_odd_2 r0 (IntKind.wrap IntKind.i64 (IntKind.wrap IntKind.i64 (r1 + (1:Int)) + (1:Int))) a2 + (1:Int))) (1:Int),g_Vs_l20Write_2 r0 (IntKind.wrap IntKind.i64 (g_Vs_l20Rd_odd_2 r0 (IntKind.wrap IntKind.i64 (IntKind.wrap IntKind.i64 (r1 + (1:Int)) + (1:Int))) a2 + (1:Int))) (1:Int))] ≤ nat_lit 9223372036854775807)))))
noncomputable def g_Vs_l20Note_0 (r0:List Int) (r1:Int) (a2:Int):Int := bif at_ (Ty.int IntKind.i64) [(1:Int),(1:Int),(2:Int),(3:Int),(4:Int)] (Int.toNat (g_pick r0 r1 (5:Int))) == (1:Int) then bif g_pick r0 (g_Vs_l20Writes_2 r0 (IntKind.wrap IntKind.i64 (IntKind.wrap IntKind.i64 (r1 + (1:Int)) + (1:Int))) (0:Int)) (2:Int) == (0:Int) then bif g_Vs_l20Rd_odd_0 r0 (g_Vs_l20Key_2 r0 (IntKind.wrap IntKind.i64 (g_Vs_l20Writes_2 r0 (IntKind.wrap IntKind.i64 (IntKind.wrap IntKind.i64 (r1 + (1:Int)) + (1:Int))) (0:Int) + (1:Int))) (0:Int)) a2 then bif g_pick r0 (g_Vs_l20Rd_odd_2 r0 (g_Vs_l20Key_2 r0 (IntKind.wrap IntKind.i64 (g_Vs_l20Writes_2 r0 (IntKind.wrap IntKind.i64 (IntKind.wrap IntKind.i64 (r1 + (1:Int)) + (1:Int))) (0:Int) + (1:Int))) (0:Int)) a2) (5:Int) == (0:Int) then at_ (Ty.int IntKind.i64) [(0:Int),(5:Int)] (Int.toNat (g_pick r0 (IntKind.wrap IntKind.i64 (g_Vs_l20Rd_odd_2 r0 (g_Vs_l20Key_2 r0 (IntKind.wrap IntKind.i64 (g_Vs_l20Writes_2 r0 (IntKind.wrap IntKind.i64 (IntKind.wrap IntKind.i64 (r1 + (1:Int)) + (1:Int))) (0:Int) + (1:Int))) (0:Int)) a2 + (1:Int))) (2:Int))) else bif g_pick r0 (g_Vs_l20Rd_odd_2 r0 (g_Vs_l20Key_2 r0 (IntKind.wrap IntKind.i64 (g_Vs_l20Writes_2 r0 (IntKind.wrap IntKind.i64 (IntKind.wrap IntKind.i64 (r1 + (1:Int)) + (1:Int))) (0:Int) + (1:Int))) (0:Int)) a2) (5:Int) == (1:Int) then at_ (Ty.int IntKind.i64) [(1:Int),(1:Int),(2:Int),(3:Int),(4:Int)] (Int.toNat (g_pick r0 r1 (5:Int))) else bif g_pick r0 (g_Vs_l20Rd_odd_2 r0 (g_Vs_l20Key_2 r0 (IntKind.wrap IntKind.i64 (g_Vs_l20Writes_2 r0 (IntKind.wrap IntKind.i64 (IntKind.wrap IntKind.i64 (r1 + (1:Int)) + (1:Int))) (0:Int) + (1:Int))) (0:Int)) a2) (5:Int) == (2:Int) then at_ (Ty.int IntKind.i64) [(1:Int),(1:Int),(2:Int),(3:Int),(4:Int)] (Int.toNat (g_pick r0 r1 (5:Int))) else bif g_pick r0 (g_Vs_l20Rd_odd_2 r0 (g_Vs_l20Key_2 r0 (IntKind.wrap IntKind.i64 (g_Vs_l20Writes_2 r0 (IntKind.wrap IntKind.i64 (IntKind.wrap IntKind.i64 (r1 + (1:Int)) + (1:Int))) (0:Int) + (1:Int))) (0:Int)) a2) (5:Int) == (3:Int) then at_ (Ty.int IntKind.i64) [(1:Int),(1:Int),(2:Int),(3:Int),(4:Int)] (Int.toNat (g_pick r0 r1 (5:Int))) else at_ (Ty.int IntKind.i64) [(1:Int),(1:Int),(2:Int),(3:Int),(4:Int)] (Int.toNat (g_pick r0 r1 (5:Int))) else at_ (Ty.int IntKind.i64) [(1:Int),(1:Int),(2:Int),(3:Int),(4:Int)] (Int.toNat (g_pick r0 r1 (5:Int))) else bif g_Vs_l20Rd_odd_0 r0 (IntKind.wrap IntKind.i64 (g_Vs_l20Writes_2 r0 (IntKind.wrap IntKind.i64 (IntKind.wrap IntKind.i64 (r1 + (1:Int)) + (1:Int))) (0:Int) + (1:Int))) a2 then bif g_pick r0 (g_Vs_l20Rd_odd_2 r0 (IntKind.wrap IntKind.i64 (g_Vs_l20Writes_2 r0 (IntKind.wrap IntKind.i64 (IntKind.wrap IntKind.i64 (r1 + (1:Int)) + (1:Int))) (0:Int) + (1:Int))) a2) (5:Int) == (0:Int) then at_ (Ty.int IntKind.i64) [(0:Int),(5:Int)] (Int.toNat (g_pick r0 (IntKind.wrap IntKind.i64 (g_Vs_l20Rd_odd_2 r0 (IntKind.wrap IntKind.i64 (g_Vs_l20Writes_2 r0 (IntKind.wrap IntKind.i64 (IntKind.wrap IntKind.i64 (r1 + (1:Int)) + (1:Int))) (0:Int) + (1:Int))) a2 + (1:Int))) (2:Int))) else bif g_pick r0 (g_Vs_l20Rd_odd_2 r0 (IntKind.wrap IntKind.i64 (g_Vs_l20Writes_2 r0 (IntKind.wrap IntKind.i64 (IntKind.wrap IntKind.i64 (r1 + (1:Int)) + (1:Int))) (0:Int) + (1:Int))) a2) (5:Int) == (1:Int) then at_ (Ty.int IntKind.i64) [(1:Int),(1:Int),(2:Int),(3:Int),(4:Int)] (Int.toNat (g_pick r0 r1 (5:Int))) else bif g_pick r0 (g_Vs_l20Rd_odd_2 r0 (IntKind.wrap IntKind.i64 (g_Vs_l20Writes_2 r0 (IntKind.wrap IntKind.i64 (IntKind.wrap IntKind.i64 (r1 + (1:Int)) + (1:Int))) (0:Int) + (1:Int))) a2) (5:Int) == (2:Int) then at_ (Ty.int IntKind.i64) [(1:Int),(1:Int),(2:Int),(3:Int),(4:Int)] (Int.toNat (g_pick r0 r1 (5:Int))) else bif g_pick r0 (g_Vs_l20Rd_odd_2 r0 (IntKind.wrap IntKind.i64 (g_Vs_l20Writes_2 r0 (IntKind.wrap IntKind.i64 (IntKind.wrap IntKind.i64 (r1 + (1:Int)) + (1:Int))) (0:Int) + (1:Int))) a2) (5:Int) == (3:Int) then at_ (Ty.int IntKind.i64) [(1:Int),(1:Int),(2:Int),(3:Int),(4:Int)] (Int.toNat (g_pick r0 r1 (5:Int))) else at_ (Ty.int IntKind.i64) [(1:Int),(1:Int),(2:Int),(3:Int),(4:Int)] (Int.toNat (g_pick r0 r1 (5:Int))) else at_ (Ty.int IntKind.i64) [(1:Int),(1:Int),(2:Int),(3:Int),(4:Int)] (Int.toNat (g_pick r0 r1 (5:Int))) else bif g_Vs_l20Rd_odd_0 r0 (IntKind.wrap IntKind.i64 (IntKind.wrap IntKind.i64 (r1 + (1:Int)) + (1:Int))) a2 then bif g_pick r0 (g_Vs_l20Rd_odd_2 r0 (IntKind.wrap IntKind.i64 (IntKind.wrap IntKind.i64 (r1 + (1:Int)) + (1:Int))) a2) (5:Int) == (0:Int) then at_ (Ty.int IntKind.i64) [(0:Int),(5:Int)] (Int.toNat (g_pick r0 (IntKind.wrap IntKind.i64 (g_Vs_l20Rd_odd_2 r0 (IntKind.wrap IntKind.i64 (IntKind.wrap IntKind.i64 (r1 + (1:Int)) + (1:Int))) a2 + (1:Int))) (2:Int))) else bif g_pick r0 (g_Vs_l20Rd_odd_2 r0 (IntKind.wrap IntKind.i64 (IntKind.wrap IntKind.i64 (r1 + (1:Int)) + (1:Int))) a2) (5:Int) == (1:Int) then at_ (Ty.int IntKind.i64) [(1:Int),(1:Int),(2:Int),(3:Int),(4:Int)] (Int.toNat (g_pick r0 r1 (5:Int))) else bif g_pick r0 (g_Vs_l20Rd_odd_2 r0 (IntKind.wrap IntKind.i64 (IntKind.wrap IntKind.i64 (r1 + (1:Int)) + (1:Int))) a2) (5:Int) == (2:Int) then at_ (Ty.int IntKind.i64) [(1:Int),(1:Int),(2:Int),(3:Int),(4:Int)] (Int.toNat (g_pick r0 r1 (5:Int))) else bif g_pick r0 (g_Vs_l20Rd_odd_2 r0 (IntKind.wrap IntKind.i64 (IntKind.wrap IntKind.i64 (r1 + (1:Int)) + (1:Int))) a2) (5:Int) == (3:Int) then at_ (Ty.int IntKind.i64) [(1:Int),(1:Int),(2:Int),(3:Int),(4:Int)] (Int.toNat (g_pick r0 r1 (5:Int))) else at_ (Ty.int IntKind.i64) [(1:Int),(1:Int),(2:Int),(3:Int),(4:Int)] (Int.toNat (g_pick r0 r1 (5:Int))) else at_ (Ty.int IntKind.i64) [(1:Int),(1:Int),(2:Int),(3:Int),(4:Int)] (Int.toNat (g_pick r0 r1 (5:Int)))
noncomputable def g_Vs_l20Note_1 (r0:List Int) (r1:Int) (a2:Int):Int := bif at_ (Ty.int IntKind.i64) [(1:Int),(1:Int),(2:Int),(3:Int),(4:Int)] (Int.toNat (g_pick r0 r1 (5:Int))) == (1:Int) then bif g_pick r0 (g_Vs_l20Writes_2 r0 (IntKind.wrap IntKind.i64 (IntKind.wrap IntKind.i64 (r1 + (1:Int)) + (1:Int))) (0:Int)) (2:Int) == (0:Int) then bif g_Vs_l20Rd_odd_0 r0 (g_Vs_l20Key_2 r0 (IntKind.wrap IntKind.i64 (g_Vs_l20Writes_2 r0 (IntKind.wrap IntKind.i64 (IntKind.wrap IntKind.i64 (r1 + (1:Int)) + (1:Int))) (0:Int) + (1:Int))) (0:Int)) a2 then bif g_pick r0 (g_Vs_l20Rd_odd_2 r0 (g_Vs_l20Key_2 r0 (IntKind.wrap IntKind.i64 (g_Vs_l20Writes_2 r0 (IntKind.wrap IntKind.i64 (IntKind.wrap IntKind.i64 (r1 + (1:Int)) + (1:Int))) (0:Int) + (1:Int))) (0:Int)) a2) (5:Int) == (0:Int) then g_pick r0 (IntKind.wrap IntKind.i64 (r1 + (1:Int))) (5:Int) else bif g_pick r0 (g_Vs_l20Rd_odd_2 r0 (g_Vs_l20Key_2 r0 (IntKind.wrap IntKind.i64 (g_Vs_l20Writes_2 r0 (IntKind.wrap IntKind.i64 (IntKind.wrap IntKind.i64 (r1 + (1:Int)) + (1:Int))) (0:Int) + (1:Int))) (0:Int)) a2) (5:Int) == (1:Int) then at_ (Ty.int IntKind.i64) [(-1:Int),(30:Int)] (Int.toNat (g_pick r0 (IntKind.wrap IntKind.i64 (g_Vs_l20Rd_odd_2 r0 (g_Vs_l20Key_2 r0 (IntKind.wrap IntKind.i64 (g_Vs_l20Writes_2 r0 (IntKind.wrap IntKind.i64 (IntKind.wrap IntKind.i64 (r1 + (1:Int)) + (1:Int))) (0:Int) + (1:Int))) (0:Int)) a2 + (1:Int))) (2:Int))) else bif g_pick r0 (g_Vs_l20Rd_odd_2 r0 (g_Vs_l20Key_2 r0 (IntKind.wrap IntKind.i64 (g_Vs_l20Writes_2 r0 (IntKind.wrap IntKind.i64 (IntKind.wrap IntKind.i64 (r1 + (1:Int)) + (1:Int))) (0:Int) + (1:Int))) (0:Int)) a2) (5:Int) == (2:Int) then g_pick r0 (IntKind.wrap IntKind.i64 (r1 + (1:Int))) (5:Int) else bif g_pick r0 (g_Vs_l20Rd_odd_2 r0 (g_Vs_l20Key_2 r0 (IntKind.wrap IntKind.i64 (g_Vs_l20Writes_2 r0 (IntKind.wrap IntKind.i64 (IntKind.wrap IntKind.i64 (r1 + (1:Int)) + (1:Int))) (0:Int) + (1:Int))) (0:Int)) a2) (5:Int) == (3:Int) then g_pick r0 (IntKind.wrap IntKind.i64 (r1 + (1:Int))) (5:Int) else g_pick r0 (IntKind.wrap IntKind.i64 (r1 + (1:Int))) (5:Int) else g_pick r0 (IntKind.wrap IntKind.i64 (r1 + (1:Int))) (5:Int) else bif g_Vs_l20Rd_odd_0 r0 (IntKind.wrap IntKind.i64 (g_Vs_l20Writes_2 r0 (IntKind.wrap IntKind.i64 (IntKind.wrap IntKind.i64 (r1 + (1:Int)) + (1:Int))) (0:Int) + (1:Int))) a2 then bif g_pick r0 (g_Vs_l20Rd_odd_2 r0 (IntKind.wrap IntKind.i64 (g_Vs_l20Writes_2 r0 (IntKind.wrap IntKind.i64 (IntKind.wrap IntKind.i64 (r1 + (1:Int)) + (1:Int))) (0:Int) + (1:Int))) a2) (5:Int) == (0:Int) then g_pick r0 (IntKind.wrap IntKind.i64 (r1 + (1:Int))) (5:Int) else bif g_pick r0 (g_Vs_l20Rd_odd_2 r0 (IntKind.wrap IntKind.i64 (g_Vs_l20Writes_2 r0 (IntKind.wrap IntKind.i64 (IntKind.wrap IntKind.i64 (r1 + (1:Int)) + (1:Int))) (0:Int) + (1:Int))) a2) (5:Int) == (1:Int) then at_ (Ty.int IntKind.i64) [(-1:Int),(30:Int)] (Int.toNat (g_pick r0 (IntKind.wrap IntKind.i64 (g_Vs_l20Rd_odd_2 r0 (IntKind.wrap IntKind.i64 (g_Vs_l20Writes_2 r0 (IntKind.wrap IntKind.i64 (IntKind.wrap IntKind.i64 (r1 + (1:Int)) + (1:Int))) (0:Int) + (1:Int))) a2 + (1:Int))) (2:Int))) else bif g_pick r0 (g_Vs_l20Rd_odd_2 r0 (IntKind.wrap IntKind.i64 (g_Vs_l20Writes_2 r0 (IntKind.wrap IntKind.i64 (IntKind.wrap IntKind.i64 (r1 + (1:Int)) + (1:Int))) (0:Int) + (1:Int))) a2) (5:Int) == (2:Int) then g_pick r0 (IntKind.wrap IntKind.i64 (r1 + (1:Int))) (5:Int) else bif g_pick r0 (g_Vs_l20Rd_odd_2 r0 (IntKind.wrap IntKind.i64 (g_Vs_l20Writes_2 r0 (IntKind.wrap IntKind.i64 (IntKind.wrap IntKind.i64 (r1 + (1:Int)) + (1:Int))) (0:Int) + (1:Int))) a2) (5:Int) == (3:Int) then g_pick r0 (IntKind.wrap IntKind.i64 (r1 + (1:Int))) (5:Int) else g_pick r0 (IntKind.wrap IntKind.i64 (r1 + (1:Int))) (5:Int) else g_pick r0 (IntKind.wrap IntKind.i64 (r1 + (1:Int))) (5:Int) else bif g_Vs_l20Rd_odd_0 r0 (IntKind.wrap IntKind.i64 (IntKind.wrap IntKind.i64 (r1 + (1:Int)) + (1:Int))) a2 then bif g_pick r0 (g_Vs_l20Rd_odd_2 r0 (IntKind.wrap IntKind.i64 (IntKind.wrap IntKind.i64 (r1 + (1:Int)) + (1:Int))) a2) (5:Int) == (0:Int) then g_pick r0 (IntKind.wrap IntKind.i64 (r1 + (1:Int))) (5:Int) else bif g_pick r0 (g_Vs_l20Rd_odd_2 r0 (IntKind.wrap IntKind.i64 (IntKind.wrap IntKind.i64 (r1 + (1:Int)) + (1:Int))) a2) (5:Int) == (1:Int) then at_ (Ty.int IntKind.i64) [(-1:Int),(30:Int)] (Int.toNat (g_pick r0 (IntKind.wrap IntKind.i64 (g_Vs_l20Rd_odd_2 r0 (IntKind.wrap IntKind.i64 (IntKind.wrap IntKind.i64 (r1 + (1:Int)) + (1:Int))) a2 + (1:Int))) (2:Int))) else bif g_pick r0 (g_Vs_l20Rd_odd_2 r0 (IntKind.wrap IntKind.i64 (IntKind.wrap IntKind.i64 (r1 + (1:Int)) + (1:Int))) a2) (5:Int) == (2:Int) then g_pick r0 (IntKind.wrap IntKind.i64 (r1 + (1:Int))) (5:Int) else bif g_pick r0 (g_Vs_l20Rd_odd_2 r0 (IntKind.wrap IntKind.i64 (IntKind.wrap IntKind.i64 (r1 + (1:Int)) + (1:Int))) a2) (5:Int) == (3:Int) then g_pick r0 (IntKind.wrap IntKind.i64 (r1 + (1:Int))) (5:Int) else g_pick r0 (IntKind.wrap IntKind.i64 (r1 + (1:Int))) (5:Int) else g_pick r0 (IntKind.wrap IntKind.i64 (r1 + (1:Int))) (5:Int)
noncomputable def g_Vs_l20Note_2 (r0:List Int) (r1:Int) (a2:Int):List ByteArray := bif at_ (Ty.int IntKind.i64) [(1:Int),(1:Int),(2:Int),(3:Int),(4:Int)] (Int.toNat (g_pick r0 r1 (5:Int))) == (1:Int) then bif g_pick r0 (g_Vs_l20Writes_2 r0 (IntKind.wrap IntKind.i64 (IntKind.wrap IntKind.i64 (r1 + (1:Int)) + (1:Int))) (0:Int)) (2:Int) == (0:Int) then bif g_Vs_l20Rd_odd_0 r0 (g_Vs_l20Key_2 r0 (IntKind.wrap IntKind.i64 (g_Vs_l20Writes_2 r0 (IntKind.wrap IntKind.i64 (IntKind.wrap IntKind.i64 (r1 + (1:Int)) + (1:Int))) (0:Int) + (1:Int))) (0:Int)) a2 then bif g_pick r0 (g_Vs_l20Rd_odd_2 r0 (g_Vs_l20Key_2 r0 (IntKind.wrap IntKind.i64 (g_Vs_l20Writes_2 r0 (IntKind.wrap IntKind.i64 (IntKind.wrap IntKind.i64 (r1 + (1:Int)) + (1:Int))) (0:Int) + (1:Int))) (0:Int)) a2) (5:Int) == (0:Int) then valO (g_Ls_l20Note_0 a2 (0:Int) (0:Int) [] [] (at_ (Ty.int IntKind.i64) [(1:Int),(1:Int),(2:Int),(3:Int),(4:Int)] (Int.toNat (g_pick r0 r1 (5:Int)))) (g_pick r0 (IntKind.wrap IntKind.i64 (r1 + (1:Int))) (5:Int)) (g_Vs_l20Writes_0 r0 (IntKind.wrap IntKind.i64 (IntKind.wrap IntKind.i64 (r1 + (1:Int)) + (1:Int))) (0:Int)) r0 (g_Vs_l20Writes_2 r0 (IntKind.wrap IntKind.i64 (IntKind.wrap IntKind.i64 (r1 + (1:Int)) + (1:Int))) (0:Int)) ((0:Int),[])) ++ [g_Vs_l20Key_0 r0 (IntKind.wrap IntKind.i64 (g_Vs_l20Writes_2 r0 (IntKind.wrap IntKind.i64 (IntKind.wrap IntKind.i64 (r1 + (1:Int)) + (1:Int))) (0:Int) + (1:Int))) (0:Int)] else bif g_pick r0 (g_Vs_l20Rd_odd_2 r0 (g_Vs_l20Key_2 r0 (IntKind.wrap IntKind.i64 (g_Vs_l20Writes_2 r0 (IntKind.wrap IntKind.i64 (IntKind.wrap IntKind.i64 (r1 + (1:Int)) + (1:Int))) (0:Int) + (1:Int))) (0:Int)) a2) (5:Int) == (1:Int) then valO (g_Ls_l20Note_0 a2 (0:Int) (0:Int) [] [] (at_ (Ty.int IntKind.i64) [(1:Int),(1:Int),(2:Int),(3:Int),(4:Int)] (Int.toNat (g_pick r0 r1 (5:Int)))) (g_pick r0 (IntKind.wrap IntKind.i64 (r1 + (1:Int))) (5:Int)) (g_Vs_l20Writes_0 r0 (IntKind.wrap IntKind.i64 (IntKind.wrap IntKind.i64 (r1 + (1:Int)) + (1:Int))) (0:Int)) r0 (g_Vs_l20Writes_2 r0 (IntKind.wrap IntKind.i64 (IntKind.wrap IntKind.i64 (r1 + (1:Int)) + (1:Int))) (0:Int)) ((0:Int),[])) ++ [g_Vs_l20Key_0 r0 (IntKind.wrap IntKind.i64 (g_Vs_l20Writes_2 r0 (IntKind.wrap IntKind.i64 (IntKind.wrap IntKind.i64 (r1 + (1:Int)) + (1:Int))) (0:Int) + (1:Int))) (0:Int)] else bif g_pick r0 (g_Vs_l20Rd_odd_2 r0 (g_Vs_l20Key_2 r0 (IntKind.wrap IntKind.i64 (g_Vs_l20Writes_2 r0 (IntKind.wrap IntKind.i64 (IntKind.wrap IntKind.i64 (r1 + (1:Int)) + (1:Int))) (0:Int) + (1:Int))) (0:Int)) a2) (5:Int) == (2:Int) then valO (g_Ls_l20Note_0 a2 (0:Int) (0:Int) [] [] (at_ (Ty.int IntKind.i64) [(1:Int),(1:Int),(2:Int),(3:Int),(4:Int)] (Int.toNat (g_pick r0 r1 (5:Int)))) (g_pick r0 (IntKind.wrap IntKind.i64 (r1 + (1:Int))) (5:Int)) (g_Vs_l20Writes_0 r0 (IntKind.wrap IntKind.i64 (IntKind.wrap IntKind.i64 (r1 + (1:Int)) + (1:Int))) (0:Int)) r0 (g_Vs_l20Writes_2 r0 (IntKind.wrap IntKind.i64 (IntKind.wrap IntKind.i64 (r1 + (1:Int)) + (1:Int))) (0:Int)) ((0:Int),[])) ++ [g_Vs_l20Key_0 r0 (IntKind.wrap IntKind.i64 (g_Vs_l20Writes_2 r0 (IntKind.wrap IntKind.i64 (IntKind.wrap IntKind.i64 (r1 + (1:Int)) + (1:Int))) (0:Int) + (1:Int))) (0:Int)] ++ [lit []] else bif g_pick r0 (g_Vs_l20Rd_odd_2 r0 (g_Vs_l20Key_2 r0 (IntKind.wrap IntKind.i64 (g_Vs_l20Writes_2 r0 (IntKind.wrap IntKind.i64 (IntKind.wrap IntKind.i64 (r1 + (1:Int)) + (1:Int))) (0:Int) + (1:Int))) (0:Int)) a2) (5:Int) == (3:Int) then valO (g_Ls_l20Note_0 a2 (0:Int) (0:Int) [] [] (at_ (Ty.int IntKind.i64) [(1:Int),(1:Int),(2:Int),(3:Int),(4:Int)] (Int.toNat (g_pick r0 r1 (5:Int)))) (g_pick r0 (IntKind.wrap IntKind.i64 (r1 + (1:Int))) (5:Int)) (g_Vs_l20Writes_0 r0 (IntKind.wrap IntKind.i64 (IntKind.wrap IntKind.i64 (r1 + (1:Int)) + (1:Int))) (0:Int)) r0 (g_Vs_l20Writes_2 r0 (IntKind.wrap IntKind.i64 (IntKind.wrap IntKind.i64 (r1 + (1:Int)) + (1:Int))) (0:Int)) ((0:Int),[])) ++ [g_Vs_l20Key_0 r0 (IntKind.wrap IntKind.i64 (g_Vs_l20Writes_2 r0 (IntKind.wrap IntKind.i64 (IntKind.wrap IntKind.i64 (r1 + (1:Int)) + (1:Int))) (0:Int) + (1:Int))) (0:Int)] else valO (g_Ls_l20Note_0 a2 (0:Int) (0:Int) [] [] (at_ (Ty.int IntKind.i64) [(1:Int),(1:Int),(2:Int),(3:Int),(4:Int)] (Int.toNat (g_pick r0 r1 (5:Int)))) (g_pick r0 (IntKind.wrap IntKind.i64 (r1 + (1:Int))) (5:Int)) (g_Vs_l20Writes_0 r0 (IntKind.wrap IntKind.i64 (IntKind.wrap IntKind.i64 (r1 + (1:Int)) + (1:Int))) (0:Int)) r0 (g_Vs_l20Writes_2 r0 (IntKind.wrap IntKind.i64 (IntKind.wrap IntKind.i64 (r1 + (1:Int)) + (1:Int))) (0:Int)) ((0:Int),[])) ++ [g_Vs_l20Key_0 r0 (IntKind.wrap IntKind.i64 (g_Vs_l20Writes_2 r0 (IntKind.wrap IntKind.i64 (IntKind.wrap IntKind.i64 (r1 + (1:Int)) + (1:Int))) (0:Int) + (1:Int))) (0:Int)] else valO (g_Ls_l20Note_0 a2 (0:Int) (0:Int) [] [] (at_ (Ty.int IntKind.i64) [(1:Int),(1:Int),(2:Int),(3:Int),(4:Int)] (Int.toNat (g_pick r0 r1 (5:Int)))) (g_pick r0 (IntKind.wrap IntKind.i64 (r1 + (1:Int))) (5:Int)) (g_Vs_l20Writes_0 r0 (IntKind.wrap IntKind.i64 (IntKind.wrap IntKind.i64 (r1 + (1:Int)) + (1:Int))) (0:Int)) r0 (g_Vs_l20Writes_2 r0 (IntKind.wrap IntKind.i64 (IntKind.wrap IntKind.i64 (r1 + (1:Int)) + (1:Int))) (0:Int)) ((0:Int),[])) ++ [g_Vs_l20Key_0 r0 (IntKind.wrap IntKind.i64 (g_Vs_l20Writes_2 r0 (IntKind.wrap IntKind.i64 (IntKind.wrap IntKind.i64 (r1 + (1:Int)) + (1:Int))) (0:Int) + (1:Int))) (0:Int)] else bif g_Vs_l20Rd_odd_0 r0 (IntKind.wrap IntKind.i64 (g_Vs_l20Writes_2 r0 (IntKind.wrap IntKind.i64 (IntKind.wrap IntKind.i64 (r1 + (1:Int)) + (1:Int))) (0:Int) + (1:Int))) a2 then bif g_pick r0 (g_Vs_l20Rd_odd_2 r0 (IntKind.wrap IntKind.i64 (g_Vs_l20Writes_2 r0 (IntKind.wrap IntKind.i64 (IntKind.wrap IntKind.i64 (r1 + (1:Int)) + (1:Int))) (0:Int) + (1:Int))) a2) (5:Int) == (0:Int) then valO (g_Ls_l20Note_0 a2 (0:Int) (0:Int) [] [] (at_ (Ty.int IntKind.i64) [(1:Int),(1:Int),(2:Int),(3:Int),(4:Int)] (Int.toNat (g_pick r0 r1 (5:Int)))) (g_pick r0 (IntKind.wrap IntKind.i64 (r1 + (1:Int))) (5:Int)) (g_Vs_l20Writes_0 r0 (IntKind.wrap IntKind.i64 (IntKind.wrap IntKind.i64 (r1 + (1:Int)) + (1:Int))) (0:Int)) r0 (g_Vs_l20Writes_2 r0 (IntKind.wrap IntKind.i64 (IntKind.wrap IntKind.i64 (r1 + (1:Int)) + (1:Int))) (0:Int)) ((0:Int),[])) else bif g_pick r0 (g_Vs_l20Rd_odd_2 r0 (IntKind.wrap IntKind.i64 (g_Vs_l20Writes_2 r0 (IntKind.wrap IntKind.i64 (IntKind.wrap IntKind.i64 (r1 + (1:Int)) + (1:Int))) (0:Int) + (1:Int))) a2) (5:Int) == (1:Int) then valO (g_Ls_l20Note_0 a2 (0:Int) (0:Int) [] [] (at_ (Ty.int IntKind.i64) [(1:Int),(1:Int),(2:Int),(3:Int),(4:Int)] (Int.toNat (g_pick r0 r1 (5:Int)))) (g_pick r0 (IntKind.wrap IntKind.i64 (r1 + (1:Int))) (5:Int)) (g_Vs_l20Writes_0 r0 (IntKind.wrap IntKind.i64 (IntKind.wrap IntKind.i64 (r1 + (1:Int)) + (1:Int))) (0:Int)) r0 (g_Vs_l20Writes_2 r0 (IntKind.wrap IntKind.i64 (IntKind.wrap IntKind.i64 (r1 + (1:Int)) + (1:Int))) (0:Int)) ((0:Int),[])) else bif g_pick r0 (g_Vs_l20Rd_odd_2 r0 (IntKind.wrap IntKind.i64 (g_Vs_l20Writes_2 r0 (IntKind.wrap IntKind.i64 (IntKind.wrap IntKind.i64 (r1 + (1:Int)) + (1:Int))) (0:Int) + (1:Int))) a2) (5:Int) == (2:Int) then valO (g_Ls_l20Note_0 a2 (0:Int) (0:Int) [] [] (at_ (Ty.int IntKind.i64) [(1:Int),(1:Int),(2:Int),(3:Int),(4:Int)] (Int.toNat (g_pick r0 r1 (5:Int)))) (g_pick r0 (IntKind.wrap IntKind.i64 (r1 + (1:Int))) (5:Int)) (g_Vs_l20Writes_0 r0 (IntKind.wrap IntKind.i64 (IntKind.wrap IntKind.i64 (r1 + (1:Int)) + (1:Int))) (0:Int)) r0 (g_Vs_l20Writes_2 r0 (IntKind.wrap IntKind.i64 (IntKind.wrap IntKind.i64 (r1 + (1:Int)) + (1:Int))) (0:Int)) ((0:Int),[])) ++ [lit []] else bif g_pick r0 (g_Vs_l20Rd_odd_2 r0 (IntKind.wrap IntKind.i64 (g_Vs_l20Writes_2 r0 (IntKind.wrap IntKind.i64 (IntKind.wrap IntKind.i64 (r1 + (1:Int)) + (1:Int))) (0:Int) + (1:Int))) a2) (5:Int) == (3:Int) then valO (g_Ls_l20Note_0 a2 (0:Int) (0:Int) [] [] (at_ (Ty.int IntKind.i64) [(1:Int),(1:Int),(2:Int),(3:Int),(4:Int)] (Int.toNat (g_pick r0 r1 (5:Int)))) (g_pick r0 (IntKind.wrap IntKind.i64 (r1 + (1:Int))) (5:Int)) (g_Vs_l20Writes_0 r0 (IntKind.wrap IntKind.i64 (IntKind.wrap IntKind.i64 (r1 + (1:Int)) + (1:Int))) (0:Int)) r0 (g_Vs_l20Writes_2 r0 (IntKind.wrap IntKind.i64 (IntKind.wrap IntKind.i64 (r1 + (1:Int)) + (1:Int))) (0:Int)) ((0:Int),[])) else valO (g_Ls_l20Note_0 a2 (0:Int) (0:Int) [] [] (at_ (Ty.int IntKind.i64) [(1:Int),(1:Int),(2:Int),(3:Int),(4:Int)] (Int.toNat (g_pick r0 r1 (5:Int)))) (g_pick r0 (IntKind.wrap IntKind.i64 (r1 + (1:Int))) (5:Int)) (g_Vs_l20Writes_0 r0 (IntKind.wrap IntKind.i64 (IntKind.wrap IntKind.i64 (r1 + (1:Int)) + (1:Int))) (0:Int)) r0 (g_Vs_l20Writes_2 r0 (IntKind.wrap IntKind.i64 (IntKind.wrap IntKind.i64 (r1 + (1:Int)) + (1:Int))) (0:Int)) ((0:Int),[])) else valO (g_Ls_l20Note_0 a2 (0:Int) (0:Int) [] [] (at_ (Ty.int IntKind.i64) [(1:Int),(1:Int),(2:Int),(3:Int),(4:Int)] (Int.toNat (g_pick r0 r1 (5:Int)))) (g_pick r0 (IntKind.wrap IntKind.i64 (r1 + (1:Int))) (5:Int)) (g_Vs_l20Writes_0 r0 (IntKind.wrap IntKind.i64 (IntKind.wrap IntKind.i64 (r1 + (1:Int)) + (1:Int))) (0:Int)) r0 (g_Vs_l20Writes_2 r0 (IntKind.wrap IntKind.i64 (IntKind.wrap IntKind.i64 (r1 + (1:Int)) + (1:Int))) (0:Int)) ((0:Int),[])) else bif g_Vs_l20Rd_odd_0 r0 (IntKind.wrap IntKind.i64 (IntKind.wrap IntKind.i64 (r1 + (1:Int)) + (1:Int))) a2 then bif g_pick r0 (g_Vs_l20Rd_odd_2 r0 (IntKind.wrap IntKind.i64 (IntKind.wrap IntKind.i64 (r1 + (1:Int)) + (1:Int))) a2) (5:Int) == (0:Int) then [] else bif g_pick r0 (g_Vs_l20Rd_odd_2 r0 (IntKind.wrap IntKind.i64 (IntKind.wrap IntKind.i64 (r1 + (1:Int)) + (1:Int))) a2) (5:Int) == (1:Int) then [] else bif g_pick r0 (g_Vs_l20Rd_odd_2 r0 (IntKind.wrap IntKind.i64 (IntKind.wrap IntKind.i64 (r1 + (1:Int)) + (1:Int))) a2) (5:Int) == (2:Int) then [lit []] else bif g_pick r0 (g_Vs_l20Rd_odd_2 r0 (IntKind.wrap IntKind.i64 (IntKind.wrap IntKind.i64 (r1 + (1:Int)) + (1:Int))) a2) (5:Int) == (3:Int) then [] else [] else []
noncomputable def g_Vs_l20Note_3 (r0:List Int) (r1:Int) (a2:Int):List (ByteArray×(Bool×(List Int))) := bif at_ (Ty.int IntKind.i64) [(1:Int),(1:Int),(2:Int),(3:Int),(4:Int)] (Int.toNat (g_pick r0 r1 (5:Int))) == (1:Int) then bif g_pick r0 (g_Vs_l20Writes_2 r0 (IntKind.wrap IntKind.i64 (IntKind.wrap IntKind.i64 (r1 + (1:Int)) + (1:Int))) (0:Int)) (2:Int) == (0:Int) then bif g_Vs_l20Rd_odd_0 r0 (g_Vs_l20Key_2 r0 (IntKind.wrap IntKind.i64 (g_Vs_l20Writes_2 r0 (IntKind.wrap IntKind.i64 (IntKind.wrap IntKind.i64 (r1 + (1:Int)) + (1:Int))) (0:Int) + (1:Int))) (0:Int)) a2 then bif g_pick r0 (g_Vs_l20Rd_odd_2 r0 (g_Vs_l20Key_2 r0 (IntKind.wrap IntKind.i64 (g_Vs_l20Writes_2 r0 (IntKind.wrap IntKind.i64 (IntKind.wrap IntKind.i64 (r1 + (1:Int)) + (1:Int))) (0:Int) + (1:Int))) (0:Int)) a2) (5:Int) == (0:Int) then g_Vs_l20Writes_0 r0 (IntKind.wrap IntKind.i64 (IntKind.wrap IntKind.i64 (r1 + (1:Int)) + (1:Int))) (0:Int) else bif g_pick r0 (g_Vs_l20Rd_odd_2 r0 (g_Vs_l20Key_2 r0 (IntKind.wrap IntKind.i64 (g_Vs_l20Writes_2 r0 (IntKind.wrap IntKind.i64 (IntKind.wrap IntKind.i64 (r1 + (1:Int)) + (1:Int))) (0:Int) + (1:Int))) (0:Int)) a2) (5:Int) == (1:Int) then g_Vs_l20Writes_0 r0 (IntKind.wrap IntKind.i64 (IntKind.wrap IntKind.i64 (r1 + (1:Int)) + (1:Int))) (0:Int) else bif g_pick r0 (g_Vs_l20Rd_odd_2 r0 (g_Vs_l20Key_2 r0 (IntKind.wrap IntKind.i64 (g_Vs_l20Writes_2 r0 (IntKind.wrap IntKind.i64 (IntKind.wrap IntKind.i64 (r1 + (1:Int)) + (1:Int))) (0:Int) + (1:Int))) (0:Int)) a2) (5:Int) == (2:Int) then g_Vs_l20Writes_0 r0 (IntKind.wrap IntKind.i64 (IntKind.wrap IntKind.i64 (r1 + (1:Int)) + (1:Int))) (0:Int) else bif g_pick r0 (g_Vs_l20Rd_odd_2 r0 (g_Vs_l20Key_2 r0 (IntKind.wrap IntKind.i64 (g_Vs_l20Writes_2 r0 (IntKind.wrap IntKind.i64 (IntKind.wrap IntKind.i64 (r1 + (1:Int)) + (1:Int))) (0:Int) + (1:Int))) (0:Int)) a2) (5:Int) == (3:Int) then g_Vs_l20Writes_0 r0 (IntKind.wrap IntKind.i64 (IntKind.wrap IntKind.i64 (r1 + (1:Int)) + (1:Int))) (0:Int) ++ [(lit [(122:Nat),(49:Nat)],false,[(1:Int)])] else g_Vs_l20Writes_0 r0 (IntKind.wrap IntKind.i64 (IntKind.wrap IntKind.i64 (r1 + (1:Int)) + (1:Int))) (0:Int) ++ [(g_Vs_l20Write_0 r0 (IntKind.wrap IntKind.i64 (g_Vs_l20Rd_odd_2 r0 (g_Vs_l20Key_2 r0 (IntKind.wrap IntKind.i64 (g_Vs_l20Writes_2 r0 (IntKind.wrap IntKind.i64 (IntKind.wrap IntKind.i64 (r1 + (1:Int)) + (1:Int))) (0:Int) + (1:Int))) (0:Int)) a2 + (1:Int))) (1:Int),g_Vs_l20Write_1 r0 (IntKind.wrap IntKind.i64 (g_Vs_l20Rd_odd_2 r0 (g_Vs_l20Key_2 r0 (IntKind.wrap IntKind.i64 (g_Vs_l20Writes_2 r0 (IntKind.wrap IntKind.i64 (IntKind.wrap IntKind.i64 (r1 + (1:Int)) + (1:Int))) (0:Int) + (1:Int))) (0:Int)) a2 + (1:Int))) (1:Int),g_Vs_l20Write_2 r0 (IntKind.wrap IntKind.i64 (g_Vs_l20Rd_odd_2 r0 (g_Vs_l20Key_2 r0 (IntKind.wrap IntKind.i64 (g_Vs_l20Writes_2 r0 (IntKind.wrap IntKind.i64 (IntKind.wrap IntKind.i64 (r1 + (1:Int)) + (1:Int))) (0:Int) + (1:Int))) (0:Int)) a2 + (1:Int))) (1:Int))] else g_Vs_l20Writes_0 r0 (IntKind.wrap IntKind.i64 (IntKind.wrap IntKind.i64 (r1 + (1:Int)) + (1:Int))) (0:Int) else bif g_Vs_l20Rd_odd_0 r0 (IntKind.wrap IntKind.i64 (g_Vs_l20Writes_2 r0 (IntKind.wrap IntKind.i64 (IntKind.wrap IntKind.i64 (r1 + (1:Int)) + (1:Int))) (0:Int) + (1:Int))) a2 then bif g_pick r0 (g_Vs_l20Rd_odd_2 r0 (IntKind.wrap IntKind.i64 (g_Vs_l20Writes_2 r0 (IntKind.wrap IntKind.i64 (IntKind.wrap IntKind.i64 (r1 + (1:Int)) + (1:Int))) (0:Int) + (1:Int))) a2) (5:Int) == (0:Int) then g_Vs_l20Writes_0 r0 (IntKind.wrap IntKind.i64 (IntKind.wrap IntKind.i64 (r1 + (1:Int)) + (1:Int))) (0:Int) else bif g_pick r0 (g_Vs_l20Rd_odd_2 r0 (IntKind.wrap IntKind.i64 (g_Vs_l20Writes_2 r0 (IntKind.wrap IntKind.i64 (IntKind.wrap IntKind.i64 (r1 + (1:Int)) + (1:Int))) (0:Int) + (1:Int))) a2) (5:Int) == (1:Int) then g_Vs_l20Writes_0 r0 (IntKind.wrap IntKind.i64 (IntKind.wrap IntKind.i64 (r1 + (1:Int)) + (1:Int))) (0:Int) else bif g_pick r0 (g_Vs_l20Rd_odd_2 r0 (IntKind.wrap IntKind.i64 (g_Vs_l20Writes_2 r0 (IntKind.wrap IntKind.i64 (IntKind.wrap IntKind.i64 (r1 + (1:Int)) + (1:Int))) (0:Int) + (1:Int))) a2) (5:Int) == (2:Int) then g_Vs_l20Writes_0 r0 (IntKind.wrap IntKind.i64 (IntKind.wrap IntKind.i64 (r1 + (1:Int)) + (1:Int))) (0:Int) else bif g_pick r0 (g_Vs_l20Rd_odd_2 r0 (IntKind.wrap IntKind.i64 (g_Vs_l20Writes_2 r0 (IntKind.wrap IntKind.i64 (IntKind.wrap IntKind.i64 (r1 + (1:Int)) + (1:Int))) (0:Int) + (1:Int))) a2) (5:Int) == (3:Int) then g_Vs_l20Writes_0 r0 (IntKind.wrap IntKind.i64 (IntKind.wrap IntKind.i64 (r1 + (1:Int)) + (1:Int))) (0:Int) ++ [(lit [(122:Nat),(49:Nat)],false,[(1:Int)])] else g_Vs_l20Writes_0 r0 (IntKind.wrap IntKind.i64 (IntKind.wrap IntKind.i64 (r1 + (1:Int)) + (1:Int))) (0:Int) ++ [(g_Vs_l20Write_0 r0 (IntKind.wrap IntKind.i64 (g_Vs_l20Rd_odd_2 r0 (IntKind.wrap IntKind.i64 (g_Vs_l20Writes_2 r0 (IntKind.wrap IntKind.i64 (IntKind.wrap IntKind.i64 (r1 + (1:Int)) + (1:Int))) (0:Int) + (1:Int))) a2 + (1:Int))) (1:Int),g_Vs_l20Write_1 r0 (IntKind.wrap IntKind.i64 (g_Vs_l20Rd_odd_2 r0 (IntKind.wrap IntKind.i64 (g_Vs_l20Writes_2 r0 (IntKind.wrap IntKind.i64 (IntKind.wrap IntKind.i64 (r1 + (1:Int)) + (1:Int))) (0:Int) + (1:Int))) a2 + (1:Int))) (1:Int),g_Vs_l20Write_2 r0 (IntKind.wrap IntKind.i64 (g_Vs_l20Rd_odd_2 r0 (IntKind.wrap IntKind.i64 (g_Vs_l20Writes_2 r0 (IntKind.wrap IntKind.i64 (IntKind.wrap IntKind.i64 (r1 + (1:Int)) + (1:Int))) (0:Int) + (1:Int))) a2 + (1:Int))) (1:Int))] else g_Vs_l20Writes_0 r0 (IntKind.wrap IntKind.i64 (IntKind.wrap IntKind.i64 (r1 + (1:Int)) + (1:Int))) (0:Int) else bif g_Vs_l20Rd_odd_0 r0 (IntKind.wrap IntKind.i64 (IntKind.wrap IntKind.i64 (r1 + (1:Int)) + (1:Int))) a2 then bif g_pick r0 (g_Vs_l20Rd_odd_2 r0 (IntKind.wrap IntKind.i64 (IntKind.wrap IntKind.i64 (r1 + (1:Int)) + (1:Int))) a2) (5:Int) == (0:Int) then [] else bif g_pick r0 (g_Vs_l20Rd_odd_2 r0 (IntKind.wrap IntKind.i64 (IntKind.wrap IntKind.i64 (r1 + (1:Int)) + (1:Int))) a2) (5:Int) == (1:Int) then [] else bif g_pick r0 (g_Vs_l20Rd_odd_2 r0 (IntKind.wrap IntKind.i64 (IntKind.wrap IntKind.i64 (r1 + (1:Int)) + (1:Int))) a2) (5:Int) == (2:Int) then [] else bif g_pick r0 (g_Vs_l20Rd_odd_2 r0 (IntKind.wrap IntKind.i64 (IntKind.wrap IntKind.i64 (r1 + (1:Int)) + (1:Int))) a2) (5:Int) == (3:Int) then [(lit [(122:Nat),(49:Nat)],false,[(1:Int)])] else [] ++ [(g_Vs_l20Write_0 r0 (IntKind.wrap IntKind.i64 (g_Vs_l20Rd_odd_2 r0 (IntKind.wrap IntKind.i64 (IntKind.wrap IntKind.i64 (r1 + (1:Int)) + (1:Int))) a2 + (1:Int))) (1:Int),g_Vs_l20Write_1 r0 (IntKind.wrap IntKind.i64 (g_Vs_l20Rd_odd_2 r0 (IntKind.wrap IntKind.i64 (IntKind.wrap IntKind.i64 (r1 + (1:Int)) + (1:Int))) a2 + (1:Int))) (1:Int),g_Vs_l20Write_2 r0 (IntKind.wrap IntKind.i64 (g_Vs_l20Rd_odd_2 r0 (IntKind.wrap IntKind.i64 (IntKind.wrap IntKind.i64 (r1 + (1:Int)) + (1:Int))) a2 + (1:Int))) (1:Int))] else []
noncomputable def g_Vs_l20Note_4 (r0:List Int) (r1:Int) (a2:Int):List Int := bif at_ (Ty.int IntKind.i64) [(1:Int),(1:Int),(2:Int),(3:Int),(4:Int)] (Int.toNat (g_pick r0 r1 (5:Int))) == (1:Int) then bif g_pick r0 (g_Vs_l20Writes_2 r0 (IntKind.wrap IntKind.i64 (IntKind.wrap IntKind.i64 (r1 + (1:Int)) + (1:Int))) (0:Int)) (2:Int) == (0:Int) then bif g_Vs_l20Rd_odd_0 r0 (g_Vs_l20Key_2 r0 (IntKind.wrap IntKind.i64 (g_Vs_l20Writes_2 r0 (IntKind.wrap IntKind.i64 (IntKind.wrap IntKind.i64 (r1 + (1:Int)) + (1:Int))) (0:Int) + (1:Int))) (0:Int)) a2 then bif g_pick r0 (g_Vs_l20Rd_odd_2 r0 (g_Vs_l20Key_2 r0 (IntKind.wrap IntKind.i64 (g_Vs_l20Writes_2 r0 (IntKind.wrap IntKind.i64 (IntKind.wrap IntKind.i64 (r1 + (1:Int)) + (1:Int))) (0:Int) + (1:Int))) (0:Int)) a2) (5:Int) == (0:Int) then r0 else bif g_pick r0 (g_Vs_l20Rd_odd_2 r0 (g_Vs_l20Key_2 r0 (IntKind.wrap IntKind.i64 (g_Vs_l20Writes_2 r0 (IntKind.wrap IntKind.i64 (IntKind.wrap IntKind.i64 (r1 + (1:Int)) + (1:Int))) (0:Int) + (1:Int))) (0:Int)) a2) (5:Int) == (1:Int) then r0 else bif g_pick r0 (g_Vs_l20Rd_odd_2 r0 (g_Vs_l20Key_2 r0 (IntKind.wrap IntKind.i64 (g_Vs_l20Writes_2 r0 (IntKind.wrap IntKind.i64 (IntKind.wrap IntKind.i64 (r1 + (1:Int)) + (1:Int))) (0:Int) + (1:Int))) (0:Int)) a2) (5:Int) == (2:Int) then r0 else bif g_pick r0 (g_Vs_l20Rd_odd_2 r0 (g_Vs_l20Key_2 r0 (IntKind.wrap IntKind.i64 (g_Vs_l20Writes_2 r0 (IntKind.wrap IntKind.i64 (IntKind.wrap IntKind.i64 (r1 + (1:Int)) + (1:Int))) (0:Int) + (1:Int))) (0:Int)) a2) (5:Int) == (3:Int) then r0 else r0 else r0 else bif g_Vs_l20Rd_odd_0 r0 (IntKind.wrap IntKind.i64 (g_Vs_l20Writes_2 r0 (IntKind.wrap IntKind.i64 (IntKind.wrap IntKind.i64 (r1 + (1:Int)) + (1:Int))) (0:Int) + (1:Int))) a2 then bif g_pick r0 (g_Vs_l20Rd_odd_2 r0 (IntKind.wrap IntKind.i64 (g_Vs_l20Writes_2 r0 (IntKind.wrap IntKind.i64 (IntKind.wrap IntKind.i64 (r1 + (1:Int)) + (1:Int))) (0:Int) + (1:Int))) a2) (5:Int) == (0:Int) then r0 else bif g_pick r0 (g_Vs_l20Rd_odd_2 r0 (IntKind.wrap IntKind.i64 (g_Vs_l20Writes_2 r0 (IntKind.wrap IntKind.i64 (IntKind.wrap IntKind.i64 (r1 + (1:Int)) + (1:Int))) (0:Int) + (1:Int))) a2) (5:Int) == (1:Int) then r0 else bif g_pick r0 (g_Vs_l20Rd_odd_2 r0 (IntKind.wrap IntKind.i64 (g_Vs_l20Writes_2 r0 (IntKind.wrap IntKind.i64 (IntKind.wrap IntKind.i64 (r1 + (1:Int)) + (1:Int))) (0:Int) + (1:Int))) a2) (5:Int) == (2:Int) then r0 else bif g_pick r0 (g_Vs_l20Rd_odd_2 r0 (IntKind.wrap IntKind.i64 (g_Vs_l20Writes_2 r0 (IntKind.wrap IntKind.i64 (IntKind.wrap IntKind.i64 (r1 + (1:Int)) + (1:Int))) (0:Int) + (1:Int))) a2) (5:Int) == (3:Int) then r0 else r0 else r0 else bif g_Vs_l20Rd_odd_0 r0 (IntKind.wrap IntKind.i64 (IntKind.wrap IntKind.i64 (r1 + (1:Int)) + (1:Int))) a2 then bif g_pick r0 (g_Vs_l20Rd_odd_2 r0 (IntKind.wrap IntKind.i64 (IntKind.wrap IntKind.i64 (r1 + (1:Int)) + (1:Int))) a2) (5:Int) == (0:Int) then r0 else bif g_pick r0 (g_Vs_l20Rd_odd_2 r0 (IntKind.wrap IntKind.i64 (IntKind.wrap IntKind.i64 (r1 + (1:Int)) + (1:Int))) a2) (5:Int) == (1:Int) then r0 else bif g_pick r0 (g_Vs_l20Rd_odd_2 r0 (IntKind.wrap IntKind.i64 (IntKind.wrap IntKind.i64 (r1 + (1:Int)) + (1:Int))) a2) (5:Int) == (2:Int) then r0 else bif g_pick r0 (g_Vs_l20Rd_odd_2 r0 (IntKind.wrap IntKind.i64 (IntKind.wrap IntKind.i64 (r1 + (1:Int)) + (1:Int))) a2) (5:Int) == (3:Int) then r0 else r0 else r0
noncomputable def g_Vs_l20Note_5 (r0:List Int) (r1:Int) (a2:Int):Int := bif at_ (Ty.int IntKind.i64) [(1:Int),(1:Int),(2:Int),(3:Int),(4:Int)] (Int.toNat (g_pick r0 r1 (5:Int))) == (1:Int) then bif g_pick r0 (g_Vs_l20Writes_2 r0 (IntKind.wrap IntKind.i64 (IntKind.wrap IntKind.i64 (r1 + (1:Int)) + (1:Int))) (0:Int)) (2:Int) == (0:Int) then bif g_Vs_l20Rd_odd_0 r0 (g_Vs_l20Key_2 r0 (IntKind.wrap IntKind.i64 (g_Vs_l20Writes_2 r0 (IntKind.wrap IntKind.i64 (IntKind.wrap IntKind.i64 (r1 + (1:Int)) + (1:Int))) (0:Int) + (1:Int))) (0:Int)) a2 then bif g_pick r0 (g_Vs_l20Rd_odd_2 r0 (g_Vs_l20Key_2 r0 (IntKind.wrap IntKind.i64 (g_Vs_l20Writes_2 r0 (IntKind.wrap IntKind.i64 (IntKind.wrap IntKind.i64 (r1 + (1:Int)) + (1:Int))) (0:Int) + (1:Int))) (0:Int)) a2) (5:Int) == (0:Int) then IntKind.wrap IntKind.i64 (IntKind.wrap IntKind.i64 (g_Vs_l20Rd_odd_2 r0 (g_Vs_l20Key_2 r0 (IntKind.wrap IntKind.i64 (g_Vs_l20Writes_2 r0 (IntKind.wrap IntKind.i64 (IntKind.wrap IntKind.i64 (r1 + (1:Int)) + (1:Int))) (0:Int) + (1:Int))) (0:Int)) a2 + (1:Int)) + (1:Int)) else bif g_pick r0 (g_Vs_l20Rd_odd_2 r0 (g_Vs_l20Key_2 r0 (IntKind.wrap IntKind.i64 (g_Vs_l20Writes_2 r0 (IntKind.wrap IntKind.i64 (IntKind.wrap IntKind.i64 (r1 + (1:Int)) + (1:Int))) (0:Int) + (1:Int))) (0:Int)) a2) (5:Int) == (1:Int) then IntKind.wrap IntKind.i64 (IntKind.wrap IntKind.i64 (g_Vs_l20Rd_odd_2 r0 (g_Vs_l20Key_2 r0 (IntKind.wrap IntKind.i64 (g_Vs_l20Writes_2 r0 (IntKind.wrap IntKind.i64 (IntKind.wrap IntKind.i64 (r1 + (1:Int)) + (1:Int))) (0:Int) + (1:Int))) (0:Int)) a2 + (1:Int)) + (1:Int)) else bif g_pick r0 (g_Vs_l20Rd_odd_2 r0 (g_Vs_l20Key_2 r0 (IntKind.wrap IntKind.i64 (g_Vs_l20Writes_2 r0 (IntKind.wrap IntKind.i64 (IntKind.wrap IntKind.i64 (r1 + (1:Int)) + (1:Int))) (0:Int) + (1:Int))) (0:Int)) a2) (5:Int) == (2:Int) then IntKind.wrap IntKind.i64 (g_Vs_l20Rd_odd_2 r0 (g_Vs_l20Key_2 r0 (IntKind.wrap IntKind.i64 (g_Vs_l20Writes_2 r0 (IntKind.wrap IntKind.i64 (IntKind.wrap IntKind.i64 (r1 + (1:Int)) + (1:Int))) (0:Int) + (1:Int))) (0:Int)) a2 + (1:Int)) else bif g_pick r0 (g_Vs_l20Rd_odd_2 r0 (g_Vs_l20Key_2 r0 (IntKind.wrap IntKind.i64 (g_Vs_l20Writes_2 r0 (IntKind.wrap IntKind.i64 (IntKind.wrap IntKind.i64 (r1 + (1:Int)) + (1:Int))) (0:Int) + (1:Int))) (0:Int)) a2) (5:Int) == (3:Int) then IntKind.wrap IntKind.i64 (g_Vs_l20Rd_odd_2 r0 (g_Vs_l20Key_2 r0 (IntKind.wrap IntKind.i64 (g_Vs_l20Writes_2 r0 (IntKind.wrap IntKind.i64 (IntKind.wrap IntKind.i64 (r1 + (1:Int)) + (1:Int))) (0:Int) + (1:Int))) (0:Int)) a2 + (1:Int)) else g_Vs_l20Write_4 r0 (IntKind.wrap IntKind.i64 (g_Vs_l20Rd_odd_2 r0 (g_Vs_l20Key_2 r0 (IntKind.wrap IntKind.i64 (g_Vs_l20Writes_2 r0 (IntKind.wrap IntKind.i64 (IntKind.wrap IntKind.i64 (r1 + (1:Int)) + (1:Int))) (0:Int) + (1:Int))) (0:Int)) a2 + (1:Int))) (1:Int) else g_Vs_l20Rd_odd_2 r0 (g_Vs_l20Key_2 r0 (IntKind.wrap IntKind.i64 (g_Vs_l20Writes_2 r0 (IntKind.wrap IntKind.i64 (IntKind.wrap IntKind.i64 (r1 + (1:Int)) + (1:Int))) (0:Int) + (1:Int))) (0:Int)) a2 else bif g_Vs_l20Rd_odd_0 r0 (IntKind.wrap IntKind.i64 (g_Vs_l20Writes_2 r0 (IntKind.wrap IntKind.i64 (IntKind.wrap IntKind.i64 (r1 + (1:Int)) + (1:Int))) (0:Int) + (1:Int))) a2 then bif g_pick r0 (g_Vs_l20Rd_odd_2 r0 (IntKind.wrap IntKind.i64 (g_Vs_l20Writes_2 r0 (IntKind.wrap IntKind.i64 (IntKind.wrap IntKind.i64 (r1 + (1:Int)) + (1:Int))) (0:Int) + (1:Int))) a2) (5:Int) == (0:Int) then IntKind.wrap IntKind.i64 (IntKind.wrap IntKind.i64 (g_Vs_l20Rd_odd_2 r0 (IntKind.wrap IntKind.i64 (g_Vs_l20Writes_2 r0 (IntKind.wrap IntKind.i64 (IntKind.wrap IntKind.i64 (r1 + (1:Int)) + (1:Int))) (0:Int) + (1:Int))) a2 + (1:Int)) + (1:Int)) else bif g_pick r0 (g_Vs_l20Rd_odd_2 r0 (IntKind.wrap IntKind.i64 (g_Vs_l20Writes_2 r0 (IntKind.wrap IntKind.i64 (IntKind.wrap IntKind.i64 (r1 + (1:Int)) + (1:Int))) (0:Int) + (1:Int))) a2) (5:Int) == (1:Int) then IntKind.wrap IntKind.i64 (IntKind.wrap IntKind.i64 (g_Vs_l20Rd_odd_2 r0 (IntKind.wrap IntKind.i64 (g_Vs_l20Writes_2 r0 (IntKind.wrap IntKind.i64 (IntKind.wrap IntKind.i64 (r1 + (1:Int)) + (1:Int))) (0:Int) + (1:Int))) a2 + (1:Int)) + (1:Int)) else bif g_pick r0 (g_Vs_l20Rd_odd_2 r0 (IntKind.wrap IntKind.i64 (g_Vs_l20Writes_2 r0 (IntKind.wrap IntKind.i64 (IntKind.wrap IntKind.i64 (r1 + (1:Int)) + (1:Int))) (0:Int) + (1:Int))) a2) (5:Int) == (2:Int) then IntKind.wrap IntKind.i64 (g_Vs_l20Rd_odd_2 r0 (IntKind.wrap IntKind.i64 (g_Vs_l20Writes_2 r0 (IntKind.wrap IntKind.i64 (IntKind.wrap IntKind.i64 (r1 + (1:Int)) + (1:Int))) (0:Int) + (1:Int))) a2 + (1:Int)) else bif g_pick r0 (g_Vs_l20Rd_odd_2 r0 (IntKind.wrap IntKind.i64 (g_Vs_l20Writes_2 r0 (IntKind.wrap IntKind.i64 (IntKind.wrap IntKind.i64 (r1 + (1:Int)) + (1:Int))) (0:Int) + (1:Int))) a2) (5:Int) == (3:Int) then IntKind.wrap IntKind.i64 (g_Vs_l20Rd_odd_2 r0 (IntKind.wrap IntKind.i64 (g_Vs_l20Writes_2 r0 (IntKind.wrap IntKind.i64 (IntKind.wrap IntKind.i64 (r1 + (1:Int)) + (1:Int))) (0:Int) + (1:Int))) a2 + (1:Int)) else g_Vs_l20Write_4 r0 (IntKind.wrap IntKind.i64 (g_Vs_l20Rd_odd_2 r0 (IntKind.wrap IntKind.i64 (g_Vs_l20Writes_2 r0 (IntKind.wrap IntKind.i64 (IntKind.wrap IntKind.i64 (r1 + (1:Int)) + (1:Int))) (0:Int) + (1:Int))) a2 + (1:Int))) (1:Int) else g_Vs_l20Rd_odd_2 r0 (IntKind.wrap IntKind.i64 (g_Vs_l20Writes_2 r0 (IntKind.wrap IntKind.i64 (IntKind.wrap IntKind.i64 (r1 + (1:Int)) + (1:Int))) (0:Int) + (1:Int))) a2 else bif g_Vs_l20Rd_odd_0 r0 (IntKind.wrap IntKind.i64 (IntKind.wrap IntKind.i64 (r1 + (1:Int)) + (1:Int))) a2 then bif g_pick r0 (g_Vs_l20Rd_odd_2 r0 (IntKind.wrap IntKind.i64 (IntKind.wrap IntKind.i64 (r1 + (1:Int)) + (1:Int))) a2) (5:Int) == (0:Int) then IntKind.wrap IntKind.i64 (IntKind.wrap IntKind.i64 (g_Vs_l20Rd_odd_2 r0 (IntKind.wrap IntKind.i64 (IntKind.wrap IntKind.i64 (r1 + (1:Int)) + (1:Int))) a2 + (1:Int)) + (1:Int)) else bif g_pick r0 (g_Vs_l20Rd_odd_2 r0 (IntKind.wrap IntKind.i64 (IntKind.wrap IntKind.i64 (r1 + (1:Int)) + (1:Int))) a2) (5:Int) == (1:Int) then IntKind.wrap IntKind.i64 (IntKind.wrap IntKind.i64 (g_Vs_l20Rd_odd_2 r0 (IntKind.wrap IntKind.i64 (IntKind.wrap IntKind.i64 (r1 + (1:Int)) + (1:Int))) a2 + (1:Int)) + (1:Int)) else bif g_pick r0 (g_Vs_l20Rd_odd_2 r0 (IntKind.wrap IntKind.i64 (IntKind.wrap IntKind.i64 (r1 + (1:Int)) + (1:Int))) a2) (5:Int) == (2:Int) then IntKind.wrap IntKind.i64 (g_Vs_l20Rd_odd_2 r0 (IntKind.wrap IntKind.i64 (IntKind.wrap IntKind.i64 (r1 + (1:Int)) + (1:Int))) a2 + (1:Int)) else bif g_pick r0 (g_Vs_l20Rd_odd_2 r0 (IntKind.wrap IntKind.i64 (IntKind.wrap IntKind.i64 (r1 + (1:Int)) + (1:Int))) a2) (5:Int) == (3:Int) then IntKind.wrap IntKind.i64 (g_Vs_l20Rd_odd_2 r0 (IntKind.wrap IntKind.i64 (IntKind.wrap IntKind.i64 (r1 + (1:Int)) + (1:Int))) a2 + (1:Int)) else g_Vs_l20Write_4 r0 (IntKind.wrap IntKind.i64 (g_Vs_l20Rd_odd_2 r0 (IntKind.wrap IntKind.i64 (IntKind.wrap IntKind.i64 (r1 + (1:Int)) + (1:Int))) a2 + (1:Int))) (1:Int) else g_Vs_l20Rd_odd_2 r0 (IntKind.wrap IntKind.i64 (IntKind.wrap IntKind.i64 (r1 + (1:Int)) + (1:Int))) a2
noncomputable def Fs_l20Note:FSem := fun ys => match ys with
 | [.val true [.sl .any 5 (.int .u8) r0,.int .i64 r1],.val false [.int .i64 a2]] => some ((g_As_l20Note r0 r1 a2),.val true [.int .i64 (g_Vs_l20Note_0 r0 r1 a2),.int .i64 (g_Vs_l20Note_1 r0 r1 a2),.sl .any 9 .str (g_Vs_l20Note_2 r0 r1 a2),.sl .any 76 (.pair .str (.pair .bool (.sl 3 (.int .i64)))) (g_Vs_l20Note_3 r0 r1 a2)],[[.sl .any 5 (.int .u8) (g_Vs_l20Note_4 r0 r1 a2),.int .i64 (g_Vs_l20Note_5 r0 r1 a2)]])
 | _ => none
theorem vs_l20Note (r0:List Int) (r1:Int) (a2:Int):collapseH .fr Es_l20Note Os_l20Note_1 (execFn Es_l20Note Tryd.f44 mss_l20Note [.val true [.sl .any 5 (.int .u8) r0,.int .i64 r1],.val false [.int .i64 a2]]) = some ((g_As_l20Note r0 r1 a2),.val true [.int .i64 (g_Vs_l20Note_0 r0 r1 a2),.int .i64 (g_Vs_l20Note_1 r0 r1 a2),.sl .any 9 .str (g_Vs_l20Note_2 r0 r1 a2),.sl .any 76 (.pair .str (.pair .bool (.sl 3 (.int .i64)))) (g_Vs_l20Note_3 r0 r1 a2)],[[.sl .any 5 (.int .u8) (g_Vs_l20Note_4 r0 r1 a2),.int .i64 (g_Vs_l20Note_5 r0 r1 a2)]]) := by kernel_rfl
theorem ss_l20Note:Sound Tryd.prog 44 mss_l20Note Fs_l20Note := by
 refine fn_gen goods_l20Note (by kernel_rfl) .fr (fn := Tryd.f44) (c := (Tryd.f44.body.getD .skip)) (o := Os_l20Note_1) (k := 1) (by kernel_rfl) (by kernel_rfl) (by kernel_rfl) (by kernel_rfl) (by decide) ks_l20Note_1 ?_
 intro ys r outs h
 unfold Fs_l20Note at h
 split at h
 ·exact (vs_l20Note _ _ _).trans h
 ·cases h
noncomputable def mss_l20NoteR:List PM := mss_l20Note
theorem sames_l20Note (r0:List Int) (r1:Int) (a2:Int):g_Vs_l20Note_4 r0 r1 a2 = r0 := by
 unfold g_Vs_l20Note_4
 simp only [Bool.cond_self]
noncomputable def Fs_l20NoteR:FSem := fun ys => match ys with
 | [.val true [.sl .any 5 (.int .u8) r0,.int .i64 r1],.val false [.int .i64 a2]] => some ((g_As_l20Note r0 r1 a2),.val true [.int .i64 (g_Vs_l20Note_0 r0 r1 a2),.int .i64 (g_Vs_l20Note_1 r0 r1 a2),.sl .any 9 .str (g_Vs_l20Note_2 r0 r1 a2),.sl .any 76 (.pair .str (.pair .bool (.sl 3 (.int .i64)))) (g_Vs_l20Note_3 r0 r1 a2)],[[.sl .any 5 (.int .u8) r0,.int .i64 (g_Vs_l20Note_5 r0 r1 a2)]])
 | _ => none
theorem ss_l20NoteR:Sound Tryd.prog 44 mss_l20NoteR Fs_l20NoteR := by
 refine ⟨ss_l20Note.fn,fun w S ψ ys vs r outs hF hh hg => ss_l20Note.calls w S ψ ys vs r outs (Eq.trans ?_ hF) hh hg⟩
 unfold Fs_l20NoteR at hF ⊢
 split at hF
 ·rename_i  r0 r1 a2
  show (some ((g_As_l20Note r0 r1 a2),.val true [.int .i64 (g_Vs_l20Note_0 r0 r1 a2),.int .i64 (g_Vs_l20Note_1 r0 r1 a2),.sl .any 9 .str (g_Vs_l20Note_2 r0 r1 a2),.sl .any 76 (.pair .str (.pair .bool (.sl 3 (.int .i64)))) (g_Vs_l20Note_3 r0 r1 a2)],[[.sl .any 5 (.int .u8) (g_Vs_l20Note_4 r0 r1 a2),.int .i64 (g_Vs_l20Note_5 r0 r1 a2)]]):Option (Bool×RV×List (List Cell))) = _
  rw [sames_l20Note]
 ·cases hF
noncomputable def Es_l20Disk:Env where
 tt := mkTI Tryd.prog
 fn := fun f => match f with
  | 24 => some (mss_DiskAdd,FSem.wk mss_DiskAdd Fs_DiskAdd)
  | 36 => some (mss_l20Rd_pick,FSem.wk mss_l20Rd_pick Fs_l20Rd_pick)
  | 43 => some (mss_l20Rd_oddR,FSem.wk mss_l20Rd_oddR Fs_l20Rd_oddR)
  | 44 => some (mss_l20NoteR,FSem.wk mss_l20NoteR Fs_l20NoteR)
  | _ => none
 bxf := fun _ => none
 mv := []
 keep := fun b => match b with
  | 0 => [(0,false),(1,false),(4,false),(5,false),(6,false)]
  | 3 => [(0,false),(4,false),(5,false)]
  | _ => []
 keepB := fun b => match b with
  | 0 => [(4,false),(5,false),(0,false)]
  | 3 => [(4,false),(5,false),(0,false)]
  | _ => []
 keepX := fun b => match b with
  | 0 => [(0,false),(1,false),(4,false),(5,false)]
  | 3 => [(0,false),(4,false),(5,false)]
  | _ => []
 keepXB := fun b => match b with
  | 0 => [(4,false),(5,false),(0,false)]
  | 3 => [(4,false),(5,false),(0,false)]
  | _ => []
theorem goodFs_l20Disk:∀ f ms F,Es_l20Disk.fn f = some (ms,F) → Sound Tryd.prog f ms F := fun f ms F h => by
 unfold Es_l20Disk at h
 dsimp only at h
 split at h
 ·injection h with h; injection h with e1 e2; subst e1 e2; exact Sound.wk ss_DiskAdd
 ·injection h with h; injection h with e1 e2; subst e1 e2; exact Sound.wk ss_l20Rd_pick
 ·injection h with h; injection h with e1 e2; subst e1 e2; exact Sound.wk ss_l20Rd_oddR
 ·injection h with h; injection h with e1 e2; subst e1 e2; exact Sound.wk ss_l20NoteR
 ·cases h
theorem goodBs_l20Disk:∀ f ms F,Es_l20Disk.bxf f = some (ms,F) → SoundB Tryd.prog f ms F := fun f ms F h => by cases h
theorem goods_l20Disk:Good Tryd.prog Es_l20Disk := ⟨rfl,goodFs_l20Disk,goodBs_l20Disk⟩
noncomputable def Os_l20Disk_0:Orc := fun _ _ => none
noncomputable def mss_l20Disk:List PM := [.bx,.own]
noncomputable def lss_l20Disk:List (Nat×Code) := loopsAll 0 (Tryd.f42.body.getD .skip)
noncomputable def cs_l20Disk_0:Code := (loopOf 0 (Tryd.f42.body.getD .skip)).getD .skip
noncomputable def cs_l20Disk_3:Code := (loopOf 3 (Tryd.f42.body.getD .skip)).getD .skip
theorem lseqs_l20Disk:lss_l20Disk = [(0,cs_l20Disk_0),(3,cs_l20Disk_3)] := by kernel_rfl
theorem ms_l20Disk_0:∀ p,p ∈ lss_l20Disk → p.1 = 0 → p.2 = cs_l20Disk_0 := by
 intro p hp
 rw [lseqs_l20Disk] at hp
 simp only [List.mem_cons,List.not_mem_nil,or_false] at hp
 rcases hp with rfl | rfl <;> simp
theorem ms_l20Disk_3:∀ p,p ∈ lss_l20Disk → p.1 = 3 → p.2 = cs_l20Disk_3 := by
 intro p hp
 rw [lseqs_l20Disk] at hp
 simp only [List.mem_cons,List.not_mem_nil,or_false] at hp
 rcases hp with rfl | rfl <;> simp
theorem ks_l20Disk_0:OrcOk Es_l20Disk Os_l20Disk_0 lss_l20Disk 0 := orcOk_none
noncomputable def hs_l20Disk_0 (y0:Int) (y1:Int) (y2:Int) (y3:List (Int×(Int×((List ByteArray)×(List (ByteArray×(Bool×(List Int)))))))) (y4:Int) (y5:List (Int×(Int×((List ByteArray)×(List (ByteArray×(Bool×(List Int)))))))) (y6:List Int) (y7:Int):List (Pl×LV) := [(.T 0,.t (.val false [.ptr 0 0 0])),(.T 1,.t (.val false [.int .i64 y0])),(.T 4,.t (.val false [.ptr 4 0 0])),(.T 5,.t (.val false [.ptr 5 0 0])),(.T 6,.t (.val false [.int .i64 y1])),(.B 4,.b 0 false [.row 4 1 0,.int .i64 y2]),(.R 4 1,.r 0 (some ⟨false,.any,true,53,(.pair (.int .i64) (.pair (.int .i64) (.pair (.sl 9 .str) (.sl 76 (.pair .str (.pair .bool (.sl 3 (.int .i64)))))))),y3⟩)),(.B 5,.b 0 false [.row 5 1 0,.int .i64 y4]),(.R 5 1,.r 0 (some ⟨false,.any,true,53,(.pair (.int .i64) (.pair (.int .i64) (.pair (.sl 9 .str) (.sl 76 (.pair .str (.pair .bool (.sl 3 (.int .i64)))))))),y5⟩)),(.B 0,.b 0 false [.sl .any 5 (.int .u8) y6,.int .i64 y7])]
noncomputable def g_Ss_l20Disk_0 (y0:Int) (y2:Int) (y3:List (Int×(Int×((List ByteArray)×(List (ByteArray×(Bool×(List Int)))))))) (y6:List Int):(Int×Int×(List (Int×(Int×((List ByteArray)×(List (ByteArray×(Bool×(List Int))))))))×Int) → RT (Int×Int×(List (Int×(Int×((List ByteArray)×(List (ByteArray×(Bool×(List Int))))))))×Int) ((Int×(List (Int×(Int×((List ByteArray)×(List (ByteArray×(Bool×(List Int))))))))×Int))
 | (y1,y4,y5,y7) => .br (true) (.br (decide (y1 > (0:Int))) (.br (g_As_l20Note y6 y7 (0:Int)) (.br (g_pickA y6 (g_Vs_l20Note_5 y6 y7 (0:Int)) (2:Int)) (.br (true) (.br (g_As_DiskAdd y5 y4 (g_Vs_l20Note_0 y6 y7 (0:Int)) (g_Vs_l20Note_1 y6 y7 (0:Int)) (g_Vs_l20Note_2 y6 y7 (0:Int)) (g_Vs_l20Note_3 y6 y7 (0:Int)) (g_pick y6 (g_Vs_l20Note_5 y6 y7 (0:Int)) (2:Int) == (0:Int))) (.br (true) (.go ((IntKind.wrap IntKind.i64 (y1 - (1:Int)),g_Vs_DiskAdd_1 y5 y4 (g_Vs_l20Note_0 y6 y7 (0:Int)) (g_Vs_l20Note_1 y6 y7 (0:Int)) (g_Vs_l20Note_2 y6 y7 (0:Int)) (g_Vs_l20Note_3 y6 y7 (0:Int)) (g_pick y6 (g_Vs_l20Note_5 y6 y7 (0:Int)) (2:Int) == (0:Int)),g_Vs_DiskAdd_0 y5 y4 (g_Vs_l20Note_0 y6 y7 (0:Int)) (g_Vs_l20Note_1 y6 y7 (0:Int)) (g_Vs_l20Note_2 y6 y7 (0:Int)) (g_Vs_l20Note_3 y6 y7 (0:Int)) (g_pick y6 (g_Vs_l20Note_5 y6 y7 (0:Int)) (2:Int) == (0:Int)),IntKind.wrap IntKind.i64 (g_Vs_l20Note_5 y6 y7 (0:Int) + (1:Int))))) .bad) .bad) .bad) .bad) .bad) (.out ((y4,y5,y7)))) .bad
noncomputable def g_Ls_l20Disk_0 (y0:Int) (y2:Int) (y3:List (Int×(Int×((List ByteArray)×(List (ByteArray×(Bool×(List Int)))))))) (y6:List Int) (x:Int×Int×(List (Int×(Int×((List ByteArray)×(List (ByteArray×(Bool×(List Int))))))))×Int):Option ((Int×(List (Int×(Int×((List ByteArray)×(List (ByteArray×(Bool×(List Int))))))))×Int)) := loopO (g_Ss_l20Disk_0 y0 y2 y3 y6) x
noncomputable def xs_l20Disk_0 (y0:Int) (y2:Int) (y3:List (Int×(Int×((List ByteArray)×(List (ByteArray×(Bool×(List Int)))))))) (y6:List Int):((Int×(List (Int×(Int×((List ByteArray)×(List (ByteArray×(Bool×(List Int))))))))×Int)) → Ex×List (Pl×LV) := fun r => (.exit 0,[(.T 0,.t (.val false [.ptr 0 0 0])),(.T 1,.t (.val false [.int .i64 y0])),(.T 4,.t (.val false [.ptr 4 0 0])),(.T 5,.t (.val false [.ptr 5 0 0])),(.B 4,.b 0 false [.row 4 1 0,.int .i64 y2]),(.R 4 1,.r 0 (some ⟨false,.any,true,53,(.pair (.int .i64) (.pair (.int .i64) (.pair (.sl 9 .str) (.sl 76 (.pair .str (.pair .bool (.sl 3 (.int .i64)))))))),y3⟩)),(.B 5,.b 0 false [.row 5 1 0,.int .i64 r.1]),(.R 5 1,.r 0 (some ⟨false,.any,true,53,(.pair (.int .i64) (.pair (.int .i64) (.pair (.sl 9 .str) (.sl 76 (.pair .str (.pair .bool (.sl 3 (.int .i64)))))))),r.2.1⟩)),(.B 0,.b 0 false [.sl .any 5 (.int .u8) y6,.int .i64 r.2.2])])
noncomputable def Os_l20Disk_1:Orc := fun b h => match b,h with
 | 0,[(.T 0,.t (.val false [.ptr 0 0 0])),(.T 1,.t (.val false [.int .i64 y0])),(.T 4,.t (.val false [.ptr 4 0 0])),(.T 5,.t (.val false [.ptr 5 0 0])),(.T 6,.t (.val false [.int .i64 y1])),(.B 4,.b 0 false [.row 4 1 0,.int .i64 y2]),(.R 4 1,.r 0 (some ⟨false,.any,true,53,(.pair (.int .i64) (.pair (.int .i64) (.pair (.sl 9 .str) (.sl 76 (.pair .str (.pair .bool (.sl 3 (.int .i64)))))))),y3⟩)),(.B 5,.b 0 false [.row 5 1 0,.int .i64 y4]),(.R 5 1,.r 0 (some ⟨false,.any,true,53,(.pair (.int .i64) (.pair (.int .i64) (.pair (.sl 9 .str) (.sl 76 (.pair .str (.pair .bool (.sl 3 (.int .i64)))))))),y5⟩)),(.B 0,.b 0 false [.sl .any 5 (.int .u8) y6,.int .i64 y7])] => some (okO (g_Ls_l20Disk_0 y0 y2 y3 y6 (y1,y4,y5,y7)),(.leaf (.exit 0) [(.T 0,.t (.val false [.ptr 0 0 0])),(.T 1,.t (.val false [.int .i64 y0])),(.T 4,.t (.val false [.ptr 4 0 0])),(.T 5,.t (.val false [.ptr 5 0 0])),(.B 4,.b 0 false [.row 4 1 0,.int .i64 y2]),(.R 4 1,.r 0 (some ⟨false,.any,true,53,(.pair (.int .i64) (.pair (.int .i64) (.pair (.sl 9 .str) (.sl 76 (.pair .str (.pair .bool (.sl 3 (.int .i64)))))))),y3⟩)),(.B 5,.b 0 false [.row 5 1 0,.int .i64 (valO (g_Ls_l20Disk_0 y0 y2 y3 y6 (y1,y4,y5,y7))).1]),(.R 5 1,.r 0 (some ⟨false,.any,true,53,(.pair (.int .i64) (.pair (.int .i64) (.pair (.sl 9 .str) (.sl 76 (.pair .str (.pair .bool (.sl 3 (.int .i64)))))))),(valO (g_Ls_l20Disk_0 y0 y2 y3 y6 (y1,y4,y5,y7))).2.1⟩)),(.B 0,.b 0 false [.sl .any 5 (.int .u8) y6,.int .i64 (valO (g_Ls_l20Disk_0 y0 y2 y3 y6 (y1,y4,y5,y7))).2.2])]))
 | b,h => Os_l20Disk_0 b h
theorem bs_l20Disk_0 (y0:Int) (y1:Int) (y2:Int) (y3:List (Int×(Int×((List ByteArray)×(List (ByteArray×(Bool×(List Int)))))))) (y4:Int) (y5:List (Int×(Int×((List ByteArray)×(List (ByteArray×(Bool×(List Int)))))))) (y6:List Int) (y7:Int):Tr.bt Es_l20Disk Os_l20Disk_0 (exec Es_l20Disk 0 cs_l20Disk_0 (St.of (hs_l20Disk_0 y0 y1 y2 y3 y4 y5 y6 y7)) (leafRd Es_l20Disk 0)) = (g_Ss_l20Disk_0 y0 y2 y3 y6 (y1,y4,y5,y7)).bt (fun ((y1,y4,y5,y7):Int×Int×(List (Int×(Int×((List ByteArray)×(List (ByteArray×(Bool×(List Int))))))))×Int) => (hs_l20Disk_0 y0 y1 y2 y3 y4 y5 y6 y7)) (xs_l20Disk_0 y0 y2 y3 y6) := by kernel_rfl
theorem ks_l20Disk_1:OrcOk Es_l20Disk Os_l20Disk_1 lss_l20Disk 1 := orc_add ks_l20Disk_0 (fun n p hp h ex h' ho => by
 obtain ⟨b,c⟩ := p
 obtain ⟨xt,h1,h2⟩ := ho
 have h1:Os_l20Disk_1 b h = some (true,xt) := h1
 unfold Os_l20Disk_1 at h1
 split at h1
 ·injection h1 with h1
  injection h1 with e1 e2
  subst e2
  have hc:c = cs_l20Disk_0 := ms_l20Disk_0 _ hp rfl
  subst hc
  right
  rename_i y0 y1 y2 y3 y4 y5 y6 y7
  have key := LT_step ks_l20Disk_0 hp (fun q hq => loopsAll_in _ _ _ _ hp hq) (fun ((y1,y4,y5,y7):Int×Int×(List (Int×(Int×((List ByteArray)×(List (ByteArray×(Bool×(List Int))))))))×Int) => (hs_l20Disk_0 y0 y1 y2 y3 y4 y5 y6 y7)) (xs_l20Disk_0 y0 y2 y3 y6) (g_Ss_l20Disk_0 y0 y2 y3 y6) (fun x => by first | exact bs_l20Disk_0 y0 x.1 y2 y3 x.2.1 x.2.2.1 y6 x.2.2.2) n (x := (y1,y4,y5,y7)) (okO_some e1)
  have hx:∀ r,XT.sel (.leaf (.exit 0) [(.T 0,.t (.val false [.ptr 0 0 0])),(.T 1,.t (.val false [.int .i64 y0])),(.T 4,.t (.val false [.ptr 4 0 0])),(.T 5,.t (.val false [.ptr 5 0 0])),(.B 4,.b 0 false [.row 4 1 0,.int .i64 y2]),(.R 4 1,.r 0 (some ⟨false,.any,true,53,(.pair (.int .i64) (.pair (.int .i64) (.pair (.sl 9 .str) (.sl 76 (.pair .str (.pair .bool (.sl 3 (.int .i64)))))))),y3⟩)),(.B 5,.b 0 false [.row 5 1 0,.int .i64 r.1]),(.R 5 1,.r 0 (some ⟨false,.any,true,53,(.pair (.int .i64) (.pair (.int .i64) (.pair (.sl 9 .str) (.sl 76 (.pair .str (.pair .bool (.sl 3 (.int .i64)))))))),r.2.1⟩)),(.B 0,.b 0 false [.sl .any 5 (.int .u8) y6,.int .i64 r.2.2])]) = xs_l20Disk_0 y0 y2 y3 y6 r := fun r => by first | rfl | (rcases r with r | r <;> rfl) | (rcases r with r | r | r <;> rfl) | (rcases r with r | r | r | r <;> rfl)
  have h3 := (hx (valO (g_Ls_l20Disk_0 y0 y2 y3 y6 (y1,y4,y5,y7)))).symm.trans h2
  have e3 := congrArg Prod.fst h3
  have e4 := congrArg Prod.snd h3
  simp only at e3 e4
  rw [← e3,← e4]
  exact key
 ·exact .inl ⟨xt,h1,h2⟩)
noncomputable def hs_l20Disk_3 (y0:Int) (y1:List (Int×(Int×((List ByteArray)×(List (ByteArray×(Bool×(List Int)))))))) (y2:Int) (y3:List (Int×(Int×((List ByteArray)×(List (ByteArray×(Bool×(List Int)))))))) (y4:List Int) (y5:Int):List (Pl×LV) := [(.T 0,.t (.val false [.ptr 0 0 0])),(.T 4,.t (.val false [.ptr 4 0 0])),(.T 5,.t (.val false [.ptr 5 0 0])),(.B 4,.b 0 false [.row 4 1 0,.int .i64 y0]),(.R 4 1,.r 0 (some ⟨false,.any,true,53,(.pair (.int .i64) (.pair (.int .i64) (.pair (.sl 9 .str) (.sl 76 (.pair .str (.pair .bool (.sl 3 (.int .i64)))))))),y1⟩)),(.B 5,.b 0 false [.row 5 1 0,.int .i64 y2]),(.R 5 1,.r 0 (some ⟨false,.any,true,53,(.pair (.int .i64) (.pair (.int .i64) (.pair (.sl 9 .str) (.sl 76 (.pair .str (.pair .bool (.sl 3 (.int .i64)))))))),y3⟩)),(.B 0,.b 0 false [.sl .any 5 (.int .u8) y4,.int .i64 y5])]
noncomputable def g_Ss_l20Disk_3 (y0:Int) (y1:List (Int×(Int×((List ByteArray)×(List (ByteArray×(Bool×(List Int)))))))) (y2:Int) (y4:List Int) (y5:Int):((List (Int×(Int×((List ByteArray)×(List (ByteArray×(Bool×(List Int))))))))) → RT ((List (Int×(Int×((List ByteArray)×(List (ByteArray×(Bool×(List Int))))))))) (((List (Int×(Int×((List ByteArray)×(List (ByteArray×(Bool×(List Int))))))))))
 | y3 => .br (true) (.br (decide ((↑(List.length y3):Int) ≤ (120:Int))) (.br (decide ((List.length y3 + nat_lit 1) * nat_lit 64 ≤ nat_lit 140737488355328 ∧ List.length y3 + nat_lit 1 ≤ nat_lit 9223372036854775807)) (.go (y3 ++ [((3:Int),(0:Int),[],[])])) .bad) (.out (y3))) .bad
noncomputable def g_Ls_l20Disk_3 (y0:Int) (y1:List (Int×(Int×((List ByteArray)×(List (ByteArray×(Bool×(List Int)))))))) (y2:Int) (y4:List Int) (y5:Int) (x:(List (Int×(Int×((List ByteArray)×(List (ByteArray×(Bool×(List Int))))))))):Option (((List (Int×(Int×((List ByteArray)×(List (ByteArray×(Bool×(List Int)))))))))) := loopO (g_Ss_l20Disk_3 y0 y1 y2 y4 y5) x
noncomputable def xs_l20Disk_3 (y0:Int) (y1:List (Int×(Int×((List ByteArray)×(List (ByteArray×(Bool×(List Int)))))))) (y2:Int) (y4:List Int) (y5:Int):(((List (Int×(Int×((List ByteArray)×(List (ByteArray×(Bool×(List Int)))))))))) → Ex×List (Pl×LV) := fun r => (.exit 3,[(.T 0,.t (.val false [.ptr 0 0 0])),(.T 4,.t (.val false [.ptr 4 0 0])),(.T 5,.t (.val false [.ptr 5 0 0])),(.B 4,.b 0 false [.row 4 1 0,.int .i64 y0]),(.R 4 1,.r 0 (some ⟨false,.any,true,53,(.pair (.int .i64) (.pair (.int .i64) (.pair (.sl 9 .str) (.sl 76 (.pair .str (.pair .bool (.sl 3 (.int .i64)))))))),y1⟩)),(.B 5,.b 0 false [.row 5 1 0,.int .i64 y2]),(.R 5 1,.r 0 (some ⟨false,.any,true,53,(.pair (.int .i64) (.pair (.int .i64) (.pair (.sl 9 .str) (.sl 76 (.pair .str (.pair .bool (.sl 3 (.int .i64)))))))),r⟩)),(.B 0,.b 0 false [.sl .any 5 (.int .u8) y4,.int .i64 y5])])
noncomputable def Os_l20Disk_2:Orc := fun b h => match b,h with
 | 3,[(.T 0,.t (.val false [.ptr 0 0 0])),(.T 4,.t (.val false [.ptr 4 0 0])),(.T 5,.t (.val false [.ptr 5 0 0])),(.B 4,.b 0 false [.row 4 1 0,.int .i64 y0]),(.R 4 1,.r 0 (some ⟨false,.any,true,53,(.pair (.int .i64) (.pair (.int .i64) (.pair (.sl 9 .str) (.sl 76 (.pair .str (.pair .bool (.sl 3 (.int .i64)))))))),y1⟩)),(.B 5,.b 0 false [.row 5 1 0,.int .i64 y2]),(.R 5 1,.r 0 (some ⟨false,.any,true,53,(.pair (.int .i64) (.pair (.int .i64) (.pair (.sl 9 .str) (.sl 76 (.pair .str (.pair .bool (.sl 3 (.int .i64)))))))),y3⟩)),(.B 0,.b 0 false [.sl .any 5 (.int .u8) y4,.int .i64 y5])] => some (okO (g_Ls_l20Disk_3 y0 y1 y2 y4 y5 y3),(.leaf (.exit 3) [(.T 0,.t (.val false [.ptr 0 0 0])),(.T 4,.t (.val false [.ptr 4 0 0])),(.T 5,.t (.val false [.ptr 5 0 0])),(.B 4,.b 0 false [.row 4 1 0,.int .i64 y0]),(.R 4 1,.r 0 (some ⟨false,.any,true,53,(.pair (.int .i64) (.pair (.int .i64) (.pair (.sl 9 .str) (.sl 76 (.pair .str (.pair .bool (.sl 3 (.int .i64)))))))),y1⟩)),(.B 5,.b 0 false [.row 5 1 0,.int .i64 y2]),(.R 5 1,.r 0 (some ⟨false,.any,true,53,(.pair (.int .i64) (.pair (.int .i64) (.pair (.sl 9 .str) (.sl 76 (.pair .str (.pair .bool (.sl 3 (.int .i64)))))))),(valO (g_Ls_l20Disk_3 y0 y1 y2 y4 y5 y3))⟩)),(.B 0,.b 0 false [.sl .any 5 (.int .u8) y4,.int .i64 y5])]))
 | b,h => Os_l20Disk_1 b h
theorem bs_l20Disk_3 (y0:Int) (y1:List (Int×(Int×((List ByteArray)×(List (ByteArray×(Bool×(List Int)))))))) (y2:Int) (y3:List (Int×(Int×((List ByteArray)×(List (ByteArray×(Bool×(List Int)))))))) (y4:List Int) (y5:Int):Tr.bt Es_l20Disk Os_l20Disk_1 (exec Es_l20Disk 3 cs_l20Disk_3 (St.of (hs_l20Disk_3 y0 y1 y2 y3 y4 y5)) (leafRd Es_l20Disk 3)) = (g_Ss_l20Disk_3 y0 y1 y2 y4 y5 y3).bt (fun (y3:(List (Int×(Int×((List ByteArray)×(List (ByteArray×(Bool×(List Int))))))))) => (hs_l20Disk_3 y0 y1 y2 y3 y4 y5)) (xs_l20Disk_3 y0 y1 y2 y4 y5) := by kernel_rfl
theorem ks_l20Disk_2:OrcOk Es_l20Disk Os_l20Disk_2 lss_l20Disk 2 := orc_add ks_l20Disk_1 (fun n p hp h ex h' ho => by
 obtain ⟨b,c⟩ := p
 obtain ⟨xt,h1,h2⟩ := ho
 have h1:Os_l20Disk_2 b h = some (true,xt) := h1
 unfold Os_l20Disk_2 at h1
 split at h1
 ·injection h1 with h1
  injection h1 with e1 e2
  subst e2
  have hc:c = cs_l20Disk_3 := ms_l20Disk_3 _ hp rfl
  subst hc
  right
  rename_i y0 y1 y2 y3 y4 y5
  have key := LT_step ks_l20Disk_1 hp (fun q hq => loopsAll_in _ _ _ _ hp hq) (fun (y3:(List (Int×(Int×((List ByteArray)×(List (ByteArray×(Bool×(List Int))))))))) => (hs_l20Disk_3 y0 y1 y2 y3 y4 y5)) (xs_l20Disk_3 y0 y1 y2 y4 y5) (g_Ss_l20Disk_3 y0 y1 y2 y4 y5) (fun x => by first | exact bs_l20Disk_3 y0 y1 y2 x y4 y5) n (x := y3) (okO_some e1)
  have hx:∀ r,XT.sel (.leaf (.exit 3) [(.T 0,.t (.val false [.ptr 0 0 0])),(.T 4,.t (.val false [.ptr 4 0 0])),(.T 5,.t (.val false [.ptr 5 0 0])),(.B 4,.b 0 false [.row 4 1 0,.int .i64 y0]),(.R 4 1,.r 0 (some ⟨false,.any,true,53,(.pair (.int .i64) (.pair (.int .i64) (.pair (.sl 9 .str) (.sl 76 (.pair .str (.pair .bool (.sl 3 (.int .i64)))))))),y1⟩)),(.B 5,.b 0 false [.row 5 1 0,.int .i64 y2]),(.R 5 1,.r 0 (some ⟨false,.any,true,53,(.pair (.int .i64) (.pair (.int .i64) (.pair (.sl 9 .str) (.sl 76 (.pair .str (.pair .bool (.sl 3 (.int .i64)))))))),r⟩)),(.B 0,.b 0 false [.sl .any 5 (.int .u8) y4,.int .i64 y5])]) = xs_l20Disk_3 y0 y1 y2 y4 y5 r := fun r => by first | rfl | (rcases r with r | r <;> rfl) | (rcases r with r | r | r <;> rfl) | (rcases r with r | r | r | r <;> rfl)
  have h3 := (hx (valO (g_Ls_l20Disk_3 y0 y1 y2 y4 y5 y3))).symm.trans h2
  have e3 := congrArg Prod.fst h3
  have e4 := congrArg Prod.snd h3
  simp only at e3 e4
  rw [← e3,← e4]
  exact key
 ·exact .inl ⟨xt,h1,h2⟩)
noncomputable def g_As_l20Disk (r0:List Int) (r1:Int) (a2:Int):Bool := g_pickA r0 r1 (10:Int)&&(okO (g_Ls_l20Disk_0 a2 (0:Int) [] r0 (g_pick r0 r1 (10:Int),(0:Int),[],IntKind.wrap IntKind.i64 (r1 + (1:Int))))&&(g_As_l20Rd_odd r0 (valO (g_Ls_l20Disk_0 a2 (0:Int) [] r0 (g_pick r0 r1 (10:Int),(0:Int),[],IntKind.wrap IntKind.i64 (r1 + (1:Int))))).2.2 a2&&(!g_Vs_l20Rd_odd_0 r0 (valO (g_Ls_l20Disk_0 a2 (0:Int) [] r0 (g_pick r0 r1 (10:Int),(0:Int),[],IntKind.wrap IntKind.i64 (r1 + (1:Int))))).2.2 a2 || g_pickA r0 (g_Vs_l20Rd_odd_2 r0 (valO (g_Ls_l20Disk_0 a2 (0:Int) [] r0 (g_pick r0 r1 (10:Int),(0:Int),[],IntKind.wrap IntKind.i64 (r1 + (1:Int))))).2.2 a2) (3:Int)&&bif g_pick r0 (g_Vs_l20Rd_odd_2 r0 (valO (g_Ls_l20Disk_0 a2 (0:Int) [] r0 (g_pick r0 r1 (10:Int),(0:Int),[],IntKind.wrap IntKind.i64 (r1 + (1:Int))))).2.2 a2) (3:Int) == (0:Int) then g_pickA r0 (IntKind.wrap IntKind.i64 (g_Vs_l20Rd_odd_2 r0 (valO (g_Ls_l20Disk_0 a2 (0:Int) [] r0 (g_pick r0 r1 (10:Int),(0:Int),[],IntKind.wrap IntKind.i64 (r1 + (1:Int))))).2.2 a2 + (1:Int))) (2:Int)&&(decide ((0:Int) ≤ g_pick r0 (IntKind.wrap IntKind.i64 (g_Vs_l20Rd_odd_2 r0 (valO (g_Ls_l20Disk_0 a2 (0:Int) [] r0 (g_pick r0 r1 (10:Int),(0:Int),[],IntKind.wrap IntKind.i64 (r1 + (1:Int))))).2.2 a2 + (1:Int))) (2:Int) ∧ g_pick r0 (IntKind.wrap IntKind.i64 (g_Vs_l20Rd_odd_2 r0 (valO (g_Ls_l20Disk_0 a2 (0:Int) [] r0 (g_pick r0 r1 (10:Int),(0:Int),[],IntKind.wrap IntKind.i64 (r1 + (1:Int))))).2.2 a2 + (1:Int))) (2:Int) < (↑(List.length [(-1:Int),IntKind.wrap IntKind.i64 ((↑(List.length (valO (g_Ls_l20Disk_0 a2 (0:Int) [] r0 (g_pick r0 r1 (10:Int),(0:Int),[],IntKind.wrap IntKind.i64 (r1 + (1:Int))))).2.1):Int) + (1:Int))]):Int))&&decide (Int.toNat (g_pick r0 (IntKind.wrap IntKind.i64 (g_Vs_l20Rd_odd_2 r0 (valO (g_Ls_l20Disk_0 a2 (0:Int) [] r0 (g_pick r0 r1 (10:Int),(0:Int),[],IntKind.wrap IntKind.i64 (r1 + (1:Int))))).2.2 a2 + (1:Int))) (2:Int)) < List.length [(-1:Int),IntKind.wrap IntKind.i64 ((↑(List.length (valO (g_Ls_l20Disk_0 a2 (0:Int) [] r0 (g_pick r0 r1 (10:Int),(0:Int),[],IntKind.wrap IntKind.i64 (r1 + (1:Int))))).2.1):Int) + (1:Int))])) else bif g_pick r0 (g_Vs_l20Rd_odd_2 r0 (valO (g_Ls_l20Disk_0 a2 (0:Int) [] r0 (g_pick r0 r1 (10:Int),(0:Int),[],IntKind.wrap IntKind.i64 (r1 + (1:Int))))).2.2 a2) (3:Int) == (1:Int) then g_As_l20Note r0 (IntKind.wrap IntKind.i64 (g_Vs_l20Rd_odd_2 r0 (valO (g_Ls_l20Disk_0 a2 (0:Int) [] r0 (g_pick r0 r1 (10:Int),(0:Int),[],IntKind.wrap IntKind.i64 (r1 + (1:Int))))).2.2 a2 + (1:Int))) (1:Int)&&decide ((List.length (valO (g_Ls_l20Disk_0 a2 (0:Int) [] r0 (g_pick r0 r1 (10:Int),(0:Int),[],IntKind.wrap IntKind.i64 (r1 + (1:Int))))).2.1 + List.length [(g_Vs_l20Note_0 r0 (IntKind.wrap IntKind.i64 (g_Vs_l20Rd_odd_2 r0 (valO (g_Ls_l20Disk_0 a2 (0:Int) [] r0 (g_pick r0 r1 (10:Int),(0:Int),[],IntKind.wrap IntKind.i64 (r1 + (1:Int))))).2.2 a2 + (1:Int))) (1:Int),g_Vs_l20Note_1 r0 (IntKind.wrap IntKind.i64 (g_Vs_l20Rd_odd_2 r0 (valO (g_Ls_l20Disk_0 a2 (0:Int) [] r0 (g_pick r0 r1 (10:Int),(0:Int),[],IntKind.wrap IntKind.i64 (r1 + (1:Int))))).2.2 a2 + (1:Int))) (1:Int),g_Vs_l20Note_2 r0 (IntKind.wrap IntKind.i64 (g_Vs_l20Rd_odd_2 r0 (valO (g_Ls_l20Disk_0 a2 (0:Int) [] r0 (g_pick r0 r1 (10:Int),(0:Int),[],IntKind.wrap IntKind.i64 (r1 + (1:Int))))).2.2 a2 + (1:Int))) (1:Int),g_Vs_l20Note_3 r0 (IntKind.wrap IntKind.i64 (g_Vs_l20Rd_odd_2 r0 (valO (g_Ls_l20Disk_0 a2 (0:Int) [] r0 (g_pick r0 r1 (10:Int),(0:Int),[],IntKind.wrap IntKind.i64 (r1 + (1:Int))))).2.2 a2 + (1:Int))) (1:Int))]) * nat_lit 64 ≤ nat_lit 140737488355328 ∧ List.length (valO (g_Ls_l20Disk_0 a2 (0:Int) [] r0 (g_pick r0 r1 (10:Int),(0:Int),[],IntKind.wrap IntKind.i64 (r1 + (1:Int))))).2.1 + List.length [(g_Vs_l20Note_0 r0 (IntKind.wrap IntKind.i64 (g_Vs_l20Rd_odd_2 r0 (valO (g_Ls_l20Disk_0 a2 (0:Int) [] r0 (g_pick r0 r1 (10:Int),(0:Int),[],IntKind.wrap IntKind.i64 (r1 + (1:Int))))).2.2 a2 + (1:Int))) (1:Int),g_Vs_l20Note_1 r0 (IntKind.wrap IntKind.i64 (g_Vs_l20Rd_odd_2 r0 (valO (g_Ls_l20Disk_0 a2 (0:Int) [] r0 (g_pick r0 r1 (10:Int),(0:Int),[],IntKind.wrap IntKind.i64 (r1 + (1:Int))))).2.2 a2 + (1:Int))) (1:Int),g_Vs_l20Note_2 r0 (IntKind.wrap IntKind.i64 (g_Vs_l20Rd_odd_2 r0 (valO (g_Ls_l20Disk_0 a2 (0:Int) [] r0 (g_pick r0 r1 (10:Int),(0:Int),[],IntKind.wrap IntKind.i64 (r1 + (1:Int))))).2.2 a2 + (1:Int))) (1:Int),g_Vs_l20Note_3 r0 (IntKind.wrap IntKind.i64 (g_Vs_l20Rd_odd_2 r0 (valO (g_Ls_l20Disk_0 a2 (0:Int) [] r0 (g_pick r0 r1 (10:Int),(0:Int),[],IntKind.wrap IntKind.i64 (r1 + (1:Int))))).2.2 a2 + (1:Int))) (1:Int))] ≤ nat_lit 9223372036854775807) else okO (g_Ls_l20Disk_3 (0:Int) [] (valO (g_Ls_l20Disk_0 a2 (0:Int) [] r0 (g_pick r0 r1 (10:Int),(0:Int),[],IntKind.wrap IntKind.i64 (r1 + (1:Int))))).1 r0 (IntKind.wrap IntKind.i64 (g_Vs_l20Rd_odd_2 r0 (valO (g_Ls_l20Disk_0 a2 (0:Int) [] r0 (g_pick r0 r1 (10:Int),(0:Int),[],IntKind.wrap IntKind.i64 (r1 + (1:Int))))).2.2 a2 + (1:Int))) (valO (g_Ls_l20Disk_0 a2 (0:Int) [] r0 (g_pick r0 r1 (10:Int),(0:Int),[],IntKind.wrap IntKind.i64 (r1 + (1:Int))))).2.1))))
noncomputable def g_Vs_l20Disk_0 (r0:List Int) (r1:Int) (a2:Int):List (Int×(Int×((List ByteArray)×(List (ByteArray×(Bool×(List Int))))))) := bif g_Vs_l20Rd_odd_0 r0 (valO (g_Ls_l20Disk_0 a2 (0:Int) [] r0 (g_pick r0 r1 (10:Int),(0:Int),[],IntKind.wrap IntKind.i64 (r1 + (1:Int))))).2.2 a2 then bif g_pick r0 (g_Vs_l20Rd_odd_2 r0 (valO (g_Ls_l20Disk_0 a2 (0:Int) [] r0 (g_pick r0 r1 (10:Int),(0:Int),[],IntKind.wrap IntKind.i64 (r1 + (1:Int))))).2.2 a2) (3:Int) == (0:Int) then (valO (g_Ls_l20Disk_0 a2 (0:Int) [] r0 (g_pick r0 r1 (10:Int),(0:Int),[],IntKind.wrap IntKind.i64 (r1 + (1:Int))))).2.1 else bif g_pick r0 (g_Vs_l20Rd_odd_2 r0 (valO (g_Ls_l20Disk_0 a2 (0:Int) [] r0 (g_pick r0 r1 (10:Int),(0:Int),[],IntKind.wrap IntKind.i64 (r1 + (1:Int))))).2.2 a2) (3:Int) == (1:Int) then (valO (g_Ls_l20Disk_0 a2 (0:Int) [] r0 (g_pick r0 r1 (10:Int),(0:Int),[],IntKind.wrap IntKind.i64 (r1 + (1:Int))))).2.1 ++ [(g_Vs_l20Note_0 r0 (IntKind.wrap IntKind.i64 (g_Vs_l20Rd_odd_2 r0 (valO (g_Ls_l20Disk_0 a2 (0:Int) [] r0 (g_pick r0 r1 (10:Int),(0:Int),[],IntKind.wrap IntKind.i64 (r1 + (1:Int))))).2.2 a2 + (1:Int))) (1:Int),g_Vs_l20Note_1 r0 (IntKind.wrap IntKind.i64 (g_Vs_l20Rd_odd_2 r0 (valO (g_Ls_l20Disk_0 a2 (0:Int) [] r0 (g_pick r0 r1 (10:Int),(0:Int),[],IntKind.wrap IntKind.i64 (r1 + (1:Int))))).2.2 a2 + (1:Int))) (1:Int),g_Vs_l20Note_2 r0 (IntKind.wrap IntKind.i64 (g_Vs_l20Rd_odd_2 r0 (valO (g_Ls_l20Disk_0 a2 (0:Int) [] r0 (g_pick r0 r1 (10:Int),(0:Int),[],IntKind.wrap IntKind.i64 (r1 + (1:Int))))).2.2 a2 + (1:Int))) (1:Int),g_Vs_l20Note_3 r0 (IntKind.wrap IntKind.i64 (g_Vs_l20Rd_odd_2 r0 (valO (g_Ls_l20Disk_0 a2 (0:Int) [] r0 (g_pick r0 r1 (10:Int),(0:Int),[],IntKind.wrap IntKind.i64 (r1 + (1:Int))))).2.2 a2 + (1:Int))) (1:Int))] else valO (g_Ls_l20Disk_3 (0:Int) [] (valO (g_Ls_l20Disk_0 a2 (0:Int) [] r0 (g_pick r0 r1 (10:Int),(0:Int),[],IntKind.wrap IntKind.i64 (r1 + (1:Int))))).1 r0 (IntKind.wrap IntKind.i64 (g_Vs_l20Rd_odd_2 r0 (valO (g_Ls_l20Disk_0 a2 (0:Int) [] r0 (g_pick r0 r1 (10:Int),(0:Int),[],IntKind.wrap IntKind.i64 (r1 + (1:Int))))).2.2 a2 + (1:Int))) (valO (g_Ls_l20Disk_0 a2 (0:Int) [] r0 (g_pick r0 r1 (10:Int),(0:Int),[],IntKind.wrap IntKind.i64 (r1 + (1:Int))))).2.1) else (valO (g_Ls_l20Disk_0 a2 (0:Int) [] r0 (g_pick r0 r1 (10:Int),(0:Int),[],IntKind.wrap IntKind.i64 (r1 + (1:Int))))).2.1
noncomputable def g_Vs_l20Disk_1 (r0:List Int) (r1:Int) (a2:Int):Int := bif g_Vs_l20Rd_odd_0 r0 (valO (g_Ls_l20Disk_0 a2 (0:Int) [] r0 (g_pick r0 r1 (10:Int),(0:Int),[],IntKind.wrap IntKind.i64 (r1 + (1:Int))))).2.2 a2 then bif g_pick r0 (g_Vs_l20Rd_odd_2 r0 (valO (g_Ls_l20Disk_0 a2 (0:Int) [] r0 (g_pick r0 r1 (10:Int),(0:Int),[],IntKind.wrap IntKind.i64 (r1 + (1:Int))))).2.2 a2) (3:Int) == (0:Int) then at_ (Ty.int IntKind.i64) [(-1:Int),IntKind.wrap IntKind.i64 ((↑(List.length (valO (g_Ls_l20Disk_0 a2 (0:Int) [] r0 (g_pick r0 r1 (10:Int),(0:Int),[],IntKind.wrap IntKind.i64 (r1 + (1:Int))))).2.1):Int) + (1:Int))] (Int.toNat (g_pick r0 (IntKind.wrap IntKind.i64 (g_Vs_l20Rd_odd_2 r0 (valO (g_Ls_l20Disk_0 a2 (0:Int) [] r0 (g_pick r0 r1 (10:Int),(0:Int),[],IntKind.wrap IntKind.i64 (r1 + (1:Int))))).2.2 a2 + (1:Int))) (2:Int))) else bif g_pick r0 (g_Vs_l20Rd_odd_2 r0 (valO (g_Ls_l20Disk_0 a2 (0:Int) [] r0 (g_pick r0 r1 (10:Int),(0:Int),[],IntKind.wrap IntKind.i64 (r1 + (1:Int))))).2.2 a2) (3:Int) == (1:Int) then (valO (g_Ls_l20Disk_0 a2 (0:Int) [] r0 (g_pick r0 r1 (10:Int),(0:Int),[],IntKind.wrap IntKind.i64 (r1 + (1:Int))))).1 else (valO (g_Ls_l20Disk_0 a2 (0:Int) [] r0 (g_pick r0 r1 (10:Int),(0:Int),[],IntKind.wrap IntKind.i64 (r1 + (1:Int))))).1 else (valO (g_Ls_l20Disk_0 a2 (0:Int) [] r0 (g_pick r0 r1 (10:Int),(0:Int),[],IntKind.wrap IntKind.i64 (r1 + (1:Int))))).1
noncomputable def g_Vs_l20Disk_2 (r0:List Int) (r1:Int) (a2:Int):List Int := bif g_Vs_l20Rd_odd_0 r0 (valO (g_Ls_l20Disk_0 a2 (0:Int) [] r0 (g_pick r0 r1 (10:Int),(0:Int),[],IntKind.wrap IntKind.i64 (r1 + (1:Int))))).2.2 a2 then bif g_pick r0 (g_Vs_l20Rd_odd_2 r0 (valO (g_Ls_l20Disk_0 a2 (0:Int) [] r0 (g_pick r0 r1 (10:Int),(0:Int),[],IntKind.wrap IntKind.i64 (r1 + (1:Int))))).2.2 a2) (3:Int) == (0:Int) then r0 else bif g_pick r0 (g_Vs_l20Rd_odd_2 r0 (valO (g_Ls_l20Disk_0 a2 (0:Int) [] r0 (g_pick r0 r1 (10:Int),(0:Int),[],IntKind.wrap IntKind.i64 (r1 + (1:Int))))).2.2 a2) (3:Int) == (1:Int) then r0 else r0 else r0
noncomputable def g_Vs_l20Disk_3 (r0:List Int) (r1:Int) (a2:Int):Int := bif g_Vs_l20Rd_odd_0 r0 (valO (g_Ls_l20Disk_0 a2 (0:Int) [] r0 (g_pick r0 r1 (10:Int),(0:Int),[],IntKind.wrap IntKind.i64 (r1 + (1:Int))))).2.2 a2 then bif g_pick r0 (g_Vs_l20Rd_odd_2 r0 (valO (g_Ls_l20Disk_0 a2 (0:Int) [] r0 (g_pick r0 r1 (10:Int),(0:Int),[],IntKind.wrap IntKind.i64 (r1 + (1:Int))))).2.2 a2) (3:Int) == (0:Int) then IntKind.wrap IntKind.i64 (IntKind.wrap IntKind.i64 (g_Vs_l20Rd_odd_2 r0 (valO (g_Ls_l20Disk_0 a2 (0:Int) [] r0 (g_pick r0 r1 (10:Int),(0:Int),[],IntKind.wrap IntKind.i64 (r1 + (1:Int))))).2.2 a2 + (1:Int)) + (1:Int)) else bif g_pick r0 (g_Vs_l20Rd_odd_2 r0 (valO (g_Ls_l20Disk_0 a2 (0:Int) [] r0 (g_pick r0 r1 (10:Int),(0:Int),[],IntKind.wrap IntKind.i64 (r1 + (1:Int))))).2.2 a2) (3:Int) == (1:Int) then g_Vs_l20Note_5 r0 (IntKind.wrap IntKind.i64 (g_Vs_l20Rd_odd_2 r0 (valO (g_Ls_l20Disk_0 a2 (0:Int) [] r0 (g_pick r0 r1 (10:Int),(0:Int),[],IntKind.wrap IntKind.i64 (r1 + (1:Int))))).2.2 a2 + (1:Int))) (1:Int) else IntKind.wrap IntKind.i64 (g_Vs_l20Rd_odd_2 r0 (valO (g_Ls_l20Disk_0 a2 (0:Int) [] r0 (g_pick r0 r1 (10:Int),(0:Int),[],IntKind.wrap IntKind.i64 (r1 + (1:Int))))).2.2 a2 + (1:Int)) else g_Vs_l20Rd_odd_2 r0 (valO (g_Ls_l20Disk_0 a2 (0:Int) [] r0 (g_pick r0 r1 (10:Int),(0:Int),[],IntKind.wrap IntKind.i64 (r1 + (1:Int))))).2.2 a2
noncomputable def Fs_l20Disk:FSem := fun ys => match ys with
 | [.val true [.sl .any 5 (.int .u8) r0,.int .i64 r1],.val false [.int .i64 a2]] => some ((g_As_l20Disk r0 r1 a2),.val true [.own .any false 53 (.pair (.int .i64) (.pair (.int .i64) (.pair (.sl 9 .str) (.sl 76 (.pair .str (.pair .bool (.sl 3 (.int .i64)))))))) (g_Vs_l20Disk_0 r0 r1 a2),.int .i64 (g_Vs_l20Disk_1 r0 r1 a2)],[[.sl .any 5 (.int .u8) (g_Vs_l20Disk_2 r0 r1 a2),.int .i64 (g_Vs_l20Disk_3 r0 r1 a2)]])
 | _ => none
theorem vs_l20Disk (r0:List Int) (r1:Int) (a2:Int):collapseH .sh Es_l20Disk Os_l20Disk_2 (execFn Es_l20Disk Tryd.f42 mss_l20Disk [.val true [.sl .any 5 (.int .u8) r0,.int .i64 r1],.val false [.int .i64 a2]]) = some ((g_As_l20Disk r0 r1 a2),.val true [.own .any false 53 (.pair (.int .i64) (.pair (.int .i64) (.pair (.sl 9 .str) (.sl 76 (.pair .str (.pair .bool (.sl 3 (.int .i64)))))))) (g_Vs_l20Disk_0 r0 r1 a2),.int .i64 (g_Vs_l20Disk_1 r0 r1 a2)],[[.sl .any 5 (.int .u8) (g_Vs_l20Disk_2 r0 r1 a2),.int .i64 (g_Vs_l20Disk_3 r0 r1 a2)]]) := by kernel_rfl
theorem ss_l20Disk:Sound Tryd.prog 42 mss_l20Disk Fs_l20Disk := by
 refine fn_gen goods_l20Disk (by kernel_rfl) .sh (fn := Tryd.f42) (c := (Tryd.f42.body.getD .skip)) (o := Os_l20Disk_2) (k := 2) (by kernel_rfl) (by kernel_rfl) (by kernel_rfl) (by kernel_rfl) (by decide) ks_l20Disk_2 ?_
 intro ys r outs h
 unfold Fs_l20Disk at h
 split at h
 ·exact (vs_l20Disk _ _ _).trans h
 ·cases h
noncomputable def mss_l20DiskR:List PM := mss_l20Disk
theorem sames_l20Disk (r0:List Int) (r1:Int) (a2:Int):g_Vs_l20Disk_2 r0 r1 a2 = r0 := by
 unfold g_Vs_l20Disk_2
 simp only [Bool.cond_self]
noncomputable def Fs_l20DiskR:FSem := fun ys => match ys with
 | [.val true [.sl .any 5 (.int .u8) r0,.int .i64 r1],.val false [.int .i64 a2]] => some ((g_As_l20Disk r0 r1 a2),.val true [.own .any false 53 (.pair (.int .i64) (.pair (.int .i64) (.pair (.sl 9 .str) (.sl 76 (.pair .str (.pair .bool (.sl 3 (.int .i64)))))))) (g_Vs_l20Disk_0 r0 r1 a2),.int .i64 (g_Vs_l20Disk_1 r0 r1 a2)],[[.sl .any 5 (.int .u8) r0,.int .i64 (g_Vs_l20Disk_3 r0 r1 a2)]])
 | _ => none
theorem ss_l20DiskR:Sound Tryd.prog 42 mss_l20DiskR Fs_l20DiskR := by
 refine ⟨ss_l20Disk.fn,fun w S ψ ys vs r outs hF hh hg => ss_l20Disk.calls w S ψ ys vs r outs (Eq.trans ?_ hF) hh hg⟩
 unfold Fs_l20DiskR at hF ⊢
 split at hF
 ·rename_i  r0 r1 a2
  show (some ((g_As_l20Disk r0 r1 a2),.val true [.own .any false 53 (.pair (.int .i64) (.pair (.int .i64) (.pair (.sl 9 .str) (.sl 76 (.pair .str (.pair .bool (.sl 3 (.int .i64)))))))) (g_Vs_l20Disk_0 r0 r1 a2),.int .i64 (g_Vs_l20Disk_1 r0 r1 a2)],[[.sl .any 5 (.int .u8) (g_Vs_l20Disk_2 r0 r1 a2),.int .i64 (g_Vs_l20Disk_3 r0 r1 a2)]]):Option (Bool×RV×List (List Cell))) = _
  rw [sames_l20Disk]
 ·cases hF
noncomputable def Es_l20Open:Env where
 tt := mkTI Tryd.prog
 fn := fun _ => none
 bxf := fun _ => none
 mv := []
 keep := fun _ => []
 keepB := fun _ => []
 keepX := fun _ => []
 keepXB := fun _ => []
theorem goodFs_l20Open:∀ f ms F,Es_l20Open.fn f = some (ms,F) → Sound Tryd.prog f ms F := fun f ms F h => by cases h
theorem goodBs_l20Open:∀ f ms F,Es_l20Open.bxf f = some (ms,F) → SoundB Tryd.prog f ms F := fun f ms F h => by cases h
theorem goods_l20Open:Good Tryd.prog Es_l20Open := ⟨rfl,goodFs_l20Open,goodBs_l20Open⟩
noncomputable def Os_l20Open_0:Orc := fun _ _ => none
noncomputable def mss_l20Open:List PM := [.fz]
noncomputable def lss_l20Open:List (Nat×Code) := loopsAll 0 (Tryd.f35.body.getD .skip)
theorem ks_l20Open_0:OrcOk Es_l20Open Os_l20Open_0 lss_l20Open 0 := orcOk_none
noncomputable def g_As_l20Open (a0:List Int):Bool := Bool.rec (!decide ((↑(List.length a0):Int) > (2000:Int))&&true) true (decide ((0:Int) ≤ (2000:Int) ∧ (2000:Int) ≤ (↑(List.length a0):Int))&&true)
noncomputable def g_Vs_l20Open_0 (a0:List Int):List Int := bif decide ((↑(List.length a0):Int) > (2000:Int)) then List.drop (nat_lit 0) (List.take (nat_lit 2000) a0) else a0
noncomputable def g_Vs_l20Open_1 (a0:List Int):Int := bif decide ((↑(List.length a0):Int) > (2000:Int)) then (0:Int) else (0:Int)
noncomputable def Fs_l20Open:List RV → Option (Bool×List Cell×List (List Cell)) := fun ys => match ys with
 | [.val false [.sl .any 5 (.int .u8) a0]] => some ((g_As_l20Open a0),[.sl .any 5 (.int .u8) (g_Vs_l20Open_0 a0),.int .i64 (g_Vs_l20Open_1 a0)],[])
 | _ => none
theorem vs_l20Open (a0:List Int):collapse Es_l20Open Os_l20Open_0 (execFnB Es_l20Open Tryd.f35 mss_l20Open 2 [.val false [.sl .any 5 (.int .u8) a0]]) = some ((g_As_l20Open a0),.val true [.sl .any 5 (.int .u8) (g_Vs_l20Open_0 a0),.int .i64 (g_Vs_l20Open_1 a0)],[]) := by kernel_rfl
theorem ss_l20Open:SoundB Tryd.prog 35 mss_l20Open Fs_l20Open := by
 refine fn_genB goods_l20Open (by kernel_rfl) (fn := Tryd.f35) (c := (Tryd.f35.body.getD .skip)) (o := Os_l20Open_0) (k := 0) (tr := 2) (by kernel_rfl) (by kernel_rfl) (by kernel_rfl) (by kernel_rfl) (by decide) (by kernel_rfl) (by decide) ks_l20Open_0 ?_
 intro ys r outs h
 unfold Fs_l20Open at h
 split at h
 ·simp only [Option.some.injEq,Prod.mk.injEq] at h
  obtain ⟨h1,h2,h3⟩ := h
  refine ⟨h3.symm,(vs_l20Open _).trans ?_⟩
  rw [h1,h2]
 ·cases h
noncomputable def Es_DrawDiskAdd:Env where
 tt := mkTI Tryd.prog
 fn := fun f => match f with
  | 36 => some (mss_l20Rd_pick,FSem.wk mss_l20Rd_pick Fs_l20Rd_pick)
  | 42 => some (mss_l20DiskR,FSem.wk mss_l20DiskR Fs_l20DiskR)
  | 43 => some (mss_l20Rd_oddR,FSem.wk mss_l20Rd_oddR Fs_l20Rd_oddR)
  | 44 => some (mss_l20NoteR,FSem.wk mss_l20NoteR Fs_l20NoteR)
  | _ => none
 bxf := fun f => match f with
  | 35 => some (mss_l20Open,Fs_l20Open)
  | _ => none
 mv := []
 keep := fun b => match b with
  | 0 => [(2,false),(3,false),(5,false),(6,false)]
  | _ => []
 keepB := fun b => match b with
  | 0 => [(2,false),(3,false),(6,false),(8,false)]
  | _ => []
 keepX := fun b => match b with
  | 0 => [(2,false),(3,false),(5,false),(6,false)]
  | _ => []
 keepXB := fun b => match b with
  | 0 => [(2,false),(3,false),(6,false),(8,false)]
  | _ => []
theorem goodFs_DrawDiskAdd:∀ f ms F,Es_DrawDiskAdd.fn f = some (ms,F) → Sound Tryd.prog f ms F := fun f ms F h => by
 unfold Es_DrawDiskAdd at h
 dsimp only at h
 split at h
 ·injection h with h; injection h with e1 e2; subst e1 e2; exact Sound.wk ss_l20Rd_pick
 ·injection h with h; injection h with e1 e2; subst e1 e2; exact Sound.wk ss_l20DiskR
 ·injection h with h; injection h with e1 e2; subst e1 e2; exact Sound.wk ss_l20Rd_oddR
 ·injection h with h; injection h with e1 e2; subst e1 e2; exact Sound.wk ss_l20NoteR
 ·cases h
theorem goodBs_DrawDiskAdd:∀ f ms F,Es_DrawDiskAdd.bxf f = some (ms,F) → SoundB Tryd.prog f ms F := fun f ms F h => by
 unfold Es_DrawDiskAdd at h
 dsimp only at h
 split at h
 ·injection h with h; injection h with e1 e2; subst e1 e2; exact ss_l20Open
 ·cases h
theorem goods_DrawDiskAdd:Good Tryd.prog Es_DrawDiskAdd := ⟨rfl,goodFs_DrawDiskAdd,goodBs_DrawDiskAdd⟩
noncomputable def Os_DrawDiskAdd_0:Orc := fun _ _ => none
noncomputable def mss_DrawDiskAdd:List PM := [.fz]
noncomputable def lss_DrawDiskAdd:List (Nat×Code) := loopsAll 0 (Tryd.f22.body.getD .skip)
noncomputable def cs_DrawDiskAdd_0:Code := (loopOf 0 (Tryd.f22.body.getD .skip)).getD .skip
theorem lseqs_DrawDiskAdd:lss_DrawDiskAdd = [(0,cs_DrawDiskAdd_0)] := by kernel_rfl
theorem ms_DrawDiskAdd_0:∀ p,p ∈ lss_DrawDiskAdd → p.1 = 0 → p.2 = cs_DrawDiskAdd_0 := by
 intro p hp
 rw [lseqs_DrawDiskAdd] at hp
 simp only [List.mem_cons,List.not_mem_nil,or_false] at hp
 subst hp; simp
theorem ks_DrawDiskAdd_0:OrcOk Es_DrawDiskAdd Os_DrawDiskAdd_0 lss_DrawDiskAdd 0 := orcOk_none
noncomputable def hs_DrawDiskAdd_0 (y0:Int) (y1:List (Int×(Int×((List ByteArray)×(List (ByteArray×(Bool×(List Int)))))))) (y2:Int) (y3:Int) (y4:List ByteArray) (y5:List (ByteArray×(Bool×(List Int)))) (y6:Int) (y7:List (Int×(Int×((List ByteArray)×(List (ByteArray×(Bool×(List Int)))))))) (y8:List Int) (y9:Int):List (Pl×LV) := [(.T 2,.t (.val false [.ptr 2 0 0])),(.T 3,.t (.val false [.ptr 3 0 0])),(.T 5,.t (.val false [.ptr 8 0 0])),(.T 6,.t (.val false [.ptr 6 0 0])),(.B 2,.b 0 false [.row 2 1 0,.int .i64 y0]),(.R 2 1,.r 0 (some ⟨false,.any,true,53,(.pair (.int .i64) (.pair (.int .i64) (.pair (.sl 9 .str) (.sl 76 (.pair .str (.pair .bool (.sl 3 (.int .i64)))))))),y1⟩)),(.B 3,.b 0 false [.int .i64 y2,.int .i64 y3,.row 3 5 0,.row 3 7 0]),(.R 3 5,.r 0 (some ⟨false,.any,true,9,.str,y4⟩)),(.R 3 7,.r 0 (some ⟨false,.any,true,76,(.pair .str (.pair .bool (.sl 3 (.int .i64)))),y5⟩)),(.B 6,.b 0 false [.row 6 1 0,.int .i64 y6]),(.R 6 1,.r 0 (some ⟨false,.any,false,53,(.pair (.int .i64) (.pair (.int .i64) (.pair (.sl 9 .str) (.sl 76 (.pair .str (.pair .bool (.sl 3 (.int .i64)))))))),y7⟩)),(.B 8,.b 0 false [.sl .any 5 (.int .u8) y8,.int .i64 y9])]
noncomputable def g_Ss_DrawDiskAdd_0 (y0:Int) (y1:List (Int×(Int×((List ByteArray)×(List (ByteArray×(Bool×(List Int)))))))) (y2:Int) (y3:Int) (y4:List ByteArray) (y5:List (ByteArray×(Bool×(List Int)))) (y6:Int) (y8:List Int) (y9:Int):((List (Int×(Int×((List ByteArray)×(List (ByteArray×(Bool×(List Int))))))))) → RT ((List (Int×(Int×((List ByteArray)×(List (ByteArray×(Bool×(List Int))))))))) (((List (Int×(Int×((List ByteArray)×(List (ByteArray×(Bool×(List Int))))))))))
 | y7 => .br (true) (.br (decide ((↑(List.length y7):Int) < (120:Int))) (.br (decide ((List.length y7 + nat_lit 1) * nat_lit 64 ≤ nat_lit 140737488355328 ∧ List.length y7 + nat_lit 1 ≤ nat_lit 9223372036854775807)) (.go (y7 ++ [((3:Int),(0:Int),[],[])])) .bad) (.out (y7))) .bad
noncomputable def g_Ls_DrawDiskAdd_0 (y0:Int) (y1:List (Int×(Int×((List ByteArray)×(List (ByteArray×(Bool×(List Int)))))))) (y2:Int) (y3:Int) (y4:List ByteArray) (y5:List (ByteArray×(Bool×(List Int)))) (y6:Int) (y8:List Int) (y9:Int) (x:(List (Int×(Int×((List ByteArray)×(List (ByteArray×(Bool×(List Int))))))))):Option (((List (Int×(Int×((List ByteArray)×(List (ByteArray×(Bool×(List Int)))))))))) := loopO (g_Ss_DrawDiskAdd_0 y0 y1 y2 y3 y4 y5 y6 y8 y9) x
noncomputable def xs_DrawDiskAdd_0 (y0:Int) (y1:List (Int×(Int×((List ByteArray)×(List (ByteArray×(Bool×(List Int)))))))) (y2:Int) (y3:Int) (y4:List ByteArray) (y5:List (ByteArray×(Bool×(List Int)))) (y6:Int) (y8:List Int) (y9:Int):(((List (Int×(Int×((List ByteArray)×(List (ByteArray×(Bool×(List Int)))))))))) → Ex×List (Pl×LV) := fun r => (.exit 0,[(.T 2,.t (.val false [.ptr 2 0 0])),(.T 3,.t (.val false [.ptr 3 0 0])),(.T 5,.t (.val false [.ptr 8 0 0])),(.T 6,.t (.val false [.ptr 6 0 0])),(.B 2,.b 0 false [.row 2 1 0,.int .i64 y0]),(.R 2 1,.r 0 (some ⟨false,.any,true,53,(.pair (.int .i64) (.pair (.int .i64) (.pair (.sl 9 .str) (.sl 76 (.pair .str (.pair .bool (.sl 3 (.int .i64)))))))),y1⟩)),(.B 3,.b 0 false [.int .i64 y2,.int .i64 y3,.row 3 5 0,.row 3 7 0]),(.R 3 5,.r 0 (some ⟨false,.any,true,9,.str,y4⟩)),(.R 3 7,.r 0 (some ⟨false,.any,true,76,(.pair .str (.pair .bool (.sl 3 (.int .i64)))),y5⟩)),(.B 6,.b 0 false [.row 6 1 0,.int .i64 y6]),(.R 6 1,.r 0 (some ⟨false,.any,false,53,(.pair (.int .i64) (.pair (.int .i64) (.pair (.sl 9 .str) (.sl 76 (.pair .str (.pair .bool (.sl 3 (.int .i64)))))))),r⟩)),(.B 8,.b 0 false [.sl .any 5 (.int .u8) y8,.int .i64 y9])])
noncomputable def Os_DrawDiskAdd_1:Orc := fun b h => match b,h with
 | 0,[(.T 2,.t (.val false [.ptr 2 0 0])),(.T 3,.t (.val false [.ptr 3 0 0])),(.T 5,.t (.val false [.ptr 8 0 0])),(.T 6,.t (.val false [.ptr 6 0 0])),(.B 2,.b 0 false [.row 2 1 0,.int .i64 y0]),(.R 2 1,.r 0 (some ⟨false,.any,true,53,(.pair (.int .i64) (.pair (.int .i64) (.pair (.sl 9 .str) (.sl 76 (.pair .str (.pair .bool (.sl 3 (.int .i64)))))))),y1⟩)),(.B 3,.b 0 false [.int .i64 y2,.int .i64 y3,.row 3 5 0,.row 3 7 0]),(.R 3 5,.r 0 (some ⟨false,.any,true,9,.str,y4⟩)),(.R 3 7,.r 0 (some ⟨false,.any,true,76,(.pair .str (.pair .bool (.sl 3 (.int .i64)))),y5⟩)),(.B 6,.b 0 false [.row 6 1 0,.int .i64 y6]),(.R 6 1,.r 0 (some ⟨false,.any,false,53,(.pair (.int .i64) (.pair (.int .i64) (.pair (.sl 9 .str) (.sl 76 (.pair .str (.pair .bool (.sl 3 (.int .i64)))))))),y7⟩)),(.B 8,.b 0 false [.sl .any 5 (.int .u8) y8,.int .i64 y9])] => some (okO (g_Ls_DrawDiskAdd_0 y0 y1 y2 y3 y4 y5 y6 y8 y9 y7),(.leaf (.exit 0) [(.T 2,.t (.val false [.ptr 2 0 0])),(.T 3,.t (.val false [.ptr 3 0 0])),(.T 5,.t (.val false [.ptr 8 0 0])),(.T 6,.t (.val false [.ptr 6 0 0])),(.B 2,.b 0 false [.row 2 1 0,.int .i64 y0]),(.R 2 1,.r 0 (some ⟨false,.any,true,53,(.pair (.int .i64) (.pair (.int .i64) (.pair (.sl 9 .str) (.sl 76 (.pair .str (.pair .bool (.sl 3 (.int .i64)))))))),y1⟩)),(.B 3,.b 0 false [.int .i64 y2,.int .i64 y3,.row 3 5 0,.row 3 7 0]),(.R 3 5,.r 0 (some ⟨false,.any,true,9,.str,y4⟩)),(.R 3 7,.r 0 (some ⟨false,.any,true,76,(.pair .str (.pair .bool (.sl 3 (.int .i64)))),y5⟩)),(.B 6,.b 0 false [.row 6 1 0,.int .i64 y6]),(.R 6 1,.r 0 (some ⟨false,.any,false,53,(.pair (.int .i64) (.pair (.int .i64) (.pair (.sl 9 .str) (.sl 76 (.pair .str (.pair .bool (.sl 3 (.int .i64)))))))),(valO (g_Ls_DrawDiskAdd_0 y0 y1 y2 y3 y4 y5 y6 y8 y9 y7))⟩)),(.B 8,.b 0 false [.sl .any 5 (.int .u8) y8,.int .i64 y9])]))
 | b,h => Os_DrawDiskAdd_0 b h
theorem bs_DrawDiskAdd_0 (y0:Int) (y1:List (Int×(Int×((List ByteArray)×(List (ByteArray×(Bool×(List Int)))))))) (y2:Int) (y3:Int) (y4:List ByteArray) (y5:List (ByteArray×(Bool×(List Int)))) (y6:Int) (y7:List (Int×(Int×((List ByteArray)×(List (ByteArray×(Bool×(List Int)))))))) (y8:List Int) (y9:Int):Tr.bt Es_DrawDiskAdd Os_DrawDiskAdd_0 (exec Es_DrawDiskAdd 0 cs_DrawDiskAdd_0 (St.of (hs_DrawDiskAdd_0 y0 y1 y2 y3 y4 y5 y6 y7 y8 y9)) (leafRd Es_DrawDiskAdd 0)) = (g_Ss_DrawDiskAdd_0 y0 y1 y2 y3 y4 y5 y6 y8 y9 y7).bt (fun (y7:(List (Int×(Int×((List ByteArray)×(List (ByteArray×(Bool×(List Int))))))))) => (hs_DrawDiskAdd_0 y0 y1 y2 y3 y4 y5 y6 y7 y8 y9)) (xs_DrawDiskAdd_0 y0 y1 y2 y3 y4 y5 y6 y8 y9) := by kernel_rfl
theorem ks_DrawDiskAdd_1:OrcOk Es_DrawDiskAdd Os_DrawDiskAdd_1 lss_DrawDiskAdd 1 := orc_add ks_DrawDiskAdd_0 (fun n p hp h ex h' ho => by
 obtain ⟨b,c⟩ := p
 obtain ⟨xt,h1,h2⟩ := ho
 have h1:Os_DrawDiskAdd_1 b h = some (true,xt) := h1
 unfold Os_DrawDiskAdd_1 at h1
 split at h1
 ·injection h1 with h1
  injection h1 with e1 e2
  subst e2
  have hc:c = cs_DrawDiskAdd_0 := ms_DrawDiskAdd_0 _ hp rfl
  subst hc
  right
  rename_i y0 y1 y2 y3 y4 y5 y6 y7 y8 y9
  have key := LT_step ks_DrawDiskAdd_0 hp (fun q hq => loopsAll_in _ _ _ _ hp hq) (fun (y7:(List (Int×(Int×((List ByteArray)×(List (ByteArray×(Bool×(List Int))))))))) => (hs_DrawDiskAdd_0 y0 y1 y2 y3 y4 y5 y6 y7 y8 y9)) (xs_DrawDiskAdd_0 y0 y1 y2 y3 y4 y5 y6 y8 y9) (g_Ss_DrawDiskAdd_0 y0 y1 y2 y3 y4 y5 y6 y8 y9) (fun x => by first | exact bs_DrawDiskAdd_0 y0 y1 y2 y3 y4 y5 y6 x y8 y9) n (x := y7) (okO_some e1)
  have hx:∀ r,XT.sel (.leaf (.exit 0) [(.T 2,.t (.val false [.ptr 2 0 0])),(.T 3,.t (.val false [.ptr 3 0 0])),(.T 5,.t (.val false [.ptr 8 0 0])),(.T 6,.t (.val false [.ptr 6 0 0])),(.B 2,.b 0 false [.row 2 1 0,.int .i64 y0]),(.R 2 1,.r 0 (some ⟨false,.any,true,53,(.pair (.int .i64) (.pair (.int .i64) (.pair (.sl 9 .str) (.sl 76 (.pair .str (.pair .bool (.sl 3 (.int .i64)))))))),y1⟩)),(.B 3,.b 0 false [.int .i64 y2,.int .i64 y3,.row 3 5 0,.row 3 7 0]),(.R 3 5,.r 0 (some ⟨false,.any,true,9,.str,y4⟩)),(.R 3 7,.r 0 (some ⟨false,.any,true,76,(.pair .str (.pair .bool (.sl 3 (.int .i64)))),y5⟩)),(.B 6,.b 0 false [.row 6 1 0,.int .i64 y6]),(.R 6 1,.r 0 (some ⟨false,.any,false,53,(.pair (.int .i64) (.pair (.int .i64) (.pair (.sl 9 .str) (.sl 76 (.pair .str (.pair .bool (.sl 3 (.int .i64)))))))),r⟩)),(.B 8,.b 0 false [.sl .any 5 (.int .u8) y8,.int .i64 y9])]) = xs_DrawDiskAdd_0 y0 y1 y2 y3 y4 y5 y6 y8 y9 r := fun r => by first | rfl | (rcases r with r | r <;> rfl) | (rcases r with r | r | r <;> rfl) | (rcases r with r | r | r | r <;> rfl)
  have h3 := (hx (valO (g_Ls_DrawDiskAdd_0 y0 y1 y2 y3 y4 y5 y6 y8 y9 y7))).symm.trans h2
  have e3 := congrArg Prod.fst h3
  have e4 := congrArg Prod.snd h3
  simp only at e3 e4
  rw [← e3,← e4]
  exact key
 ·exact .inl ⟨xt,h1,h2⟩)
noncomputable def g_As_DrawDiskAdd (a0:List Int):Bool := g_As_l20Open a0&&(g_As_l20Disk (g_Vs_l20Open_0 a0) (g_Vs_l20Open_1 a0) (12:Int)&&(g_As_l20Rd_odd (g_Vs_l20Open_0 a0) (g_Vs_l20Disk_3 (g_Vs_l20Open_0 a0) (g_Vs_l20Open_1 a0) (12:Int)) (20:Int)&&bif g_Vs_l20Rd_odd_0 (g_Vs_l20Open_0 a0) (g_Vs_l20Disk_3 (g_Vs_l20Open_0 a0) (g_Vs_l20Open_1 a0) (12:Int)) (20:Int) then okO (g_Ls_DrawDiskAdd_0 (0:Int) [] (0:Int) (0:Int) [] [] (g_Vs_l20Disk_1 (g_Vs_l20Open_0 a0) (g_Vs_l20Open_1 a0) (12:Int)) (g_Vs_l20Open_0 a0) (g_Vs_l20Rd_odd_2 (g_Vs_l20Open_0 a0) (g_Vs_l20Disk_3 (g_Vs_l20Open_0 a0) (g_Vs_l20Open_1 a0) (12:Int)) (20:Int)) (g_Vs_l20Disk_0 (g_Vs_l20Open_0 a0) (g_Vs_l20Open_1 a0) (12:Int)))&&(g_As_l20Note (g_Vs_l20Open_0 a0) (g_Vs_l20Rd_odd_2 (g_Vs_l20Open_0 a0) (g_Vs_l20Disk_3 (g_Vs_l20Open_0 a0) (g_Vs_l20Open_1 a0) (12:Int)) (20:Int)) (9:Int)&&(g_pickA (g_Vs_l20Open_0 a0) (g_Vs_l20Note_5 (g_Vs_l20Open_0 a0) (g_Vs_l20Rd_odd_2 (g_Vs_l20Open_0 a0) (g_Vs_l20Disk_3 (g_Vs_l20Open_0 a0) (g_Vs_l20Open_1 a0) (12:Int)) (20:Int)) (9:Int)) (2:Int)&&true)) else g_As_l20Note (g_Vs_l20Open_0 a0) (g_Vs_l20Rd_odd_2 (g_Vs_l20Open_0 a0) (g_Vs_l20Disk_3 (g_Vs_l20Open_0 a0) (g_Vs_l20Open_1 a0) (12:Int)) (20:Int)) (9:Int)&&(g_pickA (g_Vs_l20Open_0 a0) (g_Vs_l20Note_5 (g_Vs_l20Open_0 a0) (g_Vs_l20Rd_odd_2 (g_Vs_l20Open_0 a0) (g_Vs_l20Disk_3 (g_Vs_l20Open_0 a0) (g_Vs_l20Open_1 a0) (12:Int)) (20:Int)) (9:Int)) (2:Int)&&true)))
noncomputable def g_Vs_DrawDiskAdd_0 (a0:List Int):List (Int×(Int×((List ByteArray)×(List (ByteArray×(Bool×(List Int))))))) := bif g_Vs_l20Rd_odd_0 (g_Vs_l20Open_0 a0) (g_Vs_l20Disk_3 (g_Vs_l20Open_0 a0) (g_Vs_l20Open_1 a0) (12:Int)) (20:Int) then valO (g_Ls_DrawDiskAdd_0 (0:Int) [] (0:Int) (0:Int) [] [] (g_Vs_l20Disk_1 (g_Vs_l20Open_0 a0) (g_Vs_l20Open_1 a0) (12:Int)) (g_Vs_l20Open_0 a0) (g_Vs_l20Rd_odd_2 (g_Vs_l20Open_0 a0) (g_Vs_l20Disk_3 (g_Vs_l20Open_0 a0) (g_Vs_l20Open_1 a0) (12:Int)) (20:Int)) (g_Vs_l20Disk_0 (g_Vs_l20Open_0 a0) (g_Vs_l20Open_1 a0) (12:Int))) else g_Vs_l20Disk_0 (g_Vs_l20Open_0 a0) (g_Vs_l20Open_1 a0) (12:Int)
noncomputable def g_Vs_DrawDiskAdd_1 (a0:List Int):Int := bif g_Vs_l20Rd_odd_0 (g_Vs_l20Open_0 a0) (g_Vs_l20Disk_3 (g_Vs_l20Open_0 a0) (g_Vs_l20Open_1 a0) (12:Int)) (20:Int) then g_Vs_l20Disk_1 (g_Vs_l20Open_0 a0) (g_Vs_l20Open_1 a0) (12:Int) else g_Vs_l20Disk_1 (g_Vs_l20Open_0 a0) (g_Vs_l20Open_1 a0) (12:Int)
noncomputable def g_Vs_DrawDiskAdd_2 (a0:List Int):Int := bif g_Vs_l20Rd_odd_0 (g_Vs_l20Open_0 a0) (g_Vs_l20Disk_3 (g_Vs_l20Open_0 a0) (g_Vs_l20Open_1 a0) (12:Int)) (20:Int) then g_Vs_l20Note_0 (g_Vs_l20Open_0 a0) (g_Vs_l20Rd_odd_2 (g_Vs_l20Open_0 a0) (g_Vs_l20Disk_3 (g_Vs_l20Open_0 a0) (g_Vs_l20Open_1 a0) (12:Int)) (20:Int)) (9:Int) else g_Vs_l20Note_0 (g_Vs_l20Open_0 a0) (g_Vs_l20Rd_odd_2 (g_Vs_l20Open_0 a0) (g_Vs_l20Disk_3 (g_Vs_l20Open_0 a0) (g_Vs_l20Open_1 a0) (12:Int)) (20:Int)) (9:Int)
noncomputable def g_Vs_DrawDiskAdd_3 (a0:List Int):Int := bif g_Vs_l20Rd_odd_0 (g_Vs_l20Open_0 a0) (g_Vs_l20Disk_3 (g_Vs_l20Open_0 a0) (g_Vs_l20Open_1 a0) (12:Int)) (20:Int) then g_Vs_l20Note_1 (g_Vs_l20Open_0 a0) (g_Vs_l20Rd_odd_2 (g_Vs_l20Open_0 a0) (g_Vs_l20Disk_3 (g_Vs_l20Open_0 a0) (g_Vs_l20Open_1 a0) (12:Int)) (20:Int)) (9:Int) else g_Vs_l20Note_1 (g_Vs_l20Open_0 a0) (g_Vs_l20Rd_odd_2 (g_Vs_l20Open_0 a0) (g_Vs_l20Disk_3 (g_Vs_l20Open_0 a0) (g_Vs_l20Open_1 a0) (12:Int)) (20:Int)) (9:Int)
noncomputable def g_Vs_DrawDiskAdd_4 (a0:List Int):List ByteArray := bif g_Vs_l20Rd_odd_0 (g_Vs_l20Open_0 a0) (g_Vs_l20Disk_3 (g_Vs_l20Open_0 a0) (g_Vs_l20Open_1 a0) (12:Int)) (20:Int) then g_Vs_l20Note_2 (g_Vs_l20Open_0 a0) (g_Vs_l20Rd_odd_2 (g_Vs_l20Open_0 a0) (g_Vs_l20Disk_3 (g_Vs_l20Open_0 a0) (g_Vs_l20Open_1 a0) (12:Int)) (20:Int)) (9:Int) else g_Vs_l20Note_2 (g_Vs_l20Open_0 a0) (g_Vs_l20Rd_odd_2 (g_Vs_l20Open_0 a0) (g_Vs_l20Disk_3 (g_Vs_l20Open_0 a0) (g_Vs_l20Open_1 a0) (12:Int)) (20:Int)) (9:Int)
noncomputable def g_Vs_DrawDiskAdd_5 (a0:List Int):List (ByteArray×(Bool×(List Int))) := bif g_Vs_l20Rd_odd_0 (g_Vs_l20Open_0 a0) (g_Vs_l20Disk_3 (g_Vs_l20Open_0 a0) (g_Vs_l20Open_1 a0) (12:Int)) (20:Int) then g_Vs_l20Note_3 (g_Vs_l20Open_0 a0) (g_Vs_l20Rd_odd_2 (g_Vs_l20Open_0 a0) (g_Vs_l20Disk_3 (g_Vs_l20Open_0 a0) (g_Vs_l20Open_1 a0) (12:Int)) (20:Int)) (9:Int) else g_Vs_l20Note_3 (g_Vs_l20Open_0 a0) (g_Vs_l20Rd_odd_2 (g_Vs_l20Open_0 a0) (g_Vs_l20Disk_3 (g_Vs_l20Open_0 a0) (g_Vs_l20Open_1 a0) (12:Int)) (20:Int)) (9:Int)
noncomputable def g_Vs_DrawDiskAdd_6 (a0:List Int):Bool := bif g_Vs_l20Rd_odd_0 (g_Vs_l20Open_0 a0) (g_Vs_l20Disk_3 (g_Vs_l20Open_0 a0) (g_Vs_l20Open_1 a0) (12:Int)) (20:Int) then g_pick (g_Vs_l20Open_0 a0) (g_Vs_l20Note_5 (g_Vs_l20Open_0 a0) (g_Vs_l20Rd_odd_2 (g_Vs_l20Open_0 a0) (g_Vs_l20Disk_3 (g_Vs_l20Open_0 a0) (g_Vs_l20Open_1 a0) (12:Int)) (20:Int)) (9:Int)) (2:Int) == (0:Int) else g_pick (g_Vs_l20Open_0 a0) (g_Vs_l20Note_5 (g_Vs_l20Open_0 a0) (g_Vs_l20Rd_odd_2 (g_Vs_l20Open_0 a0) (g_Vs_l20Disk_3 (g_Vs_l20Open_0 a0) (g_Vs_l20Open_1 a0) (12:Int)) (20:Int)) (9:Int)) (2:Int) == (0:Int)
noncomputable def Fs_DrawDiskAdd:FSem := fun ys => match ys with
 | [.val false [.sl .any 5 (.int .u8) a0]] => some ((g_As_DrawDiskAdd a0),.tup [(true,[.sl .any 53 (.pair (.int .i64) (.pair (.int .i64) (.pair (.sl 9 .str) (.sl 76 (.pair .str (.pair .bool (.sl 3 (.int .i64)))))))) (g_Vs_DrawDiskAdd_0 a0),.int .i64 (g_Vs_DrawDiskAdd_1 a0)]),(true,[.int .i64 (g_Vs_DrawDiskAdd_2 a0),.int .i64 (g_Vs_DrawDiskAdd_3 a0),.sl .any 9 .str (g_Vs_DrawDiskAdd_4 a0),.sl .any 76 (.pair .str (.pair .bool (.sl 3 (.int .i64)))) (g_Vs_DrawDiskAdd_5 a0)]),(false,[.bool (g_Vs_DrawDiskAdd_6 a0)])],[])
 | _ => none
theorem vs_DrawDiskAdd (a0:List Int):collapseH .fr Es_DrawDiskAdd Os_DrawDiskAdd_1 (execFn Es_DrawDiskAdd Tryd.f22 mss_DrawDiskAdd [.val false [.sl .any 5 (.int .u8) a0]]) = some ((g_As_DrawDiskAdd a0),.tup [(true,[.sl .any 53 (.pair (.int .i64) (.pair (.int .i64) (.pair (.sl 9 .str) (.sl 76 (.pair .str (.pair .bool (.sl 3 (.int .i64)))))))) (g_Vs_DrawDiskAdd_0 a0),.int .i64 (g_Vs_DrawDiskAdd_1 a0)]),(true,[.int .i64 (g_Vs_DrawDiskAdd_2 a0),.int .i64 (g_Vs_DrawDiskAdd_3 a0),.sl .any 9 .str (g_Vs_DrawDiskAdd_4 a0),.sl .any 76 (.pair .str (.pair .bool (.sl 3 (.int .i64)))) (g_Vs_DrawDiskAdd_5 a0)]),(false,[.bool (g_Vs_DrawDiskAdd_6 a0)])],[]) := by kernel_rfl
theorem ss_DrawDiskAdd:Sound Tryd.prog 22 mss_DrawDiskAdd Fs_DrawDiskAdd := by
 refine fn_gen goods_DrawDiskAdd (by kernel_rfl) .fr (fn := Tryd.f22) (c := (Tryd.f22.body.getD .skip)) (o := Os_DrawDiskAdd_1) (k := 1) (by kernel_rfl) (by kernel_rfl) (by kernel_rfl) (by kernel_rfl) (by decide) ks_DrawDiskAdd_1 ?_
 intro ys r outs h
 unfold Fs_DrawDiskAdd at h
 split at h
 ·exact (vs_DrawDiskAdd _).trans h
 ·cases h
noncomputable def Ew_jaTexts:Env where
 tt := mkTI Tryd.prog
 fn := fun _ => none
 bxf := fun _ => none
 mv := []
 keep := fun b => match b with
  | 0 => [(0,false),(1,false),(5,false)]
  | _ => []
 keepB := fun b => match b with
  | 0 => []
  | _ => []
 keepX := fun b => match b with
  | 0 => [(4,false)]
  | _ => []
 keepXB := fun b => match b with
  | 0 => []
  | _ => []
theorem goodFw_jaTexts:∀ f ms F,Ew_jaTexts.fn f = some (ms,F) → Sound Tryd.prog f ms F := fun f ms F h => by cases h
theorem goodBw_jaTexts:∀ f ms F,Ew_jaTexts.bxf f = some (ms,F) → SoundB Tryd.prog f ms F := fun f ms F h => by cases h
theorem goodw_jaTexts:Good Tryd.prog Ew_jaTexts := ⟨rfl,goodFw_jaTexts,goodBw_jaTexts⟩
noncomputable def Ow_jaTexts_0:Orc := fun _ _ => none
noncomputable def msw_jaTexts:List PM := [.fz,.rd]
noncomputable def lsw_jaTexts:List (Nat×Code) := loopsAll 0 (Tryd.f90.body.getD .skip)
noncomputable def cw_jaTexts_0:Code := (loopOf 0 (Tryd.f90.body.getD .skip)).getD .skip
theorem lseqw_jaTexts:lsw_jaTexts = [(0,cw_jaTexts_0)] := by kernel_rfl
theorem mw_jaTexts_0:∀ p,p ∈ lsw_jaTexts → p.1 = 0 → p.2 = cw_jaTexts_0 := by
 intro p hp
 rw [lseqw_jaTexts] at hp
 simp only [List.mem_cons,List.not_mem_nil,or_false] at hp
 subst hp; simp
theorem kw_jaTexts_0:OrcOk Ew_jaTexts Ow_jaTexts_0 lsw_jaTexts 0 := orcOk_none
noncomputable def hw_jaTexts_0 (y0:List ByteArray) (y1:List ByteArray) (y2:Int):List (Pl×LV) := [(.T 0,.t (.val false [.sl .any 9 .str y0])),(.T 1,.t (.val false [.sl .any 9 .str y1])),(.T 5,.t (.val false [.int .i64 y2]))]
noncomputable def g_Sw_jaTexts_0 (y0:List ByteArray) (y1:List ByteArray):(Int) → RT (Int) ((Bool) ⊕ (Unit))
 | y2 => .br (true) (.br (decide (y2 < (↑(List.length y0):Int))) (.br (decide ((0:Int) ≤ y2 ∧ y2 < (↑(List.length y0):Int))) (.br (decide ((0:Int) ≤ y2 ∧ y2 < (↑(List.length y1):Int))) (.br (true) (.br (!ByteArray.toList (at_ Ty.str y0 (Int.toNat y2)) == ByteArray.toList (at_ Ty.str y1 (Int.toNat y2))) (.out (.inl false)) (.br (true) (.go (IntKind.wrap IntKind.i64 (y2 + (1:Int)))) .bad)) .bad) .bad) .bad) (.out (.inr (())))) .bad
noncomputable def g_Lw_jaTexts_0 (y0:List ByteArray) (y1:List ByteArray) (x:Int):Option ((Bool) ⊕ (Unit)) := loopO (g_Sw_jaTexts_0 y0 y1) x
noncomputable def xw_jaTexts_0 (y0:List ByteArray) (y1:List ByteArray):((Bool) ⊕ (Unit)) → Ex×List (Pl×LV) := fun
 | .inl r => (.ret,[(.T 4,.t (.val false [.bool r]))])
 | .inr (r) => (.exit 0,[(.T 4,.t (.val false [.undef]))])
noncomputable def Ow_jaTexts_1:Orc := fun b h => match b,h with
 | 0,[(.T 0,.t (.val false [.sl .any 9 .str y0])),(.T 1,.t (.val false [.sl .any 9 .str y1])),(.T 5,.t (.val false [.int .i64 y2]))] => some (okO (g_Lw_jaTexts_0 y0 y1 y2),(.br (isL (valO (g_Lw_jaTexts_0 y0 y1 y2))) (.leaf .ret [(.T 4,.t (.val false [.bool (getL (valO (g_Lw_jaTexts_0 y0 y1 y2)))]))]) (.leaf (.exit 0) [(.T 4,.t (.val false [.undef]))])))
 | b,h => Ow_jaTexts_0 b h
theorem bw_jaTexts_0 (y0:List ByteArray) (y1:List ByteArray) (y2:Int):Tr.bt Ew_jaTexts Ow_jaTexts_0 (exec Ew_jaTexts 0 cw_jaTexts_0 (St.of (hw_jaTexts_0 y0 y1 y2)) (leafRd Ew_jaTexts 0)) = (g_Sw_jaTexts_0 y0 y1 y2).bt (fun (y2:Int) => (hw_jaTexts_0 y0 y1 y2)) (xw_jaTexts_0 y0 y1) := by kernel_rfl
theorem kw_jaTexts_1:OrcOk Ew_jaTexts Ow_jaTexts_1 lsw_jaTexts 1 := orc_add kw_jaTexts_0 (fun n p hp h ex h' ho => by
 obtain ⟨b,c⟩ := p
 obtain ⟨xt,h1,h2⟩ := ho
 have h1:Ow_jaTexts_1 b h = some (true,xt) := h1
 unfold Ow_jaTexts_1 at h1
 split at h1
 ·injection h1 with h1
  injection h1 with e1 e2
  subst e2
  have hc:c = cw_jaTexts_0 := mw_jaTexts_0 _ hp rfl
  subst hc
  right
  rename_i y0 y1 y2
  have key := LT_step kw_jaTexts_0 hp (fun q hq => loopsAll_in _ _ _ _ hp hq) (fun (y2:Int) => (hw_jaTexts_0 y0 y1 y2)) (xw_jaTexts_0 y0 y1) (g_Sw_jaTexts_0 y0 y1) (fun x => by first | exact bw_jaTexts_0 y0 y1 x) n (x := y2) (okO_some e1)
  have hx:∀ r,XT.sel (.br (isL r) (.leaf .ret [(.T 4,.t (.val false [.bool (getL r)]))]) (.leaf (.exit 0) [(.T 4,.t (.val false [.undef]))])) = xw_jaTexts_0 y0 y1 r := fun r => by first | rfl | (rcases r with r | r <;> rfl) | (rcases r with r | r | r <;> rfl) | (rcases r with r | r | r | r <;> rfl)
  have h3 := (hx (valO (g_Lw_jaTexts_0 y0 y1 y2))).symm.trans h2
  have e3 := congrArg Prod.fst h3
  have e4 := congrArg Prod.snd h3
  simp only at e3 e4
  rw [← e3,← e4]
  exact key
 ·exact .inl ⟨xt,h1,h2⟩)
noncomputable def g_Aw_jaTexts (a0:List ByteArray) (a1:List ByteArray):Bool := (↑(List.length a0):Int) != (↑(List.length a1):Int) || okO (g_Lw_jaTexts_0 a0 a1 (0:Int))
noncomputable def g_Vw_jaTexts_0 (a0:List ByteArray) (a1:List ByteArray):Bool := bif (↑(List.length a0):Int) != (↑(List.length a1):Int) then false else bif isL (valO (g_Lw_jaTexts_0 a0 a1 (0:Int))) then getL (valO (g_Lw_jaTexts_0 a0 a1 (0:Int))) else true
noncomputable def Fw_jaTexts:FSem := fun ys => match ys with
 | [.val false [.sl .any 9 .str a0],.val false [.sl .any 9 .str a1]] => some ((g_Aw_jaTexts a0 a1),.val false [.bool (g_Vw_jaTexts_0 a0 a1)],[])
 | _ => none
theorem vw_jaTexts (a0:List ByteArray) (a1:List ByteArray):collapseH .std Ew_jaTexts Ow_jaTexts_1 (execFn Ew_jaTexts Tryd.f90 msw_jaTexts [.val false [.sl .any 9 .str a0],.val false [.sl .any 9 .str a1]]) = some ((g_Aw_jaTexts a0 a1),.val false [.bool (g_Vw_jaTexts_0 a0 a1)],[]) := by kernel_rfl
theorem sw_jaTexts:Sound Tryd.prog 90 msw_jaTexts Fw_jaTexts := by
 refine fn_gen goodw_jaTexts (by kernel_rfl) .std (fn := Tryd.f90) (c := (Tryd.f90.body.getD .skip)) (o := Ow_jaTexts_1) (k := 1) (by kernel_rfl) (by kernel_rfl) (by kernel_rfl) (by kernel_rfl) (by decide) kw_jaTexts_1 ?_
 intro ys r outs h
 unfold Fw_jaTexts at h
 split at h
 ·exact (vw_jaTexts _ _).trans h
 ·cases h
noncomputable def Ew_jaInts:Env where
 tt := mkTI Tryd.prog
 fn := fun _ => none
 bxf := fun _ => none
 mv := []
 keep := fun b => match b with
  | 0 => [(0,false),(1,false),(5,false)]
  | _ => []
 keepB := fun b => match b with
  | 0 => []
  | _ => []
 keepX := fun b => match b with
  | 0 => [(4,false)]
  | _ => []
 keepXB := fun b => match b with
  | 0 => []
  | _ => []
theorem goodFw_jaInts:∀ f ms F,Ew_jaInts.fn f = some (ms,F) → Sound Tryd.prog f ms F := fun f ms F h => by cases h
theorem goodBw_jaInts:∀ f ms F,Ew_jaInts.bxf f = some (ms,F) → SoundB Tryd.prog f ms F := fun f ms F h => by cases h
theorem goodw_jaInts:Good Tryd.prog Ew_jaInts := ⟨rfl,goodFw_jaInts,goodBw_jaInts⟩
noncomputable def Ow_jaInts_0:Orc := fun _ _ => none
noncomputable def msw_jaInts:List PM := [.rd,.rd]
noncomputable def lsw_jaInts:List (Nat×Code) := loopsAll 0 (Tryd.f20.body.getD .skip)
noncomputable def cw_jaInts_0:Code := (loopOf 0 (Tryd.f20.body.getD .skip)).getD .skip
theorem lseqw_jaInts:lsw_jaInts = [(0,cw_jaInts_0)] := by kernel_rfl
theorem mw_jaInts_0:∀ p,p ∈ lsw_jaInts → p.1 = 0 → p.2 = cw_jaInts_0 := by
 intro p hp
 rw [lseqw_jaInts] at hp
 simp only [List.mem_cons,List.not_mem_nil,or_false] at hp
 subst hp; simp
theorem kw_jaInts_0:OrcOk Ew_jaInts Ow_jaInts_0 lsw_jaInts 0 := orcOk_none
noncomputable def hw_jaInts_0 (y0:List Int) (y1:List Int) (y2:Int):List (Pl×LV) := [(.T 0,.t (.val false [.sl .any 3 (.int .i64) y0])),(.T 1,.t (.val false [.sl .any 3 (.int .i64) y1])),(.T 5,.t (.val false [.int .i64 y2]))]
noncomputable def g_Sw_jaInts_0 (y0:List Int) (y1:List Int):(Int) → RT (Int) ((Bool) ⊕ (Unit))
 | y2 => .br (true) (.br (decide (y2 < (↑(List.length y0):Int))) (.br (decide ((0:Int) ≤ y2 ∧ y2 < (↑(List.length y0):Int))) (.br (decide ((0:Int) ≤ y2 ∧ y2 < (↑(List.length y1):Int))) (.br (true) (.br (at_ (Ty.int IntKind.i64) y0 (Int.toNat y2) != at_ (Ty.int IntKind.i64) y1 (Int.toNat y2)) (.out (.inl false)) (.br (true) (.go (IntKind.wrap IntKind.i64 (y2 + (1:Int)))) .bad)) .bad) .bad) .bad) (.out (.inr (())))) .bad
noncomputable def g_Lw_jaInts_0 (y0:List Int) (y1:List Int) (x:Int):Option ((Bool) ⊕ (Unit)) := loopO (g_Sw_jaInts_0 y0 y1) x
noncomputable def xw_jaInts_0 (y0:List Int) (y1:List Int):((Bool) ⊕ (Unit)) → Ex×List (Pl×LV) := fun
 | .inl r => (.ret,[(.T 4,.t (.val false [.bool r]))])
 | .inr (r) => (.exit 0,[(.T 4,.t (.val false [.undef]))])
noncomputable def Ow_jaInts_1:Orc := fun b h => match b,h with
 | 0,[(.T 0,.t (.val false [.sl .any 3 (.int .i64) y0])),(.T 1,.t (.val false [.sl .any 3 (.int .i64) y1])),(.T 5,.t (.val false [.int .i64 y2]))] => some (okO (g_Lw_jaInts_0 y0 y1 y2),(.br (isL (valO (g_Lw_jaInts_0 y0 y1 y2))) (.leaf .ret [(.T 4,.t (.val false [.bool (getL (valO (g_Lw_jaInts_0 y0 y1 y2)))]))]) (.leaf (.exit 0) [(.T 4,.t (.val false [.undef]))])))
 | b,h => Ow_jaInts_0 b h
theorem bw_jaInts_0 (y0:List Int) (y1:List Int) (y2:Int):Tr.bt Ew_jaInts Ow_jaInts_0 (exec Ew_jaInts 0 cw_jaInts_0 (St.of (hw_jaInts_0 y0 y1 y2)) (leafRd Ew_jaInts 0)) = (g_Sw_jaInts_0 y0 y1 y2).bt (fun (y2:Int) => (hw_jaInts_0 y0 y1 y2)) (xw_jaInts_0 y0 y1) := by kernel_rfl
theorem kw_jaInts_1:OrcOk Ew_jaInts Ow_jaInts_1 lsw_jaInts 1 := orc_add kw_jaInts_0 (fun n p hp h ex h' ho => by
 obtain ⟨b,c⟩ := p
 obtain ⟨xt,h1,h2⟩ := ho
 have h1:Ow_jaInts_1 b h = some (true,xt) := h1
 unfold Ow_jaInts_1 at h1
 split at h1
 ·injection h1 with h1
  injection h1 with e1 e2
  subst e2
  have hc:c = cw_jaInts_0 := mw_jaInts_0 _ hp rfl
  subst hc
  right
  rename_i y0 y1 y2
  have key := LT_step kw_jaInts_0 hp (fun q hq => loopsAll_in _ _ _ _ hp hq) (fun (y2:Int) => (hw_jaInts_0 y0 y1 y2)) (xw_jaInts_0 y0 y1) (g_Sw_jaInts_0 y0 y1) (fun x => by first | exact bw_jaInts_0 y0 y1 x) n (x := y2) (okO_some e1)
  have hx:∀ r,XT.sel (.br (isL r) (.leaf .ret [(.T 4,.t (.val false [.bool (getL r)]))]) (.leaf (.exit 0) [(.T 4,.t (.val false [.undef]))])) = xw_jaInts_0 y0 y1 r := fun r => by first | rfl | (rcases r with r | r <;> rfl) | (rcases r with r | r | r <;> rfl) | (rcases r with r | r | r | r <;> rfl)
  have h3 := (hx (valO (g_Lw_jaInts_0 y0 y1 y2))).symm.trans h2
  have e3 := congrArg Prod.fst h3
  have e4 := congrArg Prod.snd h3
  simp only at e3 e4
  rw [← e3,← e4]
  exact key
 ·exact .inl ⟨xt,h1,h2⟩)
noncomputable def g_Aw_jaInts (a0:List Int) (a1:List Int):Bool := (↑(List.length a0):Int) != (↑(List.length a1):Int) || okO (g_Lw_jaInts_0 a0 a1 (0:Int))
noncomputable def g_Vw_jaInts_0 (a0:List Int) (a1:List Int):Bool := bif (↑(List.length a0):Int) != (↑(List.length a1):Int) then false else bif isL (valO (g_Lw_jaInts_0 a0 a1 (0:Int))) then getL (valO (g_Lw_jaInts_0 a0 a1 (0:Int))) else true
noncomputable def Fw_jaInts:FSem := fun ys => match ys with
 | [.val false [.sl .any 3 (.int .i64) a0],.val false [.sl .any 3 (.int .i64) a1]] => some ((g_Aw_jaInts a0 a1),.val false [.bool (g_Vw_jaInts_0 a0 a1)],[])
 | _ => none
theorem vw_jaInts (a0:List Int) (a1:List Int):collapseH .std Ew_jaInts Ow_jaInts_1 (execFn Ew_jaInts Tryd.f20 msw_jaInts [.val false [.sl .any 3 (.int .i64) a0],.val false [.sl .any 3 (.int .i64) a1]]) = some ((g_Aw_jaInts a0 a1),.val false [.bool (g_Vw_jaInts_0 a0 a1)],[]) := by kernel_rfl
theorem sw_jaInts:Sound Tryd.prog 20 msw_jaInts Fw_jaInts := by
 refine fn_gen goodw_jaInts (by kernel_rfl) .std (fn := Tryd.f20) (c := (Tryd.f20.body.getD .skip)) (o := Ow_jaInts_1) (k := 1) (by kernel_rfl) (by kernel_rfl) (by kernel_rfl) (by kernel_rfl) (by decide) kw_jaInts_1 ?_
 intro ys r outs h
 unfold Fw_jaInts at h
 split at h
 ·exact (vw_jaInts _ _).trans h
 ·cases h
noncomputable def Ew_jaWrites:Env where
 tt := mkTI Tryd.prog
 fn := fun f => match f with
  | 20 => some (msw_jaInts,FSem.wk msw_jaInts Fw_jaInts)
  | _ => none
 bxf := fun _ => none
 mv := []
 keep := fun b => match b with
  | 0 => [(0,false),(1,false),(5,false)]
  | _ => []
 keepB := fun b => match b with
  | 0 => []
  | _ => []
 keepX := fun b => match b with
  | 0 => [(4,false)]
  | _ => []
 keepXB := fun b => match b with
  | 0 => []
  | _ => []
theorem goodFw_jaWrites:∀ f ms F,Ew_jaWrites.fn f = some (ms,F) → Sound Tryd.prog f ms F := fun f ms F h => by
 unfold Ew_jaWrites at h
 dsimp only at h
 split at h
 ·injection h with h; injection h with e1 e2; subst e1 e2; exact Sound.wk sw_jaInts
 ·cases h
theorem goodBw_jaWrites:∀ f ms F,Ew_jaWrites.bxf f = some (ms,F) → SoundB Tryd.prog f ms F := fun f ms F h => by cases h
theorem goodw_jaWrites:Good Tryd.prog Ew_jaWrites := ⟨rfl,goodFw_jaWrites,goodBw_jaWrites⟩
noncomputable def Ow_jaWrites_0:Orc := fun _ _ => none
noncomputable def msw_jaWrites:List PM := [.rd,.rd]
noncomputable def lsw_jaWrites:List (Nat×Code) := loopsAll 0 (Tryd.f91.body.getD .skip)
noncomputable def cw_jaWrites_0:Code := (loopOf 0 (Tryd.f91.body.getD .skip)).getD .skip
theorem lseqw_jaWrites:lsw_jaWrites = [(0,cw_jaWrites_0)] := by kernel_rfl
theorem mw_jaWrites_0:∀ p,p ∈ lsw_jaWrites → p.1 = 0 → p.2 = cw_jaWrites_0 := by
 intro p hp
 rw [lseqw_jaWrites] at hp
 simp only [List.mem_cons,List.not_mem_nil,or_false] at hp
 subst hp; simp
theorem kw_jaWrites_0:OrcOk Ew_jaWrites Ow_jaWrites_0 lsw_jaWrites 0 := orcOk_none
noncomputable def hw_jaWrites_0 (y0:List (ByteArray×(Bool×(List Int)))) (y1:List (ByteArray×(Bool×(List Int)))) (y2:Int):List (Pl×LV) := [(.T 0,.t (.val false [.sl .any 76 (.pair .str (.pair .bool (.sl 3 (.int .i64)))) y0])),(.T 1,.t (.val false [.sl .any 76 (.pair .str (.pair .bool (.sl 3 (.int .i64)))) y1])),(.T 5,.t (.val false [.int .i64 y2]))]
noncomputable def g_Sw_jaWrites_0 (y0:List (ByteArray×(Bool×(List Int)))) (y1:List (ByteArray×(Bool×(List Int)))):(Int) → RT (Int) ((Bool) ⊕ (Unit))
 | y2 => .br (true) (.br (decide (y2 < (↑(List.length y0):Int))) (.br (decide ((0:Int) ≤ y2 ∧ y2 < (↑(List.length y0):Int))) (.br (decide ((0:Int) ≤ y2 ∧ y2 < (↑(List.length y1):Int))) (.br (true) (.br (!ByteArray.toList (at_ (Ty.pair Ty.str (Ty.pair Ty.bool (Ty.sl (nat_lit 3) (Ty.int IntKind.i64)))) y0 (Int.toNat y2)).1 == ByteArray.toList (at_ (Ty.pair Ty.str (Ty.pair Ty.bool (Ty.sl (nat_lit 3) (Ty.int IntKind.i64)))) y1 (Int.toNat y2)).1) (.out (.inl false)) (.br (decide ((0:Int) ≤ y2 ∧ y2 < (↑(List.length y0):Int))) (.br (decide ((0:Int) ≤ y2 ∧ y2 < (↑(List.length y1):Int))) (.br (!(at_ (Ty.pair Ty.str (Ty.pair Ty.bool (Ty.sl (nat_lit 3) (Ty.int IntKind.i64)))) y0 (Int.toNat y2)).2.1 == (at_ (Ty.pair Ty.str (Ty.pair Ty.bool (Ty.sl (nat_lit 3) (Ty.int IntKind.i64)))) y1 (Int.toNat y2)).2.1) (.out (.inl false)) (.br (decide ((0:Int) ≤ y2 ∧ y2 < (↑(List.length y0):Int))) (.br (decide ((0:Int) ≤ y2 ∧ y2 < (↑(List.length y1):Int))) (.br (g_Aw_jaInts (at_ (Ty.pair Ty.str (Ty.pair Ty.bool (Ty.sl (nat_lit 3) (Ty.int IntKind.i64)))) y0 (Int.toNat y2)).2.2 (at_ (Ty.pair Ty.str (Ty.pair Ty.bool (Ty.sl (nat_lit 3) (Ty.int IntKind.i64)))) y1 (Int.toNat y2)).2.2) (.br (!g_Vw_jaInts_0 (at_ (Ty.pair Ty.str (Ty.pair Ty.bool (Ty.sl (nat_lit 3) (Ty.int IntKind.i64)))) y0 (Int.toNat y2)).2.2 (at_ (Ty.pair Ty.str (Ty.pair Ty.bool (Ty.sl (nat_lit 3) (Ty.int IntKind.i64)))) y1 (Int.toNat y2)).2.2) (.out (.inl false)) (.br (true) (.go (IntKind.wrap IntKind.i64 (y2 + (1:Int)))) .bad)) .bad) .bad) .bad)) .bad) .bad)) .bad) .bad) .bad) (.out (.inr (())))) .bad
noncomputable def g_Lw_jaWrites_0 (y0:List (ByteArray×(Bool×(List Int)))) (y1:List (ByteArray×(Bool×(List Int)))) (x:Int):Option ((Bool) ⊕ (Unit)) := loopO (g_Sw_jaWrites_0 y0 y1) x
noncomputable def xw_jaWrites_0 (y0:List (ByteArray×(Bool×(List Int)))) (y1:List (ByteArray×(Bool×(List Int)))):((Bool) ⊕ (Unit)) → Ex×List (Pl×LV) := fun
 | .inl r => (.ret,[(.T 4,.t (.val false [.bool r]))])
 | .inr (r) => (.exit 0,[(.T 4,.t (.val false [.undef]))])
noncomputable def Ow_jaWrites_1:Orc := fun b h => match b,h with
 | 0,[(.T 0,.t (.val false [.sl .any 76 (.pair .str (.pair .bool (.sl 3 (.int .i64)))) y0])),(.T 1,.t (.val false [.sl .any 76 (.pair .str (.pair .bool (.sl 3 (.int .i64)))) y1])),(.T 5,.t (.val false [.int .i64 y2]))] => some (okO (g_Lw_jaWrites_0 y0 y1 y2),(.br (isL (valO (g_Lw_jaWrites_0 y0 y1 y2))) (.leaf .ret [(.T 4,.t (.val false [.bool (getL (valO (g_Lw_jaWrites_0 y0 y1 y2)))]))]) (.leaf (.exit 0) [(.T 4,.t (.val false [.undef]))])))
 | b,h => Ow_jaWrites_0 b h
theorem bw_jaWrites_0 (y0:List (ByteArray×(Bool×(List Int)))) (y1:List (ByteArray×(Bool×(List Int)))) (y2:Int):Tr.bt Ew_jaWrites Ow_jaWrites_0 (exec Ew_jaWrites 0 cw_jaWrites_0 (St.of (hw_jaWrites_0 y0 y1 y2)) (leafRd Ew_jaWrites 0)) = (g_Sw_jaWrites_0 y0 y1 y2).bt (fun (y2:Int) => (hw_jaWrites_0 y0 y1 y2)) (xw_jaWrites_0 y0 y1) := by kernel_rfl
theorem kw_jaWrites_1:OrcOk Ew_jaWrites Ow_jaWrites_1 lsw_jaWrites 1 := orc_add kw_jaWrites_0 (fun n p hp h ex h' ho => by
 obtain ⟨b,c⟩ := p
 obtain ⟨xt,h1,h2⟩ := ho
 have h1:Ow_jaWrites_1 b h = some (true,xt) := h1
 unfold Ow_jaWrites_1 at h1
 split at h1
 ·injection h1 with h1
  injection h1 with e1 e2
  subst e2
  have hc:c = cw_jaWrites_0 := mw_jaWrites_0 _ hp rfl
  subst hc
  right
  rename_i y0 y1 y2
  have key := LT_step kw_jaWrites_0 hp (fun q hq => loopsAll_in _ _ _ _ hp hq) (fun (y2:Int) => (hw_jaWrites_0 y0 y1 y2)) (xw_jaWrites_0 y0 y1) (g_Sw_jaWrites_0 y0 y1) (fun x => by first | exact bw_jaWrites_0 y0 y1 x) n (x := y2) (okO_some e1)
  have hx:∀ r,XT.sel (.br (isL r) (.leaf .ret [(.T 4,.t (.val false [.bool (getL r)]))]) (.leaf (.exit 0) [(.T 4,.t (.val false [.undef]))])) = xw_jaWrites_0 y0 y1 r := fun r => by first | rfl | (rcases r with r | r <;> rfl) | (rcases r with r | r | r <;> rfl) | (rcases r with r | r | r | r <;> rfl)
  have h3 := (hx (valO (g_Lw_jaWrites_0 y0 y1 y2))).symm.trans h2
  have e3 := congrArg Prod.fst h3
  have e4 := congrArg Prod.snd h3
  simp only at e3 e4
  rw [← e3,← e4]
  exact key
 ·exact .inl ⟨xt,h1,h2⟩)
noncomputable def g_Aw_jaWrites (a0:List (ByteArray×(Bool×(List Int)))) (a1:List (ByteArray×(Bool×(List Int)))):Bool := (↑(List.length a0):Int) != (↑(List.length a1):Int) || okO (g_Lw_jaWrites_0 a0 a1 (0:Int))
noncomputable def g_Vw_jaWrites_0 (a0:List (ByteArray×(Bool×(List Int)))) (a1:List (ByteArray×(Bool×(List Int)))):Bool := bif (↑(List.length a0):Int) != (↑(List.length a1):Int) then false else bif isL (valO (g_Lw_jaWrites_0 a0 a1 (0:Int))) then getL (valO (g_Lw_jaWrites_0 a0 a1 (0:Int))) else true
noncomputable def Fw_jaWrites:FSem := fun ys => match ys with
 | [.val false [.sl .any 76 (.pair .str (.pair .bool (.sl 3 (.int .i64)))) a0],.val false [.sl .any 76 (.pair .str (.pair .bool (.sl 3 (.int .i64)))) a1]] => some ((g_Aw_jaWrites a0 a1),.val false [.bool (g_Vw_jaWrites_0 a0 a1)],[])
 | _ => none
theorem vw_jaWrites (a0:List (ByteArray×(Bool×(List Int)))) (a1:List (ByteArray×(Bool×(List Int)))):collapseH .std Ew_jaWrites Ow_jaWrites_1 (execFn Ew_jaWrites Tryd.f91 msw_jaWrites [.val false [.sl .any 76 (.pair .str (.pair .bool (.sl 3 (.int .i64)))) a0],.val false [.sl .any 76 (.pair .str (.pair .bool (.sl 3 (.int .i64)))) a1]]) = some ((g_Aw_jaWrites a0 a1),.val false [.bool (g_Vw_jaWrites_0 a0 a1)],[]) := by kernel_rfl
theorem sw_jaWrites:Sound Tryd.prog 91 msw_jaWrites Fw_jaWrites := by
 refine fn_gen goodw_jaWrites (by kernel_rfl) .std (fn := Tryd.f91) (c := (Tryd.f91.body.getD .skip)) (o := Ow_jaWrites_1) (k := 1) (by kernel_rfl) (by kernel_rfl) (by kernel_rfl) (by kernel_rfl) (by decide) kw_jaWrites_1 ?_
 intro ys r outs h
 unfold Fw_jaWrites at h
 split at h
 ·exact (vw_jaWrites _ _).trans h
 ·cases h
noncomputable def Ew_jaNote:Env where
 tt := mkTI Tryd.prog
 fn := fun f => match f with
  | 90 => some (msw_jaTexts,FSem.wk msw_jaTexts Fw_jaTexts)
  | 91 => some (msw_jaWrites,FSem.wk msw_jaWrites Fw_jaWrites)
  | _ => none
 bxf := fun _ => none
 mv := []
 keep := fun _ => []
 keepB := fun _ => []
 keepX := fun _ => []
 keepXB := fun _ => []
theorem goodFw_jaNote:∀ f ms F,Ew_jaNote.fn f = some (ms,F) → Sound Tryd.prog f ms F := fun f ms F h => by
 unfold Ew_jaNote at h
 dsimp only at h
 split at h
 ·injection h with h; injection h with e1 e2; subst e1 e2; exact Sound.wk sw_jaTexts
 ·injection h with h; injection h with e1 e2; subst e1 e2; exact Sound.wk sw_jaWrites
 ·cases h
theorem goodBw_jaNote:∀ f ms F,Ew_jaNote.bxf f = some (ms,F) → SoundB Tryd.prog f ms F := fun f ms F h => by cases h
theorem goodw_jaNote:Good Tryd.prog Ew_jaNote := ⟨rfl,goodFw_jaNote,goodBw_jaNote⟩
noncomputable def Ow_jaNote_0:Orc := fun _ _ => none
noncomputable def msw_jaNote:List PM := [.rd,.rd]
noncomputable def lsw_jaNote:List (Nat×Code) := loopsAll 0 (Tryd.f54.body.getD .skip)
theorem kw_jaNote_0:OrcOk Ew_jaNote Ow_jaNote_0 lsw_jaNote 0 := orcOk_none
noncomputable def g_Aw_jaNote (a0:Int) (a1:Int) (a2:List ByteArray) (a3:List (ByteArray×(Bool×(List Int)))) (a4:Int) (a5:Int) (a6:List ByteArray) (a7:List (ByteArray×(Bool×(List Int)))):Bool := !a0 == a4 || (!a1 == a5 || g_Aw_jaTexts a2 a6&&(!g_Vw_jaTexts_0 a2 a6 || g_Aw_jaWrites a3 a7))
noncomputable def g_Vw_jaNote_0 (a0:Int) (a1:Int) (a2:List ByteArray) (a3:List (ByteArray×(Bool×(List Int)))) (a4:Int) (a5:Int) (a6:List ByteArray) (a7:List (ByteArray×(Bool×(List Int)))):Bool := bif a0 == a4 then bif a1 == a5 then bif g_Vw_jaTexts_0 a2 a6 then g_Vw_jaWrites_0 a3 a7 else false else false else false
noncomputable def Fw_jaNote:FSem := fun ys => match ys with
 | [.val true [.int .i64 a0,.int .i64 a1,.sl .any 9 .str a2,.sl .any 76 (.pair .str (.pair .bool (.sl 3 (.int .i64)))) a3],.val true [.int .i64 a4,.int .i64 a5,.sl .any 9 .str a6,.sl .any 76 (.pair .str (.pair .bool (.sl 3 (.int .i64)))) a7]] => some ((g_Aw_jaNote a0 a1 a2 a3 a4 a5 a6 a7),.val false [.bool (g_Vw_jaNote_0 a0 a1 a2 a3 a4 a5 a6 a7)],[])
 | _ => none
theorem vw_jaNote (a0:Int) (a1:Int) (a2:List ByteArray) (a3:List (ByteArray×(Bool×(List Int)))) (a4:Int) (a5:Int) (a6:List ByteArray) (a7:List (ByteArray×(Bool×(List Int)))):collapseH .std Ew_jaNote Ow_jaNote_0 (execFn Ew_jaNote Tryd.f54 msw_jaNote [.val true [.int .i64 a0,.int .i64 a1,.sl .any 9 .str a2,.sl .any 76 (.pair .str (.pair .bool (.sl 3 (.int .i64)))) a3],.val true [.int .i64 a4,.int .i64 a5,.sl .any 9 .str a6,.sl .any 76 (.pair .str (.pair .bool (.sl 3 (.int .i64)))) a7]]) = some ((g_Aw_jaNote a0 a1 a2 a3 a4 a5 a6 a7),.val false [.bool (g_Vw_jaNote_0 a0 a1 a2 a3 a4 a5 a6 a7)],[]) := by kernel_rfl
theorem sw_jaNote:Sound Tryd.prog 54 msw_jaNote Fw_jaNote := by
 refine fn_gen goodw_jaNote (by kernel_rfl) .std (fn := Tryd.f54) (c := (Tryd.f54.body.getD .skip)) (o := Ow_jaNote_0) (k := 0) (by kernel_rfl) (by kernel_rfl) (by kernel_rfl) (by kernel_rfl) (by decide) kw_jaNote_0 ?_
 intro ys r outs h
 unfold Fw_jaNote at h
 split at h
 ·exact (vw_jaNote _ _ _ _ _ _ _ _).trans h
 ·cases h
noncomputable def Ew_jaNotes:Env where
 tt := mkTI Tryd.prog
 fn := fun f => match f with
  | 54 => some (msw_jaNote,FSem.wk msw_jaNote Fw_jaNote)
  | _ => none
 bxf := fun _ => none
 mv := []
 keep := fun b => match b with
  | 0 => [(0,false),(1,false),(5,false)]
  | _ => []
 keepB := fun b => match b with
  | 0 => []
  | _ => []
 keepX := fun b => match b with
  | 0 => [(4,false)]
  | _ => []
 keepXB := fun b => match b with
  | 0 => []
  | _ => []
theorem goodFw_jaNotes:∀ f ms F,Ew_jaNotes.fn f = some (ms,F) → Sound Tryd.prog f ms F := fun f ms F h => by
 unfold Ew_jaNotes at h
 dsimp only at h
 split at h
 ·injection h with h; injection h with e1 e2; subst e1 e2; exact Sound.wk sw_jaNote
 ·cases h
theorem goodBw_jaNotes:∀ f ms F,Ew_jaNotes.bxf f = some (ms,F) → SoundB Tryd.prog f ms F := fun f ms F h => by cases h
theorem goodw_jaNotes:Good Tryd.prog Ew_jaNotes := ⟨rfl,goodFw_jaNotes,goodBw_jaNotes⟩
noncomputable def Ow_jaNotes_0:Orc := fun _ _ => none
noncomputable def msw_jaNotes:List PM := [.rd,.rd]
noncomputable def lsw_jaNotes:List (Nat×Code) := loopsAll 0 (Tryd.f27.body.getD .skip)
noncomputable def cw_jaNotes_0:Code := (loopOf 0 (Tryd.f27.body.getD .skip)).getD .skip
theorem lseqw_jaNotes:lsw_jaNotes = [(0,cw_jaNotes_0)] := by kernel_rfl
theorem mw_jaNotes_0:∀ p,p ∈ lsw_jaNotes → p.1 = 0 → p.2 = cw_jaNotes_0 := by
 intro p hp
 rw [lseqw_jaNotes] at hp
 simp only [List.mem_cons,List.not_mem_nil,or_false] at hp
 subst hp; simp
theorem kw_jaNotes_0:OrcOk Ew_jaNotes Ow_jaNotes_0 lsw_jaNotes 0 := orcOk_none
noncomputable def hw_jaNotes_0 (y0:List (Int×(Int×((List ByteArray)×(List (ByteArray×(Bool×(List Int)))))))) (y1:List (Int×(Int×((List ByteArray)×(List (ByteArray×(Bool×(List Int)))))))) (y2:Int):List (Pl×LV) := [(.T 0,.t (.val false [.sl .any 53 (.pair (.int .i64) (.pair (.int .i64) (.pair (.sl 9 .str) (.sl 76 (.pair .str (.pair .bool (.sl 3 (.int .i64)))))))) y0])),(.T 1,.t (.val false [.sl .any 53 (.pair (.int .i64) (.pair (.int .i64) (.pair (.sl 9 .str) (.sl 76 (.pair .str (.pair .bool (.sl 3 (.int .i64)))))))) y1])),(.T 5,.t (.val false [.int .i64 y2]))]
noncomputable def g_Sw_jaNotes_0 (y0:List (Int×(Int×((List ByteArray)×(List (ByteArray×(Bool×(List Int)))))))) (y1:List (Int×(Int×((List ByteArray)×(List (ByteArray×(Bool×(List Int)))))))):(Int) → RT (Int) ((Bool) ⊕ (Unit))
 | y2 => .br (true) (.br (decide (y2 < (↑(List.length y0):Int))) (.br (decide ((0:Int) ≤ y2 ∧ y2 < (↑(List.length y0):Int))) (.br (decide ((0:Int) ≤ y2 ∧ y2 < (↑(List.length y1):Int))) (.br (g_Aw_jaNote (at_ (Ty.pair (Ty.int IntKind.i64) (Ty.pair (Ty.int IntKind.i64) (Ty.pair (Ty.sl (nat_lit 9) Ty.str) (Ty.sl (nat_lit 76) (Ty.pair Ty.str (Ty.pair Ty.bool (Ty.sl (nat_lit 3) (Ty.int IntKind.i64)))))))) y0 (Int.toNat y2)).1 (at_ (Ty.pair (Ty.int IntKind.i64) (Ty.pair (Ty.int IntKind.i64) (Ty.pair (Ty.sl (nat_lit 9) Ty.str) (Ty.sl (nat_lit 76) (Ty.pair Ty.str (Ty.pair Ty.bool (Ty.sl (nat_lit 3) (Ty.int IntKind.i64)))))))) y0 (Int.toNat y2)).2.1 (at_ (Ty.pair (Ty.int IntKind.i64) (Ty.pair (Ty.int IntKind.i64) (Ty.pair (Ty.sl (nat_lit 9) Ty.str) (Ty.sl (nat_lit 76) (Ty.pair Ty.str (Ty.pair Ty.bool (Ty.sl (nat_lit 3) (Ty.int IntKind.i64)))))))) y0 (Int.toNat y2)).2.2.1 (at_ (Ty.pair (Ty.int IntKind.i64) (Ty.pair (Ty.int IntKind.i64) (Ty.pair (Ty.sl (nat_lit 9) Ty.str) (Ty.sl (nat_lit 76) (Ty.pair Ty.str (Ty.pair Ty.bool (Ty.sl (nat_lit 3) (Ty.int IntKind.i64)))))))) y0 (Int.toNat y2)).2.2.2 (at_ (Ty.pair (Ty.int IntKind.i64) (Ty.pair (Ty.int IntKind.i64) (Ty.pair (Ty.sl (nat_lit 9) Ty.str) (Ty.sl (nat_lit 76) (Ty.pair Ty.str (Ty.pair Ty.bool (Ty.sl (nat_lit 3) (Ty.int IntKind.i64)))))))) y1 (Int.toNat y2)).1 (at_ (Ty.pair (Ty.int IntKind.i64) (Ty.pair (Ty.int IntKind.i64) (Ty.pair (Ty.sl (nat_lit 9) Ty.str) (Ty.sl (nat_lit 76) (Ty.pair Ty.str (Ty.pair Ty.bool (Ty.sl (nat_lit 3) (Ty.int IntKind.i64)))))))) y1 (Int.toNat y2)).2.1 (at_ (Ty.pair (Ty.int IntKind.i64) (Ty.pair (Ty.int IntKind.i64) (Ty.pair (Ty.sl (nat_lit 9) Ty.str) (Ty.sl (nat_lit 76) (Ty.pair Ty.str (Ty.pair Ty.bool (Ty.sl (nat_lit 3) (Ty.int IntKind.i64)))))))) y1 (Int.toNat y2)).2.2.1 (at_ (Ty.pair (Ty.int IntKind.i64) (Ty.pair (Ty.int IntKind.i64) (Ty.pair (Ty.sl (nat_lit 9) Ty.str) (Ty.sl (nat_lit 76) (Ty.pair Ty.str (Ty.pair Ty.bool (Ty.sl (nat_lit 3) (Ty.int IntKind.i64)))))))) y1 (Int.toNat y2)).2.2.2) (.br (!g_Vw_jaNote_0 (at_ (Ty.pair (Ty.int IntKind.i64) (Ty.pair (Ty.int IntKind.i64) (Ty.pair (Ty.sl (nat_lit 9) Ty.str) (Ty.sl (nat_lit 76) (Ty.pair Ty.str (Ty.pair Ty.bool (Ty.sl (nat_lit 3) (Ty.int IntKind.i64)))))))) y0 (Int.toNat y2)).1 (at_ (Ty.pair (Ty.int IntKind.i64) (Ty.pair (Ty.int IntKind.i64) (Ty.pair (Ty.sl (nat_lit 9) Ty.str) (Ty.sl (nat_lit 76) (Ty.pair Ty.str (Ty.pair Ty.bool (Ty.sl (nat_lit 3) (Ty.int IntKind.i64)))))))) y0 (Int.toNat y2)).2.1 (at_ (Ty.pair (Ty.int IntKind.i64) (Ty.pair (Ty.int IntKind.i64) (Ty.pair (Ty.sl (nat_lit 9) Ty.str) (Ty.sl (nat_lit 76) (Ty.pair Ty.str (Ty.pair Ty.bool (Ty.sl (nat_lit 3) (Ty.int IntKind.i64)))))))) y0 (Int.toNat y2)).2.2.1 (at_ (Ty.pair (Ty.int IntKind.i64) (Ty.pair (Ty.int IntKind.i64) (Ty.pair (Ty.sl (nat_lit 9) Ty.str) (Ty.sl (nat_lit 76) (Ty.pair Ty.str (Ty.pair Ty.bool (Ty.sl (nat_lit 3) (Ty.int IntKind.i64)))))))) y0 (Int.toNat y2)).2.2.2 (at_ (Ty.pair (Ty.int IntKind.i64) (Ty.pair (Ty.int IntKind.i64) (Ty.pair (Ty.sl (nat_lit 9) Ty.str) (Ty.sl (nat_lit 76) (Ty.pair Ty.str (Ty.pair Ty.bool (Ty.sl (nat_lit 3) (Ty.int IntKind.i64)))))))) y1 (Int.toNat y2)).1 (at_ (Ty.pair (Ty.int IntKind.i64) (Ty.pair (Ty.int IntKind.i64) (Ty.pair (Ty.sl (nat_lit 9) Ty.str) (Ty.sl (nat_lit 76) (Ty.pair Ty.str (Ty.pair Ty.bool (Ty.sl (nat_lit 3) (Ty.int IntKind.i64)))))))) y1 (Int.toNat y2)).2.1 (at_ (Ty.pair (Ty.int IntKind.i64) (Ty.pair (Ty.int IntKind.i64) (Ty.pair (Ty.sl (nat_lit 9) Ty.str) (Ty.sl (nat_lit 76) (Ty.pair Ty.str (Ty.pair Ty.bool (Ty.sl (nat_lit 3) (Ty.int IntKind.i64)))))))) y1 (Int.toNat y2)).2.2.1 (at_ (Ty.pair (Ty.int IntKind.i64) (Ty.pair (Ty.int IntKind.i64) (Ty.pair (Ty.sl (nat_lit 9) Ty.str) (Ty.sl (nat_lit 76) (Ty.pair Ty.str (Ty.pair Ty.bool (Ty.sl (nat_lit 3) (Ty.int IntKind.i64)))))))) y1 (Int.toNat y2)).2.2.2) (.out (.inl false)) (.br (true) (.go (IntKind.wrap IntKind.i64 (y2 + (1:Int)))) .bad)) .bad) .bad) .bad) (.out (.inr (())))) .bad
noncomputable def g_Lw_jaNotes_0 (y0:List (Int×(Int×((List ByteArray)×(List (ByteArray×(Bool×(List Int)))))))) (y1:List (Int×(Int×((List ByteArray)×(List (ByteArray×(Bool×(List Int)))))))) (x:Int):Option ((Bool) ⊕ (Unit)) := loopO (g_Sw_jaNotes_0 y0 y1) x
noncomputable def xw_jaNotes_0 (y0:List (Int×(Int×((List ByteArray)×(List (ByteArray×(Bool×(List Int)))))))) (y1:List (Int×(Int×((List ByteArray)×(List (ByteArray×(Bool×(List Int)))))))):((Bool) ⊕ (Unit)) → Ex×List (Pl×LV) := fun
 | .inl r => (.ret,[(.T 4,.t (.val false [.bool r]))])
 | .inr (r) => (.exit 0,[(.T 4,.t (.val false [.undef]))])
noncomputable def Ow_jaNotes_1:Orc := fun b h => match b,h with
 | 0,[(.T 0,.t (.val false [.sl .any 53 (.pair (.int .i64) (.pair (.int .i64) (.pair (.sl 9 .str) (.sl 76 (.pair .str (.pair .bool (.sl 3 (.int .i64)))))))) y0])),(.T 1,.t (.val false [.sl .any 53 (.pair (.int .i64) (.pair (.int .i64) (.pair (.sl 9 .str) (.sl 76 (.pair .str (.pair .bool (.sl 3 (.int .i64)))))))) y1])),(.T 5,.t (.val false [.int .i64 y2]))] => some (okO (g_Lw_jaNotes_0 y0 y1 y2),(.br (isL (valO (g_Lw_jaNotes_0 y0 y1 y2))) (.leaf .ret [(.T 4,.t (.val false [.bool (getL (valO (g_Lw_jaNotes_0 y0 y1 y2)))]))]) (.leaf (.exit 0) [(.T 4,.t (.val false [.undef]))])))
 | b,h => Ow_jaNotes_0 b h
theorem bw_jaNotes_0 (y0:List (Int×(Int×((List ByteArray)×(List (ByteArray×(Bool×(List Int)))))))) (y1:List (Int×(Int×((List ByteArray)×(List (ByteArray×(Bool×(List Int)))))))) (y2:Int):Tr.bt Ew_jaNotes Ow_jaNotes_0 (exec Ew_jaNotes 0 cw_jaNotes_0 (St.of (hw_jaNotes_0 y0 y1 y2)) (leafRd Ew_jaNotes 0)) = (g_Sw_jaNotes_0 y0 y1 y2).bt (fun (y2:Int) => (hw_jaNotes_0 y0 y1 y2)) (xw_jaNotes_0 y0 y1) := by kernel_rfl
theorem kw_jaNotes_1:OrcOk Ew_jaNotes Ow_jaNotes_1 lsw_jaNotes 1 := orc_add kw_jaNotes_0 (fun n p hp h ex h' ho => by
 obtain ⟨b,c⟩ := p
 obtain ⟨xt,h1,h2⟩ := ho
 have h1:Ow_jaNotes_1 b h = some (true,xt) := h1
 unfold Ow_jaNotes_1 at h1
 split at h1
 ·injection h1 with h1
  injection h1 with e1 e2
  subst e2
  have hc:c = cw_jaNotes_0 := mw_jaNotes_0 _ hp rfl
  subst hc
  right
  rename_i y0 y1 y2
  have key := LT_step kw_jaNotes_0 hp (fun q hq => loopsAll_in _ _ _ _ hp hq) (fun (y2:Int) => (hw_jaNotes_0 y0 y1 y2)) (xw_jaNotes_0 y0 y1) (g_Sw_jaNotes_0 y0 y1) (fun x => by first | exact bw_jaNotes_0 y0 y1 x) n (x := y2) (okO_some e1)
  have hx:∀ r,XT.sel (.br (isL r) (.leaf .ret [(.T 4,.t (.val false [.bool (getL r)]))]) (.leaf (.exit 0) [(.T 4,.t (.val false [.undef]))])) = xw_jaNotes_0 y0 y1 r := fun r => by first | rfl | (rcases r with r | r <;> rfl) | (rcases r with r | r | r <;> rfl) | (rcases r with r | r | r | r <;> rfl)
  have h3 := (hx (valO (g_Lw_jaNotes_0 y0 y1 y2))).symm.trans h2
  have e3 := congrArg Prod.fst h3
  have e4 := congrArg Prod.snd h3
  simp only at e3 e4
  rw [← e3,← e4]
  exact key
 ·exact .inl ⟨xt,h1,h2⟩)
noncomputable def g_Aw_jaNotes (a0:List (Int×(Int×((List ByteArray)×(List (ByteArray×(Bool×(List Int)))))))) (a1:List (Int×(Int×((List ByteArray)×(List (ByteArray×(Bool×(List Int)))))))):Bool := (↑(List.length a0):Int) != (↑(List.length a1):Int) || okO (g_Lw_jaNotes_0 a0 a1 (0:Int))
noncomputable def g_Vw_jaNotes_0 (a0:List (Int×(Int×((List ByteArray)×(List (ByteArray×(Bool×(List Int)))))))) (a1:List (Int×(Int×((List ByteArray)×(List (ByteArray×(Bool×(List Int)))))))):Bool := bif (↑(List.length a0):Int) != (↑(List.length a1):Int) then false else bif isL (valO (g_Lw_jaNotes_0 a0 a1 (0:Int))) then getL (valO (g_Lw_jaNotes_0 a0 a1 (0:Int))) else true
noncomputable def Fw_jaNotes:FSem := fun ys => match ys with
 | [.val false [.sl .any 53 (.pair (.int .i64) (.pair (.int .i64) (.pair (.sl 9 .str) (.sl 76 (.pair .str (.pair .bool (.sl 3 (.int .i64)))))))) a0],.val false [.sl .any 53 (.pair (.int .i64) (.pair (.int .i64) (.pair (.sl 9 .str) (.sl 76 (.pair .str (.pair .bool (.sl 3 (.int .i64)))))))) a1]] => some ((g_Aw_jaNotes a0 a1),.val false [.bool (g_Vw_jaNotes_0 a0 a1)],[])
 | _ => none
theorem vw_jaNotes (a0:List (Int×(Int×((List ByteArray)×(List (ByteArray×(Bool×(List Int)))))))) (a1:List (Int×(Int×((List ByteArray)×(List (ByteArray×(Bool×(List Int)))))))):collapseH .std Ew_jaNotes Ow_jaNotes_1 (execFn Ew_jaNotes Tryd.f27 msw_jaNotes [.val false [.sl .any 53 (.pair (.int .i64) (.pair (.int .i64) (.pair (.sl 9 .str) (.sl 76 (.pair .str (.pair .bool (.sl 3 (.int .i64)))))))) a0],.val false [.sl .any 53 (.pair (.int .i64) (.pair (.int .i64) (.pair (.sl 9 .str) (.sl 76 (.pair .str (.pair .bool (.sl 3 (.int .i64)))))))) a1]]) = some ((g_Aw_jaNotes a0 a1),.val false [.bool (g_Vw_jaNotes_0 a0 a1)],[]) := by kernel_rfl
theorem sw_jaNotes:Sound Tryd.prog 27 msw_jaNotes Fw_jaNotes := by
 refine fn_gen goodw_jaNotes (by kernel_rfl) .std (fn := Tryd.f27) (c := (Tryd.f27.body.getD .skip)) (o := Ow_jaNotes_1) (k := 1) (by kernel_rfl) (by kernel_rfl) (by kernel_rfl) (by kernel_rfl) (by decide) kw_jaNotes_1 ?_
 intro ys r outs h
 unfold Fw_jaNotes at h
 split at h
 ·exact (vw_jaNotes _ _).trans h
 ·cases h
noncomputable def Ew_jaDisk:Env where
 tt := mkTI Tryd.prog
 fn := fun f => match f with
  | 27 => some (msw_jaNotes,FSem.wk msw_jaNotes Fw_jaNotes)
  | _ => none
 bxf := fun _ => none
 mv := []
 keep := fun _ => []
 keepB := fun _ => []
 keepX := fun _ => []
 keepXB := fun _ => []
theorem goodFw_jaDisk:∀ f ms F,Ew_jaDisk.fn f = some (ms,F) → Sound Tryd.prog f ms F := fun f ms F h => by
 unfold Ew_jaDisk at h
 dsimp only at h
 split at h
 ·injection h with h; injection h with e1 e2; subst e1 e2; exact Sound.wk sw_jaNotes
 ·cases h
theorem goodBw_jaDisk:∀ f ms F,Ew_jaDisk.bxf f = some (ms,F) → SoundB Tryd.prog f ms F := fun f ms F h => by cases h
theorem goodw_jaDisk:Good Tryd.prog Ew_jaDisk := ⟨rfl,goodFw_jaDisk,goodBw_jaDisk⟩
noncomputable def Ow_jaDisk_0:Orc := fun _ _ => none
noncomputable def msw_jaDisk:List PM := [.rd,.rd]
noncomputable def lsw_jaDisk:List (Nat×Code) := loopsAll 0 (Tryd.f25.body.getD .skip)
theorem kw_jaDisk_0:OrcOk Ew_jaDisk Ow_jaDisk_0 lsw_jaDisk 0 := orcOk_none
noncomputable def g_Aw_jaDisk (a0:List (Int×(Int×((List ByteArray)×(List (ByteArray×(Bool×(List Int)))))))) (a1:Int) (a2:List (Int×(Int×((List ByteArray)×(List (ByteArray×(Bool×(List Int)))))))) (a3:Int):Bool := !a1 == a3 || g_Aw_jaNotes a0 a2
noncomputable def g_Vw_jaDisk_0 (a0:List (Int×(Int×((List ByteArray)×(List (ByteArray×(Bool×(List Int)))))))) (a1:Int) (a2:List (Int×(Int×((List ByteArray)×(List (ByteArray×(Bool×(List Int)))))))) (a3:Int):Bool := bif a1 == a3 then g_Vw_jaNotes_0 a0 a2 else false
noncomputable def Fw_jaDisk:FSem := fun ys => match ys with
 | [.val true [.sl .any 53 (.pair (.int .i64) (.pair (.int .i64) (.pair (.sl 9 .str) (.sl 76 (.pair .str (.pair .bool (.sl 3 (.int .i64)))))))) a0,.int .i64 a1],.val true [.sl .any 53 (.pair (.int .i64) (.pair (.int .i64) (.pair (.sl 9 .str) (.sl 76 (.pair .str (.pair .bool (.sl 3 (.int .i64)))))))) a2,.int .i64 a3]] => some ((g_Aw_jaDisk a0 a1 a2 a3),.val false [.bool (g_Vw_jaDisk_0 a0 a1 a2 a3)],[])
 | _ => none
theorem vw_jaDisk (a0:List (Int×(Int×((List ByteArray)×(List (ByteArray×(Bool×(List Int)))))))) (a1:Int) (a2:List (Int×(Int×((List ByteArray)×(List (ByteArray×(Bool×(List Int)))))))) (a3:Int):collapseH .std Ew_jaDisk Ow_jaDisk_0 (execFn Ew_jaDisk Tryd.f25 msw_jaDisk [.val true [.sl .any 53 (.pair (.int .i64) (.pair (.int .i64) (.pair (.sl 9 .str) (.sl 76 (.pair .str (.pair .bool (.sl 3 (.int .i64)))))))) a0,.int .i64 a1],.val true [.sl .any 53 (.pair (.int .i64) (.pair (.int .i64) (.pair (.sl 9 .str) (.sl 76 (.pair .str (.pair .bool (.sl 3 (.int .i64)))))))) a2,.int .i64 a3]]) = some ((g_Aw_jaDisk a0 a1 a2 a3),.val false [.bool (g_Vw_jaDisk_0 a0 a1 a2 a3)],[]) := by kernel_rfl
theorem sw_jaDisk:Sound Tryd.prog 25 msw_jaDisk Fw_jaDisk := by
 refine fn_gen goodw_jaDisk (by kernel_rfl) .std (fn := Tryd.f25) (c := (Tryd.f25.body.getD .skip)) (o := Ow_jaDisk_0) (k := 0) (by kernel_rfl) (by kernel_rfl) (by kernel_rfl) (by kernel_rfl) (by decide) kw_jaDisk_0 ?_
 intro ys r outs h
 unfold Fw_jaDisk at h
 split at h
 ·exact (vw_jaDisk _ _ _ _).trans h
 ·cases h
noncomputable def Ew_jaOk:Env where
 tt := mkTI Tryd.prog
 fn := fun f => match f with
  | 38 => some (msi_WrtOk,FSem.wk msi_WrtOk Fi_WrtOk)
  | _ => none
 bxf := fun _ => none
 mv := []
 keep := fun _ => []
 keepB := fun _ => []
 keepX := fun _ => []
 keepXB := fun _ => []
theorem goodFw_jaOk:∀ f ms F,Ew_jaOk.fn f = some (ms,F) → Sound Tryd.prog f ms F := fun f ms F h => by
 unfold Ew_jaOk at h
 dsimp only at h
 split at h
 ·injection h with h; injection h with e1 e2; subst e1 e2; exact Sound.wk si_WrtOk
 ·cases h
theorem goodBw_jaOk:∀ f ms F,Ew_jaOk.bxf f = some (ms,F) → SoundB Tryd.prog f ms F := fun f ms F h => by cases h
theorem goodw_jaOk:Good Tryd.prog Ew_jaOk := ⟨rfl,goodFw_jaOk,goodBw_jaOk⟩
noncomputable def Ow_jaOk_0:Orc := fun _ _ => none
noncomputable def msw_jaOk:List PM := []
noncomputable def lsw_jaOk:List (Nat×Code) := loopsAll 0 (Tryd.f18.body.getD .skip)
theorem kw_jaOk_0:OrcOk Ew_jaOk Ow_jaOk_0 lsw_jaOk 0 := orcOk_none
noncomputable def g_Aw_jaOk:Bool := g_Ai_WrtOk (lit [(97:Nat),(49:Nat)]) false [(1:Int)]
noncomputable def g_Vw_jaOk_0:Bool := g_Vi_WrtOk_0 (lit [(97:Nat),(49:Nat)]) false [(1:Int)]
noncomputable def Fw_jaOk:FSem := fun ys => match ys with
 | [] => some (g_Aw_jaOk,.val false [.bool g_Vw_jaOk_0],[])
 | _ => none
theorem vw_jaOk:collapseH .std Ew_jaOk Ow_jaOk_0 (execFn Ew_jaOk Tryd.f18 msw_jaOk []) = some (g_Aw_jaOk,.val false [.bool g_Vw_jaOk_0],[]) := by kernel_rfl
theorem sw_jaOk:Sound Tryd.prog 18 msw_jaOk Fw_jaOk := by
 refine fn_gen goodw_jaOk (by kernel_rfl) .std (fn := Tryd.f18) (c := (Tryd.f18.body.getD .skip)) (o := Ow_jaOk_0) (k := 0) (by kernel_rfl) (by kernel_rfl) (by kernel_rfl) (by kernel_rfl) (by decide) kw_jaOk_0 ?_
 intro ys r outs h
 unfold Fw_jaOk at h
 split at h
 ·exact (vw_jaOk).trans h
 ·cases h
noncomputable def Ew_FnDiskSafe:Env where
 tt := mkTI Tryd.prog
 fn := fun f => match f with
  | 18 => some (msw_jaOk,FSem.wk msw_jaOk Fw_jaOk)
  | 22 => some (mss_DrawDiskAdd,FSem.wk mss_DrawDiskAdd Fs_DrawDiskAdd)
  | 23 => some (msi_DiskAdd,FSem.wk msi_DiskAdd Fi_DiskAdd)
  | 24 => some (mss_DiskAdd,FSem.wk mss_DiskAdd Fs_DiskAdd)
  | 25 => some (msw_jaDisk,FSem.wk msw_jaDisk Fw_jaDisk)
  | 26 => some (msi_DiskFall,FSem.wk msi_DiskFall Fi_DiskFall)
  | 27 => some (msw_jaNotes,FSem.wk msw_jaNotes Fw_jaNotes)
  | _ => none
 bxf := fun _ => none
 mv := []
 keep := fun _ => []
 keepB := fun _ => []
 keepX := fun _ => []
 keepXB := fun _ => []
theorem goodFw_FnDiskSafe:∀ f ms F,Ew_FnDiskSafe.fn f = some (ms,F) → Sound Tryd.prog f ms F := fun f ms F h => by
 unfold Ew_FnDiskSafe at h
 dsimp only at h
 split at h
 ·injection h with h; injection h with e1 e2; subst e1 e2; exact Sound.wk sw_jaOk
 ·injection h with h; injection h with e1 e2; subst e1 e2; exact Sound.wk ss_DrawDiskAdd
 ·injection h with h; injection h with e1 e2; subst e1 e2; exact Sound.wk si_DiskAdd
 ·injection h with h; injection h with e1 e2; subst e1 e2; exact Sound.wk ss_DiskAdd
 ·injection h with h; injection h with e1 e2; subst e1 e2; exact Sound.wk sw_jaDisk
 ·injection h with h; injection h with e1 e2; subst e1 e2; exact Sound.wk si_DiskFall
 ·injection h with h; injection h with e1 e2; subst e1 e2; exact Sound.wk sw_jaNotes
 ·cases h
theorem goodBw_FnDiskSafe:∀ f ms F,Ew_FnDiskSafe.bxf f = some (ms,F) → SoundB Tryd.prog f ms F := fun f ms F h => by cases h
theorem goodw_FnDiskSafe:Good Tryd.prog Ew_FnDiskSafe := ⟨rfl,goodFw_FnDiskSafe,goodBw_FnDiskSafe⟩
noncomputable def Ow_FnDiskSafe_0:Orc := fun _ _ => none
noncomputable def msw_FnDiskSafe:List PM := [.rd]
noncomputable def lsw_FnDiskSafe:List (Nat×Code) := loopsAll 0 (Tryd.f12.body.getD .skip)
theorem kw_FnDiskSafe_0:OrcOk Ew_FnDiskSafe Ow_FnDiskSafe_0 lsw_FnDiskSafe 0 := orcOk_none
noncomputable def g_Aw_FnDiskSafe (a0:List Int):Bool := decide ((↑(List.length a0):Int) > (1048576:Int)) || g_As_DrawDiskAdd a0&&(g_Ai_DiskAdd (g_Vs_DrawDiskAdd_0 a0) (g_Vs_DrawDiskAdd_1 a0) (g_Vs_DrawDiskAdd_2 a0) (g_Vs_DrawDiskAdd_3 a0) (g_Vs_DrawDiskAdd_4 a0) (g_Vs_DrawDiskAdd_5 a0) true&&(g_As_DiskAdd (g_Vs_DrawDiskAdd_0 a0) (g_Vs_DrawDiskAdd_1 a0) (g_Vs_DrawDiskAdd_2 a0) (g_Vs_DrawDiskAdd_3 a0) (g_Vs_DrawDiskAdd_4 a0) (g_Vs_DrawDiskAdd_5 a0) true&&(g_Aw_jaDisk (g_Vi_DiskAdd_0 (g_Vs_DrawDiskAdd_0 a0) (g_Vs_DrawDiskAdd_1 a0) (g_Vs_DrawDiskAdd_2 a0) (g_Vs_DrawDiskAdd_3 a0) (g_Vs_DrawDiskAdd_4 a0) (g_Vs_DrawDiskAdd_5 a0) true) (g_Vi_DiskAdd_1 (g_Vs_DrawDiskAdd_0 a0) (g_Vs_DrawDiskAdd_1 a0) (g_Vs_DrawDiskAdd_2 a0) (g_Vs_DrawDiskAdd_3 a0) (g_Vs_DrawDiskAdd_4 a0) (g_Vs_DrawDiskAdd_5 a0) true) (g_Vs_DiskAdd_0 (g_Vs_DrawDiskAdd_0 a0) (g_Vs_DrawDiskAdd_1 a0) (g_Vs_DrawDiskAdd_2 a0) (g_Vs_DrawDiskAdd_3 a0) (g_Vs_DrawDiskAdd_4 a0) (g_Vs_DrawDiskAdd_5 a0) true) (g_Vs_DiskAdd_1 (g_Vs_DrawDiskAdd_0 a0) (g_Vs_DrawDiskAdd_1 a0) (g_Vs_DrawDiskAdd_2 a0) (g_Vs_DrawDiskAdd_3 a0) (g_Vs_DrawDiskAdd_4 a0) (g_Vs_DrawDiskAdd_5 a0) true)&&(!g_Vw_jaDisk_0 (g_Vi_DiskAdd_0 (g_Vs_DrawDiskAdd_0 a0) (g_Vs_DrawDiskAdd_1 a0) (g_Vs_DrawDiskAdd_2 a0) (g_Vs_DrawDiskAdd_3 a0) (g_Vs_DrawDiskAdd_4 a0) (g_Vs_DrawDiskAdd_5 a0) true) (g_Vi_DiskAdd_1 (g_Vs_DrawDiskAdd_0 a0) (g_Vs_DrawDiskAdd_1 a0) (g_Vs_DrawDiskAdd_2 a0) (g_Vs_DrawDiskAdd_3 a0) (g_Vs_DrawDiskAdd_4 a0) (g_Vs_DrawDiskAdd_5 a0) true) (g_Vs_DiskAdd_0 (g_Vs_DrawDiskAdd_0 a0) (g_Vs_DrawDiskAdd_1 a0) (g_Vs_DrawDiskAdd_2 a0) (g_Vs_DrawDiskAdd_3 a0) (g_Vs_DrawDiskAdd_4 a0) (g_Vs_DrawDiskAdd_5 a0) true) (g_Vs_DiskAdd_1 (g_Vs_DrawDiskAdd_0 a0) (g_Vs_DrawDiskAdd_1 a0) (g_Vs_DrawDiskAdd_2 a0) (g_Vs_DrawDiskAdd_3 a0) (g_Vs_DrawDiskAdd_4 a0) (g_Vs_DrawDiskAdd_5 a0) true) || (!g_Vi_DiskAdd_2 (g_Vs_DrawDiskAdd_0 a0) (g_Vs_DrawDiskAdd_1 a0) (g_Vs_DrawDiskAdd_2 a0) (g_Vs_DrawDiskAdd_3 a0) (g_Vs_DrawDiskAdd_4 a0) (g_Vs_DrawDiskAdd_5 a0) true == g_Vs_DiskAdd_2 (g_Vs_DrawDiskAdd_0 a0) (g_Vs_DrawDiskAdd_1 a0) (g_Vs_DrawDiskAdd_2 a0) (g_Vs_DrawDiskAdd_3 a0) (g_Vs_DrawDiskAdd_4 a0) (g_Vs_DrawDiskAdd_5 a0) true || bif !g_Vi_DiskAdd_2 (g_Vs_DrawDiskAdd_0 a0) (g_Vs_DrawDiskAdd_1 a0) (g_Vs_DrawDiskAdd_2 a0) (g_Vs_DrawDiskAdd_3 a0) (g_Vs_DrawDiskAdd_4 a0) (g_Vs_DrawDiskAdd_5 a0) true then g_Aw_jaOk else g_Ai_DiskAdd (g_Vs_DrawDiskAdd_0 a0) (g_Vs_DrawDiskAdd_1 a0) (g_Vs_DrawDiskAdd_2 a0) (g_Vs_DrawDiskAdd_3 a0) (g_Vs_DrawDiskAdd_4 a0) (g_Vs_DrawDiskAdd_5 a0) false&&(g_Ai_DiskFall (g_Vi_DiskAdd_0 (g_Vs_DrawDiskAdd_0 a0) (g_Vs_DrawDiskAdd_1 a0) (g_Vs_DrawDiskAdd_2 a0) (g_Vs_DrawDiskAdd_3 a0) (g_Vs_DrawDiskAdd_4 a0) (g_Vs_DrawDiskAdd_5 a0) false) (g_Vi_DiskAdd_1 (g_Vs_DrawDiskAdd_0 a0) (g_Vs_DrawDiskAdd_1 a0) (g_Vs_DrawDiskAdd_2 a0) (g_Vs_DrawDiskAdd_3 a0) (g_Vs_DrawDiskAdd_4 a0) (g_Vs_DrawDiskAdd_5 a0) false) (IntKind.wrap IntKind.i64 (IntKind.wrap IntKind.i64 ((↑(List.length (g_Vs_DrawDiskAdd_0 a0)):Int) - g_Vs_DrawDiskAdd_1 a0) + (1:Int)))&&(g_Ai_DiskFall (g_Vi_DiskAdd_0 (g_Vs_DrawDiskAdd_0 a0) (g_Vs_DrawDiskAdd_1 a0) (g_Vs_DrawDiskAdd_2 a0) (g_Vs_DrawDiskAdd_3 a0) (g_Vs_DrawDiskAdd_4 a0) (g_Vs_DrawDiskAdd_5 a0) true) (g_Vi_DiskAdd_1 (g_Vs_DrawDiskAdd_0 a0) (g_Vs_DrawDiskAdd_1 a0) (g_Vs_DrawDiskAdd_2 a0) (g_Vs_DrawDiskAdd_3 a0) (g_Vs_DrawDiskAdd_4 a0) (g_Vs_DrawDiskAdd_5 a0) true) (0:Int)&&(g_Aw_jaDisk (g_Vi_DiskFall_0 (g_Vi_DiskAdd_0 (g_Vs_DrawDiskAdd_0 a0) (g_Vs_DrawDiskAdd_1 a0) (g_Vs_DrawDiskAdd_2 a0) (g_Vs_DrawDiskAdd_3 a0) (g_Vs_DrawDiskAdd_4 a0) (g_Vs_DrawDiskAdd_5 a0) true) (g_Vi_DiskAdd_1 (g_Vs_DrawDiskAdd_0 a0) (g_Vs_DrawDiskAdd_1 a0) (g_Vs_DrawDiskAdd_2 a0) (g_Vs_DrawDiskAdd_3 a0) (g_Vs_DrawDiskAdd_4 a0) (g_Vs_DrawDiskAdd_5 a0) true) (0:Int)) (g_Vi_DiskFall_1 (g_Vi_DiskAdd_0 (g_Vs_DrawDiskAdd_0 a0) (g_Vs_DrawDiskAdd_1 a0) (g_Vs_DrawDiskAdd_2 a0) (g_Vs_DrawDiskAdd_3 a0) (g_Vs_DrawDiskAdd_4 a0) (g_Vs_DrawDiskAdd_5 a0) true) (g_Vi_DiskAdd_1 (g_Vs_DrawDiskAdd_0 a0) (g_Vs_DrawDiskAdd_1 a0) (g_Vs_DrawDiskAdd_2 a0) (g_Vs_DrawDiskAdd_3 a0) (g_Vs_DrawDiskAdd_4 a0) (g_Vs_DrawDiskAdd_5 a0) true) (0:Int)) (g_Vi_DiskAdd_0 (g_Vs_DrawDiskAdd_0 a0) (g_Vs_DrawDiskAdd_1 a0) (g_Vs_DrawDiskAdd_2 a0) (g_Vs_DrawDiskAdd_3 a0) (g_Vs_DrawDiskAdd_4 a0) (g_Vs_DrawDiskAdd_5 a0) true) (g_Vi_DiskAdd_1 (g_Vs_DrawDiskAdd_0 a0) (g_Vs_DrawDiskAdd_1 a0) (g_Vs_DrawDiskAdd_2 a0) (g_Vs_DrawDiskAdd_3 a0) (g_Vs_DrawDiskAdd_4 a0) (g_Vs_DrawDiskAdd_5 a0) true)&&(!g_Vw_jaDisk_0 (g_Vi_DiskFall_0 (g_Vi_DiskAdd_0 (g_Vs_DrawDiskAdd_0 a0) (g_Vs_DrawDiskAdd_1 a0) (g_Vs_DrawDiskAdd_2 a0) (g_Vs_DrawDiskAdd_3 a0) (g_Vs_DrawDiskAdd_4 a0) (g_Vs_DrawDiskAdd_5 a0) true) (g_Vi_DiskAdd_1 (g_Vs_DrawDiskAdd_0 a0) (g_Vs_DrawDiskAdd_1 a0) (g_Vs_DrawDiskAdd_2 a0) (g_Vs_DrawDiskAdd_3 a0) (g_Vs_DrawDiskAdd_4 a0) (g_Vs_DrawDiskAdd_5 a0) true) (0:Int)) (g_Vi_DiskFall_1 (g_Vi_DiskAdd_0 (g_Vs_DrawDiskAdd_0 a0) (g_Vs_DrawDiskAdd_1 a0) (g_Vs_DrawDiskAdd_2 a0) (g_Vs_DrawDiskAdd_3 a0) (g_Vs_DrawDiskAdd_4 a0) (g_Vs_DrawDiskAdd_5 a0) true) (g_Vi_DiskAdd_1 (g_Vs_DrawDiskAdd_0 a0) (g_Vs_DrawDiskAdd_1 a0) (g_Vs_DrawDiskAdd_2 a0) (g_Vs_DrawDiskAdd_3 a0) (g_Vs_DrawDiskAdd_4 a0) (g_Vs_DrawDiskAdd_5 a0) true) (0:Int)) (g_Vi_DiskAdd_0 (g_Vs_DrawDiskAdd_0 a0) (g_Vs_DrawDiskAdd_1 a0) (g_Vs_DrawDiskAdd_2 a0) (g_Vs_DrawDiskAdd_3 a0) (g_Vs_DrawDiskAdd_4 a0) (g_Vs_DrawDiskAdd_5 a0) true) (g_Vi_DiskAdd_1 (g_Vs_DrawDiskAdd_0 a0) (g_Vs_DrawDiskAdd_1 a0) (g_Vs_DrawDiskAdd_2 a0) (g_Vs_DrawDiskAdd_3 a0) (g_Vs_DrawDiskAdd_4 a0) (g_Vs_DrawDiskAdd_5 a0) true) || g_Ai_DiskFall (g_Vi_DiskAdd_0 (g_Vs_DrawDiskAdd_0 a0) (g_Vs_DrawDiskAdd_1 a0) (g_Vs_DrawDiskAdd_2 a0) (g_Vs_DrawDiskAdd_3 a0) (g_Vs_DrawDiskAdd_4 a0) (g_Vs_DrawDiskAdd_5 a0) false) (g_Vi_DiskAdd_1 (g_Vs_DrawDiskAdd_0 a0) (g_Vs_DrawDiskAdd_1 a0) (g_Vs_DrawDiskAdd_2 a0) (g_Vs_DrawDiskAdd_3 a0) (g_Vs_DrawDiskAdd_4 a0) (g_Vs_DrawDiskAdd_5 a0) false) (0:Int)&&(!(↑(List.length (g_Vi_DiskFall_0 (g_Vi_DiskAdd_0 (g_Vs_DrawDiskAdd_0 a0) (g_Vs_DrawDiskAdd_1 a0) (g_Vs_DrawDiskAdd_2 a0) (g_Vs_DrawDiskAdd_3 a0) (g_Vs_DrawDiskAdd_4 a0) (g_Vs_DrawDiskAdd_5 a0) false) (g_Vi_DiskAdd_1 (g_Vs_DrawDiskAdd_0 a0) (g_Vs_DrawDiskAdd_1 a0) (g_Vs_DrawDiskAdd_2 a0) (g_Vs_DrawDiskAdd_3 a0) (g_Vs_DrawDiskAdd_4 a0) (g_Vs_DrawDiskAdd_5 a0) false) (0:Int))):Int) == g_Vs_DrawDiskAdd_1 a0 || g_Aw_jaNotes (g_Vi_DiskFall_0 (g_Vi_DiskAdd_0 (g_Vs_DrawDiskAdd_0 a0) (g_Vs_DrawDiskAdd_1 a0) (g_Vs_DrawDiskAdd_2 a0) (g_Vs_DrawDiskAdd_3 a0) (g_Vs_DrawDiskAdd_4 a0) (g_Vs_DrawDiskAdd_5 a0) false) (g_Vi_DiskAdd_1 (g_Vs_DrawDiskAdd_0 a0) (g_Vs_DrawDiskAdd_1 a0) (g_Vs_DrawDiskAdd_2 a0) (g_Vs_DrawDiskAdd_3 a0) (g_Vs_DrawDiskAdd_4 a0) (g_Vs_DrawDiskAdd_5 a0) false) (IntKind.wrap IntKind.i64 (IntKind.wrap IntKind.i64 ((↑(List.length (g_Vs_DrawDiskAdd_0 a0)):Int) - g_Vs_DrawDiskAdd_1 a0) + (1:Int)))) (g_Vi_DiskAdd_0 (g_Vs_DrawDiskAdd_0 a0) (g_Vs_DrawDiskAdd_1 a0) (g_Vs_DrawDiskAdd_2 a0) (g_Vs_DrawDiskAdd_3 a0) (g_Vs_DrawDiskAdd_4 a0) (g_Vs_DrawDiskAdd_5 a0) false)))))))))))
noncomputable def g_Vw_FnDiskSafe_0 (a0:List Int):Bool := bif decide ((↑(List.length a0):Int) > (1048576:Int)) then true else bif !g_Vw_jaDisk_0 (g_Vi_DiskAdd_0 (g_Vs_DrawDiskAdd_0 a0) (g_Vs_DrawDiskAdd_1 a0) (g_Vs_DrawDiskAdd_2 a0) (g_Vs_DrawDiskAdd_3 a0) (g_Vs_DrawDiskAdd_4 a0) (g_Vs_DrawDiskAdd_5 a0) true) (g_Vi_DiskAdd_1 (g_Vs_DrawDiskAdd_0 a0) (g_Vs_DrawDiskAdd_1 a0) (g_Vs_DrawDiskAdd_2 a0) (g_Vs_DrawDiskAdd_3 a0) (g_Vs_DrawDiskAdd_4 a0) (g_Vs_DrawDiskAdd_5 a0) true) (g_Vs_DiskAdd_0 (g_Vs_DrawDiskAdd_0 a0) (g_Vs_DrawDiskAdd_1 a0) (g_Vs_DrawDiskAdd_2 a0) (g_Vs_DrawDiskAdd_3 a0) (g_Vs_DrawDiskAdd_4 a0) (g_Vs_DrawDiskAdd_5 a0) true) (g_Vs_DiskAdd_1 (g_Vs_DrawDiskAdd_0 a0) (g_Vs_DrawDiskAdd_1 a0) (g_Vs_DrawDiskAdd_2 a0) (g_Vs_DrawDiskAdd_3 a0) (g_Vs_DrawDiskAdd_4 a0) (g_Vs_DrawDiskAdd_5 a0) true) then false else bif !g_Vi_DiskAdd_2 (g_Vs_DrawDiskAdd_0 a0) (g_Vs_DrawDiskAdd_1 a0) (g_Vs_DrawDiskAdd_2 a0) (g_Vs_DrawDiskAdd_3 a0) (g_Vs_DrawDiskAdd_4 a0) (g_Vs_DrawDiskAdd_5 a0) true == g_Vs_DiskAdd_2 (g_Vs_DrawDiskAdd_0 a0) (g_Vs_DrawDiskAdd_1 a0) (g_Vs_DrawDiskAdd_2 a0) (g_Vs_DrawDiskAdd_3 a0) (g_Vs_DrawDiskAdd_4 a0) (g_Vs_DrawDiskAdd_5 a0) true then false else bif !g_Vi_DiskAdd_2 (g_Vs_DrawDiskAdd_0 a0) (g_Vs_DrawDiskAdd_1 a0) (g_Vs_DrawDiskAdd_2 a0) (g_Vs_DrawDiskAdd_3 a0) (g_Vs_DrawDiskAdd_4 a0) (g_Vs_DrawDiskAdd_5 a0) true then g_Vw_jaOk_0 else bif g_Vw_jaDisk_0 (g_Vi_DiskFall_0 (g_Vi_DiskAdd_0 (g_Vs_DrawDiskAdd_0 a0) (g_Vs_DrawDiskAdd_1 a0) (g_Vs_DrawDiskAdd_2 a0) (g_Vs_DrawDiskAdd_3 a0) (g_Vs_DrawDiskAdd_4 a0) (g_Vs_DrawDiskAdd_5 a0) true) (g_Vi_DiskAdd_1 (g_Vs_DrawDiskAdd_0 a0) (g_Vs_DrawDiskAdd_1 a0) (g_Vs_DrawDiskAdd_2 a0) (g_Vs_DrawDiskAdd_3 a0) (g_Vs_DrawDiskAdd_4 a0) (g_Vs_DrawDiskAdd_5 a0) true) (0:Int)) (g_Vi_DiskFall_1 (g_Vi_DiskAdd_0 (g_Vs_DrawDiskAdd_0 a0) (g_Vs_DrawDiskAdd_1 a0) (g_Vs_DrawDiskAdd_2 a0) (g_Vs_DrawDiskAdd_3 a0) (g_Vs_DrawDiskAdd_4 a0) (g_Vs_DrawDiskAdd_5 a0) true) (g_Vi_DiskAdd_1 (g_Vs_DrawDiskAdd_0 a0) (g_Vs_DrawDiskAdd_1 a0) (g_Vs_DrawDiskAdd_2 a0) (g_Vs_DrawDiskAdd_3 a0) (g_Vs_DrawDiskAdd_4 a0) (g_Vs_DrawDiskAdd_5 a0) true) (0:Int)) (g_Vi_DiskAdd_0 (g_Vs_DrawDiskAdd_0 a0) (g_Vs_DrawDiskAdd_1 a0) (g_Vs_DrawDiskAdd_2 a0) (g_Vs_DrawDiskAdd_3 a0) (g_Vs_DrawDiskAdd_4 a0) (g_Vs_DrawDiskAdd_5 a0) true) (g_Vi_DiskAdd_1 (g_Vs_DrawDiskAdd_0 a0) (g_Vs_DrawDiskAdd_1 a0) (g_Vs_DrawDiskAdd_2 a0) (g_Vs_DrawDiskAdd_3 a0) (g_Vs_DrawDiskAdd_4 a0) (g_Vs_DrawDiskAdd_5 a0) true) then bif (↑(List.length (g_Vi_DiskFall_0 (g_Vi_DiskAdd_0 (g_Vs_DrawDiskAdd_0 a0) (g_Vs_DrawDiskAdd_1 a0) (g_Vs_DrawDiskAdd_2 a0) (g_Vs_DrawDiskAdd_3 a0) (g_Vs_DrawDiskAdd_4 a0) (g_Vs_DrawDiskAdd_5 a0) false) (g_Vi_DiskAdd_1 (g_Vs_DrawDiskAdd_0 a0) (g_Vs_DrawDiskAdd_1 a0) (g_Vs_DrawDiskAdd_2 a0) (g_Vs_DrawDiskAdd_3 a0) (g_Vs_DrawDiskAdd_4 a0) (g_Vs_DrawDiskAdd_5 a0) false) (0:Int))):Int) == g_Vs_DrawDiskAdd_1 a0 then g_Vw_jaNotes_0 (g_Vi_DiskFall_0 (g_Vi_DiskAdd_0 (g_Vs_DrawDiskAdd_0 a0) (g_Vs_DrawDiskAdd_1 a0) (g_Vs_DrawDiskAdd_2 a0) (g_Vs_DrawDiskAdd_3 a0) (g_Vs_DrawDiskAdd_4 a0) (g_Vs_DrawDiskAdd_5 a0) false) (g_Vi_DiskAdd_1 (g_Vs_DrawDiskAdd_0 a0) (g_Vs_DrawDiskAdd_1 a0) (g_Vs_DrawDiskAdd_2 a0) (g_Vs_DrawDiskAdd_3 a0) (g_Vs_DrawDiskAdd_4 a0) (g_Vs_DrawDiskAdd_5 a0) false) (IntKind.wrap IntKind.i64 (IntKind.wrap IntKind.i64 ((↑(List.length (g_Vs_DrawDiskAdd_0 a0)):Int) - g_Vs_DrawDiskAdd_1 a0) + (1:Int)))) (g_Vi_DiskAdd_0 (g_Vs_DrawDiskAdd_0 a0) (g_Vs_DrawDiskAdd_1 a0) (g_Vs_DrawDiskAdd_2 a0) (g_Vs_DrawDiskAdd_3 a0) (g_Vs_DrawDiskAdd_4 a0) (g_Vs_DrawDiskAdd_5 a0) false) else false else false
noncomputable def Fw_FnDiskSafe:FSem := fun ys => match ys with
 | [.val false [.sl .any 5 (.int .u8) a0]] => some ((g_Aw_FnDiskSafe a0),.val false [.bool (g_Vw_FnDiskSafe_0 a0)],[])
 | _ => none
theorem vw_FnDiskSafe (a0:List Int):collapseH .std Ew_FnDiskSafe Ow_FnDiskSafe_0 (execFn Ew_FnDiskSafe Tryd.f12 msw_FnDiskSafe [.val false [.sl .any 5 (.int .u8) a0]]) = some ((g_Aw_FnDiskSafe a0),.val false [.bool (g_Vw_FnDiskSafe_0 a0)],[]) := by kernel_rfl
theorem sw_FnDiskSafe:Sound Tryd.prog 12 msw_FnDiskSafe Fw_FnDiskSafe := by
 refine fn_gen goodw_FnDiskSafe (by kernel_rfl) .std (fn := Tryd.f12) (c := (Tryd.f12.body.getD .skip)) (o := Ow_FnDiskSafe_0) (k := 0) (by kernel_rfl) (by kernel_rfl) (by kernel_rfl) (by kernel_rfl) (by decide) kw_FnDiskSafe_0 ?_
 intro ys r outs h
 unfold Fw_FnDiskSafe at h
 split at h
 ·exact (vw_FnDiskSafe _).trans h
 ·cases h
end Go.Proofs.YtliagpcoflhphaaDoor.E
