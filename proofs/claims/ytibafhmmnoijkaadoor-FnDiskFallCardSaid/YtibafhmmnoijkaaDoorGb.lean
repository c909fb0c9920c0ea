/- What the functions that are reached do, by the engine: for the proof (laws.FnDiskFall): part 2. No conditions. -/
import Derived.Test.YtibafhmmnoijkaaDoorGa
import Derived.Test.YtibafhmmnoijkaaDoorProg
set_option linter.all false
section
namespace Go.Proofs.YtibafhmmnoijkaaDoor.E
open Go
set_option maxRecDepth 100000
set_option maxHeartbeats 0
set_option linter.all false
noncomputable def Es_l20Val : Env where
  tt := mkTI Go.Proofs.Tryd.prog
  fn := fun f => match f with
    | 72 => some (mss_l20Rd_pick, FSem.wk mss_l20Rd_pick Fs_l20Rd_pick)
    | 81 => some (mss_l20Rd_oddR, FSem.wk mss_l20Rd_oddR Fs_l20Rd_oddR)
    | _ => none
  bxf := fun _ => none
  mv := []
  keep := fun b => match b with
    | 0 => [(0, false), (1, false), (5, false), (6, false)]
    | _ => []
  keepB := fun b => match b with
    | 0 => [(0, false)]
    | _ => []
  keepX := fun b => match b with
    | 0 => [(0, false), (1, false), (5, false)]
    | _ => []
  keepXB := fun b => match b with
    | 0 => [(0, false)]
    | _ => []
theorem goodFs_l20Val : ∀ f ms F, Es_l20Val.fn f = some (ms, F) → Sound Go.Proofs.Tryd.prog f ms F := fun f ms F h => by
  unfold Es_l20Val at h
  dsimp only at h
  split at h
  · injection h with h; injection h with e1 e2; subst e1 e2; exact Sound.wk ss_l20Rd_pick
  · injection h with h; injection h with e1 e2; subst e1 e2; exact Sound.wk ss_l20Rd_oddR
  · cases h
theorem goodBs_l20Val : ∀ f ms F, Es_l20Val.bxf f = some (ms, F) → SoundB Go.Proofs.Tryd.prog f ms F := fun f ms F h => by cases h
theorem goods_l20Val : Good Go.Proofs.Tryd.prog Es_l20Val := ⟨rfl, goodFs_l20Val, goodBs_l20Val⟩
noncomputable def Os_l20Val_0 : Orc := fun _ _ => none
noncomputable def mss_l20Val : List PM := [.bx, .own]
noncomputable def lss_l20Val : List (Nat × Code) := loopsAll 0 (Go.Proofs.Tryd.f132.body.getD .skip)
noncomputable def cs_l20Val_0 : Code := (loopOf 0 (Go.Proofs.Tryd.f132.body.getD .skip)).getD .skip
theorem lseqs_l20Val : lss_l20Val = [(0, cs_l20Val_0)] := by kernel_rfl
theorem ms_l20Val_0 : ∀ p, p ∈ lss_l20Val → p.1 = 0 → p.2 = cs_l20Val_0 := by
  intro p hp
  rw [lseqs_l20Val] at hp
  simp only [List.mem_cons, List.not_mem_nil, or_false] at hp
  subst hp; simp
theorem ks_l20Val_0 : OrcOk Es_l20Val Os_l20Val_0 lss_l20Val 0 := orcOk_none
noncomputable def hs_l20Val_0 (y0 : Int) (y1 : List (Int)) (y2 : Int) (y3 : List (Int)) (y4 : Int) : List (Pl × LV) := [(.T 0, .t (.val false [.ptr 0 0 0])), (.T 1, .t (.val false [.int .i64 y0])), (.T 5, .t (.val false [.row 5 0 0])), (.R 5 0, .r 0 (some ⟨false, .non, true, 3, (.int .i64), y1⟩)), (.T 6, .t (.val false [.int .i64 y2])), (.B 0, .b 0 false [.sl .any 5 (.int .u8) y3, .int .i64 y4])]
noncomputable def g_Ss_l20Val_0 (y0 : Int) (y3 : List (Int)) : ((List (Int)) × (Int) × (Int)) → RT ((List (Int)) × (Int) × (Int)) (((List (Int)) × (Int)))
  | (y1, y2, y4) => .br (true) (.br (decide (y2 > (0 : Int))) (.br (g_pickA y3 y4 (12 : Int)) (.br (decide ((List.length y1 + List.length [g_pick y3 y4 (12 : Int)]) * nat_lit 8 ≤ nat_lit 140737488355328 ∧ List.length y1 + List.length [g_pick y3 y4 (12 : Int)] ≤ nat_lit 9223372036854775807)) (.br (true) (.go ((y1 ++ [g_pick y3 y4 (12 : Int)], IntKind.wrap IntKind.i64 (y2 - (1 : Int)), IntKind.wrap IntKind.i64 (y4 + (1 : Int))))) (.bad)) (.bad)) (.bad)) (.out ((y1, y4)))) (.bad)
noncomputable def g_Ls_l20Val_0 (y0 : Int) (y3 : List (Int)) (x : (List (Int)) × (Int) × (Int)) : Option (((List (Int)) × (Int))) := loopO (g_Ss_l20Val_0 y0 y3) x
noncomputable def xs_l20Val_0 (y0 : Int) (y3 : List (Int)) : (((List (Int)) × (Int))) → Ex × List (Pl × LV) := fun r => (.exit 0, [(.T 0, .t (.val false [.ptr 0 0 0])), (.T 1, .t (.val false [.int .i64 y0])), (.T 5, .t (.val false [.row 5 0 0])), (.R 5 0, .r 0 (some ⟨false, .non, true, 3, (.int .i64), r.1⟩)), (.B 0, .b 0 false [.sl .any 5 (.int .u8) y3, .int .i64 r.2])])
noncomputable def Os_l20Val_1 : Orc := fun b h => match b, h with
  | 0, [(.T 0, .t (.val false [.ptr 0 0 0])), (.T 1, .t (.val false [.int .i64 y0])), (.T 5, .t (.val false [.row 5 0 0])), (.R 5 0, .r 0 (some ⟨false, .non, true, 3, (.int .i64), y1⟩)), (.T 6, .t (.val false [.int .i64 y2])), (.B 0, .b 0 false [.sl .any 5 (.int .u8) y3, .int .i64 y4])] => some (okO (g_Ls_l20Val_0 y0 y3 (y1, y2, y4)), (.leaf (.exit 0) [(.T 0, .t (.val false [.ptr 0 0 0])), (.T 1, .t (.val false [.int .i64 y0])), (.T 5, .t (.val false [.row 5 0 0])), (.R 5 0, .r 0 (some ⟨false, .non, true, 3, (.int .i64), (valO (g_Ls_l20Val_0 y0 y3 (y1, y2, y4))).1⟩)), (.B 0, .b 0 false [.sl .any 5 (.int .u8) y3, .int .i64 (valO (g_Ls_l20Val_0 y0 y3 (y1, y2, y4))).2])]))
  | b, h => Os_l20Val_0 b h
theorem bs_l20Val_0 (y0 : Int) (y1 : List (Int)) (y2 : Int) (y3 : List (Int)) (y4 : Int) : Tr.bt Es_l20Val Os_l20Val_0 (exec Es_l20Val 0 cs_l20Val_0 (St.of (hs_l20Val_0 y0 y1 y2 y3 y4)) (leafRd Es_l20Val 0)) = (g_Ss_l20Val_0 y0 y3 (y1, y2, y4)).bt (fun ((y1, y2, y4) : (List (Int)) × (Int) × (Int)) => (hs_l20Val_0 y0 y1 y2 y3 y4)) (xs_l20Val_0 y0 y3) := by kernel_rfl
theorem ks_l20Val_1 : OrcOk Es_l20Val Os_l20Val_1 lss_l20Val 1 := orc_add ks_l20Val_0 (fun n p hp h ex h' ho => by
  obtain ⟨b, c⟩ := p
  obtain ⟨xt, h1, h2⟩ := ho
  have h1 : Os_l20Val_1 b h = some (true, xt) := h1
  unfold Os_l20Val_1 at h1
  split at h1
  · injection h1 with h1
    injection h1 with e1 e2
    subst e2
    have hc : c = cs_l20Val_0 := ms_l20Val_0 _ hp rfl
    subst hc
    right
    rename_i y0 y1 y2 y3 y4
    have key := LT_step ks_l20Val_0 hp (fun q hq => loopsAll_in _ _ _ _ hp hq) (fun ((y1, y2, y4) : (List (Int)) × (Int) × (Int)) => (hs_l20Val_0 y0 y1 y2 y3 y4)) (xs_l20Val_0 y0 y3) (g_Ss_l20Val_0 y0 y3) (fun x => by first | exact bs_l20Val_0 y0 x.1 x.2.1 y3 x.2.2) n (x := (y1, y2, y4)) (okO_some e1)
    have hx : ∀ r, XT.sel (.leaf (.exit 0) [(.T 0, .t (.val false [.ptr 0 0 0])), (.T 1, .t (.val false [.int .i64 y0])), (.T 5, .t (.val false [.row 5 0 0])), (.R 5 0, .r 0 (some ⟨false, .non, true, 3, (.int .i64), r.1⟩)), (.B 0, .b 0 false [.sl .any 5 (.int .u8) y3, .int .i64 r.2])]) = xs_l20Val_0 y0 y3 r := fun r => by first | rfl | (rcases r with r | r <;> rfl) | (rcases r with r | r | r <;> rfl) | (rcases r with r | r | r | r <;> rfl)
    have h3 := (hx (valO (g_Ls_l20Val_0 y0 y3 (y1, y2, y4)))).symm.trans h2
    have e3 := congrArg Prod.fst h3
    have e4 := congrArg Prod.snd h3
    simp only at e3 e4
    rw [← e3, ← e4]
    exact key
  · exact .inl ⟨xt, h1, h2⟩)
noncomputable def g_As_l20Val (r0 : List Int) (r1 : Int) (a2 : Int) : Bool := g_pickA r0 r1 (4 : Int) && (g_pickA r0 (IntKind.wrap IntKind.i64 (r1 + (1 : Int))) (3 : Int) && (okO (g_Ls_l20Val_0 a2 r0 ([g_pick r0 r1 (4 : Int)], g_pick r0 (IntKind.wrap IntKind.i64 (r1 + (1 : Int))) (3 : Int), IntKind.wrap IntKind.i64 (IntKind.wrap IntKind.i64 (r1 + (1 : Int)) + (1 : Int)))) && (g_As_l20Rd_odd r0 (valO (g_Ls_l20Val_0 a2 r0 ([g_pick r0 r1 (4 : Int)], g_pick r0 (IntKind.wrap IntKind.i64 (r1 + (1 : Int))) (3 : Int), IntKind.wrap IntKind.i64 (IntKind.wrap IntKind.i64 (r1 + (1 : Int)) + (1 : Int))))).2 a2 && (!g_Vs_l20Rd_odd_0 r0 (valO (g_Ls_l20Val_0 a2 r0 ([g_pick r0 r1 (4 : Int)], g_pick r0 (IntKind.wrap IntKind.i64 (r1 + (1 : Int))) (3 : Int), IntKind.wrap IntKind.i64 (IntKind.wrap IntKind.i64 (r1 + (1 : Int)) + (1 : Int))))).2 a2 || g_pickA r0 (g_Vs_l20Rd_odd_2 r0 (valO (g_Ls_l20Val_0 a2 r0 ([g_pick r0 r1 (4 : Int)], g_pick r0 (IntKind.wrap IntKind.i64 (r1 + (1 : Int))) (3 : Int), IntKind.wrap IntKind.i64 (IntKind.wrap IntKind.i64 (r1 + (1 : Int)) + (1 : Int))))).2 a2) (4 : Int) && (decide ((0 : Int) ≤ g_pick r0 (g_Vs_l20Rd_odd_2 r0 (valO (g_Ls_l20Val_0 a2 r0 ([g_pick r0 r1 (4 : Int)], g_pick r0 (IntKind.wrap IntKind.i64 (r1 + (1 : Int))) (3 : Int), IntKind.wrap IntKind.i64 (IntKind.wrap IntKind.i64 (r1 + (1 : Int)) + (1 : Int))))).2 a2) (4 : Int) ∧ g_pick r0 (g_Vs_l20Rd_odd_2 r0 (valO (g_Ls_l20Val_0 a2 r0 ([g_pick r0 r1 (4 : Int)], g_pick r0 (IntKind.wrap IntKind.i64 (r1 + (1 : Int))) (3 : Int), IntKind.wrap IntKind.i64 (IntKind.wrap IntKind.i64 (r1 + (1 : Int)) + (1 : Int))))).2 a2) (4 : Int) < (4 : Int)) && decide (Int.toNat (g_pick r0 (g_Vs_l20Rd_odd_2 r0 (valO (g_Ls_l20Val_0 a2 r0 ([g_pick r0 r1 (4 : Int)], g_pick r0 (IntKind.wrap IntKind.i64 (r1 + (1 : Int))) (3 : Int), IntKind.wrap IntKind.i64 (IntKind.wrap IntKind.i64 (r1 + (1 : Int)) + (1 : Int))))).2 a2) (4 : Int)) < nat_lit 4))))))
noncomputable def g_Vs_l20Val_0 (r0 : List Int) (r1 : Int) (a2 : Int) : List (Int) := bif g_Vs_l20Rd_odd_0 r0 (valO (g_Ls_l20Val_0 a2 r0 ([g_pick r0 r1 (4 : Int)], g_pick r0 (IntKind.wrap IntKind.i64 (r1 + (1 : Int))) (3 : Int), IntKind.wrap IntKind.i64 (IntKind.wrap IntKind.i64 (r1 + (1 : Int)) + (1 : Int))))).2 a2 then at_ (Ty.sl (nat_lit 3) (Ty.int IntKind.i64)) [[], [(-1 : Int)], [(10000 : Int)], [(1 : Int), (2 : Int), (3 : Int), (4 : Int)]] (Int.toNat (g_pick r0 (g_Vs_l20Rd_odd_2 r0 (valO (g_Ls_l20Val_0 a2 r0 ([g_pick r0 r1 (4 : Int)], g_pick r0 (IntKind.wrap IntKind.i64 (r1 + (1 : Int))) (3 : Int), IntKind.wrap IntKind.i64 (IntKind.wrap IntKind.i64 (r1 + (1 : Int)) + (1 : Int))))).2 a2) (4 : Int))) else (valO (g_Ls_l20Val_0 a2 r0 ([g_pick r0 r1 (4 : Int)], g_pick r0 (IntKind.wrap IntKind.i64 (r1 + (1 : Int))) (3 : Int), IntKind.wrap IntKind.i64 (IntKind.wrap IntKind.i64 (r1 + (1 : Int)) + (1 : Int))))).1
noncomputable def g_Vs_l20Val_1 (r0 : List Int) (r1 : Int) (a2 : Int) : List (Int) := bif g_Vs_l20Rd_odd_0 r0 (valO (g_Ls_l20Val_0 a2 r0 ([g_pick r0 r1 (4 : Int)], g_pick r0 (IntKind.wrap IntKind.i64 (r1 + (1 : Int))) (3 : Int), IntKind.wrap IntKind.i64 (IntKind.wrap IntKind.i64 (r1 + (1 : Int)) + (1 : Int))))).2 a2 then r0 else r0
noncomputable def g_Vs_l20Val_2 (r0 : List Int) (r1 : Int) (a2 : Int) : Int := bif g_Vs_l20Rd_odd_0 r0 (valO (g_Ls_l20Val_0 a2 r0 ([g_pick r0 r1 (4 : Int)], g_pick r0 (IntKind.wrap IntKind.i64 (r1 + (1 : Int))) (3 : Int), IntKind.wrap IntKind.i64 (IntKind.wrap IntKind.i64 (r1 + (1 : Int)) + (1 : Int))))).2 a2 then IntKind.wrap IntKind.i64 (g_Vs_l20Rd_odd_2 r0 (valO (g_Ls_l20Val_0 a2 r0 ([g_pick r0 r1 (4 : Int)], g_pick r0 (IntKind.wrap IntKind.i64 (r1 + (1 : Int))) (3 : Int), IntKind.wrap IntKind.i64 (IntKind.wrap IntKind.i64 (r1 + (1 : Int)) + (1 : Int))))).2 a2 + (1 : Int)) else g_Vs_l20Rd_odd_2 r0 (valO (g_Ls_l20Val_0 a2 r0 ([g_pick r0 r1 (4 : Int)], g_pick r0 (IntKind.wrap IntKind.i64 (r1 + (1 : Int))) (3 : Int), IntKind.wrap IntKind.i64 (IntKind.wrap IntKind.i64 (r1 + (1 : Int)) + (1 : Int))))).2 a2
noncomputable def Fs_l20Val : FSem := fun ys => match ys with
  | [.val true [.sl .any 5 (.int .u8) r0, .int .i64 r1], .val false [.int .i64 a2]] => some ((g_As_l20Val r0 r1 a2), .val false [.sl .any 3 (.int .i64) (g_Vs_l20Val_0 r0 r1 a2)], [[.sl .any 5 (.int .u8) (g_Vs_l20Val_1 r0 r1 a2), .int .i64 (g_Vs_l20Val_2 r0 r1 a2)]])
  | _ => none
theorem vs_l20Val (r0 : List Int) (r1 : Int) (a2 : Int) : collapseH .fr Es_l20Val Os_l20Val_1 (execFn Es_l20Val Go.Proofs.Tryd.f132 mss_l20Val [.val true [.sl .any 5 (.int .u8) r0, .int .i64 r1], .val false [.int .i64 a2]]) = some ((g_As_l20Val r0 r1 a2), .val false [.sl .any 3 (.int .i64) (g_Vs_l20Val_0 r0 r1 a2)], [[.sl .any 5 (.int .u8) (g_Vs_l20Val_1 r0 r1 a2), .int .i64 (g_Vs_l20Val_2 r0 r1 a2)]]) := by kernel_rfl
theorem ss_l20Val : Sound Go.Proofs.Tryd.prog 132 mss_l20Val Fs_l20Val := by
  refine fn_gen goods_l20Val (by kernel_rfl) .fr (fn := Go.Proofs.Tryd.f132) (c := (Go.Proofs.Tryd.f132.body.getD .skip)) (o := Os_l20Val_1) (k := 1) (by kernel_rfl) (by kernel_rfl) (by kernel_rfl) (by kernel_rfl) (by decide) ks_l20Val_1 ?_
  intro ys r outs h
  unfold Fs_l20Val at h
  split at h
  · exact (vs_l20Val _ _ _).trans h
  · cases h
end Go.Proofs.YtibafhmmnoijkaaDoor.E
end
section
namespace Go.Proofs.YtibafhmmnoijkaaDoor.E
open Go
set_option maxRecDepth 100000
set_option linter.all false
noncomputable def mss_l20ValR : List PM := mss_l20Val
theorem sames_l20Val (r0 : List Int) (r1 : Int) (a2 : Int) : g_Vs_l20Val_1 r0 r1 a2 = r0 := by
  unfold g_Vs_l20Val_1
  simp only [Bool.cond_self]
noncomputable def Fs_l20ValR : FSem := fun ys => match ys with
  | [.val true [.sl .any 5 (.int .u8) r0, .int .i64 r1], .val false [.int .i64 a2]] => some ((g_As_l20Val r0 r1 a2), .val false [.sl .any 3 (.int .i64) (g_Vs_l20Val_0 r0 r1 a2)], [[.sl .any 5 (.int .u8) r0, .int .i64 (g_Vs_l20Val_2 r0 r1 a2)]])
  | _ => none
theorem ss_l20ValR : Sound Go.Proofs.Tryd.prog 132 mss_l20ValR Fs_l20ValR := by
  refine ⟨ss_l20Val.fn, fun w S ψ ys vs r outs hF hh hg => ss_l20Val.calls w S ψ ys vs r outs (Eq.trans ?_ hF) hh hg⟩
  unfold Fs_l20ValR at hF ⊢
  split at hF
  · rename_i  r0 r1 a2
    show (some ((g_As_l20Val r0 r1 a2), .val false [.sl .any 3 (.int .i64) (g_Vs_l20Val_0 r0 r1 a2)], [[.sl .any 5 (.int .u8) (g_Vs_l20Val_1 r0 r1 a2), .int .i64 (g_Vs_l20Val_2 r0 r1 a2)]]) : Option (Bool × RV × List (List Cell))) = _
    rw [sames_l20Val]
  · cases hF
end Go.Proofs.YtibafhmmnoijkaaDoor.E
end
section
namespace Go.Proofs.YtibafhmmnoijkaaDoor.E
open Go
set_option maxRecDepth 100000
set_option maxHeartbeats 0
set_option linter.all false
noncomputable def Es_l20Write : Env where
  tt := mkTI Go.Proofs.Tryd.prog
  fn := fun f => match f with
    | 72 => some (mss_l20Rd_pick, FSem.wk mss_l20Rd_pick Fs_l20Rd_pick)
    | 81 => some (mss_l20Rd_oddR, FSem.wk mss_l20Rd_oddR Fs_l20Rd_oddR)
    | 128 => some (mss_l20KeyR, FSem.wk mss_l20KeyR Fs_l20KeyR)
    | 132 => some (mss_l20ValR, FSem.wk mss_l20ValR Fs_l20ValR)
    | _ => none
  bxf := fun _ => none
  mv := []
  keep := fun _ => []
  keepB := fun _ => []
  keepX := fun _ => []
  keepXB := fun _ => []
theorem goodFs_l20Write : ∀ f ms F, Es_l20Write.fn f = some (ms, F) → Sound Go.Proofs.Tryd.prog f ms F := fun f ms F h => by
  unfold Es_l20Write at h
  dsimp only at h
  split at h
  · injection h with h; injection h with e1 e2; subst e1 e2; exact Sound.wk ss_l20Rd_pick
  · injection h with h; injection h with e1 e2; subst e1 e2; exact Sound.wk ss_l20Rd_oddR
  · injection h with h; injection h with e1 e2; subst e1 e2; exact Sound.wk ss_l20KeyR
  · injection h with h; injection h with e1 e2; subst e1 e2; exact Sound.wk ss_l20ValR
  · cases h
theorem goodBs_l20Write : ∀ f ms F, Es_l20Write.bxf f = some (ms, F) → SoundB Go.Proofs.Tryd.prog f ms F := fun f ms F h => by cases h
theorem goods_l20Write : Good Go.Proofs.Tryd.prog Es_l20Write := ⟨rfl, goodFs_l20Write, goodBs_l20Write⟩
noncomputable def Os_l20Write_0 : Orc := fun _ _ => none
noncomputable def mss_l20Write : List PM := [.bx, .own]
noncomputable def lss_l20Write : List (Nat × Code) := loopsAll 0 (Go.Proofs.Tryd.f129.body.getD .skip)

theorem ks_l20Write_0 : OrcOk Es_l20Write Os_l20Write_0 lss_l20Write 0 := orcOk_none
noncomputable def g_As_l20Write (r0 : List Int) (r1 : Int) (a2 : Int) : Bool := g_As_l20Key r0 r1 a2 && (g_pickA r0 (g_Vs_l20Key_2 r0 r1 a2) (3 : Int) && bif g_pick r0 (g_Vs_l20Key_2 r0 r1 a2) (3 : Int) == (0 : Int) then g_As_l20Rd_odd r0 (IntKind.wrap IntKind.i64 (g_Vs_l20Key_2 r0 r1 a2 + (1 : Int))) a2 else g_As_l20Val r0 (IntKind.wrap IntKind.i64 (g_Vs_l20Key_2 r0 r1 a2 + (1 : Int))) a2)
noncomputable def g_Vs_l20Write_0 (r0 : List Int) (r1 : Int) (a2 : Int) : ByteArray := bif g_pick r0 (g_Vs_l20Key_2 r0 r1 a2) (3 : Int) == (0 : Int) then bif g_Vs_l20Rd_odd_0 r0 (IntKind.wrap IntKind.i64 (g_Vs_l20Key_2 r0 r1 a2 + (1 : Int))) a2 then g_Vs_l20Key_0 r0 r1 a2 else g_Vs_l20Key_0 r0 r1 a2 else g_Vs_l20Key_0 r0 r1 a2
noncomputable def g_Vs_l20Write_1 (r0 : List Int) (r1 : Int) (a2 : Int) : Bool := bif g_pick r0 (g_Vs_l20Key_2 r0 r1 a2) (3 : Int) == (0 : Int) then bif g_Vs_l20Rd_odd_0 r0 (IntKind.wrap IntKind.i64 (g_Vs_l20Key_2 r0 r1 a2 + (1 : Int))) a2 then true else true else false
noncomputable def g_Vs_l20Write_2 (r0 : List Int) (r1 : Int) (a2 : Int) : List (Int) := bif g_pick r0 (g_Vs_l20Key_2 r0 r1 a2) (3 : Int) == (0 : Int) then bif g_Vs_l20Rd_odd_0 r0 (IntKind.wrap IntKind.i64 (g_Vs_l20Key_2 r0 r1 a2 + (1 : Int))) a2 then [(1 : Int)] else [] else g_Vs_l20Val_0 r0 (IntKind.wrap IntKind.i64 (g_Vs_l20Key_2 r0 r1 a2 + (1 : Int))) a2
noncomputable def g_Vs_l20Write_3 (r0 : List Int) (r1 : Int) (a2 : Int) : List (Int) := bif g_pick r0 (g_Vs_l20Key_2 r0 r1 a2) (3 : Int) == (0 : Int) then bif g_Vs_l20Rd_odd_0 r0 (IntKind.wrap IntKind.i64 (g_Vs_l20Key_2 r0 r1 a2 + (1 : Int))) a2 then r0 else r0 else r0
noncomputable def g_Vs_l20Write_4 (r0 : List Int) (r1 : Int) (a2 : Int) : Int := bif g_pick r0 (g_Vs_l20Key_2 r0 r1 a2) (3 : Int) == (0 : Int) then bif g_Vs_l20Rd_odd_0 r0 (IntKind.wrap IntKind.i64 (g_Vs_l20Key_2 r0 r1 a2 + (1 : Int))) a2 then g_Vs_l20Rd_odd_2 r0 (IntKind.wrap IntKind.i64 (g_Vs_l20Key_2 r0 r1 a2 + (1 : Int))) a2 else g_Vs_l20Rd_odd_2 r0 (IntKind.wrap IntKind.i64 (g_Vs_l20Key_2 r0 r1 a2 + (1 : Int))) a2 else g_Vs_l20Val_2 r0 (IntKind.wrap IntKind.i64 (g_Vs_l20Key_2 r0 r1 a2 + (1 : Int))) a2
noncomputable def Fs_l20Write : FSem := fun ys => match ys with
  | [.val true [.sl .any 5 (.int .u8) r0, .int .i64 r1], .val false [.int .i64 a2]] => some ((g_As_l20Write r0 r1 a2), .val true [.str (g_Vs_l20Write_0 r0 r1 a2), .bool (g_Vs_l20Write_1 r0 r1 a2), .sl .any 3 (.int .i64) (g_Vs_l20Write_2 r0 r1 a2)], [[.sl .any 5 (.int .u8) (g_Vs_l20Write_3 r0 r1 a2), .int .i64 (g_Vs_l20Write_4 r0 r1 a2)]])
  | _ => none
theorem vs_l20Write (r0 : List Int) (r1 : Int) (a2 : Int) : collapseH .fr Es_l20Write Os_l20Write_0 (execFn Es_l20Write Go.Proofs.Tryd.f129 mss_l20Write [.val true [.sl .any 5 (.int .u8) r0, .int .i64 r1], .val false [.int .i64 a2]]) = some ((g_As_l20Write r0 r1 a2), .val true [.str (g_Vs_l20Write_0 r0 r1 a2), .bool (g_Vs_l20Write_1 r0 r1 a2), .sl .any 3 (.int .i64) (g_Vs_l20Write_2 r0 r1 a2)], [[.sl .any 5 (.int .u8) (g_Vs_l20Write_3 r0 r1 a2), .int .i64 (g_Vs_l20Write_4 r0 r1 a2)]]) := by kernel_rfl
theorem ss_l20Write : Sound Go.Proofs.Tryd.prog 129 mss_l20Write Fs_l20Write := by
  refine fn_gen goods_l20Write (by kernel_rfl) .fr (fn := Go.Proofs.Tryd.f129) (c := (Go.Proofs.Tryd.f129.body.getD .skip)) (o := Os_l20Write_0) (k := 0) (by kernel_rfl) (by kernel_rfl) (by kernel_rfl) (by kernel_rfl) (by decide) ks_l20Write_0 ?_
  intro ys r outs h
  unfold Fs_l20Write at h
  split at h
  · exact (vs_l20Write _ _ _).trans h
  · cases h
end Go.Proofs.YtibafhmmnoijkaaDoor.E
end
section
namespace Go.Proofs.YtibafhmmnoijkaaDoor.E
open Go
set_option maxRecDepth 100000
set_option linter.all false
noncomputable def mss_l20WriteR : List PM := mss_l20Write
theorem sames_l20Write (r0 : List Int) (r1 : Int) (a2 : Int) : g_Vs_l20Write_3 r0 r1 a2 = r0 := by
  unfold g_Vs_l20Write_3
  simp only [Bool.cond_self]
noncomputable def Fs_l20WriteR : FSem := fun ys => match ys with
  | [.val true [.sl .any 5 (.int .u8) r0, .int .i64 r1], .val false [.int .i64 a2]] => some ((g_As_l20Write r0 r1 a2), .val true [.str (g_Vs_l20Write_0 r0 r1 a2), .bool (g_Vs_l20Write_1 r0 r1 a2), .sl .any 3 (.int .i64) (g_Vs_l20Write_2 r0 r1 a2)], [[.sl .any 5 (.int .u8) r0, .int .i64 (g_Vs_l20Write_4 r0 r1 a2)]])
  | _ => none
theorem ss_l20WriteR : Sound Go.Proofs.Tryd.prog 129 mss_l20WriteR Fs_l20WriteR := by
  refine ⟨ss_l20Write.fn, fun w S ψ ys vs r outs hF hh hg => ss_l20Write.calls w S ψ ys vs r outs (Eq.trans ?_ hF) hh hg⟩
  unfold Fs_l20WriteR at hF ⊢
  split at hF
  · rename_i  r0 r1 a2
    show (some ((g_As_l20Write r0 r1 a2), .val true [.str (g_Vs_l20Write_0 r0 r1 a2), .bool (g_Vs_l20Write_1 r0 r1 a2), .sl .any 3 (.int .i64) (g_Vs_l20Write_2 r0 r1 a2)], [[.sl .any 5 (.int .u8) (g_Vs_l20Write_3 r0 r1 a2), .int .i64 (g_Vs_l20Write_4 r0 r1 a2)]]) : Option (Bool × RV × List (List Cell))) = _
    rw [sames_l20Write]
  · cases hF
end Go.Proofs.YtibafhmmnoijkaaDoor.E
end
section
namespace Go.Proofs.YtibafhmmnoijkaaDoor.E
open Go
set_option maxRecDepth 100000
set_option maxHeartbeats 0
set_option linter.all false
noncomputable def Es_l20Writes : Env where
  tt := mkTI Go.Proofs.Tryd.prog
  fn := fun f => match f with
    | 72 => some (mss_l20Rd_pick, FSem.wk mss_l20Rd_pick Fs_l20Rd_pick)
    | 81 => some (mss_l20Rd_oddR, FSem.wk mss_l20Rd_oddR Fs_l20Rd_oddR)
    | 129 => some (mss_l20WriteR, FSem.wk mss_l20WriteR Fs_l20WriteR)
    | _ => none
  bxf := fun _ => none
  mv := []
  keep := fun b => match b with
    | 0 => [(0, false), (1, false), (5, true), (6, false)]
    | _ => []
  keepB := fun b => match b with
    | 0 => [(0, false)]
    | _ => []
  keepX := fun b => match b with
    | 0 => [(0, false), (1, false), (5, true)]
    | _ => []
  keepXB := fun b => match b with
    | 0 => [(0, false)]
    | _ => []
theorem goodFs_l20Writes : ∀ f ms F, Es_l20Writes.fn f = some (ms, F) → Sound Go.Proofs.Tryd.prog f ms F := fun f ms F h => by
  unfold Es_l20Writes at h
  dsimp only at h
  split at h
  · injection h with h; injection h with e1 e2; subst e1 e2; exact Sound.wk ss_l20Rd_pick
  · injection h with h; injection h with e1 e2; subst e1 e2; exact Sound.wk ss_l20Rd_oddR
  · injection h with h; injection h with e1 e2; subst e1 e2; exact Sound.wk ss_l20WriteR
  · cases h
theorem goodBs_l20Writes : ∀ f ms F, Es_l20Writes.bxf f = some (ms, F) → SoundB Go.Proofs.Tryd.prog f ms F := fun f ms F h => by cases h
theorem goods_l20Writes : Good Go.Proofs.Tryd.prog Es_l20Writes := ⟨rfl, goodFs_l20Writes, goodBs_l20Writes⟩
noncomputable def Os_l20Writes_0 : Orc := fun _ _ => none
noncomputable def mss_l20Writes : List PM := [.bx, .own]
noncomputable def lss_l20Writes : List (Nat × Code) := loopsAll 0 (Go.Proofs.Tryd.f92.body.getD .skip)
noncomputable def cs_l20Writes_0 : Code := (loopOf 0 (Go.Proofs.Tryd.f92.body.getD .skip)).getD .skip
theorem lseqs_l20Writes : lss_l20Writes = [(0, cs_l20Writes_0)] := by kernel_rfl
theorem ms_l20Writes_0 : ∀ p, p ∈ lss_l20Writes → p.1 = 0 → p.2 = cs_l20Writes_0 := by
  intro p hp
  rw [lseqs_l20Writes] at hp
  simp only [List.mem_cons, List.not_mem_nil, or_false] at hp
  subst hp; simp
theorem ks_l20Writes_0 : OrcOk Es_l20Writes Os_l20Writes_0 lss_l20Writes 0 := orcOk_none
noncomputable def hs_l20Writes_0 (y0 : Int) (y1 : List ((ByteArray) × ((Bool) × (List (Int))))) (y2 : Int) (y3 : List (Int)) (y4 : Int) : List (Pl × LV) := [(.T 0, .t (.val false [.ptr 0 0 0])), (.T 1, .t (.val false [.int .i64 y0])), (.T 5, .t (.val false [.row 5 0 0])), (.R 5 0, .r 0 (some ⟨false, .non, false, 83, (.pair .str (.pair .bool (.sl 3 (.int .i64)))), y1⟩)), (.T 6, .t (.val false [.int .i64 y2])), (.B 0, .b 0 false [.sl .any 5 (.int .u8) y3, .int .i64 y4])]
noncomputable def g_Ss_l20Writes_0 (y0 : Int) (y3 : List (Int)) : ((List ((ByteArray) × ((Bool) × (List (Int))))) × (Int) × (Int)) → RT ((List ((ByteArray) × ((Bool) × (List (Int))))) × (Int) × (Int)) (((List ((ByteArray) × ((Bool) × (List (Int))))) × (Int)))
  | (y1, y2, y4) => .br (true) (.br (decide (y2 > (0 : Int))) (.br (g_As_l20Write y3 y4 (0 : Int)) (.br (decide ((List.length y1 + List.length [(g_Vs_l20Write_0 y3 y4 (0 : Int), g_Vs_l20Write_1 y3 y4 (0 : Int), g_Vs_l20Write_2 y3 y4 (0 : Int))]) * nat_lit 48 ≤ nat_lit 140737488355328 ∧ List.length y1 + List.length [(g_Vs_l20Write_0 y3 y4 (0 : Int), g_Vs_l20Write_1 y3 y4 (0 : Int), g_Vs_l20Write_2 y3 y4 (0 : Int))] ≤ nat_lit 9223372036854775807)) (.br (true) (.go ((y1 ++ [(g_Vs_l20Write_0 y3 y4 (0 : Int), g_Vs_l20Write_1 y3 y4 (0 : Int), g_Vs_l20Write_2 y3 y4 (0 : Int))], IntKind.wrap IntKind.i64 (y2 - (1 : Int)), g_Vs_l20Write_4 y3 y4 (0 : Int)))) (.bad)) (.bad)) (.bad)) (.out ((y1, y4)))) (.bad)
noncomputable def g_Ls_l20Writes_0 (y0 : Int) (y3 : List (Int)) (x : (List ((ByteArray) × ((Bool) × (List (Int))))) × (Int) × (Int)) : Option (((List ((ByteArray) × ((Bool) × (List (Int))))) × (Int))) := loopO (g_Ss_l20Writes_0 y0 y3) x
noncomputable def xs_l20Writes_0 (y0 : Int) (y3 : List (Int)) : (((List ((ByteArray) × ((Bool) × (List (Int))))) × (Int))) → Ex × List (Pl × LV) := fun r => (.exit 0, [(.T 0, .t (.val false [.ptr 0 0 0])), (.T 1, .t (.val false [.int .i64 y0])), (.T 5, .t (.val false [.row 5 0 0])), (.R 5 0, .r 0 (some ⟨false, .non, false, 83, (.pair .str (.pair .bool (.sl 3 (.int .i64)))), r.1⟩)), (.B 0, .b 0 false [.sl .any 5 (.int .u8) y3, .int .i64 r.2])])
noncomputable def Os_l20Writes_1 : Orc := fun b h => match b, h with
  | 0, [(.T 0, .t (.val false [.ptr 0 0 0])), (.T 1, .t (.val false [.int .i64 y0])), (.T 5, .t (.val false [.row 5 0 0])), (.R 5 0, .r 0 (some ⟨false, .non, false, 83, (.pair .str (.pair .bool (.sl 3 (.int .i64)))), y1⟩)), (.T 6, .t (.val false [.int .i64 y2])), (.B 0, .b 0 false [.sl .any 5 (.int .u8) y3, .int .i64 y4])] => some (okO (g_Ls_l20Writes_0 y0 y3 (y1, y2, y4)), (.leaf (.exit 0) [(.T 0, .t (.val false [.ptr 0 0 0])), (.T 1, .t (.val false [.int .i64 y0])), (.T 5, .t (.val false [.row 5 0 0])), (.R 5 0, .r 0 (some ⟨false, .non, false, 83, (.pair .str (.pair .bool (.sl 3 (.int .i64)))), (valO (g_Ls_l20Writes_0 y0 y3 (y1, y2, y4))).1⟩)), (.B 0, .b 0 false [.sl .any 5 (.int .u8) y3, .int .i64 (valO (g_Ls_l20Writes_0 y0 y3 (y1, y2, y4))).2])]))
  | b, h => Os_l20Writes_0 b h
theorem bs_l20Writes_0 (y0 : Int) (y1 : List ((ByteArray) × ((Bool) × (List (Int))))) (y2 : Int) (y3 : List (Int)) (y4 : Int) : Tr.bt Es_l20Writes Os_l20Writes_0 (exec Es_l20Writes 0 cs_l20Writes_0 (St.of (hs_l20Writes_0 y0 y1 y2 y3 y4)) (leafRd Es_l20Writes 0)) = (g_Ss_l20Writes_0 y0 y3 (y1, y2, y4)).bt (fun ((y1, y2, y4) : (List ((ByteArray) × ((Bool) × (List (Int))))) × (Int) × (Int)) => (hs_l20Writes_0 y0 y1 y2 y3 y4)) (xs_l20Writes_0 y0 y3) := by kernel_rfl
theorem ks_l20Writes_1 : OrcOk Es_l20Writes Os_l20Writes_1 lss_l20Writes 1 := orc_add ks_l20Writes_0 (fun n p hp h ex h' ho => by
  obtain ⟨b, c⟩ := p
  obtain ⟨xt, h1, h2⟩ := ho
  have h1 : Os_l20Writes_1 b h = some (true, xt) := h1
  unfold Os_l20Writes_1 at h1
  split at h1
  · injection h1 with h1
    injection h1 with e1 e2
    subst e2
    have hc : c = cs_l20Writes_0 := ms_l20Writes_0 _ hp rfl
    subst hc
    right
    rename_i y0 y1 y2 y3 y4
    have key := LT_step ks_l20Writes_0 hp (fun q hq => loopsAll_in _ _ _ _ hp hq) (fun ((y1, y2, y4) : (List ((ByteArray) × ((Bool) × (List (Int))))) × (Int) × (Int)) => (hs_l20Writes_0 y0 y1 y2 y3 y4)) (xs_l20Writes_0 y0 y3) (g_Ss_l20Writes_0 y0 y3) (fun x => by first | exact bs_l20Writes_0 y0 x.1 x.2.1 y3 x.2.2) n (x := (y1, y2, y4)) (okO_some e1)
    have hx : ∀ r, XT.sel (.leaf (.exit 0) [(.T 0, .t (.val false [.ptr 0 0 0])), (.T 1, .t (.val false [.int .i64 y0])), (.T 5, .t (.val false [.row 5 0 0])), (.R 5 0, .r 0 (some ⟨false, .non, false, 83, (.pair .str (.pair .bool (.sl 3 (.int .i64)))), r.1⟩)), (.B 0, .b 0 false [.sl .any 5 (.int .u8) y3, .int .i64 r.2])]) = xs_l20Writes_0 y0 y3 r := fun r => by first | rfl | (rcases r with r | r <;> rfl) | (rcases r with r | r | r <;> rfl) | (rcases r with r | r | r | r <;> rfl)
    have h3 := (hx (valO (g_Ls_l20Writes_0 y0 y3 (y1, y2, y4)))).symm.trans h2
    have e3 := congrArg Prod.fst h3
    have e4 := congrArg Prod.snd h3
    simp only at e3 e4
    rw [← e3, ← e4]
    exact key
  · exact .inl ⟨xt, h1, h2⟩)
noncomputable def g_As_l20Writes (r0 : List Int) (r1 : Int) (a2 : Int) : Bool := g_pickA r0 r1 (6 : Int) && (okO (g_Ls_l20Writes_0 a2 r0 ([], g_pick r0 r1 (6 : Int), IntKind.wrap IntKind.i64 (r1 + (1 : Int)))) && (g_As_l20Rd_odd r0 (valO (g_Ls_l20Writes_0 a2 r0 ([], g_pick r0 r1 (6 : Int), IntKind.wrap IntKind.i64 (r1 + (1 : Int))))).2 a2 && (!g_Vs_l20Rd_odd_0 r0 (valO (g_Ls_l20Writes_0 a2 r0 ([], g_pick r0 r1 (6 : Int), IntKind.wrap IntKind.i64 (r1 + (1 : Int))))).2 a2 || g_As_l20Write r0 (g_Vs_l20Rd_odd_2 r0 (valO (g_Ls_l20Writes_0 a2 r0 ([], g_pick r0 r1 (6 : Int), IntKind.wrap IntKind.i64 (r1 + (1 : Int))))).2 a2) (2 : Int) && decide ((List.length (valO (g_Ls_l20Writes_0 a2 r0 ([], g_pick r0 r1 (6 : Int), IntKind.wrap IntKind.i64 (r1 + (1 : Int))))).1 + List.length [(g_Vs_l20Write_0 r0 (g_Vs_l20Rd_odd_2 r0 (valO (g_Ls_l20Writes_0 a2 r0 ([], g_pick r0 r1 (6 : Int), IntKind.wrap IntKind.i64 (r1 + (1 : Int))))).2 a2) (2 : Int), g_Vs_l20Write_1 r0 (g_Vs_l20Rd_odd_2 r0 (valO (g_Ls_l20Writes_0 a2 r0 ([], g_pick r0 r1 (6 : Int), IntKind.wrap IntKind.i64 (r1 + (1 : Int))))).2 a2) (2 : Int), g_Vs_l20Write_2 r0 (g_Vs_l20Rd_odd_2 r0 (valO (g_Ls_l20Writes_0 a2 r0 ([], g_pick r0 r1 (6 : Int), IntKind.wrap IntKind.i64 (r1 + (1 : Int))))).2 a2) (2 : Int))]) * nat_lit 48 ≤ nat_lit 140737488355328 ∧ List.length (valO (g_Ls_l20Writes_0 a2 r0 ([], g_pick r0 r1 (6 : Int), IntKind.wrap IntKind.i64 (r1 + (1 : Int))))).1 + List.length [(g_Vs_l20Write_0 r0 (g_Vs_l20Rd_odd_2 r0 (valO (g_Ls_l20Writes_0 a2 r0 ([], g_pick r0 r1 (6 : Int), IntKind.wrap IntKind.i64 (r1 + (1 : Int))))).2 a2) (2 : Int), g_Vs_l20Write_1 r0 (g_Vs_l20Rd_odd_2 r0 (valO (g_Ls_l20Writes_0 a2 r0 ([], g_pick r0 r1 (6 : Int), IntKind.wrap IntKind.i64 (r1 + (1 : Int))))).2 a2) (2 : Int), g_Vs_l20Write_2 r0 (g_Vs_l20Rd_odd_2 r0 (valO (g_Ls_l20Writes_0 a2 r0 ([], g_pick r0 r1 (6 : Int), IntKind.wrap IntKind.i64 (r1 + (1 : Int))))).2 a2) (2 : Int))] ≤ nat_lit 9223372036854775807))))
noncomputable def g_Vs_l20Writes_0 (r0 : List Int) (r1 : Int) (a2 : Int) : List ((ByteArray) × ((Bool) × (List (Int)))) := bif g_Vs_l20Rd_odd_0 r0 (valO (g_Ls_l20Writes_0 a2 r0 ([], g_pick r0 r1 (6 : Int), IntKind.wrap IntKind.i64 (r1 + (1 : Int))))).2 a2 then (valO (g_Ls_l20Writes_0 a2 r0 ([], g_pick r0 r1 (6 : Int), IntKind.wrap IntKind.i64 (r1 + (1 : Int))))).1 ++ [(g_Vs_l20Write_0 r0 (g_Vs_l20Rd_odd_2 r0 (valO (g_Ls_l20Writes_0 a2 r0 ([], g_pick r0 r1 (6 : Int), IntKind.wrap IntKind.i64 (r1 + (1 : Int))))).2 a2) (2 : Int), g_Vs_l20Write_1 r0 (g_Vs_l20Rd_odd_2 r0 (valO (g_Ls_l20Writes_0 a2 r0 ([], g_pick r0 r1 (6 : Int), IntKind.wrap IntKind.i64 (r1 + (1 : Int))))).2 a2) (2 : Int), g_Vs_l20Write_2 r0 (g_Vs_l20Rd_odd_2 r0 (valO (g_Ls_l20Writes_0 a2 r0 ([], g_pick r0 r1 (6 : Int), IntKind.wrap IntKind.i64 (r1 + (1 : Int))))).2 a2) (2 : Int))] else (valO (g_Ls_l20Writes_0 a2 r0 ([], g_pick r0 r1 (6 : Int), IntKind.wrap IntKind.i64 (r1 + (1 : Int))))).1
noncomputable def g_Vs_l20Writes_1 (r0 : List Int) (r1 : Int) (a2 : Int) : List (Int) := bif g_Vs_l20Rd_odd_0 r0 (valO (g_Ls_l20Writes_0 a2 r0 ([], g_pick r0 r1 (6 : Int), IntKind.wrap IntKind.i64 (r1 + (1 : Int))))).2 a2 then r0 else r0
noncomputable def g_Vs_l20Writes_2 (r0 : List Int) (r1 : Int) (a2 : Int) : Int := bif g_Vs_l20Rd_odd_0 r0 (valO (g_Ls_l20Writes_0 a2 r0 ([], g_pick r0 r1 (6 : Int), IntKind.wrap IntKind.i64 (r1 + (1 : Int))))).2 a2 then g_Vs_l20Write_4 r0 (g_Vs_l20Rd_odd_2 r0 (valO (g_Ls_l20Writes_0 a2 r0 ([], g_pick r0 r1 (6 : Int), IntKind.wrap IntKind.i64 (r1 + (1 : Int))))).2 a2) (2 : Int) else g_Vs_l20Rd_odd_2 r0 (valO (g_Ls_l20Writes_0 a2 r0 ([], g_pick r0 r1 (6 : Int), IntKind.wrap IntKind.i64 (r1 + (1 : Int))))).2 a2
noncomputable def Fs_l20Writes : FSem := fun ys => match ys with
  | [.val true [.sl .any 5 (.int .u8) r0, .int .i64 r1], .val false [.int .i64 a2]] => some ((g_As_l20Writes r0 r1 a2), .val false [.own .any false 83 (.pair .str (.pair .bool (.sl 3 (.int .i64)))) (g_Vs_l20Writes_0 r0 r1 a2)], [[.sl .any 5 (.int .u8) (g_Vs_l20Writes_1 r0 r1 a2), .int .i64 (g_Vs_l20Writes_2 r0 r1 a2)]])
  | _ => none
theorem vs_l20Writes (r0 : List Int) (r1 : Int) (a2 : Int) : collapseH .std Es_l20Writes Os_l20Writes_1 (execFn Es_l20Writes Go.Proofs.Tryd.f92 mss_l20Writes [.val true [.sl .any 5 (.int .u8) r0, .int .i64 r1], .val false [.int .i64 a2]]) = some ((g_As_l20Writes r0 r1 a2), .val false [.own .any false 83 (.pair .str (.pair .bool (.sl 3 (.int .i64)))) (g_Vs_l20Writes_0 r0 r1 a2)], [[.sl .any 5 (.int .u8) (g_Vs_l20Writes_1 r0 r1 a2), .int .i64 (g_Vs_l20Writes_2 r0 r1 a2)]]) := by kernel_rfl
theorem ss_l20Writes : Sound Go.Proofs.Tryd.prog 92 mss_l20Writes Fs_l20Writes := by
  refine fn_gen goods_l20Writes (by kernel_rfl) .std (fn := Go.Proofs.Tryd.f92) (c := (Go.Proofs.Tryd.f92.body.getD .skip)) (o := Os_l20Writes_1) (k := 1) (by kernel_rfl) (by kernel_rfl) (by kernel_rfl) (by kernel_rfl) (by decide) ks_l20Writes_1 ?_
  intro ys r outs h
  unfold Fs_l20Writes at h
  split at h
  · exact (vs_l20Writes _ _ _).trans h
  · cases h
end Go.Proofs.YtibafhmmnoijkaaDoor.E
end
section
namespace Go.Proofs.YtibafhmmnoijkaaDoor.E
open Go
set_option maxRecDepth 100000
set_option linter.all false
noncomputable def mss_l20WritesR : List PM := mss_l20Writes
theorem sames_l20Writes (r0 : List Int) (r1 : Int) (a2 : Int) : g_Vs_l20Writes_1 r0 r1 a2 = r0 := by
  unfold g_Vs_l20Writes_1
  simp only [Bool.cond_self]
noncomputable def Fs_l20WritesR : FSem := fun ys => match ys with
  | [.val true [.sl .any 5 (.int .u8) r0, .int .i64 r1], .val false [.int .i64 a2]] => some ((g_As_l20Writes r0 r1 a2), .val false [.own .any false 83 (.pair .str (.pair .bool (.sl 3 (.int .i64)))) (g_Vs_l20Writes_0 r0 r1 a2)], [[.sl .any 5 (.int .u8) r0, .int .i64 (g_Vs_l20Writes_2 r0 r1 a2)]])
  | _ => none
theorem ss_l20WritesR : Sound Go.Proofs.Tryd.prog 92 mss_l20WritesR Fs_l20WritesR := by
  refine ⟨ss_l20Writes.fn, fun w S ψ ys vs r outs hF hh hg => ss_l20Writes.calls w S ψ ys vs r outs (Eq.trans ?_ hF) hh hg⟩
  unfold Fs_l20WritesR at hF ⊢
  split at hF
  · rename_i  r0 r1 a2
    show (some ((g_As_l20Writes r0 r1 a2), .val false [.own .any false 83 (.pair .str (.pair .bool (.sl 3 (.int .i64)))) (g_Vs_l20Writes_0 r0 r1 a2)], [[.sl .any 5 (.int .u8) (g_Vs_l20Writes_1 r0 r1 a2), .int .i64 (g_Vs_l20Writes_2 r0 r1 a2)]]) : Option (Bool × RV × List (List Cell))) = _
    rw [sames_l20Writes]
  · cases hF
end Go.Proofs.YtibafhmmnoijkaaDoor.E
end
section
namespace Go.Proofs.YtibafhmmnoijkaaDoor.E
open Go
set_option maxRecDepth 100000
set_option maxHeartbeats 0
set_option linter.all false
noncomputable def Es_l20Note : Env where
  tt := mkTI Go.Proofs.Tryd.prog
  fn := fun f => match f with
    | 72 => some (mss_l20Rd_pick, FSem.wk mss_l20Rd_pick Fs_l20Rd_pick)
    | 81 => some (mss_l20Rd_oddR, FSem.wk mss_l20Rd_oddR Fs_l20Rd_oddR)
    | 92 => some (mss_l20WritesR, FSem.wk mss_l20WritesR Fs_l20WritesR)
    | 128 => some (mss_l20KeyR, FSem.wk mss_l20KeyR Fs_l20KeyR)
    | 129 => some (mss_l20WriteR, FSem.wk mss_l20WriteR Fs_l20WriteR)
    | _ => none
  bxf := fun _ => none
  mv := []
  keep := fun b => match b with
    | 0 => [(0, false), (1, false), (4, false), (5, false), (6, false)]
    | _ => []
  keepB := fun b => match b with
    | 0 => [(4, false), (5, false), (0, false)]
    | _ => []
  keepX := fun b => match b with
    | 0 => [(0, false), (1, false), (4, false), (5, false)]
    | _ => []
  keepXB := fun b => match b with
    | 0 => [(4, false), (5, false), (0, false)]
    | _ => []
theorem goodFs_l20Note : ∀ f ms F, Es_l20Note.fn f = some (ms, F) → Sound Go.Proofs.Tryd.prog f ms F := fun f ms F h => by
  unfold Es_l20Note at h
  dsimp only at h
  split at h
  · injection h with h; injection h with e1 e2; subst e1 e2; exact Sound.wk ss_l20Rd_pick
  · injection h with h; injection h with e1 e2; subst e1 e2; exact Sound.wk ss_l20Rd_oddR
  · injection h with h; injection h with e1 e2; subst e1 e2; exact Sound.wk ss_l20WritesR
  · injection h with h; injection h with e1 e2; subst e1 e2; exact Sound.wk ss_l20KeyR
  · injection h with h; injection h with e1 e2; subst e1 e2; exact Sound.wk ss_l20WriteR
  · cases h
theorem goodBs_l20Note : ∀ f ms F, Es_l20Note.bxf f = some (ms, F) → SoundB Go.Proofs.Tryd.prog f ms F := fun f ms F h => by cases h
theorem goods_l20Note : Good Go.Proofs.Tryd.prog Es_l20Note := ⟨rfl, goodFs_l20Note, goodBs_l20Note⟩
noncomputable def Os_l20Note_0 : Orc := fun _ _ => none
noncomputable def mss_l20Note : List PM := [.bx, .own]
noncomputable def lss_l20Note : List (Nat × Code) := loopsAll 0 (Go.Proofs.Tryd.f82.body.getD .skip)
noncomputable def cs_l20Note_0 : Code := (loopOf 0 (Go.Proofs.Tryd.f82.body.getD .skip)).getD .skip
theorem lseqs_l20Note : lss_l20Note = [(0, cs_l20Note_0)] := by kernel_rfl
theorem ms_l20Note_0 : ∀ p, p ∈ lss_l20Note → p.1 = 0 → p.2 = cs_l20Note_0 := by
  intro p hp
  rw [lseqs_l20Note] at hp
  simp only [List.mem_cons, List.not_mem_nil, or_false] at hp
  subst hp; simp
theorem ks_l20Note_0 : OrcOk Es_l20Note Os_l20Note_0 lss_l20Note 0 := orcOk_none
noncomputable def hs_l20Note_0 (y0 : Int) (y1 : Int) (y2 : Int) (y3 : Int) (y4 : List (ByteArray)) (y5 : List ((ByteArray) × ((Bool) × (List (Int))))) (y6 : Int) (y7 : Int) (y8 : List (ByteArray)) (y9 : List ((ByteArray) × ((Bool) × (List (Int))))) (y10 : List (Int)) (y11 : Int) : List (Pl × LV) := [(.T 0, .t (.val false [.ptr 0 0 0])), (.T 1, .t (.val false [.int .i64 y0])), (.T 4, .t (.val false [.ptr 4 0 0])), (.T 5, .t (.val false [.ptr 5 0 0])), (.T 6, .t (.val false [.int .i64 y1])), (.B 4, .b 0 false [.int .i64 y2, .int .i64 y3, .row 4 5 0, .row 4 7 0]), (.R 4 5, .r 0 (some ⟨false, .any, true, 9, .str, y4⟩)), (.R 4 7, .r 0 (some ⟨false, .any, true, 83, (.pair .str (.pair .bool (.sl 3 (.int .i64)))), y5⟩)), (.B 5, .b 0 false [.int .i64 y6, .int .i64 y7, .row 5 5 0, .row 5 7 0]), (.R 5 5, .r 0 (some ⟨false, .any, true, 9, .str, y8⟩)), (.R 5 7, .r 0 (some ⟨false, .any, false, 83, (.pair .str (.pair .bool (.sl 3 (.int .i64)))), y9⟩)), (.B 0, .b 0 false [.sl .any 5 (.int .u8) y10, .int .i64 y11])]
noncomputable def g_Ss_l20Note_0 (y0 : Int) (y2 : Int) (y3 : Int) (y4 : List (ByteArray)) (y5 : List ((ByteArray) × ((Bool) × (List (Int))))) (y6 : Int) (y7 : Int) (y9 : List ((ByteArray) × ((Bool) × (List (Int))))) (y10 : List (Int)) (y11 : Int) : ((Int) × (List (ByteArray))) → RT ((Int) × (List (ByteArray))) (((List (ByteArray))))
  | (y1, y8) => .br (true) (.br (decide (y1 < (↑(List.length y9) : Int))) (.br (decide ((0 : Int) ≤ y1 ∧ y1 < (↑(List.length y9) : Int))) (.br (decide (Int.toNat y1 < List.length y9)) (.br (decide ((List.length y8 + List.length [(at_ (Ty.pair Ty.str (Ty.pair Ty.bool (Ty.sl (nat_lit 3) (Ty.int IntKind.i64)))) y9 (Int.toNat y1)).1]) * nat_lit 16 ≤ nat_lit 140737488355328 ∧ List.length y8 + List.length [(at_ (Ty.pair Ty.str (Ty.pair Ty.bool (Ty.sl (nat_lit 3) (Ty.int IntKind.i64)))) y9 (Int.toNat y1)).1] ≤ nat_lit 9223372036854775807)) (.br (true) (.go ((IntKind.wrap IntKind.i64 (y1 + (1 : Int)), y8 ++ [(at_ (Ty.pair Ty.str (Ty.pair Ty.bool (Ty.sl (nat_lit 3) (Ty.int IntKind.i64)))) y9 (Int.toNat y1)).1]))) (.bad)) (.bad)) (.bad)) (.bad)) (.out (y8))) (.bad)
noncomputable def g_Ls_l20Note_0 (y0 : Int) (y2 : Int) (y3 : Int) (y4 : List (ByteArray)) (y5 : List ((ByteArray) × ((Bool) × (List (Int))))) (y6 : Int) (y7 : Int) (y9 : List ((ByteArray) × ((Bool) × (List (Int))))) (y10 : List (Int)) (y11 : Int) (x : (Int) × (List (ByteArray))) : Option (((List (ByteArray)))) := loopO (g_Ss_l20Note_0 y0 y2 y3 y4 y5 y6 y7 y9 y10 y11) x
noncomputable def xs_l20Note_0 (y0 : Int) (y2 : Int) (y3 : Int) (y4 : List (ByteArray)) (y5 : List ((ByteArray) × ((Bool) × (List (Int))))) (y6 : Int) (y7 : Int) (y9 : List ((ByteArray) × ((Bool) × (List (Int))))) (y10 : List (Int)) (y11 : Int) : (((List (ByteArray)))) → Ex × List (Pl × LV) := fun r => (.exit 0, [(.T 0, .t (.val false [.ptr 0 0 0])), (.T 1, .t (.val false [.int .i64 y0])), (.T 4, .t (.val false [.ptr 4 0 0])), (.T 5, .t (.val false [.ptr 5 0 0])), (.B 4, .b 0 false [.int .i64 y2, .int .i64 y3, .row 4 5 0, .row 4 7 0]), (.R 4 5, .r 0 (some ⟨false, .any, true, 9, .str, y4⟩)), (.R 4 7, .r 0 (some ⟨false, .any, true, 83, (.pair .str (.pair .bool (.sl 3 (.int .i64)))), y5⟩)), (.B 5, .b 0 false [.int .i64 y6, .int .i64 y7, .row 5 5 0, .row 5 7 0]), (.R 5 5, .r 0 (some ⟨false, .any, true, 9, .str, r⟩)), (.R 5 7, .r 0 (some ⟨false, .any, false, 83, (.pair .str (.pair .bool (.sl 3 (.int .i64)))), y9⟩)), (.B 0, .b 0 false [.sl .any 5 (.int .u8) y10, .int .i64 y11])])
noncomputable def Os_l20Note_1 : Orc := fun b h => match b, h with
  | 0, [(.T 0, .t (.val false [.ptr 0 0 0])), (.T 1, .t (.val false [.int .i64 y0])), (.T 4, .t (.val false [.ptr 4 0 0])), (.T 5, .t (.val false [.ptr 5 0 0])), (.T 6, .t (.val false [.int .i64 y1])), (.B 4, .b 0 false [.int .i64 y2, .int .i64 y3, .row 4 5 0, .row 4 7 0]), (.R 4 5, .r 0 (some ⟨false, .any, true, 9, .str, y4⟩)), (.R 4 7, .r 0 (some ⟨false, .any, true, 83, (.pair .str (.pair .bool (.sl 3 (.int .i64)))), y5⟩)), (.B 5, .b 0 false [.int .i64 y6, .int .i64 y7, .row 5 5 0, .row 5 7 0]), (.R 5 5, .r 0 (some ⟨false, .any, true, 9, .str, y8⟩)), (.R 5 7, .r 0 (some ⟨false, .any, false, 83, (.pair .str (.pair .bool (.sl 3 (.int .i64)))), y9⟩)), (.B 0, .b 0 false [.sl .any 5 (.int .u8) y10, .int .i64 y11])] => some (okO (g_Ls_l20Note_0 y0 y2 y3 y4 y5 y6 y7 y9 y10 y11 (y1, y8)), (.leaf (.exit 0) [(.T 0, .t (.val false [.ptr 0 0 0])), (.T 1, .t (.val false [.int .i64 y0])), (.T 4, .t (.val false [.ptr 4 0 0])), (.T 5, .t (.val false [.ptr 5 0 0])), (.B 4, .b 0 false [.int .i64 y2, .int .i64 y3, .row 4 5 0, .row 4 7 0]), (.R 4 5, .r 0 (some ⟨false, .any, true, 9, .str, y4⟩)), (.R 4 7, .r 0 (some ⟨false, .any, true, 83, (.pair .str (.pair .bool (.sl 3 (.int .i64)))), y5⟩)), (.B 5, .b 0 false [.int .i64 y6, .int .i64 y7, .row 5 5 0, .row 5 7 0]), (.R 5 5, .r 0 (some ⟨false, .any, true, 9, .str, (valO (g_Ls_l20Note_0 y0 y2 y3 y4 y5 y6 y7 y9 y10 y11 (y1, y8)))⟩)), (.R 5 7, .r 0 (some ⟨false, .any, false, 83, (.pair .str (.pair .bool (.sl 3 (.int .i64)))), y9⟩)), (.B 0, .b 0 false [.sl .any 5 (.int .u8) y10, .int .i64 y11])]))
  | b, h => Os_l20Note_0 b h
theorem bs_l20Note_0 (y0 : Int) (y1 : Int) (y2 : Int) (y3 : Int) (y4 : List (ByteArray)) (y5 : List ((ByteArray) × ((Bool) × (List (Int))))) (y6 : Int) (y7 : Int) (y8 : List (ByteArray)) (y9 : List ((ByteArray) × ((Bool) × (List (Int))))) (y10 : List (Int)) (y11 : Int) : Tr.bt Es_l20Note Os_l20Note_0 (exec Es_l20Note 0 cs_l20Note_0 (St.of (hs_l20Note_0 y0 y1 y2 y3 y4 y5 y6 y7 y8 y9 y10 y11)) (leafRd Es_l20Note 0)) = (g_Ss_l20Note_0 y0 y2 y3 y4 y5 y6 y7 y9 y10 y11 (y1, y8)).bt (fun ((y1, y8) : (Int) × (List (ByteArray))) => (hs_l20Note_0 y0 y1 y2 y3 y4 y5 y6 y7 y8 y9 y10 y11)) (xs_l20Note_0 y0 y2 y3 y4 y5 y6 y7 y9 y10 y11) := by kernel_rfl
theorem ks_l20Note_1 : OrcOk Es_l20Note Os_l20Note_1 lss_l20Note 1 := orc_add ks_l20Note_0 (fun n p hp h ex h' ho => by
  obtain ⟨b, c⟩ := p
  obtain ⟨xt, h1, h2⟩ := ho
  have h1 : Os_l20Note_1 b h = some (true, xt) := h1
  unfold Os_l20Note_1 at h1
  split at h1
  · injection h1 with h1
    injection h1 with e1 e2
    subst e2
    have hc : c = cs_l20Note_0 := ms_l20Note_0 _ hp rfl
    subst hc
    right
    rename_i y0 y1 y2 y3 y4 y5 y6 y7 y8 y9 y10 y11
    have key := LT_step ks_l20Note_0 hp (fun q hq => loopsAll_in _ _ _ _ hp hq) (fun ((y1, y8) : (Int) × (List (ByteArray))) => (hs_l20Note_0 y0 y1 y2 y3 y4 y5 y6 y7 y8 y9 y10 y11)) (xs_l20Note_0 y0 y2 y3 y4 y5 y6 y7 y9 y10 y11) (g_Ss_l20Note_0 y0 y2 y3 y4 y5 y6 y7 y9 y10 y11) (fun x => by first | exact bs_l20Note_0 y0 x.1 y2 y3 y4 y5 y6 y7 x.2 y9 y10 y11) n (x := (y1, y8)) (okO_some e1)
    have hx : ∀ r, XT.sel (.leaf (.exit 0) [(.T 0, .t (.val false [.ptr 0 0 0])), (.T 1, .t (.val false [.int .i64 y0])), (.T 4, .t (.val false [.ptr 4 0 0])), (.T 5, .t (.val false [.ptr 5 0 0])), (.B 4, .b 0 false [.int .i64 y2, .int .i64 y3, .row 4 5 0, .row 4 7 0]), (.R 4 5, .r 0 (some ⟨false, .any, true, 9, .str, y4⟩)), (.R 4 7, .r 0 (some ⟨false, .any, true, 83, (.pair .str (.pair .bool (.sl 3 (.int .i64)))), y5⟩)), (.B 5, .b 0 false [.int .i64 y6, .int .i64 y7, .row 5 5 0, .row 5 7 0]), (.R 5 5, .r 0 (some ⟨false, .any, true, 9, .str, r⟩)), (.R 5 7, .r 0 (some ⟨false, .any, false, 83, (.pair .str (.pair .bool (.sl 3 (.int .i64)))), y9⟩)), (.B 0, .b 0 false [.sl .any 5 (.int .u8) y10, .int .i64 y11])]) = xs_l20Note_0 y0 y2 y3 y4 y5 y6 y7 y9 y10 y11 r := fun r => by first | rfl | (rcases r with r | r <;> rfl) | (rcases r with r | r | r <;> rfl) | (rcases r with r | r | r | r <;> rfl)
    have h3 := (hx (valO (g_Ls_l20Note_0 y0 y2 y3 y4 y5 y6 y7 y9 y10 y11 (y1, y8)))).symm.trans h2
    have e3 := congrArg Prod.fst h3
    have e4 := congrArg Prod.snd h3
    simp only at e3 e4
    rw [← e3, ← e4]
    exact key
  · exact .inl ⟨xt, h1, h2⟩)
noncomputable def g_As_l20Note (r0 : List Int) (r1 : Int) (a2 : Int) : Bool := g_pickA r0 r1 (5 : Int) && (decide ((0 : Int) ≤ g_pick r0 r1 (5 : Int) ∧ g_pick r0 r1 (5 : Int) < (5 : Int)) && (decide (Int.toNat (g_pick r0 r1 (5 : Int)) < nat_lit 5) && (g_pickA r0 (IntKind.wrap IntKind.i64 (r1 + (1 : Int))) (5 : Int) && bif at_ (Ty.int IntKind.i64) [(1 : Int), (1 : Int), (2 : Int), (3 : Int), (4 : Int)] (Int.toNat (g_pick r0 r1 (5 : Int))) == (1 : Int) then g_As_l20Writes r0 (IntKind.wrap IntKind.i64 (IntKind.wrap IntKind.i64 (r1 + (1 : Int)) + (1 : Int))) (0 : Int) && (okO (g_Ls_l20Note_0 a2 (0 : Int) (0 : Int) [] [] (at_ (Ty.int IntKind.i64) [(1 : Int), (1 : Int), (2 : Int), (3 : Int), (4 : Int)] (Int.toNat (g_pick r0 r1 (5 : Int)))) (g_pick r0 (IntKind.wrap IntKind.i64 (r1 + (1 : Int))) (5 : Int)) (g_Vs_l20Writes_0 r0 (IntKind.wrap IntKind.i64 (IntKind.wrap IntKind.i64 (r1 + (1 : Int)) + (1 : Int))) (0 : Int)) r0 (g_Vs_l20Writes_2 r0 (IntKind.wrap IntKind.i64 (IntKind.wrap IntKind.i64 (r1 + (1 : Int)) + (1 : Int))) (0 : Int)) ((0 : Int), [])) && (g_pickA r0 (g_Vs_l20Writes_2 r0 (IntKind.wrap IntKind.i64 (IntKind.wrap IntKind.i64 (r1 + (1 : Int)) + (1 : Int))) (0 : Int)) (2 : Int) && bif g_pick r0 (g_Vs_l20Writes_2 r0 (IntKind.wrap IntKind.i64 (IntKind.wrap IntKind.i64 (r1 + (1 : Int)) + (1 : Int))) (0 : Int)) (2 : Int) == (0 : Int) then g_As_l20Key r0 (IntKind.wrap IntKind.i64 (g_Vs_l20Writes_2 r0 (IntKind.wrap IntKind.i64 (IntKind.wrap IntKind.i64 (r1 + (1 : Int)) + (1 : Int))) (0 : Int) + (1 : Int))) (0 : Int) && (decide ((List.length (valO (g_Ls_l20Note_0 a2 (0 : Int) (0 : Int) [] [] (at_ (Ty.int IntKind.i64) [(1 : Int), (1 : Int), (2 : Int), (3 : Int), (4 : Int)] (Int.toNat (g_pick r0 r1 (5 : Int)))) (g_pick r0 (IntKind.wrap IntKind.i64 (r1 + (1 : Int))) (5 : Int)) (g_Vs_l20Writes_0 r0 (IntKind.wrap IntKind.i64 (IntKind.wrap IntKind.i64 (r1 + (1 : Int)) + (1 : Int))) (0 : Int)) r0 (g_Vs_l20Writes_2 r0 (IntKind.wrap IntKind.i64 (IntKind.wrap IntKind.i64 (r1 + (1 : Int)) + (1 : Int))) (0 : Int)) ((0 : Int), []))) + List.length [g_Vs_l20Key_0 r0 (IntKind.wrap IntKind.i64 (g_Vs_l20Writes_2 r0 (IntKind.wrap IntKind.i64 (IntKind.wrap IntKind.i64 (r1 + (1 : Int)) + (1 : Int))) (0 : Int) + (1 : Int))) (0 : Int)]) * nat_lit 16 ≤ nat_lit 140737488355328 ∧ List.length (valO (g_Ls_l20Note_0 a2 (0 : Int) (0 : Int) [] [] (at_ (Ty.int IntKind.i64) [(1 : Int), (1 : Int), (2 : Int), (3 : Int), (4 : Int)] (Int.toNat (g_pick r0 r1 (5 : Int)))) (g_pick r0 (IntKind.wrap IntKind.i64 (r1 + (1 : Int))) (5 : Int)) (g_Vs_l20Writes_0 r0 (IntKind.wrap IntKind.i64 (IntKind.wrap IntKind.i64 (r1 + (1 : Int)) + (1 : Int))) (0 : Int)) r0 (g_Vs_l20Writes_2 r0 (IntKind.wrap IntKind.i64 (IntKind.wrap IntKind.i64 (r1 + (1 : Int)) + (1 : Int))) (0 : Int)) ((0 : Int), []))) + List.length [g_Vs_l20Key_0 r0 (IntKind.wrap IntKind.i64 (g_Vs_l20Writes_2 r0 (IntKind.wrap IntKind.i64 (IntKind.wrap IntKind.i64 (r1 + (1 : Int)) + (1 : Int))) (0 : Int) + (1 : Int))) (0 : Int)] ≤ nat_lit 9223372036854775807) && (g_As_l20Rd_odd r0 (g_Vs_l20Key_2 r0 (IntKind.wrap IntKind.i64 (g_Vs_l20Writes_2 r0 (IntKind.wrap IntKind.i64 (IntKind.wrap IntKind.i64 (r1 + (1 : Int)) + (1 : Int))) (0 : Int) + (1 : Int))) (0 : Int)) a2 && (!g_Vs_l20Rd_odd_0 r0 (g_Vs_l20Key_2 r0 (IntKind.wrap IntKind.i64 (g_Vs_l20Writes_2 r0 (IntKind.wrap IntKind.i64 (IntKind.wrap IntKind.i64 (r1 + (1 : Int)) + (1 : Int))) (0 : Int) + (1 : Int))) (0 : Int)) a2 || g_pickA r0 (g_Vs_l20Rd_odd_2 r0 (g_Vs_l20Key_2 r0 (IntKind.wrap IntKind.i64 (g_Vs_l20Writes_2 r0 (IntKind.wrap IntKind.i64 (IntKind.wrap IntKind.i64 (r1 + (1 : Int)) + (1 : Int))) (0 : Int) + (1 : Int))) (0 : Int)) a2) (5 : Int) && bif g_pick r0 (g_Vs_l20Rd_odd_2 r0 (g_Vs_l20Key_2 r0 (IntKind.wrap IntKind.i64 (g_Vs_l20Writes_2 r0 (IntKind.wrap IntKind.i64 (IntKind.wrap IntKind.i64 (r1 + (1 : Int)) + (1 : Int))) (0 : Int) + (1 : Int))) (0 : Int)) a2) (5 : Int) == (0 : Int) then g_pickA r0 (IntKind.wrap IntKind.i64 (g_Vs_l20Rd_odd_2 r0 (g_Vs_l20Key_2 r0 (IntKind.wrap IntKind.i64 (g_Vs_l20Writes_2 r0 (IntKind.wrap IntKind.i64 (IntKind.wrap IntKind.i64 (r1 + (1 : Int)) + (1 : Int))) (0 : Int) + (1 : Int))) (0 : Int)) a2 + (1 : Int))) (2 : Int) && (decide ((0 : Int) ≤ g_pick r0 (IntKind.wrap IntKind.i64 (g_Vs_l20Rd_odd_2 r0 (g_Vs_l20Key_2 r0 (IntKind.wrap IntKind.i64 (g_Vs_l20Writes_2 r0 (IntKind.wrap IntKind.i64 (IntKind.wrap IntKind.i64 (r1 + (1 : Int)) + (1 : Int))) (0 : Int) + (1 : Int))) (0 : Int)) a2 + (1 : Int))) (2 : Int) ∧ g_pick r0 (IntKind.wrap IntKind.i64 (g_Vs_l20Rd_odd_2 r0 (g_Vs_l20Key_2 r0 (IntKind.wrap IntKind.i64 (g_Vs_l20Writes_2 r0 (IntKind.wrap IntKind.i64 (IntKind.wrap IntKind.i64 (r1 + (1 : Int)) + (1 : Int))) (0 : Int) + (1 : Int))) (0 : Int)) a2 + (1 : Int))) (2 : Int) < (2 : Int)) && decide (Int.toNat (g_pick r0 (IntKind.wrap IntKind.i64 (g_Vs_l20Rd_odd_2 r0 (g_Vs_l20Key_2 r0 (IntKind.wrap IntKind.i64 (g_Vs_l20Writes_2 r0 (IntKind.wrap IntKind.i64 (IntKind.wrap IntKind.i64 (r1 + (1 : Int)) + (1 : Int))) (0 : Int) + (1 : Int))) (0 : Int)) a2 + (1 : Int))) (2 : Int)) < nat_lit 2)) else bif g_pick r0 (g_Vs_l20Rd_odd_2 r0 (g_Vs_l20Key_2 r0 (IntKind.wrap IntKind.i64 (g_Vs_l20Writes_2 r0 (IntKind.wrap IntKind.i64 (IntKind.wrap IntKind.i64 (r1 + (1 : Int)) + (1 : Int))) (0 : Int) + (1 : Int))) (0 : Int)) a2) (5 : Int) == (1 : Int) then g_pickA r0 (IntKind.wrap IntKind.i64 (g_Vs_l20Rd_odd_2 r0 (g_Vs_l20Key_2 r0 (IntKind.wrap IntKind.i64 (g_Vs_l20Writes_2 r0 (IntKind.wrap IntKind.i64 (IntKind.wrap IntKind.i64 (r1 + (1 : Int)) + (1 : Int))) (0 : Int) + (1 : Int))) (0 : Int)) a2 + (1 : Int))) (2 : Int) && (decide ((0 : Int) ≤ g_pick r0 (IntKind.wrap IntKind.i64 (g_Vs_l20Rd_odd_2 r0 (g_Vs_l20Key_2 r0 (IntKind.wrap IntKind.i64 (g_Vs_l20Writes_2 r0 (IntKind.wrap IntKind.i64 (IntKind.wrap IntKind.i64 (r1 + (1 : Int)) + (1 : Int))) (0 : Int) + (1 : Int))) (0 : Int)) a2 + (1 : Int))) (2 : Int) ∧ g_pick r0 (IntKind.wrap IntKind.i64 (g_Vs_l20Rd_odd_2 r0 (g_Vs_l20Key_2 r0 (IntKind.wrap IntKind.i64 (g_Vs_l20Writes_2 r0 (IntKind.wrap IntKind.i64 (IntKind.wrap IntKind.i64 (r1 + (1 : Int)) + (1 : Int))) (0 : Int) + (1 : Int))) (0 : Int)) a2 + (1 : Int))) (2 : Int) < (2 : Int)) && decide (Int.toNat (g_pick r0 (IntKind.wrap IntKind.i64 (g_Vs_l20Rd_odd_2 r0 (g_Vs_l20Key_2 r0 (IntKind.wrap IntKind.i64 (g_Vs_l20Writes_2 r0 (IntKind.wrap IntKind.i64 (IntKind.wrap IntKind.i64 (r1 + (1 : Int)) + (1 : Int))) (0 : Int) + (1 : Int))) (0 : Int)) a2 + (1 : Int))) (2 : Int)) < nat_lit 2)) else bif g_pick r0 (g_Vs_l20Rd_odd_2 r0 (g_Vs_l20Key_2 r0 (IntKind.wrap IntKind.i64 (g_Vs_l20Writes_2 r0 (IntKind.wrap IntKind.i64 (IntKind.wrap IntKind.i64 (r1 + (1 : Int)) + (1 : Int))) (0 : Int) + (1 : Int))) (0 : Int)) a2) (5 : Int) == (2 : Int) then decide ((List.length (valO (g_Ls_l20Note_0 a2 (0 : Int) (0 : Int) [] [] (at_ (Ty.int IntKind.i64) [(1 : Int), (1 : Int), (2 : Int), (3 : Int), (4 : Int)] (Int.toNat (g_pick r0 r1 (5 : Int)))) (g_pick r0 (IntKind.wrap IntKind.i64 (r1 + (1 : Int))) (5 : Int)) (g_Vs_l20Writes_0 r0 (IntKind.wrap IntKind.i64 (IntKind.wrap IntKind.i64 (r1 + (1 : Int)) + (1 : Int))) (0 : Int)) r0 (g_Vs_l20Writes_2 r0 (IntKind.wrap IntKind.i64 (IntKind.wrap IntKind.i64 (r1 + (1 : Int)) + (1 : Int))) (0 : Int)) ((0 : Int), [])) ++ [g_Vs_l20Key_0 r0 (IntKind.wrap IntKind.i64 (g_Vs_l20Writes_2 r0 (IntKind.wrap IntKind.i64 (IntKind.wrap IntKind.i64 (r1 + (1 : Int)) + (1 : Int))) (0 : Int) + (1 : Int))) (0 : Int)]) + nat_lit 1) * nat_lit 16 ≤ nat_lit 140737488355328 ∧ List.length (valO (g_Ls_l20Note_0 a2 (0 : Int) (0 : Int) [] [] (at_ (Ty.int IntKind.i64) [(1 : Int), (1 : Int), (2 : Int), (3 : Int), (4 : Int)] (Int.toNat (g_pick r0 r1 (5 : Int)))) (g_pick r0 (IntKind.wrap IntKind.i64 (r1 + (1 : Int))) (5 : Int)) (g_Vs_l20Writes_0 r0 (IntKind.wrap IntKind.i64 (IntKind.wrap IntKind.i64 (r1 + (1 : Int)) + (1 : Int))) (0 : Int)) r0 (g_Vs_l20Writes_2 r0 (IntKind.wrap IntKind.i64 (IntKind.wrap IntKind.i64 (r1 + (1 : Int)) + (1 : Int))) (0 : Int)) ((0 : Int), [])) ++ [g_Vs_l20Key_0 r0 (IntKind.wrap IntKind.i64 (g_Vs_l20Writes_2 r0 (IntKind.wrap IntKind.i64 (IntKind.wrap IntKind.i64 (r1 + (1 : Int)) + (1 : Int))) (0 : Int) + (1 : Int))) (0 : Int)]) + nat_lit 1 ≤ nat_lit 9223372036854775807) else bif g_pick r0 (g_Vs_l20Rd_odd_2 r0 (g_Vs_l20Key_2 r0 (IntKind.wrap IntKind.i64 (g_Vs_l20Writes_2 r0 (IntKind.wrap IntKind.i64 (IntKind.wrap IntKind.i64 (r1 + (1 : Int)) + (1 : Int))) (0 : Int) + (1 : Int))) (0 : Int)) a2) (5 : Int) == (3 : Int) then decide ((List.length (g_Vs_l20Writes_0 r0 (IntKind.wrap IntKind.i64 (IntKind.wrap IntKind.i64 (r1 + (1 : Int)) + (1 : Int))) (0 : Int)) + nat_lit 1) * nat_lit 48 ≤ nat_lit 140737488355328 ∧ List.length (g_Vs_l20Writes_0 r0 (IntKind.wrap IntKind.i64 (IntKind.wrap IntKind.i64 (r1 + (1 : Int)) + (1 : Int))) (0 : Int)) + nat_lit 1 ≤ nat_lit 9223372036854775807) else g_As_l20Write r0 (IntKind.wrap IntKind.i64 (g_Vs_l20Rd_odd_2 r0 (g_Vs_l20Key_2 r0 (IntKind.wrap IntKind.i64 (g_Vs_l20Writes_2 r0 (IntKind.wrap IntKind.i64 (IntKind.wrap IntKind.i64 (r1 + (1 : Int)) + (1 : Int))) (0 : Int) + (1 : Int))) (0 : Int)) a2 + (1 : Int))) (1 : Int) && decide ((List.length (g_Vs_l20Writes_0 r0 (IntKind.wrap IntKind.i64 (IntKind.wrap IntKind.i64 (r1 + (1 : Int)) + (1 : Int))) (0 : Int)) + List.length [(g_Vs_l20Write_0 r0 (IntKind.wrap IntKind.i64 (g_Vs_l20Rd_odd_2 r0 (g_Vs_l20Key_2 r0 (IntKind.wrap IntKind.i64 (g_Vs_l20Writes_2 r0 (IntKind.wrap IntKind.i64 (IntKind.wrap IntKind.i64 (r1 + (1 : Int)) + (1 : Int))) (0 : Int) + (1 : Int))) (0 : Int)) a2 + (1 : Int))) (1 : Int), g_Vs_l20Write_1 r0 (IntKind.wrap IntKind.i64 (g_Vs_l20Rd_odd_2 r0 (g_Vs_l20Key_2 r0 (IntKind.wrap IntKind.i64 (g_Vs_l20Writes_2 r0 (IntKind.wrap IntKind.i64 (IntKind.wrap IntKind.i64 (r1 + (1 : Int)) + (1 : Int))) (0 : Int) + (1 : Int))) (0 : Int)) a2 + (1 : Int))) (1 : Int), g_Vs_l20Write_2 r0 (IntKind.wrap IntKind.i64 (g_Vs_l20Rd_odd_2 r0 (g_Vs_l20Key_2 r0 (IntKind.wrap IntKind.i64 (g_Vs_l20Writes_2 r0 (IntKind.wrap IntKind.i64 (IntKind.wrap IntKind.i64 (r1 + (1 : Int)) + (1 : Int))) (0 : Int) + (1 : Int))) (0 : Int)) a2 + (1 : Int))) (1 : Int))]) * nat_lit 48 ≤ nat_lit 140737488355328 ∧ List.length (g_Vs_l20Writes_0 r0 (IntKind.wrap IntKind.i64 (IntKind.wrap IntKind.i64 (r1 + (1 : Int)) + (1 : Int))) (0 : Int)) + List.length [(g_Vs_l20Write_0 r0 (IntKind.wrap IntKind.i64 (g_Vs_l20Rd_odd_2 r0 (g_Vs_l20Key_2 r0 (IntKind.wrap IntKind.i64 (g_Vs_l20Writes_2 r0 (IntKind.wrap IntKind.i64 (IntKind.wrap IntKind.i64 (r1 + (1 : Int)) + (1 : Int))) (0 : Int) + (1 : Int))) (0 : Int)) a2 + (1 : Int))) (1 : Int), g_Vs_l20Write_1 r0 (IntKind.wrap IntKind.i64 (g_Vs_l20Rd_odd_2 r0 (g_Vs_l20Key_2 r0 (IntKind.wrap IntKind.i64 (g_Vs_l20Writes_2 r0 (IntKind.wrap IntKind.i64 (IntKind.wrap IntKind.i64 (r1 + (1 : Int)) + (1 : Int))) (0 : Int) + (1 : Int))) (0 : Int)) a2 + (1 : Int))) (1 : Int), g_Vs_l20Write_2 r0 (IntKind.wrap IntKind.i64 (g_Vs_l20Rd_odd_2 r0 (g_Vs_l20Key_2 r0 (IntKind.wrap IntKind.i64 (g_Vs_l20Writes_2 r0 (IntKind.wrap IntKind.i64 (IntKind.wrap IntKind.i64 (r1 + (1 : Int)) + (1 : Int))) (0 : Int) + (1 : Int))) (0 : Int)) a2 + (1 : Int))) (1 : Int))] ≤ nat_lit 9223372036854775807)))) else g_As_l20Rd_odd r0 (IntKind.wrap IntKind.i64 (g_Vs_l20Writes_2 r0 (IntKind.wrap IntKind.i64 (IntKind.wrap IntKind.i64 (r1 + (1 : Int)) + (1 : Int))) (0 : Int) + (1 : Int))) a2 && (!g_Vs_l20Rd_odd_0 r0 (IntKind.wrap IntKind.i64 (g_Vs_l20Writes_2 r0 (IntKind.wrap IntKind.i64 (IntKind.wrap IntKind.i64 (r1 + (1 : Int)) + (1 : Int))) (0 : Int) + (1 : Int))) a2 || g_pickA r0 (g_Vs_l20Rd_odd_2 r0 (IntKind.wrap IntKind.i64 (g_Vs_l20Writes_2 r0 (IntKind.wrap IntKind.i64 (IntKind.wrap IntKind.i64 (r1 + (1 : Int)) + (1 : Int))) (0 : Int) + (1 : Int))) a2) (5 : Int) && bif g_pick r0 (g_Vs_l20Rd_odd_2 r0 (IntKind.wrap IntKind.i64 (g_Vs_l20Writes_2 r0 (IntKind.wrap IntKind.i64 (IntKind.wrap IntKind.i64 (r1 + (1 : Int)) + (1 : Int))) (0 : Int) + (1 : Int))) a2) (5 : Int) == (0 : Int) then g_pickA r0 (IntKind.wrap IntKind.i64 (g_Vs_l20Rd_odd_2 r0 (IntKind.wrap IntKind.i64 (g_Vs_l20Writes_2 r0 (IntKind.wrap IntKind.i64 (IntKind.wrap IntKind.i64 (r1 + (1 : Int)) + (1 : Int))) (0 : Int) + (1 : Int))) a2 + (1 : Int))) (2 : Int) && (decide ((0 : Int) ≤ g_pick r0 (IntKind.wrap IntKind.i64 (g_Vs_l20Rd_odd_2 r0 (IntKind.wrap IntKind.i64 (g_Vs_l20Writes_2 r0 (IntKind.wrap IntKind.i64 (IntKind.wrap IntKind.i64 (r1 + (1 : Int)) + (1 : Int))) (0 : Int) + (1 : Int))) a2 + (1 : Int))) (2 : Int) ∧ g_pick r0 (IntKind.wrap IntKind.i64 (g_Vs_l20Rd_odd_2 r0 (IntKind.wrap IntKind.i64 (g_Vs_l20Writes_2 r0 (IntKind.wrap IntKind.i64 (IntKind.wrap IntKind.i64 (r1 + (1 : Int)) + (1 : Int))) (0 : Int) + (1 : Int))) a2 + (1 : Int))) (2 : Int) < (2 : Int)) && decide (Int.toNat (g_pick r0 (IntKind.wrap IntKind.i64 (g_Vs_l20Rd_odd_2 r0 (IntKind.wrap IntKind.i64 (g_Vs_l20Writes_2 r0 (IntKind.wrap IntKind.i64 (IntKind.wrap IntKind.i64 (r1 + (1 : Int)) + (1 : Int))) (0 : Int) + (1 : Int))) a2 + (1 : Int))) (2 : Int)) < nat_lit 2)) else bif g_pick r0 (g_Vs_l20Rd_odd_2 r0 (IntKind.wrap IntKind.i64 (g_Vs_l20Writes_2 r0 (IntKind.wrap IntKind.i64 (IntKind.wrap IntKind.i64 (r1 + (1 : Int)) + (1 : Int))) (0 : Int) + (1 : Int))) a2) (5 : Int) == (1 : Int) then g_pickA r0 (IntKind.wrap IntKind.i64 (g_Vs_l20Rd_odd_2 r0 (IntKind.wrap IntKind.i64 (g_Vs_l20Writes_2 r0 (IntKind.wrap IntKind.i64 (IntKind.wrap IntKind.i64 (r1 + (1 : Int)) + (1 : Int))) (0 : Int) + (1 : Int))) a2 + (1 : Int))) (2 : Int) && (decide ((0 : Int) ≤ g_pick r0 (IntKind.wrap IntKind.i64 (g_Vs_l20Rd_odd_2 r0 (IntKind.wrap IntKind.i64 (g_Vs_l20Writes_2 r0 (IntKind.wrap IntKind.i64 (IntKind.wrap IntKind.i64 (r1 + (1 : Int)) + (1 : Int))) (0 : Int) + (1 : Int))) a2 + (1 : Int))) (2 : Int) ∧ g_pick r0 (IntKind.wrap IntKind.i64 (g_Vs_l20Rd_odd_2 r0 (IntKind.wrap IntKind.i64 (g_Vs_l20Writes_2 r0 (IntKind.wrap IntKind.i64 (IntKind.wrap IntKind.i64 (r1 + (1 : Int)) + (1 : Int))) (0 : Int) + (1 : Int))) a2 + (1 : Int))) (2 : Int) < (2 : Int)) && decide (Int.toNat (g_pick r0 (IntKind.wrap IntKind.i64 (g_Vs_l20Rd_odd_2 r0 (IntKind.wrap IntKind.i64 (g_Vs_l20Writes_2 r0 (IntKind.wrap IntKind.i64 (IntKind.wrap IntKind.i64 (r1 + (1 : Int)) + (1 : Int))) (0 : Int) + (1 : Int))) a2 + (1 : Int))) (2 : Int)) < nat_lit 2)) else bif g_pick r0 (g_Vs_l20Rd_odd_2 r0 (IntKind.wrap IntKind.i64 (g_Vs_l20Writes_2 r0 (IntKind.wrap IntKind.i64 (IntKind.wrap IntKind.i64 (r1 + (1 : Int)) + (1 : Int))) (0 : Int) + (1 : Int))) a2) (5 : Int) == (2 : Int) then decide ((List.length (valO (g_Ls_l20Note_0 a2 (0 : Int) (0 : Int) [] [] (at_ (Ty.int IntKind.i64) [(1 : Int), (1 : Int), (2 : Int), (3 : Int), (4 : Int)] (Int.toNat (g_pick r0 r1 (5 : Int)))) (g_pick r0 (IntKind.wrap IntKind.i64 (r1 + (1 : Int))) (5 : Int)) (g_Vs_l20Writes_0 r0 (IntKind.wrap IntKind.i64 (IntKind.wrap IntKind.i64 (r1 + (1 : Int)) + (1 : Int))) (0 : Int)) r0 (g_Vs_l20Writes_2 r0 (IntKind.wrap IntKind.i64 (IntKind.wrap IntKind.i64 (r1 + (1 : Int)) + (1 : Int))) (0 : Int)) ((0 : Int), []))) + nat_lit 1) * nat_lit 16 ≤ nat_lit 140737488355328 ∧ List.length (valO (g_Ls_l20Note_0 a2 (0 : Int) (0 : Int) [] [] (at_ (Ty.int IntKind.i64) [(1 : Int), (1 : Int), (2 : Int), (3 : Int), (4 : Int)] (Int.toNat (g_pick r0 r1 (5 : Int)))) (g_pick r0 (IntKind.wrap IntKind.i64 (r1 + (1 : Int))) (5 : Int)) (g_Vs_l20Writes_0 r0 (IntKind.wrap IntKind.i64 (IntKind.wrap IntKind.i64 (r1 + (1 : Int)) + (1 : Int))) (0 : Int)) r0 (g_Vs_l20Writes_2 r0 (IntKind.wrap IntKind.i64 (IntKind.wrap IntKind.i64 (r1 + (1 : Int)) + (1 : Int))) (0 : Int)) ((0 : Int), []))) + nat_lit 1 ≤ nat_lit 9223372036854775807) else bif g_pick r0 (g_Vs_l20Rd_odd_2 r0 (IntKind.wrap IntKind.i64 (g_Vs_l20Writes_2 r0 (IntKind.wrap IntKind.i64 (IntKind.wrap IntKind.i64 (r1 + (1 : Int)) + (1 : Int))) (0 : Int) + (1 : Int))) a2) (5 : Int) == (3 : Int) then decide ((List.length (g_Vs_l20Writes_0 r0 (IntKind.wrap IntKind.i64 (IntKind.wrap IntKind.i64 (r1 + (1 : Int)) + (1 : Int))) (0 : Int)) + nat_lit 1) * nat_lit 48 ≤ nat_lit 140737488355328 ∧ List.length (g_Vs_l20Writes_0 r0 (IntKind.wrap IntKind.i64 (IntKind.wrap IntKind.i64 (r1 + (1 : Int)) + (1 : Int))) (0 : Int)) + nat_lit 1 ≤ nat_lit 9223372036854775807) else g_As_l20Write r0 (IntKind.wrap IntKind.i64 (g_Vs_l20Rd_odd_2 r0 (IntKind.wrap IntKind.i64 (g_Vs_l20Writes_2 r0 (IntKind.wrap IntKind.i64 (IntKind.wrap IntKind.i64 (r1 + (1 : Int)) + (1 : Int))) (0 : Int) + (1 : Int))) a2 + (1 : Int))) (1 : Int) && decide ((List.length (g_Vs_l20Writes_0 r0 (IntKind.wrap IntKind.i64 (IntKind.wrap IntKind.i64 (r1 + (1 : Int)) + (1 : Int))) (0 : Int)) + List.length [(g_Vs_l20Write_0 r0 (IntKind.wrap IntKind.i64 (g_Vs_l20Rd_odd_2 r0 (IntKind.wrap IntKind.i64 (g_Vs_l20Writes_2 r0 (IntKind.wrap IntKind.i64 (IntKind.wrap IntKind.i64 (r1 + (1 : Int)) + (1 : Int))) (0 : Int) + (1 : Int))) a2 + (1 : Int))) (1 : Int), g_Vs_l20Write_1 r0 (IntKind.wrap IntKind.i64 (g_Vs_l20Rd_odd_2 r0 (IntKind.wrap IntKind.i64 (g_Vs_l20Writes_2 r0 (IntKind.wrap IntKind.i64 (IntKind.wrap IntKind.i64 (r1 + (1 : Int)) + (1 : Int))) (0 : Int) + (1 : Int))) a2 + (1 : Int))) (1 : Int), g_Vs_l20Write_2 r0 (IntKind.wrap IntKind.i64 (g_Vs_l20Rd_odd_2 r0 (IntKind.wrap IntKind.i64 (g_Vs_l20Writes_2 r0 (IntKind.wrap IntKind.i64 (IntKind.wrap IntKind.i64 (r1 + (1 : Int)) + (1 : Int))) (0 : Int) + (1 : Int))) a2 + (1 : Int))) (1 : Int))]) * nat_lit 48 ≤ nat_lit 140737488355328 ∧ List.length (g_Vs_l20Writes_0 r0 (IntKind.wrap IntKind.i64 (IntKind.wrap IntKind.i64 (r1 + (1 : Int)) + (1 : Int))) (0 : Int)) + List.length [(g_Vs_l20Write_0 r0 (IntKind.wrap IntKind.i64 (g_Vs_l20Rd_odd_2 r0 (IntKind.wrap IntKind.i64 (g_Vs_l20Writes_2 r0 (IntKind.wrap IntKind.i64 (IntKind.wrap IntKind.i64 (r1 + (1 : Int)) + (1 : Int))) (0 : Int) + (1 : Int))) a2 + (1 : Int))) (1 : Int), g_Vs_l20Write_1 r0 (IntKind.wrap IntKind.i64 (g_Vs_l20Rd_odd_2 r0 (IntKind.wrap IntKind.i64 (g_Vs_l20Writes_2 r0 (IntKind.wrap IntKind.i64 (IntKind.wrap IntKind.i64 (r1 + (1 : Int)) + (1 : Int))) (0 : Int) + (1 : Int))) a2 + (1 : Int))) (1 : Int), g_Vs_l20Write_2 r0 (IntKind.wrap IntKind.i64 (g_Vs_l20Rd_odd_2 r0 (IntKind.wrap IntKind.i64 (g_Vs_l20Writes_2 r0 (IntKind.wrap IntKind.i64 (IntKind.wrap IntKind.i64 (r1 + (1 : Int)) + (1 : Int))) (0 : Int) + (1 : Int))) a2 + (1 : Int))) (1 : Int))] ≤ nat_lit 9223372036854775807)))) else g_As_l20Rd_odd r0 (IntKind.wrap IntKind.i64 (IntKind.wrap IntKind.i64 (r1 + (1 : Int)) + (1 : Int))) a2 && (!g_Vs_l20Rd_odd_0 r0 (IntKind.wrap IntKind.i64 (IntKind.wrap IntKind.i64 (r1 + (1 : Int)) + (1 : Int))) a2 || g_pickA r0 (g_Vs_l20Rd_odd_2 r0 (IntKind.wrap IntKind.i64 (IntKind.wrap IntKind.i64 (r1 + (1 : Int)) + (1 : Int))) a2) (5 : Int) && bif g_pick r0 (g_Vs_l20Rd_odd_2 r0 (IntKind.wrap IntKind.i64 (IntKind.wrap IntKind.i64 (r1 + (1 : Int)) + (1 : Int))) a2) (5 : Int) == (0 : Int) then g_pickA r0 (IntKind.wrap IntKind.i64 (g_Vs_l20Rd_odd_2 r0 (IntKind.wrap IntKind.i64 (IntKind.wrap IntKind.i64 (r1 + (1 : Int)) + (1 : Int))) a2 + (1 : Int))) (2 : Int) && (decide ((0 : Int) ≤ g_pick r0 (IntKind.wrap IntKind.i64 (g_Vs_l20Rd_odd_2 r0 (IntKind.wrap IntKind.i64 (IntKind.wrap IntKind.i64 (r1 + (1 : Int)) + (1 : Int))) a2 + (1 : Int))) (2 : Int) ∧ g_pick r0 (IntKind.wrap IntKind.i64 (g_Vs_l20Rd_odd_2 r0 (IntKind.wrap IntKind.i64 (IntKind.wrap IntKind.i64 (r1 + (1 : Int)) + (1 : Int))) a2 + (1 : Int))) (2 : Int) < (2 : Int)) && decide (Int.toNat (g_pick r0 (IntKind.wrap IntKind.i64 (g_Vs_l20Rd_odd_2 r0 (IntKind.wrap IntKind.i64 (IntKind.wrap IntKind.i64 (r1 + (1 : Int)) + (1 : Int))) a2 + (1 : Int))) (2 : Int)) < nat_lit 2)) else bif g_pick r0 (g_Vs_l20Rd_odd_2 r0 (IntKind.wrap IntKind.i64 (IntKind.wrap IntKind.i64 (r1 + (1 : Int)) + (1 : Int))) a2) (5 : Int) == (1 : Int) then g_pickA r0 (IntKind.wrap IntKind.i64 (g_Vs_l20Rd_odd_2 r0 (IntKind.wrap IntKind.i64 (IntKind.wrap IntKind.i64 (r1 + (1 : Int)) + (1 : Int))) a2 + (1 : Int))) (2 : Int) && (decide ((0 : Int) ≤ g_pick r0 (IntKind.wrap IntKind.i64 (g_Vs_l20Rd_odd_2 r0 (IntKind.wrap IntKind.i64 (IntKind.wrap IntKind.i64 (r1 + (1 : Int)) + (1 : Int))) a2 + (1 : Int))) (2 : Int) ∧ g_pick r0 (IntKind.wrap IntKind.i64 (g_Vs_l20Rd_odd_2 r0 (IntKind.wrap IntKind.i64 (IntKind.wrap IntKind.i64 (r1 + (1 : Int)) + (1 : Int))) a2 + (1 : Int))) (2 : Int) < (2 : Int)) && decide (Int.toNat (g_pick r0 (IntKind.wrap IntKind.i64 (g_Vs_l20Rd_odd_2 r0 (IntKind.wrap IntKind.i64 (IntKind.wrap IntKind.i64 (r1 + (1 : Int)) + (1 : Int))) a2 + (1 : Int))) (2 : Int)) < nat_lit 2)) else bif g_pick r0 (g_Vs_l20Rd_odd_2 r0 (IntKind.wrap IntKind.i64 (IntKind.wrap IntKind.i64 (r1 + (1 : Int)) + (1 : Int))) a2) (5 : Int) == (2 : Int) then true else bif g_pick r0 (g_Vs_l20Rd_odd_2 r0 (IntKind.wrap IntKind.i64 (IntKind.wrap IntKind.i64 (r1 + (1 : Int)) + (1 : Int))) a2) (5 : Int) == (3 : Int) then true else g_As_l20Write r0 (IntKind.wrap IntKind.i64 (g_Vs_l20Rd_odd_2 r0 (IntKind.wrap IntKind.i64 (IntKind.wrap IntKind.i64 (r1 + (1 : Int)) + (1 : Int))) a2 + (1 : Int))) (1 : Int) && decide ((nat_lit 0 + List.length [(g_Vs_l20Write_0 r0 (IntKind.wrap IntKind.i64 (g_Vs_l20Rd_odd_2 r0 (IntKind.wrap IntKind.i64 (IntKind.wrap IntKind.i64 (r1 + (1 : Int)) + (1 : Int))) a2 + (1 : Int))) (1 : Int), g_Vs_l20Write_1 r0 (IntKind.wrap IntKind.i64 (g_Vs_l20Rd_odd_2 r0 (IntKind.wrap IntKind.i64 (IntKind.wrap IntKind.i64 (r1 + (1 : Int)) + (1 : Int))) a2 + (1 : Int))) (1 : Int), g_Vs_l20Write_2 r0 (IntKind.wrap IntKind.i64 (g_Vs_l20Rd_odd_2 r0 (IntKind.wrap IntKind.i64 (IntKind.wrap IntKind.i64 (r1 + (1 : Int)) + (1 : Int))) a2 + (1 : Int))) (1 : Int))]) * nat_lit 48 ≤ nat_lit 140737488355328 ∧ nat_lit 0 + List.length [(g_Vs_l20Write_0 r0 (IntKind.wrap IntKind.i64 (g_Vs_l20Rd_odd_2 r0 (IntKind.wrap IntKind.i64 (IntKind.wrap IntKind.i64 (r1 + (1 : Int)) + (1 : Int))) a2 + (1 : Int))) (1 : Int), g_Vs_l20Write_1 r0 (IntKind.wrap IntKind.i64 (g_Vs_l20Rd_odd_2 r0 (IntKind.wrap IntKind.i64 (IntKind.wrap IntKind.i64 (r1 + (1 : Int)) + (1 : Int))) a2 + (1 : Int))) (1 : Int), g_Vs_l20Write_2 r0 (IntKind.wrap IntKind.i64 (g_Vs_l20Rd_odd_2 r0 (IntKind.wrap IntKind.i64 (IntKind.wrap IntKind.i64 (r1 + (1 : Int)) + (1 : Int))) a2 + (1 : Int))) (1 : Int))] ≤ nat_lit 9223372036854775807)))))
noncomputable def g_Vs_l20Note_0 (r0 : List Int) (r1 : Int) (a2 : Int) : Int := bif at_ (Ty.int IntKind.i64) [(1 : Int), (1 : Int), (2 : Int), (3 : Int), (4 : Int)] (Int.toNat (g_pick r0 r1 (5 : Int))) == (1 : Int) then bif g_pick r0 (g_Vs_l20Writes_2 r0 (IntKind.wrap IntKind.i64 (IntKind.wrap IntKind.i64 (r1 + (1 : Int)) + (1 : Int))) (0 : Int)) (2 : Int) == (0 : Int) then bif g_Vs_l20Rd_odd_0 r0 (g_Vs_l20Key_2 r0 (IntKind.wrap IntKind.i64 (g_Vs_l20Writes_2 r0 (IntKind.wrap IntKind.i64 (IntKind.wrap IntKind.i64 (r1 + (1 : Int)) + (1 : Int))) (0 : Int) + (1 : Int))) (0 : Int)) a2 then bif g_pick r0 (g_Vs_l20Rd_odd_2 r0 (g_Vs_l20Key_2 r0 (IntKind.wrap IntKind.i64 (g_Vs_l20Writes_2 r0 (IntKind.wrap IntKind.i64 (IntKind.wrap IntKind.i64 (r1 + (1 : Int)) + (1 : Int))) (0 : Int) + (1 : Int))) (0 : Int)) a2) (5 : Int) == (0 : Int) then at_ (Ty.int IntKind.i64) [(0 : Int), (5 : Int)] (Int.toNat (g_pick r0 (IntKind.wrap IntKind.i64 (g_Vs_l20Rd_odd_2 r0 (g_Vs_l20Key_2 r0 (IntKind.wrap IntKind.i64 (g_Vs_l20Writes_2 r0 (IntKind.wrap IntKind.i64 (IntKind.wrap IntKind.i64 (r1 + (1 : Int)) + (1 : Int))) (0 : Int) + (1 : Int))) (0 : Int)) a2 + (1 : Int))) (2 : Int))) else bif g_pick r0 (g_Vs_l20Rd_odd_2 r0 (g_Vs_l20Key_2 r0 (IntKind.wrap IntKind.i64 (g_Vs_l20Writes_2 r0 (IntKind.wrap IntKind.i64 (IntKind.wrap IntKind.i64 (r1 + (1 : Int)) + (1 : Int))) (0 : Int) + (1 : Int))) (0 : Int)) a2) (5 : Int) == (1 : Int) then at_ (Ty.int IntKind.i64) [(1 : Int), (1 : Int), (2 : Int), (3 : Int), (4 : Int)] (Int.toNat (g_pick r0 r1 (5 : Int))) else bif g_pick r0 (g_Vs_l20Rd_odd_2 r0 (g_Vs_l20Key_2 r0 (IntKind.wrap IntKind.i64 (g_Vs_l20Writes_2 r0 (IntKind.wrap IntKind.i64 (IntKind.wrap IntKind.i64 (r1 + (1 : Int)) + (1 : Int))) (0 : Int) + (1 : Int))) (0 : Int)) a2) (5 : Int) == (2 : Int) then at_ (Ty.int IntKind.i64) [(1 : Int), (1 : Int), (2 : Int), (3 : Int), (4 : Int)] (Int.toNat (g_pick r0 r1 (5 : Int))) else bif g_pick r0 (g_Vs_l20Rd_odd_2 r0 (g_Vs_l20Key_2 r0 (IntKind.wrap IntKind.i64 (g_Vs_l20Writes_2 r0 (IntKind.wrap IntKind.i64 (IntKind.wrap IntKind.i64 (r1 + (1 : Int)) + (1 : Int))) (0 : Int) + (1 : Int))) (0 : Int)) a2) (5 : Int) == (3 : Int) then at_ (Ty.int IntKind.i64) [(1 : Int), (1 : Int), (2 : Int), (3 : Int), (4 : Int)] (Int.toNat (g_pick r0 r1 (5 : Int))) else at_ (Ty.int IntKind.i64) [(1 : Int), (1 : Int), (2 : Int), (3 : Int), (4 : Int)] (Int.toNat (g_pick r0 r1 (5 : Int))) else at_ (Ty.int IntKind.i64) [(1 : Int), (1 : Int), (2 : Int), (3 : Int), (4 : Int)] (Int.toNat (g_pick r0 r1 (5 : Int))) else bif g_Vs_l20Rd_odd_0 r0 (IntKind.wrap IntKind.i64 (g_Vs_l20Writes_2 r0 (IntKind.wrap IntKind.i64 (IntKind.wrap IntKind.i64 (r1 + (1 : Int)) + (1 : Int))) (0 : Int) + (1 : Int))) a2 then bif g_pick r0 (g_Vs_l20Rd_odd_2 r0 (IntKind.wrap IntKind.i64 (g_Vs_l20Writes_2 r0 (IntKind.wrap IntKind.i64 (IntKind.wrap IntKind.i64 (r1 + (1 : Int)) + (1 : Int))) (0 : Int) + (1 : Int))) a2) (5 : Int) == (0 : Int) then at_ (Ty.int IntKind.i64) [(0 : Int), (5 : Int)] (Int.toNat (g_pick r0 (IntKind.wrap IntKind.i64 (g_Vs_l20Rd_odd_2 r0 (IntKind.wrap IntKind.i64 (g_Vs_l20Writes_2 r0 (IntKind.wrap IntKind.i64 (IntKind.wrap IntKind.i64 (r1 + (1 : Int)) + (1 : Int))) (0 : Int) + (1 : Int))) a2 + (1 : Int))) (2 : Int))) else bif g_pick r0 (g_Vs_l20Rd_odd_2 r0 (IntKind.wrap IntKind.i64 (g_Vs_l20Writes_2 r0 (IntKind.wrap IntKind.i64 (IntKind.wrap IntKind.i64 (r1 + (1 : Int)) + (1 : Int))) (0 : Int) + (1 : Int))) a2) (5 : Int) == (1 : Int) then at_ (Ty.int IntKind.i64) [(1 : Int), (1 : Int), (2 : Int), (3 : Int), (4 : Int)] (Int.toNat (g_pick r0 r1 (5 : Int))) else bif g_pick r0 (g_Vs_l20Rd_odd_2 r0 (IntKind.wrap IntKind.i64 (g_Vs_l20Writes_2 r0 (IntKind.wrap IntKind.i64 (IntKind.wrap IntKind.i64 (r1 + (1 : Int)) + (1 : Int))) (0 : Int) + (1 : Int))) a2) (5 : Int) == (2 : Int) then at_ (Ty.int IntKind.i64) [(1 : Int), (1 : Int), (2 : Int), (3 : Int), (4 : Int)] (Int.toNat (g_pick r0 r1 (5 : Int))) else bif g_pick r0 (g_Vs_l20Rd_odd_2 r0 (IntKind.wrap IntKind.i64 (g_Vs_l20Writes_2 r0 (IntKind.wrap IntKind.i64 (IntKind.wrap IntKind.i64 (r1 + (1 : Int)) + (1 : Int))) (0 : Int) + (1 : Int))) a2) (5 : Int) == (3 : Int) then at_ (Ty.int IntKind.i64) [(1 : Int), (1 : Int), (2 : Int), (3 : Int), (4 : Int)] (Int.toNat (g_pick r0 r1 (5 : Int))) else at_ (Ty.int IntKind.i64) [(1 : Int), (1 : Int), (2 : Int), (3 : Int), (4 : Int)] (Int.toNat (g_pick r0 r1 (5 : Int))) else at_ (Ty.int IntKind.i64) [(1 : Int), (1 : Int), (2 : Int), (3 : Int), (4 : Int)] (Int.toNat (g_pick r0 r1 (5 : Int))) else bif g_Vs_l20Rd_odd_0 r0 (IntKind.wrap IntKind.i64 (IntKind.wrap IntKind.i64 (r1 + (1 : Int)) + (1 : Int))) a2 then bif g_pick r0 (g_Vs_l20Rd_odd_2 r0 (IntKind.wrap IntKind.i64 (IntKind.wrap IntKind.i64 (r1 + (1 : Int)) + (1 : Int))) a2) (5 : Int) == (0 : Int) then at_ (Ty.int IntKind.i64) [(0 : Int), (5 : Int)] (Int.toNat (g_pick r0 (IntKind.wrap IntKind.i64 (g_Vs_l20Rd_odd_2 r0 (IntKind.wrap IntKind.i64 (IntKind.wrap IntKind.i64 (r1 + (1 : Int)) + (1 : Int))) a2 + (1 : Int))) (2 : Int))) else bif g_pick r0 (g_Vs_l20Rd_odd_2 r0 (IntKind.wrap IntKind.i64 (IntKind.wrap IntKind.i64 (r1 + (1 : Int)) + (1 : Int))) a2) (5 : Int) == (1 : Int) then at_ (Ty.int IntKind.i64) [(1 : Int), (1 : Int), (2 : Int), (3 : Int), (4 : Int)] (Int.toNat (g_pick r0 r1 (5 : Int))) else bif g_pick r0 (g_Vs_l20Rd_odd_2 r0 (IntKind.wrap IntKind.i64 (IntKind.wrap IntKind.i64 (r1 + (1 : Int)) + (1 : Int))) a2) (5 : Int) == (2 : Int) then at_ (Ty.int IntKind.i64) [(1 : Int), (1 : Int), (2 : Int), (3 : Int), (4 : Int)] (Int.toNat (g_pick r0 r1 (5 : Int))) else bif g_pick r0 (g_Vs_l20Rd_odd_2 r0 (IntKind.wrap IntKind.i64 (IntKind.wrap IntKind.i64 (r1 + (1 : Int)) + (1 : Int))) a2) (5 : Int) == (3 : Int) then at_ (Ty.int IntKind.i64) [(1 : Int), (1 : Int), (2 : Int), (3 : Int), (4 : Int)] (Int.toNat (g_pick r0 r1 (5 : Int))) else at_ (Ty.int IntKind.i64) [(1 : Int), (1 : Int), (2 : Int), (3 : Int), (4 : Int)] (Int.toNat (g_pick r0 r1 (5 : Int))) else at_ (Ty.int IntKind.i64) [(1 : Int), (1 : Int), (2 : Int), (3 : Int), (4 : Int)] (Int.toNat (g_pick r0 r1 (5 : Int)))
noncomputable def g_Vs_l20Note_1 (r0 : List Int) (r1 : Int) (a2 : Int) : Int := bif at_ (Ty.int IntKind.i64) [(1 : Int), (1 : Int), (2 : Int), (3 : Int), (4 : Int)] (Int.toNat (g_pick r0 r1 (5 : Int))) == (1 : Int) then bif g_pick r0 (g_Vs_l20Writes_2 r0 (IntKind.wrap IntKind.i64 (IntKind.wrap IntKind.i64 (r1 + (1 : Int)) + (1 : Int))) (0 : Int)) (2 : Int) == (0 : Int) then bif g_Vs_l20Rd_odd_0 r0 (g_Vs_l20Key_2 r0 (IntKind.wrap IntKind.i64 (g_Vs_l20Writes_2 r0 (IntKind.wrap IntKind.i64 (IntKind.wrap IntKind.i64 (r1 + (1 : Int)) + (1 : Int))) (0 : Int) + (1 : Int))) (0 : Int)) a2 then bif g_pick r0 (g_Vs_l20Rd_odd_2 r0 (g_Vs_l20Key_2 r0 (IntKind.wrap IntKind.i64 (g_Vs_l20Writes_2 r0 (IntKind.wrap IntKind.i64 (IntKind.wrap IntKind.i64 (r1 + (1 : Int)) + (1 : Int))) (0 : Int) + (1 : Int))) (0 : Int)) a2) (5 : Int) == (0 : Int) then g_pick r0 (IntKind.wrap IntKind.i64 (r1 + (1 : Int))) (5 : Int) else bif g_pick r0 (g_Vs_l20Rd_odd_2 r0 (g_Vs_l20Key_2 r0 (IntKind.wrap IntKind.i64 (g_Vs_l20Writes_2 r0 (IntKind.wrap IntKind.i64 (IntKind.wrap IntKind.i64 (r1 + (1 : Int)) + (1 : Int))) (0 : Int) + (1 : Int))) (0 : Int)) a2) (5 : Int) == (1 : Int) then at_ (Ty.int IntKind.i64) [(-1 : Int), (30 : Int)] (Int.toNat (g_pick r0 (IntKind.wrap IntKind.i64 (g_Vs_l20Rd_odd_2 r0 (g_Vs_l20Key_2 r0 (IntKind.wrap IntKind.i64 (g_Vs_l20Writes_2 r0 (IntKind.wrap IntKind.i64 (IntKind.wrap IntKind.i64 (r1 + (1 : Int)) + (1 : Int))) (0 : Int) + (1 : Int))) (0 : Int)) a2 + (1 : Int))) (2 : Int))) else bif g_pick r0 (g_Vs_l20Rd_odd_2 r0 (g_Vs_l20Key_2 r0 (IntKind.wrap IntKind.i64 (g_Vs_l20Writes_2 r0 (IntKind.wrap IntKind.i64 (IntKind.wrap IntKind.i64 (r1 + (1 : Int)) + (1 : Int))) (0 : Int) + (1 : Int))) (0 : Int)) a2) (5 : Int) == (2 : Int) then g_pick r0 (IntKind.wrap IntKind.i64 (r1 + (1 : Int))) (5 : Int) else bif g_pick r0 (g_Vs_l20Rd_odd_2 r0 (g_Vs_l20Key_2 r0 (IntKind.wrap IntKind.i64 (g_Vs_l20Writes_2 r0 (IntKind.wrap IntKind.i64 (IntKind.wrap IntKind.i64 (r1 + (1 : Int)) + (1 : Int))) (0 : Int) + (1 : Int))) (0 : Int)) a2) (5 : Int) == (3 : Int) then g_pick r0 (IntKind.wrap IntKind.i64 (r1 + (1 : Int))) (5 : Int) else g_pick r0 (IntKind.wrap IntKind.i64 (r1 + (1 : Int))) (5 : Int) else g_pick r0 (IntKind.wrap IntKind.i64 (r1 + (1 : Int))) (5 : Int) else bif g_Vs_l20Rd_odd_0 r0 (IntKind.wrap IntKind.i64 (g_Vs_l20Writes_2 r0 (IntKind.wrap IntKind.i64 (IntKind.wrap IntKind.i64 (r1 + (1 : Int)) + (1 : Int))) (0 : Int) + (1 : Int))) a2 then bif g_pick r0 (g_Vs_l20Rd_odd_2 r0 (IntKind.wrap IntKind.i64 (g_Vs_l20Writes_2 r0 (IntKind.wrap IntKind.i64 (IntKind.wrap IntKind.i64 (r1 + (1 : Int)) + (1 : Int))) (0 : Int) + (1 : Int))) a2) (5 : Int) == (0 : Int) then g_pick r0 (IntKind.wrap IntKind.i64 (r1 + (1 : Int))) (5 : Int) else bif g_pick r0 (g_Vs_l20Rd_odd_2 r0 (IntKind.wrap IntKind.i64 (g_Vs_l20Writes_2 r0 (IntKind.wrap IntKind.i64 (IntKind.wrap IntKind.i64 (r1 + (1 : Int)) + (1 : Int))) (0 : Int) + (1 : Int))) a2) (5 : Int) == (1 : Int) then at_ (Ty.int IntKind.i64) [(-1 : Int), (30 : Int)] (Int.toNat (g_pick r0 (IntKind.wrap IntKind.i64 (g_Vs_l20Rd_odd_2 r0 (IntKind.wrap IntKind.i64 (g_Vs_l20Writes_2 r0 (IntKind.wrap IntKind.i64 (IntKind.wrap IntKind.i64 (r1 + (1 : Int)) + (1 : Int))) (0 : Int) + (1 : Int))) a2 + (1 : Int))) (2 : Int))) else bif g_pick r0 (g_Vs_l20Rd_odd_2 r0 (IntKind.wrap IntKind.i64 (g_Vs_l20Writes_2 r0 (IntKind.wrap IntKind.i64 (IntKind.wrap IntKind.i64 (r1 + (1 : Int)) + (1 : Int))) (0 : Int) + (1 : Int))) a2) (5 : Int) == (2 : Int) then g_pick r0 (IntKind.wrap IntKind.i64 (r1 + (1 : Int))) (5 : Int) else bif g_pick r0 (g_Vs_l20Rd_odd_2 r0 (IntKind.wrap IntKind.i64 (g_Vs_l20Writes_2 r0 (IntKind.wrap IntKind.i64 (IntKind.wrap IntKind.i64 (r1 + (1 : Int)) + (1 : Int))) (0 : Int) + (1 : Int))) a2) (5 : Int) == (3 : Int) then g_pick r0 (IntKind.wrap IntKind.i64 (r1 + (1 : Int))) (5 : Int) else g_pick r0 (IntKind.wrap IntKind.i64 (r1 + (1 : Int))) (5 : Int) else g_pick r0 (IntKind.wrap IntKind.i64 (r1 + (1 : Int))) (5 : Int) else bif g_Vs_l20Rd_odd_0 r0 (IntKind.wrap IntKind.i64 (IntKind.wrap IntKind.i64 (r1 + (1 : Int)) + (1 : Int))) a2 then bif g_pick r0 (g_Vs_l20Rd_odd_2 r0 (IntKind.wrap IntKind.i64 (IntKind.wrap IntKind.i64 (r1 + (1 : Int)) + (1 : Int))) a2) (5 : Int) == (0 : Int) then g_pick r0 (IntKind.wrap IntKind.i64 (r1 + (1 : Int))) (5 : Int) else bif g_pick r0 (g_Vs_l20Rd_odd_2 r0 (IntKind.wrap IntKind.i64 (IntKind.wrap IntKind.i64 (r1 + (1 : Int)) + (1 : Int))) a2) (5 : Int) == (1 : Int) then at_ (Ty.int IntKind.i64) [(-1 : Int), (30 : Int)] (Int.toNat (g_pick r0 (IntKind.wrap IntKind.i64 (g_Vs_l20Rd_odd_2 r0 (IntKind.wrap IntKind.i64 (IntKind.wrap IntKind.i64 (r1 + (1 : Int)) + (1 : Int))) a2 + (1 : Int))) (2 : Int))) else bif g_pick r0 (g_Vs_l20Rd_odd_2 r0 (IntKind.wrap IntKind.i64 (IntKind.wrap IntKind.i64 (r1 + (1 : Int)) + (1 : Int))) a2) (5 : Int) == (2 : Int) then g_pick r0 (IntKind.wrap IntKind.i64 (r1 + (1 : Int))) (5 : Int) else bif g_pick r0 (g_Vs_l20Rd_odd_2 r0 (IntKind.wrap IntKind.i64 (IntKind.wrap IntKind.i64 (r1 + (1 : Int)) + (1 : Int))) a2) (5 : Int) == (3 : Int) then g_pick r0 (IntKind.wrap IntKind.i64 (r1 + (1 : Int))) (5 : Int) else g_pick r0 (IntKind.wrap IntKind.i64 (r1 + (1 : Int))) (5 : Int) else g_pick r0 (IntKind.wrap IntKind.i64 (r1 + (1 : Int))) (5 : Int)
noncomputable def g_Vs_l20Note_2 (r0 : List Int) (r1 : Int) (a2 : Int) : List (ByteArray) := bif at_ (Ty.int IntKind.i64) [(1 : Int), (1 : Int), (2 : Int), (3 : Int), (4 : Int)] (Int.toNat (g_pick r0 r1 (5 : Int))) == (1 : Int) then bif g_pick r0 (g_Vs_l20Writes_2 r0 (IntKind.wrap IntKind.i64 (IntKind.wrap IntKind.i64 (r1 + (1 : Int)) + (1 : Int))) (0 : Int)) (2 : Int) == (0 : Int) then bif g_Vs_l20Rd_odd_0 r0 (g_Vs_l20Key_2 r0 (IntKind.wrap IntKind.i64 (g_Vs_l20Writes_2 r0 (IntKind.wrap IntKind.i64 (IntKind.wrap IntKind.i64 (r1 + (1 : Int)) + (1 : Int))) (0 : Int) + (1 : Int))) (0 : Int)) a2 then bif g_pick r0 (g_Vs_l20Rd_odd_2 r0 (g_Vs_l20Key_2 r0 (IntKind.wrap IntKind.i64 (g_Vs_l20Writes_2 r0 (IntKind.wrap IntKind.i64 (IntKind.wrap IntKind.i64 (r1 + (1 : Int)) + (1 : Int))) (0 : Int) + (1 : Int))) (0 : Int)) a2) (5 : Int) == (0 : Int) then valO (g_Ls_l20Note_0 a2 (0 : Int) (0 : Int) [] [] (at_ (Ty.int IntKind.i64) [(1 : Int), (1 : Int), (2 : Int), (3 : Int), (4 : Int)] (Int.toNat (g_pick r0 r1 (5 : Int)))) (g_pick r0 (IntKind.wrap IntKind.i64 (r1 + (1 : Int))) (5 : Int)) (g_Vs_l20Writes_0 r0 (IntKind.wrap IntKind.i64 (IntKind.wrap IntKind.i64 (r1 + (1 : Int)) + (1 : Int))) (0 : Int)) r0 (g_Vs_l20Writes_2 r0 (IntKind.wrap IntKind.i64 (IntKind.wrap IntKind.i64 (r1 + (1 : Int)) + (1 : Int))) (0 : Int)) ((0 : Int), [])) ++ [g_Vs_l20Key_0 r0 (IntKind.wrap IntKind.i64 (g_Vs_l20Writes_2 r0 (IntKind.wrap IntKind.i64 (IntKind.wrap IntKind.i64 (r1 + (1 : Int)) + (1 : Int))) (0 : Int) + (1 : Int))) (0 : Int)] else bif g_pick r0 (g_Vs_l20Rd_odd_2 r0 (g_Vs_l20Key_2 r0 (IntKind.wrap IntKind.i64 (g_Vs_l20Writes_2 r0 (IntKind.wrap IntKind.i64 (IntKind.wrap IntKind.i64 (r1 + (1 : Int)) + (1 : Int))) (0 : Int) + (1 : Int))) (0 : Int)) a2) (5 : Int) == (1 : Int) then valO (g_Ls_l20Note_0 a2 (0 : Int) (0 : Int) [] [] (at_ (Ty.int IntKind.i64) [(1 : Int), (1 : Int), (2 : Int), (3 : Int), (4 : Int)] (Int.toNat (g_pick r0 r1 (5 : Int)))) (g_pick r0 (IntKind.wrap IntKind.i64 (r1 + (1 : Int))) (5 : Int)) (g_Vs_l20Writes_0 r0 (IntKind.wrap IntKind.i64 (IntKind.wrap IntKind.i64 (r1 + (1 : Int)) + (1 : Int))) (0 : Int)) r0 (g_Vs_l20Writes_2 r0 (IntKind.wrap IntKind.i64 (IntKind.wrap IntKind.i64 (r1 + (1 : Int)) + (1 : Int))) (0 : Int)) ((0 : Int), [])) ++ [g_Vs_l20Key_0 r0 (IntKind.wrap IntKind.i64 (g_Vs_l20Writes_2 r0 (IntKind.wrap IntKind.i64 (IntKind.wrap IntKind.i64 (r1 + (1 : Int)) + (1 : Int))) (0 : Int) + (1 : Int))) (0 : Int)] else bif g_pick r0 (g_Vs_l20Rd_odd_2 r0 (g_Vs_l20Key_2 r0 (IntKind.wrap IntKind.i64 (g_Vs_l20Writes_2 r0 (IntKind.wrap IntKind.i64 (IntKind.wrap IntKind.i64 (r1 + (1 : Int)) + (1 : Int))) (0 : Int) + (1 : Int))) (0 : Int)) a2) (5 : Int) == (2 : Int) then valO (g_Ls_l20Note_0 a2 (0 : Int) (0 : Int) [] [] (at_ (Ty.int IntKind.i64) [(1 : Int), (1 : Int), (2 : Int), (3 : Int), (4 : Int)] (Int.toNat (g_pick r0 r1 (5 : Int)))) (g_pick r0 (IntKind.wrap IntKind.i64 (r1 + (1 : Int))) (5 : Int)) (g_Vs_l20Writes_0 r0 (IntKind.wrap IntKind.i64 (IntKind.wrap IntKind.i64 (r1 + (1 : Int)) + (1 : Int))) (0 : Int)) r0 (g_Vs_l20Writes_2 r0 (IntKind.wrap IntKind.i64 (IntKind.wrap IntKind.i64 (r1 + (1 : Int)) + (1 : Int))) (0 : Int)) ((0 : Int), [])) ++ [g_Vs_l20Key_0 r0 (IntKind.wrap IntKind.i64 (g_Vs_l20Writes_2 r0 (IntKind.wrap IntKind.i64 (IntKind.wrap IntKind.i64 (r1 + (1 : Int)) + (1 : Int))) (0 : Int) + (1 : Int))) (0 : Int)] ++ [lit []] else bif g_pick r0 (g_Vs_l20Rd_odd_2 r0 (g_Vs_l20Key_2 r0 (IntKind.wrap IntKind.i64 (g_Vs_l20Writes_2 r0 (IntKind.wrap IntKind.i64 (IntKind.wrap IntKind.i64 (r1 + (1 : Int)) + (1 : Int))) (0 : Int) + (1 : Int))) (0 : Int)) a2) (5 : Int) == (3 : Int) then valO (g_Ls_l20Note_0 a2 (0 : Int) (0 : Int) [] [] (at_ (Ty.int IntKind.i64) [(1 : Int), (1 : Int), (2 : Int), (3 : Int), (4 : Int)] (Int.toNat (g_pick r0 r1 (5 : Int)))) (g_pick r0 (IntKind.wrap IntKind.i64 (r1 + (1 : Int))) (5 : Int)) (g_Vs_l20Writes_0 r0 (IntKind.wrap IntKind.i64 (IntKind.wrap IntKind.i64 (r1 + (1 : Int)) + (1 : Int))) (0 : Int)) r0 (g_Vs_l20Writes_2 r0 (IntKind.wrap IntKind.i64 (IntKind.wrap IntKind.i64 (r1 + (1 : Int)) + (1 : Int))) (0 : Int)) ((0 : Int), [])) ++ [g_Vs_l20Key_0 r0 (IntKind.wrap IntKind.i64 (g_Vs_l20Writes_2 r0 (IntKind.wrap IntKind.i64 (IntKind.wrap IntKind.i64 (r1 + (1 : Int)) + (1 : Int))) (0 : Int) + (1 : Int))) (0 : Int)] else valO (g_Ls_l20Note_0 a2 (0 : Int) (0 : Int) [] [] (at_ (Ty.int IntKind.i64) [(1 : Int), (1 : Int), (2 : Int), (3 : Int), (4 : Int)] (Int.toNat (g_pick r0 r1 (5 : Int)))) (g_pick r0 (IntKind.wrap IntKind.i64 (r1 + (1 : Int))) (5 : Int)) (g_Vs_l20Writes_0 r0 (IntKind.wrap IntKind.i64 (IntKind.wrap IntKind.i64 (r1 + (1 : Int)) + (1 : Int))) (0 : Int)) r0 (g_Vs_l20Writes_2 r0 (IntKind.wrap IntKind.i64 (IntKind.wrap IntKind.i64 (r1 + (1 : Int)) + (1 : Int))) (0 : Int)) ((0 : Int), [])) ++ [g_Vs_l20Key_0 r0 (IntKind.wrap IntKind.i64 (g_Vs_l20Writes_2 r0 (IntKind.wrap IntKind.i64 (IntKind.wrap IntKind.i64 (r1 + (1 : Int)) + (1 : Int))) (0 : Int) + (1 : Int))) (0 : Int)] else valO (g_Ls_l20Note_0 a2 (0 : Int) (0 : Int) [] [] (at_ (Ty.int IntKind.i64) [(1 : Int), (1 : Int), (2 : Int), (3 : Int), (4 : Int)] (Int.toNat (g_pick r0 r1 (5 : Int)))) (g_pick r0 (IntKind.wrap IntKind.i64 (r1 + (1 : Int))) (5 : Int)) (g_Vs_l20Writes_0 r0 (IntKind.wrap IntKind.i64 (IntKind.wrap IntKind.i64 (r1 + (1 : Int)) + (1 : Int))) (0 : Int)) r0 (g_Vs_l20Writes_2 r0 (IntKind.wrap IntKind.i64 (IntKind.wrap IntKind.i64 (r1 + (1 : Int)) + (1 : Int))) (0 : Int)) ((0 : Int), [])) ++ [g_Vs_l20Key_0 r0 (IntKind.wrap IntKind.i64 (g_Vs_l20Writes_2 r0 (IntKind.wrap IntKind.i64 (IntKind.wrap IntKind.i64 (r1 + (1 : Int)) + (1 : Int))) (0 : Int) + (1 : Int))) (0 : Int)] else bif g_Vs_l20Rd_odd_0 r0 (IntKind.wrap IntKind.i64 (g_Vs_l20Writes_2 r0 (IntKind.wrap IntKind.i64 (IntKind.wrap IntKind.i64 (r1 + (1 : Int)) + (1 : Int))) (0 : Int) + (1 : Int))) a2 then bif g_pick r0 (g_Vs_l20Rd_odd_2 r0 (IntKind.wrap IntKind.i64 (g_Vs_l20Writes_2 r0 (IntKind.wrap IntKind.i64 (IntKind.wrap IntKind.i64 (r1 + (1 : Int)) + (1 : Int))) (0 : Int) + (1 : Int))) a2) (5 : Int) == (0 : Int) then valO (g_Ls_l20Note_0 a2 (0 : Int) (0 : Int) [] [] (at_ (Ty.int IntKind.i64) [(1 : Int), (1 : Int), (2 : Int), (3 : Int), (4 : Int)] (Int.toNat (g_pick r0 r1 (5 : Int)))) (g_pick r0 (IntKind.wrap IntKind.i64 (r1 + (1 : Int))) (5 : Int)) (g_Vs_l20Writes_0 r0 (IntKind.wrap IntKind.i64 (IntKind.wrap IntKind.i64 (r1 + (1 : Int)) + (1 : Int))) (0 : Int)) r0 (g_Vs_l20Writes_2 r0 (IntKind.wrap IntKind.i64 (IntKind.wrap IntKind.i64 (r1 + (1 : Int)) + (1 : Int))) (0 : Int)) ((0 : Int), [])) else bif g_pick r0 (g_Vs_l20Rd_odd_2 r0 (IntKind.wrap IntKind.i64 (g_Vs_l20Writes_2 r0 (IntKind.wrap IntKind.i64 (IntKind.wrap IntKind.i64 (r1 + (1 : Int)) + (1 : Int))) (0 : Int) + (1 : Int))) a2) (5 : Int) == (1 : Int) then valO (g_Ls_l20Note_0 a2 (0 : Int) (0 : Int) [] [] (at_ (Ty.int IntKind.i64) [(1 : Int), (1 : Int), (2 : Int), (3 : Int), (4 : Int)] (Int.toNat (g_pick r0 r1 (5 : Int)))) (g_pick r0 (IntKind.wrap IntKind.i64 (r1 + (1 : Int))) (5 : Int)) (g_Vs_l20Writes_0 r0 (IntKind.wrap IntKind.i64 (IntKind.wrap IntKind.i64 (r1 + (1 : Int)) + (1 : Int))) (0 : Int)) r0 (g_Vs_l20Writes_2 r0 (IntKind.wrap IntKind.i64 (IntKind.wrap IntKind.i64 (r1 + (1 : Int)) + (1 : Int))) (0 : Int)) ((0 : Int), [])) else bif g_pick r0 (g_Vs_l20Rd_odd_2 r0 (IntKind.wrap IntKind.i64 (g_Vs_l20Writes_2 r0 (IntKind.wrap IntKind.i64 (IntKind.wrap IntKind.i64 (r1 + (1 : Int)) + (1 : Int))) (0 : Int) + (1 : Int))) a2) (5 : Int) == (2 : Int) then valO (g_Ls_l20Note_0 a2 (0 : Int) (0 : Int) [] [] (at_ (Ty.int IntKind.i64) [(1 : Int), (1 : Int), (2 : Int), (3 : Int), (4 : Int)] (Int.toNat (g_pick r0 r1 (5 : Int)))) (g_pick r0 (IntKind.wrap IntKind.i64 (r1 + (1 : Int))) (5 : Int)) (g_Vs_l20Writes_0 r0 (IntKind.wrap IntKind.i64 (IntKind.wrap IntKind.i64 (r1 + (1 : Int)) + (1 : Int))) (0 : Int)) r0 (g_Vs_l20Writes_2 r0 (IntKind.wrap IntKind.i64 (IntKind.wrap IntKind.i64 (r1 + (1 : Int)) + (1 : Int))) (0 : Int)) ((0 : Int), [])) ++ [lit []] else bif g_pick r0 (g_Vs_l20Rd_odd_2 r0 (IntKind.wrap IntKind.i64 (g_Vs_l20Writes_2 r0 (IntKind.wrap IntKind.i64 (IntKind.wrap IntKind.i64 (r1 + (1 : Int)) + (1 : Int))) (0 : Int) + (1 : Int))) a2) (5 : Int) == (3 : Int) then valO (g_Ls_l20Note_0 a2 (0 : Int) (0 : Int) [] [] (at_ (Ty.int IntKind.i64) [(1 : Int), (1 : Int), (2 : Int), (3 : Int), (4 : Int)] (Int.toNat (g_pick r0 r1 (5 : Int)))) (g_pick r0 (IntKind.wrap IntKind.i64 (r1 + (1 : Int))) (5 : Int)) (g_Vs_l20Writes_0 r0 (IntKind.wrap IntKind.i64 (IntKind.wrap IntKind.i64 (r1 + (1 : Int)) + (1 : Int))) (0 : Int)) r0 (g_Vs_l20Writes_2 r0 (IntKind.wrap IntKind.i64 (IntKind.wrap IntKind.i64 (r1 + (1 : Int)) + (1 : Int))) (0 : Int)) ((0 : Int), [])) else valO (g_Ls_l20Note_0 a2 (0 : Int) (0 : Int) [] [] (at_ (Ty.int IntKind.i64) [(1 : Int), (1 : Int), (2 : Int), (3 : Int), (4 : Int)] (Int.toNat (g_pick r0 r1 (5 : Int)))) (g_pick r0 (IntKind.wrap IntKind.i64 (r1 + (1 : Int))) (5 : Int)) (g_Vs_l20Writes_0 r0 (IntKind.wrap IntKind.i64 (IntKind.wrap IntKind.i64 (r1 + (1 : Int)) + (1 : Int))) (0 : Int)) r0 (g_Vs_l20Writes_2 r0 (IntKind.wrap IntKind.i64 (IntKind.wrap IntKind.i64 (r1 + (1 : Int)) + (1 : Int))) (0 : Int)) ((0 : Int), [])) else valO (g_Ls_l20Note_0 a2 (0 : Int) (0 : Int) [] [] (at_ (Ty.int IntKind.i64) [(1 : Int), (1 : Int), (2 : Int), (3 : Int), (4 : Int)] (Int.toNat (g_pick r0 r1 (5 : Int)))) (g_pick r0 (IntKind.wrap IntKind.i64 (r1 + (1 : Int))) (5 : Int)) (g_Vs_l20Writes_0 r0 (IntKind.wrap IntKind.i64 (IntKind.wrap IntKind.i64 (r1 + (1 : Int)) + (1 : Int))) (0 : Int)) r0 (g_Vs_l20Writes_2 r0 (IntKind.wrap IntKind.i64 (IntKind.wrap IntKind.i64 (r1 + (1 : Int)) + (1 : Int))) (0 : Int)) ((0 : Int), [])) else bif g_Vs_l20Rd_odd_0 r0 (IntKind.wrap IntKind.i64 (IntKind.wrap IntKind.i64 (r1 + (1 : Int)) + (1 : Int))) a2 then bif g_pick r0 (g_Vs_l20Rd_odd_2 r0 (IntKind.wrap IntKind.i64 (IntKind.wrap IntKind.i64 (r1 + (1 : Int)) + (1 : Int))) a2) (5 : Int) == (0 : Int) then [] else bif g_pick r0 (g_Vs_l20Rd_odd_2 r0 (IntKind.wrap IntKind.i64 (IntKind.wrap IntKind.i64 (r1 + (1 : Int)) + (1 : Int))) a2) (5 : Int) == (1 : Int) then [] else bif g_pick r0 (g_Vs_l20Rd_odd_2 r0 (IntKind.wrap IntKind.i64 (IntKind.wrap IntKind.i64 (r1 + (1 : Int)) + (1 : Int))) a2) (5 : Int) == (2 : Int) then [lit []] else bif g_pick r0 (g_Vs_l20Rd_odd_2 r0 (IntKind.wrap IntKind.i64 (IntKind.wrap IntKind.i64 (r1 + (1 : Int)) + (1 : Int))) a2) (5 : Int) == (3 : Int) then [] else [] else []
noncomputable def g_Vs_l20Note_3 (r0 : List Int) (r1 : Int) (a2 : Int) : List ((ByteArray) × ((Bool) × (List (Int)))) := bif at_ (Ty.int IntKind.i64) [(1 : Int), (1 : Int), (2 : Int), (3 : Int), (4 : Int)] (Int.toNat (g_pick r0 r1 (5 : Int))) == (1 : Int) then bif g_pick r0 (g_Vs_l20Writes_2 r0 (IntKind.wrap IntKind.i64 (IntKind.wrap IntKind.i64 (r1 + (1 : Int)) + (1 : Int))) (0 : Int)) (2 : Int) == (0 : Int) then bif g_Vs_l20Rd_odd_0 r0 (g_Vs_l20Key_2 r0 (IntKind.wrap IntKind.i64 (g_Vs_l20Writes_2 r0 (IntKind.wrap IntKind.i64 (IntKind.wrap IntKind.i64 (r1 + (1 : Int)) + (1 : Int))) (0 : Int) + (1 : Int))) (0 : Int)) a2 then bif g_pick r0 (g_Vs_l20Rd_odd_2 r0 (g_Vs_l20Key_2 r0 (IntKind.wrap IntKind.i64 (g_Vs_l20Writes_2 r0 (IntKind.wrap IntKind.i64 (IntKind.wrap IntKind.i64 (r1 + (1 : Int)) + (1 : Int))) (0 : Int) + (1 : Int))) (0 : Int)) a2) (5 : Int) == (0 : Int) then g_Vs_l20Writes_0 r0 (IntKind.wrap IntKind.i64 (IntKind.wrap IntKind.i64 (r1 + (1 : Int)) + (1 : Int))) (0 : Int) else bif g_pick r0 (g_Vs_l20Rd_odd_2 r0 (g_Vs_l20Key_2 r0 (IntKind.wrap IntKind.i64 (g_Vs_l20Writes_2 r0 (IntKind.wrap IntKind.i64 (IntKind.wrap IntKind.i64 (r1 + (1 : Int)) + (1 : Int))) (0 : Int) + (1 : Int))) (0 : Int)) a2) (5 : Int) == (1 : Int) then g_Vs_l20Writes_0 r0 (IntKind.wrap IntKind.i64 (IntKind.wrap IntKind.i64 (r1 + (1 : Int)) + (1 : Int))) (0 : Int) else bif g_pick r0 (g_Vs_l20Rd_odd_2 r0 (g_Vs_l20Key_2 r0 (IntKind.wrap IntKind.i64 (g_Vs_l20Writes_2 r0 (IntKind.wrap IntKind.i64 (IntKind.wrap IntKind.i64 (r1 + (1 : Int)) + (1 : Int))) (0 : Int) + (1 : Int))) (0 : Int)) a2) (5 : Int) == (2 : Int) then g_Vs_l20Writes_0 r0 (IntKind.wrap IntKind.i64 (IntKind.wrap IntKind.i64 (r1 + (1 : Int)) + (1 : Int))) (0 : Int) else bif g_pick r0 (g_Vs_l20Rd_odd_2 r0 (g_Vs_l20Key_2 r0 (IntKind.wrap IntKind.i64 (g_Vs_l20Writes_2 r0 (IntKind.wrap IntKind.i64 (IntKind.wrap IntKind.i64 (r1 + (1 : Int)) + (1 : Int))) (0 : Int) + (1 : Int))) (0 : Int)) a2) (5 : Int) == (3 : Int) then g_Vs_l20Writes_0 r0 (IntKind.wrap IntKind.i64 (IntKind.wrap IntKind.i64 (r1 + (1 : Int)) + (1 : Int))) (0 : Int) ++ [(lit [(122 : Nat), (49 : Nat)], false, [(1 : Int)])] else g_Vs_l20Writes_0 r0 (IntKind.wrap IntKind.i64 (IntKind.wrap IntKind.i64 (r1 + (1 : Int)) + (1 : Int))) (0 : Int) ++ [(g_Vs_l20Write_0 r0 (IntKind.wrap IntKind.i64 (g_Vs_l20Rd_odd_2 r0 (g_Vs_l20Key_2 r0 (IntKind.wrap IntKind.i64 (g_Vs_l20Writes_2 r0 (IntKind.wrap IntKind.i64 (IntKind.wrap IntKind.i64 (r1 + (1 : Int)) + (1 : Int))) (0 : Int) + (1 : Int))) (0 : Int)) a2 + (1 : Int))) (1 : Int), g_Vs_l20Write_1 r0 (IntKind.wrap IntKind.i64 (g_Vs_l20Rd_odd_2 r0 (g_Vs_l20Key_2 r0 (IntKind.wrap IntKind.i64 (g_Vs_l20Writes_2 r0 (IntKind.wrap IntKind.i64 (IntKind.wrap IntKind.i64 (r1 + (1 : Int)) + (1 : Int))) (0 : Int) + (1 : Int))) (0 : Int)) a2 + (1 : Int))) (1 : Int), g_Vs_l20Write_2 r0 (IntKind.wrap IntKind.i64 (g_Vs_l20Rd_odd_2 r0 (g_Vs_l20Key_2 r0 (IntKind.wrap IntKind.i64 (g_Vs_l20Writes_2 r0 (IntKind.wrap IntKind.i64 (IntKind.wrap IntKind.i64 (r1 + (1 : Int)) + (1 : Int))) (0 : Int) + (1 : Int))) (0 : Int)) a2 + (1 : Int))) (1 : Int))] else g_Vs_l20Writes_0 r0 (IntKind.wrap IntKind.i64 (IntKind.wrap IntKind.i64 (r1 + (1 : Int)) + (1 : Int))) (0 : Int) else bif g_Vs_l20Rd_odd_0 r0 (IntKind.wrap IntKind.i64 (g_Vs_l20Writes_2 r0 (IntKind.wrap IntKind.i64 (IntKind.wrap IntKind.i64 (r1 + (1 : Int)) + (1 : Int))) (0 : Int) + (1 : Int))) a2 then bif g_pick r0 (g_Vs_l20Rd_odd_2 r0 (IntKind.wrap IntKind.i64 (g_Vs_l20Writes_2 r0 (IntKind.wrap IntKind.i64 (IntKind.wrap IntKind.i64 (r1 + (1 : Int)) + (1 : Int))) (0 : Int) + (1 : Int))) a2) (5 : Int) == (0 : Int) then g_Vs_l20Writes_0 r0 (IntKind.wrap IntKind.i64 (IntKind.wrap IntKind.i64 (r1 + (1 : Int)) + (1 : Int))) (0 : Int) else bif g_pick r0 (g_Vs_l20Rd_odd_2 r0 (IntKind.wrap IntKind.i64 (g_Vs_l20Writes_2 r0 (IntKind.wrap IntKind.i64 (IntKind.wrap IntKind.i64 (r1 + (1 : Int)) + (1 : Int))) (0 : Int) + (1 : Int))) a2) (5 : Int) == (1 : Int) then g_Vs_l20Writes_0 r0 (IntKind.wrap IntKind.i64 (IntKind.wrap IntKind.i64 (r1 + (1 : Int)) + (1 : Int))) (0 : Int) else bif g_pick r0 (g_Vs_l20Rd_odd_2 r0 (IntKind.wrap IntKind.i64 (g_Vs_l20Writes_2 r0 (IntKind.wrap IntKind.i64 (IntKind.wrap IntKind.i64 (r1 + (1 : Int)) + (1 : Int))) (0 : Int) + (1 : Int))) a2) (5 : Int) == (2 : Int) then g_Vs_l20Writes_0 r0 (IntKind.wrap IntKind.i64 (IntKind.wrap IntKind.i64 (r1 + (1 : Int)) + (1 : Int))) (0 : Int) else bif g_pick r0 (g_Vs_l20Rd_odd_2 r0 (IntKind.wrap IntKind.i64 (g_Vs_l20Writes_2 r0 (IntKind.wrap IntKind.i64 (IntKind.wrap IntKind.i64 (r1 + (1 : Int)) + (1 : Int))) (0 : Int) + (1 : Int))) a2) (5 : Int) == (3 : Int) then g_Vs_l20Writes_0 r0 (IntKind.wrap IntKind.i64 (IntKind.wrap IntKind.i64 (r1 + (1 : Int)) + (1 : Int))) (0 : Int) ++ [(lit [(122 : Nat), (49 : Nat)], false, [(1 : Int)])] else g_Vs_l20Writes_0 r0 (IntKind.wrap IntKind.i64 (IntKind.wrap IntKind.i64 (r1 + (1 : Int)) + (1 : Int))) (0 : Int) ++ [(g_Vs_l20Write_0 r0 (IntKind.wrap IntKind.i64 (g_Vs_l20Rd_odd_2 r0 (IntKind.wrap IntKind.i64 (g_Vs_l20Writes_2 r0 (IntKind.wrap IntKind.i64 (IntKind.wrap IntKind.i64 (r1 + (1 : Int)) + (1 : Int))) (0 : Int) + (1 : Int))) a2 + (1 : Int))) (1 : Int), g_Vs_l20Write_1 r0 (IntKind.wrap IntKind.i64 (g_Vs_l20Rd_odd_2 r0 (IntKind.wrap IntKind.i64 (g_Vs_l20Writes_2 r0 (IntKind.wrap IntKind.i64 (IntKind.wrap IntKind.i64 (r1 + (1 : Int)) + (1 : Int))) (0 : Int) + (1 : Int))) a2 + (1 : Int))) (1 : Int), g_Vs_l20Write_2 r0 (IntKind.wrap IntKind.i64 (g_Vs_l20Rd_odd_2 r0 (IntKind.wrap IntKind.i64 (g_Vs_l20Writes_2 r0 (IntKind.wrap IntKind.i64 (IntKind.wrap IntKind.i64 (r1 + (1 : Int)) + (1 : Int))) (0 : Int) + (1 : Int))) a2 + (1 : Int))) (1 : Int))] else g_Vs_l20Writes_0 r0 (IntKind.wrap IntKind.i64 (IntKind.wrap IntKind.i64 (r1 + (1 : Int)) + (1 : Int))) (0 : Int) else bif g_Vs_l20Rd_odd_0 r0 (IntKind.wrap IntKind.i64 (IntKind.wrap IntKind.i64 (r1 + (1 : Int)) + (1 : Int))) a2 then bif g_pick r0 (g_Vs_l20Rd_odd_2 r0 (IntKind.wrap IntKind.i64 (IntKind.wrap IntKind.i64 (r1 + (1 : Int)) + (1 : Int))) a2) (5 : Int) == (0 : Int) then [] else bif g_pick r0 (g_Vs_l20Rd_odd_2 r0 (IntKind.wrap IntKind.i64 (IntKind.wrap IntKind.i64 (r1 + (1 : Int)) + (1 : Int))) a2) (5 : Int) == (1 : Int) then [] else bif g_pick r0 (g_Vs_l20Rd_odd_2 r0 (IntKind.wrap IntKind.i64 (IntKind.wrap IntKind.i64 (r1 + (1 : Int)) + (1 : Int))) a2) (5 : Int) == (2 : Int) then [] else bif g_pick r0 (g_Vs_l20Rd_odd_2 r0 (IntKind.wrap IntKind.i64 (IntKind.wrap IntKind.i64 (r1 + (1 : Int)) + (1 : Int))) a2) (5 : Int) == (3 : Int) then [(lit [(122 : Nat), (49 : Nat)], false, [(1 : Int)])] else [] ++ [(g_Vs_l20Write_0 r0 (IntKind.wrap IntKind.i64 (g_Vs_l20Rd_odd_2 r0 (IntKind.wrap IntKind.i64 (IntKind.wrap IntKind.i64 (r1 + (1 : Int)) + (1 : Int))) a2 + (1 : Int))) (1 : Int), g_Vs_l20Write_1 r0 (IntKind.wrap IntKind.i64 (g_Vs_l20Rd_odd_2 r0 (IntKind.wrap IntKind.i64 (IntKind.wrap IntKind.i64 (r1 + (1 : Int)) + (1 : Int))) a2 + (1 : Int))) (1 : Int), g_Vs_l20Write_2 r0 (IntKind.wrap IntKind.i64 (g_Vs_l20Rd_odd_2 r0 (IntKind.wrap IntKind.i64 (IntKind.wrap IntKind.i64 (r1 + (1 : Int)) + (1 : Int))) a2 + (1 : Int))) (1 : Int))] else []
noncomputable def g_Vs_l20Note_4 (r0 : List Int) (r1 : Int) (a2 : Int) : List (Int) := bif at_ (Ty.int IntKind.i64) [(1 : Int), (1 : Int), (2 : Int), (3 : Int), (4 : Int)] (Int.toNat (g_pick r0 r1 (5 : Int))) == (1 : Int) then bif g_pick r0 (g_Vs_l20Writes_2 r0 (IntKind.wrap IntKind.i64 (IntKind.wrap IntKind.i64 (r1 + (1 : Int)) + (1 : Int))) (0 : Int)) (2 : Int) == (0 : Int) then bif g_Vs_l20Rd_odd_0 r0 (g_Vs_l20Key_2 r0 (IntKind.wrap IntKind.i64 (g_Vs_l20Writes_2 r0 (IntKind.wrap IntKind.i64 (IntKind.wrap IntKind.i64 (r1 + (1 : Int)) + (1 : Int))) (0 : Int) + (1 : Int))) (0 : Int)) a2 then bif g_pick r0 (g_Vs_l20Rd_odd_2 r0 (g_Vs_l20Key_2 r0 (IntKind.wrap IntKind.i64 (g_Vs_l20Writes_2 r0 (IntKind.wrap IntKind.i64 (IntKind.wrap IntKind.i64 (r1 + (1 : Int)) + (1 : Int))) (0 : Int) + (1 : Int))) (0 : Int)) a2) (5 : Int) == (0 : Int) then r0 else bif g_pick r0 (g_Vs_l20Rd_odd_2 r0 (g_Vs_l20Key_2 r0 (IntKind.wrap IntKind.i64 (g_Vs_l20Writes_2 r0 (IntKind.wrap IntKind.i64 (IntKind.wrap IntKind.i64 (r1 + (1 : Int)) + (1 : Int))) (0 : Int) + (1 : Int))) (0 : Int)) a2) (5 : Int) == (1 : Int) then r0 else bif g_pick r0 (g_Vs_l20Rd_odd_2 r0 (g_Vs_l20Key_2 r0 (IntKind.wrap IntKind.i64 (g_Vs_l20Writes_2 r0 (IntKind.wrap IntKind.i64 (IntKind.wrap IntKind.i64 (r1 + (1 : Int)) + (1 : Int))) (0 : Int) + (1 : Int))) (0 : Int)) a2) (5 : Int) == (2 : Int) then r0 else bif g_pick r0 (g_Vs_l20Rd_odd_2 r0 (g_Vs_l20Key_2 r0 (IntKind.wrap IntKind.i64 (g_Vs_l20Writes_2 r0 (IntKind.wrap IntKind.i64 (IntKind.wrap IntKind.i64 (r1 + (1 : Int)) + (1 : Int))) (0 : Int) + (1 : Int))) (0 : Int)) a2) (5 : Int) == (3 : Int) then r0 else r0 else r0 else bif g_Vs_l20Rd_odd_0 r0 (IntKind.wrap IntKind.i64 (g_Vs_l20Writes_2 r0 (IntKind.wrap IntKind.i64 (IntKind.wrap IntKind.i64 (r1 + (1 : Int)) + (1 : Int))) (0 : Int) + (1 : Int))) a2 then bif g_pick r0 (g_Vs_l20Rd_odd_2 r0 (IntKind.wrap IntKind.i64 (g_Vs_l20Writes_2 r0 (IntKind.wrap IntKind.i64 (IntKind.wrap IntKind.i64 (r1 + (1 : Int)) + (1 : Int))) (0 : Int) + (1 : Int))) a2) (5 : Int) == (0 : Int) then r0 else bif g_pick r0 (g_Vs_l20Rd_odd_2 r0 (IntKind.wrap IntKind.i64 (g_Vs_l20Writes_2 r0 (IntKind.wrap IntKind.i64 (IntKind.wrap IntKind.i64 (r1 + (1 : Int)) + (1 : Int))) (0 : Int) + (1 : Int))) a2) (5 : Int) == (1 : Int) then r0 else bif g_pick r0 (g_Vs_l20Rd_odd_2 r0 (IntKind.wrap IntKind.i64 (g_Vs_l20Writes_2 r0 (IntKind.wrap IntKind.i64 (IntKind.wrap IntKind.i64 (r1 + (1 : Int)) + (1 : Int))) (0 : Int) + (1 : Int))) a2) (5 : Int) == (2 : Int) then r0 else bif g_pick r0 (g_Vs_l20Rd_odd_2 r0 (IntKind.wrap IntKind.i64 (g_Vs_l20Writes_2 r0 (IntKind.wrap IntKind.i64 (IntKind.wrap IntKind.i64 (r1 + (1 : Int)) + (1 : Int))) (0 : Int) + (1 : Int))) a2) (5 : Int) == (3 : Int) then r0 else r0 else r0 else bif g_Vs_l20Rd_odd_0 r0 (IntKind.wrap IntKind.i64 (IntKind.wrap IntKind.i64 (r1 + (1 : Int)) + (1 : Int))) a2 then bif g_pick r0 (g_Vs_l20Rd_odd_2 r0 (IntKind.wrap IntKind.i64 (IntKind.wrap IntKind.i64 (r1 + (1 : Int)) + (1 : Int))) a2) (5 : Int) == (0 : Int) then r0 else bif g_pick r0 (g_Vs_l20Rd_odd_2 r0 (IntKind.wrap IntKind.i64 (IntKind.wrap IntKind.i64 (r1 + (1 : Int)) + (1 : Int))) a2) (5 : Int) == (1 : Int) then r0 else bif g_pick r0 (g_Vs_l20Rd_odd_2 r0 (IntKind.wrap IntKind.i64 (IntKind.wrap IntKind.i64 (r1 + (1 : Int)) + (1 : Int))) a2) (5 : Int) == (2 : Int) then r0 else bif g_pick r0 (g_Vs_l20Rd_odd_2 r0 (IntKind.wrap IntKind.i64 (IntKind.wrap IntKind.i64 (r1 + (1 : Int)) + (1 : Int))) a2) (5 : Int) == (3 : Int) then r0 else r0 else r0
noncomputable def g_Vs_l20Note_5 (r0 : List Int) (r1 : Int) (a2 : Int) : Int := bif at_ (Ty.int IntKind.i64) [(1 : Int), (1 : Int), (2 : Int), (3 : Int), (4 : Int)] (Int.toNat (g_pick r0 r1 (5 : Int))) == (1 : Int) then bif g_pick r0 (g_Vs_l20Writes_2 r0 (IntKind.wrap IntKind.i64 (IntKind.wrap IntKind.i64 (r1 + (1 : Int)) + (1 : Int))) (0 : Int)) (2 : Int) == (0 : Int) then bif g_Vs_l20Rd_odd_0 r0 (g_Vs_l20Key_2 r0 (IntKind.wrap IntKind.i64 (g_Vs_l20Writes_2 r0 (IntKind.wrap IntKind.i64 (IntKind.wrap IntKind.i64 (r1 + (1 : Int)) + (1 : Int))) (0 : Int) + (1 : Int))) (0 : Int)) a2 then bif g_pick r0 (g_Vs_l20Rd_odd_2 r0 (g_Vs_l20Key_2 r0 (IntKind.wrap IntKind.i64 (g_Vs_l20Writes_2 r0 (IntKind.wrap IntKind.i64 (IntKind.wrap IntKind.i64 (r1 + (1 : Int)) + (1 : Int))) (0 : Int) + (1 : Int))) (0 : Int)) a2) (5 : Int) == (0 : Int) then IntKind.wrap IntKind.i64 (IntKind.wrap IntKind.i64 (g_Vs_l20Rd_odd_2 r0 (g_Vs_l20Key_2 r0 (IntKind.wrap IntKind.i64 (g_Vs_l20Writes_2 r0 (IntKind.wrap IntKind.i64 (IntKind.wrap IntKind.i64 (r1 + (1 : Int)) + (1 : Int))) (0 : Int) + (1 : Int))) (0 : Int)) a2 + (1 : Int)) + (1 : Int)) else bif g_pick r0 (g_Vs_l20Rd_odd_2 r0 (g_Vs_l20Key_2 r0 (IntKind.wrap IntKind.i64 (g_Vs_l20Writes_2 r0 (IntKind.wrap IntKind.i64 (IntKind.wrap IntKind.i64 (r1 + (1 : Int)) + (1 : Int))) (0 : Int) + (1 : Int))) (0 : Int)) a2) (5 : Int) == (1 : Int) then IntKind.wrap IntKind.i64 (IntKind.wrap IntKind.i64 (g_Vs_l20Rd_odd_2 r0 (g_Vs_l20Key_2 r0 (IntKind.wrap IntKind.i64 (g_Vs_l20Writes_2 r0 (IntKind.wrap IntKind.i64 (IntKind.wrap IntKind.i64 (r1 + (1 : Int)) + (1 : Int))) (0 : Int) + (1 : Int))) (0 : Int)) a2 + (1 : Int)) + (1 : Int)) else bif g_pick r0 (g_Vs_l20Rd_odd_2 r0 (g_Vs_l20Key_2 r0 (IntKind.wrap IntKind.i64 (g_Vs_l20Writes_2 r0 (IntKind.wrap IntKind.i64 (IntKind.wrap IntKind.i64 (r1 + (1 : Int)) + (1 : Int))) (0 : Int) + (1 : Int))) (0 : Int)) a2) (5 : Int) == (2 : Int) then IntKind.wrap IntKind.i64 (g_Vs_l20Rd_odd_2 r0 (g_Vs_l20Key_2 r0 (IntKind.wrap IntKind.i64 (g_Vs_l20Writes_2 r0 (IntKind.wrap IntKind.i64 (IntKind.wrap IntKind.i64 (r1 + (1 : Int)) + (1 : Int))) (0 : Int) + (1 : Int))) (0 : Int)) a2 + (1 : Int)) else bif g_pick r0 (g_Vs_l20Rd_odd_2 r0 (g_Vs_l20Key_2 r0 (IntKind.wrap IntKind.i64 (g_Vs_l20Writes_2 r0 (IntKind.wrap IntKind.i64 (IntKind.wrap IntKind.i64 (r1 + (1 : Int)) + (1 : Int))) (0 : Int) + (1 : Int))) (0 : Int)) a2) (5 : Int) == (3 : Int) then IntKind.wrap IntKind.i64 (g_Vs_l20Rd_odd_2 r0 (g_Vs_l20Key_2 r0 (IntKind.wrap IntKind.i64 (g_Vs_l20Writes_2 r0 (IntKind.wrap IntKind.i64 (IntKind.wrap IntKind.i64 (r1 + (1 : Int)) + (1 : Int))) (0 : Int) + (1 : Int))) (0 : Int)) a2 + (1 : Int)) else g_Vs_l20Write_4 r0 (IntKind.wrap IntKind.i64 (g_Vs_l20Rd_odd_2 r0 (g_Vs_l20Key_2 r0 (IntKind.wrap IntKind.i64 (g_Vs_l20Writes_2 r0 (IntKind.wrap IntKind.i64 (IntKind.wrap IntKind.i64 (r1 + (1 : Int)) + (1 : Int))) (0 : Int) + (1 : Int))) (0 : Int)) a2 + (1 : Int))) (1 : Int) else g_Vs_l20Rd_odd_2 r0 (g_Vs_l20Key_2 r0 (IntKind.wrap IntKind.i64 (g_Vs_l20Writes_2 r0 (IntKind.wrap IntKind.i64 (IntKind.wrap IntKind.i64 (r1 + (1 : Int)) + (1 : Int))) (0 : Int) + (1 : Int))) (0 : Int)) a2 else bif g_Vs_l20Rd_odd_0 r0 (IntKind.wrap IntKind.i64 (g_Vs_l20Writes_2 r0 (IntKind.wrap IntKind.i64 (IntKind.wrap IntKind.i64 (r1 + (1 : Int)) + (1 : Int))) (0 : Int) + (1 : Int))) a2 then bif g_pick r0 (g_Vs_l20Rd_odd_2 r0 (IntKind.wrap IntKind.i64 (g_Vs_l20Writes_2 r0 (IntKind.wrap IntKind.i64 (IntKind.wrap IntKind.i64 (r1 + (1 : Int)) + (1 : Int))) (0 : Int) + (1 : Int))) a2) (5 : Int) == (0 : Int) then IntKind.wrap IntKind.i64 (IntKind.wrap IntKind.i64 (g_Vs_l20Rd_odd_2 r0 (IntKind.wrap IntKind.i64 (g_Vs_l20Writes_2 r0 (IntKind.wrap IntKind.i64 (IntKind.wrap IntKind.i64 (r1 + (1 : Int)) + (1 : Int))) (0 : Int) + (1 : Int))) a2 + (1 : Int)) + (1 : Int)) else bif g_pick r0 (g_Vs_l20Rd_odd_2 r0 (IntKind.wrap IntKind.i64 (g_Vs_l20Writes_2 r0 (IntKind.wrap IntKind.i64 (IntKind.wrap IntKind.i64 (r1 + (1 : Int)) + (1 : Int))) (0 : Int) + (1 : Int))) a2) (5 : Int) == (1 : Int) then IntKind.wrap IntKind.i64 (IntKind.wrap IntKind.i64 (g_Vs_l20Rd_odd_2 r0 (IntKind.wrap IntKind.i64 (g_Vs_l20Writes_2 r0 (IntKind.wrap IntKind.i64 (IntKind.wrap IntKind.i64 (r1 + (1 : Int)) + (1 : Int))) (0 : Int) + (1 : Int))) a2 + (1 : Int)) + (1 : Int)) else bif g_pick r0 (g_Vs_l20Rd_odd_2 r0 (IntKind.wrap IntKind.i64 (g_Vs_l20Writes_2 r0 (IntKind.wrap IntKind.i64 (IntKind.wrap IntKind.i64 (r1 + (1 : Int)) + (1 : Int))) (0 : Int) + (1 : Int))) a2) (5 : Int) == (2 : Int) then IntKind.wrap IntKind.i64 (g_Vs_l20Rd_odd_2 r0 (IntKind.wrap IntKind.i64 (g_Vs_l20Writes_2 r0 (IntKind.wrap IntKind.i64 (IntKind.wrap IntKind.i64 (r1 + (1 : Int)) + (1 : Int))) (0 : Int) + (1 : Int))) a2 + (1 : Int)) else bif g_pick r0 (g_Vs_l20Rd_odd_2 r0 (IntKind.wrap IntKind.i64 (g_Vs_l20Writes_2 r0 (IntKind.wrap IntKind.i64 (IntKind.wrap IntKind.i64 (r1 + (1 : Int)) + (1 : Int))) (0 : Int) + (1 : Int))) a2) (5 : Int) == (3 : Int) then IntKind.wrap IntKind.i64 (g_Vs_l20Rd_odd_2 r0 (IntKind.wrap IntKind.i64 (g_Vs_l20Writes_2 r0 (IntKind.wrap IntKind.i64 (IntKind.wrap IntKind.i64 (r1 + (1 : Int)) + (1 : Int))) (0 : Int) + (1 : Int))) a2 + (1 : Int)) else g_Vs_l20Write_4 r0 (IntKind.wrap IntKind.i64 (g_Vs_l20Rd_odd_2 r0 (IntKind.wrap IntKind.i64 (g_Vs_l20Writes_2 r0 (IntKind.wrap IntKind.i64 (IntKind.wrap IntKind.i64 (r1 + (1 : Int)) + (1 : Int))) (0 : Int) + (1 : Int))) a2 + (1 : Int))) (1 : Int) else g_Vs_l20Rd_odd_2 r0 (IntKind.wrap IntKind.i64 (g_Vs_l20Writes_2 r0 (IntKind.wrap IntKind.i64 (IntKind.wrap IntKind.i64 (r1 + (1 : Int)) + (1 : Int))) (0 : Int) + (1 : Int))) a2 else bif g_Vs_l20Rd_odd_0 r0 (IntKind.wrap IntKind.i64 (IntKind.wrap IntKind.i64 (r1 + (1 : Int)) + (1 : Int))) a2 then bif g_pick r0 (g_Vs_l20Rd_odd_2 r0 (IntKind.wrap IntKind.i64 (IntKind.wrap IntKind.i64 (r1 + (1 : Int)) + (1 : Int))) a2) (5 : Int) == (0 : Int) then IntKind.wrap IntKind.i64 (IntKind.wrap IntKind.i64 (g_Vs_l20Rd_odd_2 r0 (IntKind.wrap IntKind.i64 (IntKind.wrap IntKind.i64 (r1 + (1 : Int)) + (1 : Int))) a2 + (1 : Int)) + (1 : Int)) else bif g_pick r0 (g_Vs_l20Rd_odd_2 r0 (IntKind.wrap IntKind.i64 (IntKind.wrap IntKind.i64 (r1 + (1 : Int)) + (1 : Int))) a2) (5 : Int) == (1 : Int) then IntKind.wrap IntKind.i64 (IntKind.wrap IntKind.i64 (g_Vs_l20Rd_odd_2 r0 (IntKind.wrap IntKind.i64 (IntKind.wrap IntKind.i64 (r1 + (1 : Int)) + (1 : Int))) a2 + (1 : Int)) + (1 : Int)) else bif g_pick r0 (g_Vs_l20Rd_odd_2 r0 (IntKind.wrap IntKind.i64 (IntKind.wrap IntKind.i64 (r1 + (1 : Int)) + (1 : Int))) a2) (5 : Int) == (2 : Int) then IntKind.wrap IntKind.i64 (g_Vs_l20Rd_odd_2 r0 (IntKind.wrap IntKind.i64 (IntKind.wrap IntKind.i64 (r1 + (1 : Int)) + (1 : Int))) a2 + (1 : Int)) else bif g_pick r0 (g_Vs_l20Rd_odd_2 r0 (IntKind.wrap IntKind.i64 (IntKind.wrap IntKind.i64 (r1 + (1 : Int)) + (1 : Int))) a2) (5 : Int) == (3 : Int) then IntKind.wrap IntKind.i64 (g_Vs_l20Rd_odd_2 r0 (IntKind.wrap IntKind.i64 (IntKind.wrap IntKind.i64 (r1 + (1 : Int)) + (1 : Int))) a2 + (1 : Int)) else g_Vs_l20Write_4 r0 (IntKind.wrap IntKind.i64 (g_Vs_l20Rd_odd_2 r0 (IntKind.wrap IntKind.i64 (IntKind.wrap IntKind.i64 (r1 + (1 : Int)) + (1 : Int))) a2 + (1 : Int))) (1 : Int) else g_Vs_l20Rd_odd_2 r0 (IntKind.wrap IntKind.i64 (IntKind.wrap IntKind.i64 (r1 + (1 : Int)) + (1 : Int))) a2
noncomputable def Fs_l20Note : FSem := fun ys => match ys with
  | [.val true [.sl .any 5 (.int .u8) r0, .int .i64 r1], .val false [.int .i64 a2]] => some ((g_As_l20Note r0 r1 a2), .val true [.int .i64 (g_Vs_l20Note_0 r0 r1 a2), .int .i64 (g_Vs_l20Note_1 r0 r1 a2), .sl .any 9 .str (g_Vs_l20Note_2 r0 r1 a2), .sl .any 83 (.pair .str (.pair .bool (.sl 3 (.int .i64)))) (g_Vs_l20Note_3 r0 r1 a2)], [[.sl .any 5 (.int .u8) (g_Vs_l20Note_4 r0 r1 a2), .int .i64 (g_Vs_l20Note_5 r0 r1 a2)]])
  | _ => none
theorem vs_l20Note (r0 : List Int) (r1 : Int) (a2 : Int) : collapseH .fr Es_l20Note Os_l20Note_1 (execFn Es_l20Note Go.Proofs.Tryd.f82 mss_l20Note [.val true [.sl .any 5 (.int .u8) r0, .int .i64 r1], .val false [.int .i64 a2]]) = some ((g_As_l20Note r0 r1 a2), .val true [.int .i64 (g_Vs_l20Note_0 r0 r1 a2), .int .i64 (g_Vs_l20Note_1 r0 r1 a2), .sl .any 9 .str (g_Vs_l20Note_2 r0 r1 a2), .sl .any 83 (.pair .str (.pair .bool (.sl 3 (.int .i64)))) (g_Vs_l20Note_3 r0 r1 a2)], [[.sl .any 5 (.int .u8) (g_Vs_l20Note_4 r0 r1 a2), .int .i64 (g_Vs_l20Note_5 r0 r1 a2)]]) := by kernel_rfl
theorem ss_l20Note : Sound Go.Proofs.Tryd.prog 82 mss_l20Note Fs_l20Note := by
  refine fn_gen goods_l20Note (by kernel_rfl) .fr (fn := Go.Proofs.Tryd.f82) (c := (Go.Proofs.Tryd.f82.body.getD .skip)) (o := Os_l20Note_1) (k := 1) (by kernel_rfl) (by kernel_rfl) (by kernel_rfl) (by kernel_rfl) (by decide) ks_l20Note_1 ?_
  intro ys r outs h
  unfold Fs_l20Note at h
  split at h
  · exact (vs_l20Note _ _ _).trans h
  · cases h
end Go.Proofs.YtibafhmmnoijkaaDoor.E
end
section
namespace Go.Proofs.YtibafhmmnoijkaaDoor.E
open Go
set_option maxRecDepth 100000
set_option linter.all false
noncomputable def mss_l20NoteR : List PM := mss_l20Note
theorem sames_l20Note (r0 : List Int) (r1 : Int) (a2 : Int) : g_Vs_l20Note_4 r0 r1 a2 = r0 := by
  unfold g_Vs_l20Note_4
  simp only [Bool.cond_self]
noncomputable def Fs_l20NoteR : FSem := fun ys => match ys with
  | [.val true [.sl .any 5 (.int .u8) r0, .int .i64 r1], .val false [.int .i64 a2]] => some ((g_As_l20Note r0 r1 a2), .val true [.int .i64 (g_Vs_l20Note_0 r0 r1 a2), .int .i64 (g_Vs_l20Note_1 r0 r1 a2), .sl .any 9 .str (g_Vs_l20Note_2 r0 r1 a2), .sl .any 83 (.pair .str (.pair .bool (.sl 3 (.int .i64)))) (g_Vs_l20Note_3 r0 r1 a2)], [[.sl .any 5 (.int .u8) r0, .int .i64 (g_Vs_l20Note_5 r0 r1 a2)]])
  | _ => none
theorem ss_l20NoteR : Sound Go.Proofs.Tryd.prog 82 mss_l20NoteR Fs_l20NoteR := by
  refine ⟨ss_l20Note.fn, fun w S ψ ys vs r outs hF hh hg => ss_l20Note.calls w S ψ ys vs r outs (Eq.trans ?_ hF) hh hg⟩
  unfold Fs_l20NoteR at hF ⊢
  split at hF
  · rename_i  r0 r1 a2
    show (some ((g_As_l20Note r0 r1 a2), .val true [.int .i64 (g_Vs_l20Note_0 r0 r1 a2), .int .i64 (g_Vs_l20Note_1 r0 r1 a2), .sl .any 9 .str (g_Vs_l20Note_2 r0 r1 a2), .sl .any 83 (.pair .str (.pair .bool (.sl 3 (.int .i64)))) (g_Vs_l20Note_3 r0 r1 a2)], [[.sl .any 5 (.int .u8) (g_Vs_l20Note_4 r0 r1 a2), .int .i64 (g_Vs_l20Note_5 r0 r1 a2)]]) : Option (Bool × RV × List (List Cell))) = _
    rw [sames_l20Note]
  · cases hF
end Go.Proofs.YtibafhmmnoijkaaDoor.E
end
section
namespace Go.Proofs.YtibafhmmnoijkaaDoor.E
open Go
set_option maxRecDepth 100000
set_option maxHeartbeats 0
set_option linter.all false
noncomputable def Es_l20Disk : Env where
  tt := mkTI Go.Proofs.Tryd.prog
  fn := fun f => match f with
    | 39 => some (mss_DiskAdd, FSem.wk mss_DiskAdd Fs_DiskAdd)
    | 72 => some (mss_l20Rd_pick, FSem.wk mss_l20Rd_pick Fs_l20Rd_pick)
    | 81 => some (mss_l20Rd_oddR, FSem.wk mss_l20Rd_oddR Fs_l20Rd_oddR)
    | 82 => some (mss_l20NoteR, FSem.wk mss_l20NoteR Fs_l20NoteR)
    | _ => none
  bxf := fun _ => none
  mv := []
  keep := fun b => match b with
    | 0 => [(0, false), (1, false), (4, false), (5, false), (6, false)]
    | 3 => [(0, false), (4, false), (5, false)]
    | _ => []
  keepB := fun b => match b with
    | 0 => [(4, false), (5, false), (0, false)]
    | 3 => [(4, false), (5, false), (0, false)]
    | _ => []
  keepX := fun b => match b with
    | 0 => [(0, false), (1, false), (4, false), (5, false)]
    | 3 => [(0, false), (4, false), (5, false)]
    | _ => []
  keepXB := fun b => match b with
    | 0 => [(4, false), (5, false), (0, false)]
    | 3 => [(4, false), (5, false), (0, false)]
    | _ => []
theorem goodFs_l20Disk : ∀ f ms F, Es_l20Disk.fn f = some (ms, F) → Sound Go.Proofs.Tryd.prog f ms F := fun f ms F h => by
  unfold Es_l20Disk at h
  dsimp only at h
  split at h
  · injection h with h; injection h with e1 e2; subst e1 e2; exact Sound.wk ss_DiskAdd
  · injection h with h; injection h with e1 e2; subst e1 e2; exact Sound.wk ss_l20Rd_pick
  · injection h with h; injection h with e1 e2; subst e1 e2; exact Sound.wk ss_l20Rd_oddR
  · injection h with h; injection h with e1 e2; subst e1 e2; exact Sound.wk ss_l20NoteR
  · cases h
theorem goodBs_l20Disk : ∀ f ms F, Es_l20Disk.bxf f = some (ms, F) → SoundB Go.Proofs.Tryd.prog f ms F := fun f ms F h => by cases h
theorem goods_l20Disk : Good Go.Proofs.Tryd.prog Es_l20Disk := ⟨rfl, goodFs_l20Disk, goodBs_l20Disk⟩
noncomputable def Os_l20Disk_0 : Orc := fun _ _ => none
noncomputable def mss_l20Disk : List PM := [.bx, .own]
noncomputable def lss_l20Disk : List (Nat × Code) := loopsAll 0 (Go.Proofs.Tryd.f71.body.getD .skip)
noncomputable def cs_l20Disk_0 : Code := (loopOf 0 (Go.Proofs.Tryd.f71.body.getD .skip)).getD .skip
noncomputable def cs_l20Disk_3 : Code := (loopOf 3 (Go.Proofs.Tryd.f71.body.getD .skip)).getD .skip
theorem lseqs_l20Disk : lss_l20Disk = [(0, cs_l20Disk_0), (3, cs_l20Disk_3)] := by kernel_rfl
theorem ms_l20Disk_0 : ∀ p, p ∈ lss_l20Disk → p.1 = 0 → p.2 = cs_l20Disk_0 := by
  intro p hp
  rw [lseqs_l20Disk] at hp
  simp only [List.mem_cons, List.not_mem_nil, or_false] at hp
  rcases hp with rfl | rfl <;> simp
theorem ms_l20Disk_3 : ∀ p, p ∈ lss_l20Disk → p.1 = 3 → p.2 = cs_l20Disk_3 := by
  intro p hp
  rw [lseqs_l20Disk] at hp
  simp only [List.mem_cons, List.not_mem_nil, or_false] at hp
  rcases hp with rfl | rfl <;> simp
theorem ks_l20Disk_0 : OrcOk Es_l20Disk Os_l20Disk_0 lss_l20Disk 0 := orcOk_none
noncomputable def hs_l20Disk_0 (y0 : Int) (y1 : Int) (y2 : Int) (y3 : List ((Int) × ((Int) × ((List (ByteArray)) × (List ((ByteArray) × ((Bool) × (List (Int))))))))) (y4 : Int) (y5 : List ((Int) × ((Int) × ((List (ByteArray)) × (List ((ByteArray) × ((Bool) × (List (Int))))))))) (y6 : List (Int)) (y7 : Int) : List (Pl × LV) := [(.T 0, .t (.val false [.ptr 0 0 0])), (.T 1, .t (.val false [.int .i64 y0])), (.T 4, .t (.val false [.ptr 4 0 0])), (.T 5, .t (.val false [.ptr 5 0 0])), (.T 6, .t (.val false [.int .i64 y1])), (.B 4, .b 0 false [.row 4 1 0, .int .i64 y2]), (.R 4 1, .r 0 (some ⟨false, .any, true, 59, (.pair (.int .i64) (.pair (.int .i64) (.pair (.sl 9 .str) (.sl 83 (.pair .str (.pair .bool (.sl 3 (.int .i64)))))))), y3⟩)), (.B 5, .b 0 false [.row 5 1 0, .int .i64 y4]), (.R 5 1, .r 0 (some ⟨false, .any, true, 59, (.pair (.int .i64) (.pair (.int .i64) (.pair (.sl 9 .str) (.sl 83 (.pair .str (.pair .bool (.sl 3 (.int .i64)))))))), y5⟩)), (.B 0, .b 0 false [.sl .any 5 (.int .u8) y6, .int .i64 y7])]
noncomputable def g_Ss_l20Disk_0 (y0 : Int) (y2 : Int) (y3 : List ((Int) × ((Int) × ((List (ByteArray)) × (List ((ByteArray) × ((Bool) × (List (Int))))))))) (y6 : List (Int)) : ((Int) × (Int) × (List ((Int) × ((Int) × ((List (ByteArray)) × (List ((ByteArray) × ((Bool) × (List (Int))))))))) × (Int)) → RT ((Int) × (Int) × (List ((Int) × ((Int) × ((List (ByteArray)) × (List ((ByteArray) × ((Bool) × (List (Int))))))))) × (Int)) (((Int) × (List ((Int) × ((Int) × ((List (ByteArray)) × (List ((ByteArray) × ((Bool) × (List (Int))))))))) × (Int)))
  | (y1, y4, y5, y7) => .br (true) (.br (decide (y1 > (0 : Int))) (.br (g_As_l20Note y6 y7 (0 : Int)) (.br (g_pickA y6 (g_Vs_l20Note_5 y6 y7 (0 : Int)) (2 : Int)) (.br (true) (.br (g_As_DiskAdd y5 y4 (g_Vs_l20Note_0 y6 y7 (0 : Int)) (g_Vs_l20Note_1 y6 y7 (0 : Int)) (g_Vs_l20Note_2 y6 y7 (0 : Int)) (g_Vs_l20Note_3 y6 y7 (0 : Int)) (g_pick y6 (g_Vs_l20Note_5 y6 y7 (0 : Int)) (2 : Int) == (0 : Int))) (.br (true) (.go ((IntKind.wrap IntKind.i64 (y1 - (1 : Int)), g_Vs_DiskAdd_1 y5 y4 (g_Vs_l20Note_0 y6 y7 (0 : Int)) (g_Vs_l20Note_1 y6 y7 (0 : Int)) (g_Vs_l20Note_2 y6 y7 (0 : Int)) (g_Vs_l20Note_3 y6 y7 (0 : Int)) (g_pick y6 (g_Vs_l20Note_5 y6 y7 (0 : Int)) (2 : Int) == (0 : Int)), g_Vs_DiskAdd_0 y5 y4 (g_Vs_l20Note_0 y6 y7 (0 : Int)) (g_Vs_l20Note_1 y6 y7 (0 : Int)) (g_Vs_l20Note_2 y6 y7 (0 : Int)) (g_Vs_l20Note_3 y6 y7 (0 : Int)) (g_pick y6 (g_Vs_l20Note_5 y6 y7 (0 : Int)) (2 : Int) == (0 : Int)), IntKind.wrap IntKind.i64 (g_Vs_l20Note_5 y6 y7 (0 : Int) + (1 : Int))))) (.bad)) (.bad)) (.bad)) (.bad)) (.bad)) (.out ((y4, y5, y7)))) (.bad)
noncomputable def g_Ls_l20Disk_0 (y0 : Int) (y2 : Int) (y3 : List ((Int) × ((Int) × ((List (ByteArray)) × (List ((ByteArray) × ((Bool) × (List (Int))))))))) (y6 : List (Int)) (x : (Int) × (Int) × (List ((Int) × ((Int) × ((List (ByteArray)) × (List ((ByteArray) × ((Bool) × (List (Int))))))))) × (Int)) : Option (((Int) × (List ((Int) × ((Int) × ((List (ByteArray)) × (List ((ByteArray) × ((Bool) × (List (Int))))))))) × (Int))) := loopO (g_Ss_l20Disk_0 y0 y2 y3 y6) x
noncomputable def xs_l20Disk_0 (y0 : Int) (y2 : Int) (y3 : List ((Int) × ((Int) × ((List (ByteArray)) × (List ((ByteArray) × ((Bool) × (List (Int))))))))) (y6 : List (Int)) : (((Int) × (List ((Int) × ((Int) × ((List (ByteArray)) × (List ((ByteArray) × ((Bool) × (List (Int))))))))) × (Int))) → Ex × List (Pl × LV) := fun r => (.exit 0, [(.T 0, .t (.val false [.ptr 0 0 0])), (.T 1, .t (.val false [.int .i64 y0])), (.T 4, .t (.val false [.ptr 4 0 0])), (.T 5, .t (.val false [.ptr 5 0 0])), (.B 4, .b 0 false [.row 4 1 0, .int .i64 y2]), (.R 4 1, .r 0 (some ⟨false, .any, true, 59, (.pair (.int .i64) (.pair (.int .i64) (.pair (.sl 9 .str) (.sl 83 (.pair .str (.pair .bool (.sl 3 (.int .i64)))))))), y3⟩)), (.B 5, .b 0 false [.row 5 1 0, .int .i64 r.1]), (.R 5 1, .r 0 (some ⟨false, .any, true, 59, (.pair (.int .i64) (.pair (.int .i64) (.pair (.sl 9 .str) (.sl 83 (.pair .str (.pair .bool (.sl 3 (.int .i64)))))))), r.2.1⟩)), (.B 0, .b 0 false [.sl .any 5 (.int .u8) y6, .int .i64 r.2.2])])
noncomputable def Os_l20Disk_1 : Orc := fun b h => match b, h with
  | 0, [(.T 0, .t (.val false [.ptr 0 0 0])), (.T 1, .t (.val false [.int .i64 y0])), (.T 4, .t (.val false [.ptr 4 0 0])), (.T 5, .t (.val false [.ptr 5 0 0])), (.T 6, .t (.val false [.int .i64 y1])), (.B 4, .b 0 false [.row 4 1 0, .int .i64 y2]), (.R 4 1, .r 0 (some ⟨false, .any, true, 59, (.pair (.int .i64) (.pair (.int .i64) (.pair (.sl 9 .str) (.sl 83 (.pair .str (.pair .bool (.sl 3 (.int .i64)))))))), y3⟩)), (.B 5, .b 0 false [.row 5 1 0, .int .i64 y4]), (.R 5 1, .r 0 (some ⟨false, .any, true, 59, (.pair (.int .i64) (.pair (.int .i64) (.pair (.sl 9 .str) (.sl 83 (.pair .str (.pair .bool (.sl 3 (.int .i64)))))))), y5⟩)), (.B 0, .b 0 false [.sl .any 5 (.int .u8) y6, .int .i64 y7])] => some (okO (g_Ls_l20Disk_0 y0 y2 y3 y6 (y1, y4, y5, y7)), (.leaf (.exit 0) [(.T 0, .t (.val false [.ptr 0 0 0])), (.T 1, .t (.val false [.int .i64 y0])), (.T 4, .t (.val false [.ptr 4 0 0])), (.T 5, .t (.val false [.ptr 5 0 0])), (.B 4, .b 0 false [.row 4 1 0, .int .i64 y2]), (.R 4 1, .r 0 (some ⟨false, .any, true, 59, (.pair (.int .i64) (.pair (.int .i64) (.pair (.sl 9 .str) (.sl 83 (.pair .str (.pair .bool (.sl 3 (.int .i64)))))))), y3⟩)), (.B 5, .b 0 false [.row 5 1 0, .int .i64 (valO (g_Ls_l20Disk_0 y0 y2 y3 y6 (y1, y4, y5, y7))).1]), (.R 5 1, .r 0 (some ⟨false, .any, true, 59, (.pair (.int .i64) (.pair (.int .i64) (.pair (.sl 9 .str) (.sl 83 (.pair .str (.pair .bool (.sl 3 (.int .i64)))))))), (valO (g_Ls_l20Disk_0 y0 y2 y3 y6 (y1, y4, y5, y7))).2.1⟩)), (.B 0, .b 0 false [.sl .any 5 (.int .u8) y6, .int .i64 (valO (g_Ls_l20Disk_0 y0 y2 y3 y6 (y1, y4, y5, y7))).2.2])]))
  | b, h => Os_l20Disk_0 b h
theorem bs_l20Disk_0 (y0 : Int) (y1 : Int) (y2 : Int) (y3 : List ((Int) × ((Int) × ((List (ByteArray)) × (List ((ByteArray) × ((Bool) × (List (Int))))))))) (y4 : Int) (y5 : List ((Int) × ((Int) × ((List (ByteArray)) × (List ((ByteArray) × ((Bool) × (List (Int))))))))) (y6 : List (Int)) (y7 : Int) : Tr.bt Es_l20Disk Os_l20Disk_0 (exec Es_l20Disk 0 cs_l20Disk_0 (St.of (hs_l20Disk_0 y0 y1 y2 y3 y4 y5 y6 y7)) (leafRd Es_l20Disk 0)) = (g_Ss_l20Disk_0 y0 y2 y3 y6 (y1, y4, y5, y7)).bt (fun ((y1, y4, y5, y7) : (Int) × (Int) × (List ((Int) × ((Int) × ((List (ByteArray)) × (List ((ByteArray) × ((Bool) × (List (Int))))))))) × (Int)) => (hs_l20Disk_0 y0 y1 y2 y3 y4 y5 y6 y7)) (xs_l20Disk_0 y0 y2 y3 y6) := by kernel_rfl
theorem ks_l20Disk_1 : OrcOk Es_l20Disk Os_l20Disk_1 lss_l20Disk 1 := orc_add ks_l20Disk_0 (fun n p hp h ex h' ho => by
  obtain ⟨b, c⟩ := p
  obtain ⟨xt, h1, h2⟩ := ho
  have h1 : Os_l20Disk_1 b h = some (true, xt) := h1
  unfold Os_l20Disk_1 at h1
  split at h1
  · injection h1 with h1
    injection h1 with e1 e2
    subst e2
    have hc : c = cs_l20Disk_0 := ms_l20Disk_0 _ hp rfl
    subst hc
    right
    rename_i y0 y1 y2 y3 y4 y5 y6 y7
    have key := LT_step ks_l20Disk_0 hp (fun q hq => loopsAll_in _ _ _ _ hp hq) (fun ((y1, y4, y5, y7) : (Int) × (Int) × (List ((Int) × ((Int) × ((List (ByteArray)) × (List ((ByteArray) × ((Bool) × (List (Int))))))))) × (Int)) => (hs_l20Disk_0 y0 y1 y2 y3 y4 y5 y6 y7)) (xs_l20Disk_0 y0 y2 y3 y6) (g_Ss_l20Disk_0 y0 y2 y3 y6) (fun x => by first | exact bs_l20Disk_0 y0 x.1 y2 y3 x.2.1 x.2.2.1 y6 x.2.2.2) n (x := (y1, y4, y5, y7)) (okO_some e1)
    have hx : ∀ r, XT.sel (.leaf (.exit 0) [(.T 0, .t (.val false [.ptr 0 0 0])), (.T 1, .t (.val false [.int .i64 y0])), (.T 4, .t (.val false [.ptr 4 0 0])), (.T 5, .t (.val false [.ptr 5 0 0])), (.B 4, .b 0 false [.row 4 1 0, .int .i64 y2]), (.R 4 1, .r 0 (some ⟨false, .any, true, 59, (.pair (.int .i64) (.pair (.int .i64) (.pair (.sl 9 .str) (.sl 83 (.pair .str (.pair .bool (.sl 3 (.int .i64)))))))), y3⟩)), (.B 5, .b 0 false [.row 5 1 0, .int .i64 r.1]), (.R 5 1, .r 0 (some ⟨false, .any, true, 59, (.pair (.int .i64) (.pair (.int .i64) (.pair (.sl 9 .str) (.sl 83 (.pair .str (.pair .bool (.sl 3 (.int .i64)))))))), r.2.1⟩)), (.B 0, .b 0 false [.sl .any 5 (.int .u8) y6, .int .i64 r.2.2])]) = xs_l20Disk_0 y0 y2 y3 y6 r := fun r => by first | rfl | (rcases r with r | r <;> rfl) | (rcases r with r | r | r <;> rfl) | (rcases r with r | r | r | r <;> rfl)
    have h3 := (hx (valO (g_Ls_l20Disk_0 y0 y2 y3 y6 (y1, y4, y5, y7)))).symm.trans h2
    have e3 := congrArg Prod.fst h3
    have e4 := congrArg Prod.snd h3
    simp only at e3 e4
    rw [← e3, ← e4]
    exact key
  · exact .inl ⟨xt, h1, h2⟩)
noncomputable def hs_l20Disk_3 (y0 : Int) (y1 : List ((Int) × ((Int) × ((List (ByteArray)) × (List ((ByteArray) × ((Bool) × (List (Int))))))))) (y2 : Int) (y3 : List ((Int) × ((Int) × ((List (ByteArray)) × (List ((ByteArray) × ((Bool) × (List (Int))))))))) (y4 : List (Int)) (y5 : Int) : List (Pl × LV) := [(.T 0, .t (.val false [.ptr 0 0 0])), (.T 4, .t (.val false [.ptr 4 0 0])), (.T 5, .t (.val false [.ptr 5 0 0])), (.B 4, .b 0 false [.row 4 1 0, .int .i64 y0]), (.R 4 1, .r 0 (some ⟨false, .any, true, 59, (.pair (.int .i64) (.pair (.int .i64) (.pair (.sl 9 .str) (.sl 83 (.pair .str (.pair .bool (.sl 3 (.int .i64)))))))), y1⟩)), (.B 5, .b 0 false [.row 5 1 0, .int .i64 y2]), (.R 5 1, .r 0 (some ⟨false, .any, true, 59, (.pair (.int .i64) (.pair (.int .i64) (.pair (.sl 9 .str) (.sl 83 (.pair .str (.pair .bool (.sl 3 (.int .i64)))))))), y3⟩)), (.B 0, .b 0 false [.sl .any 5 (.int .u8) y4, .int .i64 y5])]
noncomputable def g_Ss_l20Disk_3 (y0 : Int) (y1 : List ((Int) × ((Int) × ((List (ByteArray)) × (List ((ByteArray) × ((Bool) × (List (Int))))))))) (y2 : Int) (y4 : List (Int)) (y5 : Int) : ((List ((Int) × ((Int) × ((List (ByteArray)) × (List ((ByteArray) × ((Bool) × (List (Int)))))))))) → RT ((List ((Int) × ((Int) × ((List (ByteArray)) × (List ((ByteArray) × ((Bool) × (List (Int)))))))))) (((List ((Int) × ((Int) × ((List (ByteArray)) × (List ((ByteArray) × ((Bool) × (List (Int)))))))))))
  | y3 => .br (true) (.br (decide ((↑(List.length y3) : Int) ≤ (120 : Int))) (.br (decide ((List.length y3 + nat_lit 1) * nat_lit 64 ≤ nat_lit 140737488355328 ∧ List.length y3 + nat_lit 1 ≤ nat_lit 9223372036854775807)) (.go (y3 ++ [((3 : Int), (0 : Int), [], [])])) (.bad)) (.out (y3))) (.bad)
noncomputable def g_Ls_l20Disk_3 (y0 : Int) (y1 : List ((Int) × ((Int) × ((List (ByteArray)) × (List ((ByteArray) × ((Bool) × (List (Int))))))))) (y2 : Int) (y4 : List (Int)) (y5 : Int) (x : (List ((Int) × ((Int) × ((List (ByteArray)) × (List ((ByteArray) × ((Bool) × (List (Int)))))))))) : Option (((List ((Int) × ((Int) × ((List (ByteArray)) × (List ((ByteArray) × ((Bool) × (List (Int))))))))))) := loopO (g_Ss_l20Disk_3 y0 y1 y2 y4 y5) x
noncomputable def xs_l20Disk_3 (y0 : Int) (y1 : List ((Int) × ((Int) × ((List (ByteArray)) × (List ((ByteArray) × ((Bool) × (List (Int))))))))) (y2 : Int) (y4 : List (Int)) (y5 : Int) : (((List ((Int) × ((Int) × ((List (ByteArray)) × (List ((ByteArray) × ((Bool) × (List (Int))))))))))) → Ex × List (Pl × LV) := fun r => (.exit 3, [(.T 0, .t (.val false [.ptr 0 0 0])), (.T 4, .t (.val false [.ptr 4 0 0])), (.T 5, .t (.val false [.ptr 5 0 0])), (.B 4, .b 0 false [.row 4 1 0, .int .i64 y0]), (.R 4 1, .r 0 (some ⟨false, .any, true, 59, (.pair (.int .i64) (.pair (.int .i64) (.pair (.sl 9 .str) (.sl 83 (.pair .str (.pair .bool (.sl 3 (.int .i64)))))))), y1⟩)), (.B 5, .b 0 false [.row 5 1 0, .int .i64 y2]), (.R 5 1, .r 0 (some ⟨false, .any, true, 59, (.pair (.int .i64) (.pair (.int .i64) (.pair (.sl 9 .str) (.sl 83 (.pair .str (.pair .bool (.sl 3 (.int .i64)))))))), r⟩)), (.B 0, .b 0 false [.sl .any 5 (.int .u8) y4, .int .i64 y5])])
noncomputable def Os_l20Disk_2 : Orc := fun b h => match b, h with
  | 3, [(.T 0, .t (.val false [.ptr 0 0 0])), (.T 4, .t (.val false [.ptr 4 0 0])), (.T 5, .t (.val false [.ptr 5 0 0])), (.B 4, .b 0 false [.row 4 1 0, .int .i64 y0]), (.R 4 1, .r 0 (some ⟨false, .any, true, 59, (.pair (.int .i64) (.pair (.int .i64) (.pair (.sl 9 .str) (.sl 83 (.pair .str (.pair .bool (.sl 3 (.int .i64)))))))), y1⟩)), (.B 5, .b 0 false [.row 5 1 0, .int .i64 y2]), (.R 5 1, .r 0 (some ⟨false, .any, true, 59, (.pair (.int .i64) (.pair (.int .i64) (.pair (.sl 9 .str) (.sl 83 (.pair .str (.pair .bool (.sl 3 (.int .i64)))))))), y3⟩)), (.B 0, .b 0 false [.sl .any 5 (.int .u8) y4, .int .i64 y5])] => some (okO (g_Ls_l20Disk_3 y0 y1 y2 y4 y5 y3), (.leaf (.exit 3) [(.T 0, .t (.val false [.ptr 0 0 0])), (.T 4, .t (.val false [.ptr 4 0 0])), (.T 5, .t (.val false [.ptr 5 0 0])), (.B 4, .b 0 false [.row 4 1 0, .int .i64 y0]), (.R 4 1, .r 0 (some ⟨false, .any, true, 59, (.pair (.int .i64) (.pair (.int .i64) (.pair (.sl 9 .str) (.sl 83 (.pair .str (.pair .bool (.sl 3 (.int .i64)))))))), y1⟩)), (.B 5, .b 0 false [.row 5 1 0, .int .i64 y2]), (.R 5 1, .r 0 (some ⟨false, .any, true, 59, (.pair (.int .i64) (.pair (.int .i64) (.pair (.sl 9 .str) (.sl 83 (.pair .str (.pair .bool (.sl 3 (.int .i64)))))))), (valO (g_Ls_l20Disk_3 y0 y1 y2 y4 y5 y3))⟩)), (.B 0, .b 0 false [.sl .any 5 (.int .u8) y4, .int .i64 y5])]))
  | b, h => Os_l20Disk_1 b h
theorem bs_l20Disk_3 (y0 : Int) (y1 : List ((Int) × ((Int) × ((List (ByteArray)) × (List ((ByteArray) × ((Bool) × (List (Int))))))))) (y2 : Int) (y3 : List ((Int) × ((Int) × ((List (ByteArray)) × (List ((ByteArray) × ((Bool) × (List (Int))))))))) (y4 : List (Int)) (y5 : Int) : Tr.bt Es_l20Disk Os_l20Disk_1 (exec Es_l20Disk 3 cs_l20Disk_3 (St.of (hs_l20Disk_3 y0 y1 y2 y3 y4 y5)) (leafRd Es_l20Disk 3)) = (g_Ss_l20Disk_3 y0 y1 y2 y4 y5 y3).bt (fun (y3 : (List ((Int) × ((Int) × ((List (ByteArray)) × (List ((ByteArray) × ((Bool) × (List (Int)))))))))) => (hs_l20Disk_3 y0 y1 y2 y3 y4 y5)) (xs_l20Disk_3 y0 y1 y2 y4 y5) := by kernel_rfl
theorem ks_l20Disk_2 : OrcOk Es_l20Disk Os_l20Disk_2 lss_l20Disk 2 := orc_add ks_l20Disk_1 (fun n p hp h ex h' ho => by
  obtain ⟨b, c⟩ := p
  obtain ⟨xt, h1, h2⟩ := ho
  have h1 : Os_l20Disk_2 b h = some (true, xt) := h1
  unfold Os_l20Disk_2 at h1
  split at h1
  · injection h1 with h1
    injection h1 with e1 e2
    subst e2
    have hc : c = cs_l20Disk_3 := ms_l20Disk_3 _ hp rfl
    subst hc
    right
    rename_i y0 y1 y2 y3 y4 y5
    have key := LT_step ks_l20Disk_1 hp (fun q hq => loopsAll_in _ _ _ _ hp hq) (fun (y3 : (List ((Int) × ((Int) × ((List (ByteArray)) × (List ((ByteArray) × ((Bool) × (List (Int)))))))))) => (hs_l20Disk_3 y0 y1 y2 y3 y4 y5)) (xs_l20Disk_3 y0 y1 y2 y4 y5) (g_Ss_l20Disk_3 y0 y1 y2 y4 y5) (fun x => by first | exact bs_l20Disk_3 y0 y1 y2 x y4 y5) n (x := y3) (okO_some e1)
    have hx : ∀ r, XT.sel (.leaf (.exit 3) [(.T 0, .t (.val false [.ptr 0 0 0])), (.T 4, .t (.val false [.ptr 4 0 0])), (.T 5, .t (.val false [.ptr 5 0 0])), (.B 4, .b 0 false [.row 4 1 0, .int .i64 y0]), (.R 4 1, .r 0 (some ⟨false, .any, true, 59, (.pair (.int .i64) (.pair (.int .i64) (.pair (.sl 9 .str) (.sl 83 (.pair .str (.pair .bool (.sl 3 (.int .i64)))))))), y1⟩)), (.B 5, .b 0 false [.row 5 1 0, .int .i64 y2]), (.R 5 1, .r 0 (some ⟨false, .any, true, 59, (.pair (.int .i64) (.pair (.int .i64) (.pair (.sl 9 .str) (.sl 83 (.pair .str (.pair .bool (.sl 3 (.int .i64)))))))), r⟩)), (.B 0, .b 0 false [.sl .any 5 (.int .u8) y4, .int .i64 y5])]) = xs_l20Disk_3 y0 y1 y2 y4 y5 r := fun r => by first | rfl | (rcases r with r | r <;> rfl) | (rcases r with r | r | r <;> rfl) | (rcases r with r | r | r | r <;> rfl)
    have h3 := (hx (valO (g_Ls_l20Disk_3 y0 y1 y2 y4 y5 y3))).symm.trans h2
    have e3 := congrArg Prod.fst h3
    have e4 := congrArg Prod.snd h3
    simp only at e3 e4
    rw [← e3, ← e4]
    exact key
  · exact .inl ⟨xt, h1, h2⟩)
noncomputable def g_As_l20Disk (r0 : List Int) (r1 : Int) (a2 : Int) : Bool := g_pickA r0 r1 (10 : Int) && (okO (g_Ls_l20Disk_0 a2 (0 : Int) [] r0 (g_pick r0 r1 (10 : Int), (0 : Int), [], IntKind.wrap IntKind.i64 (r1 + (1 : Int)))) && (g_As_l20Rd_odd r0 (valO (g_Ls_l20Disk_0 a2 (0 : Int) [] r0 (g_pick r0 r1 (10 : Int), (0 : Int), [], IntKind.wrap IntKind.i64 (r1 + (1 : Int))))).2.2 a2 && (!g_Vs_l20Rd_odd_0 r0 (valO (g_Ls_l20Disk_0 a2 (0 : Int) [] r0 (g_pick r0 r1 (10 : Int), (0 : Int), [], IntKind.wrap IntKind.i64 (r1 + (1 : Int))))).2.2 a2 || g_pickA r0 (g_Vs_l20Rd_odd_2 r0 (valO (g_Ls_l20Disk_0 a2 (0 : Int) [] r0 (g_pick r0 r1 (10 : Int), (0 : Int), [], IntKind.wrap IntKind.i64 (r1 + (1 : Int))))).2.2 a2) (3 : Int) && bif g_pick r0 (g_Vs_l20Rd_odd_2 r0 (valO (g_Ls_l20Disk_0 a2 (0 : Int) [] r0 (g_pick r0 r1 (10 : Int), (0 : Int), [], IntKind.wrap IntKind.i64 (r1 + (1 : Int))))).2.2 a2) (3 : Int) == (0 : Int) then g_pickA r0 (IntKind.wrap IntKind.i64 (g_Vs_l20Rd_odd_2 r0 (valO (g_Ls_l20Disk_0 a2 (0 : Int) [] r0 (g_pick r0 r1 (10 : Int), (0 : Int), [], IntKind.wrap IntKind.i64 (r1 + (1 : Int))))).2.2 a2 + (1 : Int))) (2 : Int) && (decide ((0 : Int) ≤ g_pick r0 (IntKind.wrap IntKind.i64 (g_Vs_l20Rd_odd_2 r0 (valO (g_Ls_l20Disk_0 a2 (0 : Int) [] r0 (g_pick r0 r1 (10 : Int), (0 : Int), [], IntKind.wrap IntKind.i64 (r1 + (1 : Int))))).2.2 a2 + (1 : Int))) (2 : Int) ∧ g_pick r0 (IntKind.wrap IntKind.i64 (g_Vs_l20Rd_odd_2 r0 (valO (g_Ls_l20Disk_0 a2 (0 : Int) [] r0 (g_pick r0 r1 (10 : Int), (0 : Int), [], IntKind.wrap IntKind.i64 (r1 + (1 : Int))))).2.2 a2 + (1 : Int))) (2 : Int) < (↑(List.length [(-1 : Int), IntKind.wrap IntKind.i64 ((↑(List.length (valO (g_Ls_l20Disk_0 a2 (0 : Int) [] r0 (g_pick r0 r1 (10 : Int), (0 : Int), [], IntKind.wrap IntKind.i64 (r1 + (1 : Int))))).2.1) : Int) + (1 : Int))]) : Int)) && decide (Int.toNat (g_pick r0 (IntKind.wrap IntKind.i64 (g_Vs_l20Rd_odd_2 r0 (valO (g_Ls_l20Disk_0 a2 (0 : Int) [] r0 (g_pick r0 r1 (10 : Int), (0 : Int), [], IntKind.wrap IntKind.i64 (r1 + (1 : Int))))).2.2 a2 + (1 : Int))) (2 : Int)) < List.length [(-1 : Int), IntKind.wrap IntKind.i64 ((↑(List.length (valO (g_Ls_l20Disk_0 a2 (0 : Int) [] r0 (g_pick r0 r1 (10 : Int), (0 : Int), [], IntKind.wrap IntKind.i64 (r1 + (1 : Int))))).2.1) : Int) + (1 : Int))])) else bif g_pick r0 (g_Vs_l20Rd_odd_2 r0 (valO (g_Ls_l20Disk_0 a2 (0 : Int) [] r0 (g_pick r0 r1 (10 : Int), (0 : Int), [], IntKind.wrap IntKind.i64 (r1 + (1 : Int))))).2.2 a2) (3 : Int) == (1 : Int) then g_As_l20Note r0 (IntKind.wrap IntKind.i64 (g_Vs_l20Rd_odd_2 r0 (valO (g_Ls_l20Disk_0 a2 (0 : Int) [] r0 (g_pick r0 r1 (10 : Int), (0 : Int), [], IntKind.wrap IntKind.i64 (r1 + (1 : Int))))).2.2 a2 + (1 : Int))) (1 : Int) && decide ((List.length (valO (g_Ls_l20Disk_0 a2 (0 : Int) [] r0 (g_pick r0 r1 (10 : Int), (0 : Int), [], IntKind.wrap IntKind.i64 (r1 + (1 : Int))))).2.1 + List.length [(g_Vs_l20Note_0 r0 (IntKind.wrap IntKind.i64 (g_Vs_l20Rd_odd_2 r0 (valO (g_Ls_l20Disk_0 a2 (0 : Int) [] r0 (g_pick r0 r1 (10 : Int), (0 : Int), [], IntKind.wrap IntKind.i64 (r1 + (1 : Int))))).2.2 a2 + (1 : Int))) (1 : Int), g_Vs_l20Note_1 r0 (IntKind.wrap IntKind.i64 (g_Vs_l20Rd_odd_2 r0 (valO (g_Ls_l20Disk_0 a2 (0 : Int) [] r0 (g_pick r0 r1 (10 : Int), (0 : Int), [], IntKind.wrap IntKind.i64 (r1 + (1 : Int))))).2.2 a2 + (1 : Int))) (1 : Int), g_Vs_l20Note_2 r0 (IntKind.wrap IntKind.i64 (g_Vs_l20Rd_odd_2 r0 (valO (g_Ls_l20Disk_0 a2 (0 : Int) [] r0 (g_pick r0 r1 (10 : Int), (0 : Int), [], IntKind.wrap IntKind.i64 (r1 + (1 : Int))))).2.2 a2 + (1 : Int))) (1 : Int), g_Vs_l20Note_3 r0 (IntKind.wrap IntKind.i64 (g_Vs_l20Rd_odd_2 r0 (valO (g_Ls_l20Disk_0 a2 (0 : Int) [] r0 (g_pick r0 r1 (10 : Int), (0 : Int), [], IntKind.wrap IntKind.i64 (r1 + (1 : Int))))).2.2 a2 + (1 : Int))) (1 : Int))]) * nat_lit 64 ≤ nat_lit 140737488355328 ∧ List.length (valO (g_Ls_l20Disk_0 a2 (0 : Int) [] r0 (g_pick r0 r1 (10 : Int), (0 : Int), [], IntKind.wrap IntKind.i64 (r1 + (1 : Int))))).2.1 + List.length [(g_Vs_l20Note_0 r0 (IntKind.wrap IntKind.i64 (g_Vs_l20Rd_odd_2 r0 (valO (g_Ls_l20Disk_0 a2 (0 : Int) [] r0 (g_pick r0 r1 (10 : Int), (0 : Int), [], IntKind.wrap IntKind.i64 (r1 + (1 : Int))))).2.2 a2 + (1 : Int))) (1 : Int), g_Vs_l20Note_1 r0 (IntKind.wrap IntKind.i64 (g_Vs_l20Rd_odd_2 r0 (valO (g_Ls_l20Disk_0 a2 (0 : Int) [] r0 (g_pick r0 r1 (10 : Int), (0 : Int), [], IntKind.wrap IntKind.i64 (r1 + (1 : Int))))).2.2 a2 + (1 : Int))) (1 : Int), g_Vs_l20Note_2 r0 (IntKind.wrap IntKind.i64 (g_Vs_l20Rd_odd_2 r0 (valO (g_Ls_l20Disk_0 a2 (0 : Int) [] r0 (g_pick r0 r1 (10 : Int), (0 : Int), [], IntKind.wrap IntKind.i64 (r1 + (1 : Int))))).2.2 a2 + (1 : Int))) (1 : Int), g_Vs_l20Note_3 r0 (IntKind.wrap IntKind.i64 (g_Vs_l20Rd_odd_2 r0 (valO (g_Ls_l20Disk_0 a2 (0 : Int) [] r0 (g_pick r0 r1 (10 : Int), (0 : Int), [], IntKind.wrap IntKind.i64 (r1 + (1 : Int))))).2.2 a2 + (1 : Int))) (1 : Int))] ≤ nat_lit 9223372036854775807) else okO (g_Ls_l20Disk_3 (0 : Int) [] (valO (g_Ls_l20Disk_0 a2 (0 : Int) [] r0 (g_pick r0 r1 (10 : Int), (0 : Int), [], IntKind.wrap IntKind.i64 (r1 + (1 : Int))))).1 r0 (IntKind.wrap IntKind.i64 (g_Vs_l20Rd_odd_2 r0 (valO (g_Ls_l20Disk_0 a2 (0 : Int) [] r0 (g_pick r0 r1 (10 : Int), (0 : Int), [], IntKind.wrap IntKind.i64 (r1 + (1 : Int))))).2.2 a2 + (1 : Int))) (valO (g_Ls_l20Disk_0 a2 (0 : Int) [] r0 (g_pick r0 r1 (10 : Int), (0 : Int), [], IntKind.wrap IntKind.i64 (r1 + (1 : Int))))).2.1))))
noncomputable def g_Vs_l20Disk_0 (r0 : List Int) (r1 : Int) (a2 : Int) : List ((Int) × ((Int) × ((List (ByteArray)) × (List ((ByteArray) × ((Bool) × (List (Int)))))))) := bif g_Vs_l20Rd_odd_0 r0 (valO (g_Ls_l20Disk_0 a2 (0 : Int) [] r0 (g_pick r0 r1 (10 : Int), (0 : Int), [], IntKind.wrap IntKind.i64 (r1 + (1 : Int))))).2.2 a2 then bif g_pick r0 (g_Vs_l20Rd_odd_2 r0 (valO (g_Ls_l20Disk_0 a2 (0 : Int) [] r0 (g_pick r0 r1 (10 : Int), (0 : Int), [], IntKind.wrap IntKind.i64 (r1 + (1 : Int))))).2.2 a2) (3 : Int) == (0 : Int) then (valO (g_Ls_l20Disk_0 a2 (0 : Int) [] r0 (g_pick r0 r1 (10 : Int), (0 : Int), [], IntKind.wrap IntKind.i64 (r1 + (1 : Int))))).2.1 else bif g_pick r0 (g_Vs_l20Rd_odd_2 r0 (valO (g_Ls_l20Disk_0 a2 (0 : Int) [] r0 (g_pick r0 r1 (10 : Int), (0 : Int), [], IntKind.wrap IntKind.i64 (r1 + (1 : Int))))).2.2 a2) (3 : Int) == (1 : Int) then (valO (g_Ls_l20Disk_0 a2 (0 : Int) [] r0 (g_pick r0 r1 (10 : Int), (0 : Int), [], IntKind.wrap IntKind.i64 (r1 + (1 : Int))))).2.1 ++ [(g_Vs_l20Note_0 r0 (IntKind.wrap IntKind.i64 (g_Vs_l20Rd_odd_2 r0 (valO (g_Ls_l20Disk_0 a2 (0 : Int) [] r0 (g_pick r0 r1 (10 : Int), (0 : Int), [], IntKind.wrap IntKind.i64 (r1 + (1 : Int))))).2.2 a2 + (1 : Int))) (1 : Int), g_Vs_l20Note_1 r0 (IntKind.wrap IntKind.i64 (g_Vs_l20Rd_odd_2 r0 (valO (g_Ls_l20Disk_0 a2 (0 : Int) [] r0 (g_pick r0 r1 (10 : Int), (0 : Int), [], IntKind.wrap IntKind.i64 (r1 + (1 : Int))))).2.2 a2 + (1 : Int))) (1 : Int), g_Vs_l20Note_2 r0 (IntKind.wrap IntKind.i64 (g_Vs_l20Rd_odd_2 r0 (valO (g_Ls_l20Disk_0 a2 (0 : Int) [] r0 (g_pick r0 r1 (10 : Int), (0 : Int), [], IntKind.wrap IntKind.i64 (r1 + (1 : Int))))).2.2 a2 + (1 : Int))) (1 : Int), g_Vs_l20Note_3 r0 (IntKind.wrap IntKind.i64 (g_Vs_l20Rd_odd_2 r0 (valO (g_Ls_l20Disk_0 a2 (0 : Int) [] r0 (g_pick r0 r1 (10 : Int), (0 : Int), [], IntKind.wrap IntKind.i64 (r1 + (1 : Int))))).2.2 a2 + (1 : Int))) (1 : Int))] else valO (g_Ls_l20Disk_3 (0 : Int) [] (valO (g_Ls_l20Disk_0 a2 (0 : Int) [] r0 (g_pick r0 r1 (10 : Int), (0 : Int), [], IntKind.wrap IntKind.i64 (r1 + (1 : Int))))).1 r0 (IntKind.wrap IntKind.i64 (g_Vs_l20Rd_odd_2 r0 (valO (g_Ls_l20Disk_0 a2 (0 : Int) [] r0 (g_pick r0 r1 (10 : Int), (0 : Int), [], IntKind.wrap IntKind.i64 (r1 + (1 : Int))))).2.2 a2 + (1 : Int))) (valO (g_Ls_l20Disk_0 a2 (0 : Int) [] r0 (g_pick r0 r1 (10 : Int), (0 : Int), [], IntKind.wrap IntKind.i64 (r1 + (1 : Int))))).2.1) else (valO (g_Ls_l20Disk_0 a2 (0 : Int) [] r0 (g_pick r0 r1 (10 : Int), (0 : Int), [], IntKind.wrap IntKind.i64 (r1 + (1 : Int))))).2.1
noncomputable def g_Vs_l20Disk_1 (r0 : List Int) (r1 : Int) (a2 : Int) : Int := bif g_Vs_l20Rd_odd_0 r0 (valO (g_Ls_l20Disk_0 a2 (0 : Int) [] r0 (g_pick r0 r1 (10 : Int), (0 : Int), [], IntKind.wrap IntKind.i64 (r1 + (1 : Int))))).2.2 a2 then bif g_pick r0 (g_Vs_l20Rd_odd_2 r0 (valO (g_Ls_l20Disk_0 a2 (0 : Int) [] r0 (g_pick r0 r1 (10 : Int), (0 : Int), [], IntKind.wrap IntKind.i64 (r1 + (1 : Int))))).2.2 a2) (3 : Int) == (0 : Int) then at_ (Ty.int IntKind.i64) [(-1 : Int), IntKind.wrap IntKind.i64 ((↑(List.length (valO (g_Ls_l20Disk_0 a2 (0 : Int) [] r0 (g_pick r0 r1 (10 : Int), (0 : Int), [], IntKind.wrap IntKind.i64 (r1 + (1 : Int))))).2.1) : Int) + (1 : Int))] (Int.toNat (g_pick r0 (IntKind.wrap IntKind.i64 (g_Vs_l20Rd_odd_2 r0 (valO (g_Ls_l20Disk_0 a2 (0 : Int) [] r0 (g_pick r0 r1 (10 : Int), (0 : Int), [], IntKind.wrap IntKind.i64 (r1 + (1 : Int))))).2.2 a2 + (1 : Int))) (2 : Int))) else bif g_pick r0 (g_Vs_l20Rd_odd_2 r0 (valO (g_Ls_l20Disk_0 a2 (0 : Int) [] r0 (g_pick r0 r1 (10 : Int), (0 : Int), [], IntKind.wrap IntKind.i64 (r1 + (1 : Int))))).2.2 a2) (3 : Int) == (1 : Int) then (valO (g_Ls_l20Disk_0 a2 (0 : Int) [] r0 (g_pick r0 r1 (10 : Int), (0 : Int), [], IntKind.wrap IntKind.i64 (r1 + (1 : Int))))).1 else (valO (g_Ls_l20Disk_0 a2 (0 : Int) [] r0 (g_pick r0 r1 (10 : Int), (0 : Int), [], IntKind.wrap IntKind.i64 (r1 + (1 : Int))))).1 else (valO (g_Ls_l20Disk_0 a2 (0 : Int) [] r0 (g_pick r0 r1 (10 : Int), (0 : Int), [], IntKind.wrap IntKind.i64 (r1 + (1 : Int))))).1
noncomputable def g_Vs_l20Disk_2 (r0 : List Int) (r1 : Int) (a2 : Int) : List (Int) := bif g_Vs_l20Rd_odd_0 r0 (valO (g_Ls_l20Disk_0 a2 (0 : Int) [] r0 (g_pick r0 r1 (10 : Int), (0 : Int), [], IntKind.wrap IntKind.i64 (r1 + (1 : Int))))).2.2 a2 then bif g_pick r0 (g_Vs_l20Rd_odd_2 r0 (valO (g_Ls_l20Disk_0 a2 (0 : Int) [] r0 (g_pick r0 r1 (10 : Int), (0 : Int), [], IntKind.wrap IntKind.i64 (r1 + (1 : Int))))).2.2 a2) (3 : Int) == (0 : Int) then r0 else bif g_pick r0 (g_Vs_l20Rd_odd_2 r0 (valO (g_Ls_l20Disk_0 a2 (0 : Int) [] r0 (g_pick r0 r1 (10 : Int), (0 : Int), [], IntKind.wrap IntKind.i64 (r1 + (1 : Int))))).2.2 a2) (3 : Int) == (1 : Int) then r0 else r0 else r0
noncomputable def g_Vs_l20Disk_3 (r0 : List Int) (r1 : Int) (a2 : Int) : Int := bif g_Vs_l20Rd_odd_0 r0 (valO (g_Ls_l20Disk_0 a2 (0 : Int) [] r0 (g_pick r0 r1 (10 : Int), (0 : Int), [], IntKind.wrap IntKind.i64 (r1 + (1 : Int))))).2.2 a2 then bif g_pick r0 (g_Vs_l20Rd_odd_2 r0 (valO (g_Ls_l20Disk_0 a2 (0 : Int) [] r0 (g_pick r0 r1 (10 : Int), (0 : Int), [], IntKind.wrap IntKind.i64 (r1 + (1 : Int))))).2.2 a2) (3 : Int) == (0 : Int) then IntKind.wrap IntKind.i64 (IntKind.wrap IntKind.i64 (g_Vs_l20Rd_odd_2 r0 (valO (g_Ls_l20Disk_0 a2 (0 : Int) [] r0 (g_pick r0 r1 (10 : Int), (0 : Int), [], IntKind.wrap IntKind.i64 (r1 + (1 : Int))))).2.2 a2 + (1 : Int)) + (1 : Int)) else bif g_pick r0 (g_Vs_l20Rd_odd_2 r0 (valO (g_Ls_l20Disk_0 a2 (0 : Int) [] r0 (g_pick r0 r1 (10 : Int), (0 : Int), [], IntKind.wrap IntKind.i64 (r1 + (1 : Int))))).2.2 a2) (3 : Int) == (1 : Int) then g_Vs_l20Note_5 r0 (IntKind.wrap IntKind.i64 (g_Vs_l20Rd_odd_2 r0 (valO (g_Ls_l20Disk_0 a2 (0 : Int) [] r0 (g_pick r0 r1 (10 : Int), (0 : Int), [], IntKind.wrap IntKind.i64 (r1 + (1 : Int))))).2.2 a2 + (1 : Int))) (1 : Int) else IntKind.wrap IntKind.i64 (g_Vs_l20Rd_odd_2 r0 (valO (g_Ls_l20Disk_0 a2 (0 : Int) [] r0 (g_pick r0 r1 (10 : Int), (0 : Int), [], IntKind.wrap IntKind.i64 (r1 + (1 : Int))))).2.2 a2 + (1 : Int)) else g_Vs_l20Rd_odd_2 r0 (valO (g_Ls_l20Disk_0 a2 (0 : Int) [] r0 (g_pick r0 r1 (10 : Int), (0 : Int), [], IntKind.wrap IntKind.i64 (r1 + (1 : Int))))).2.2 a2
noncomputable def Fs_l20Disk : FSem := fun ys => match ys with
  | [.val true [.sl .any 5 (.int .u8) r0, .int .i64 r1], .val false [.int .i64 a2]] => some ((g_As_l20Disk r0 r1 a2), .val true [.own .any false 59 (.pair (.int .i64) (.pair (.int .i64) (.pair (.sl 9 .str) (.sl 83 (.pair .str (.pair .bool (.sl 3 (.int .i64)))))))) (g_Vs_l20Disk_0 r0 r1 a2), .int .i64 (g_Vs_l20Disk_1 r0 r1 a2)], [[.sl .any 5 (.int .u8) (g_Vs_l20Disk_2 r0 r1 a2), .int .i64 (g_Vs_l20Disk_3 r0 r1 a2)]])
  | _ => none
theorem vs_l20Disk (r0 : List Int) (r1 : Int) (a2 : Int) : collapseH .sh Es_l20Disk Os_l20Disk_2 (execFn Es_l20Disk Go.Proofs.Tryd.f71 mss_l20Disk [.val true [.sl .any 5 (.int .u8) r0, .int .i64 r1], .val false [.int .i64 a2]]) = some ((g_As_l20Disk r0 r1 a2), .val true [.own .any false 59 (.pair (.int .i64) (.pair (.int .i64) (.pair (.sl 9 .str) (.sl 83 (.pair .str (.pair .bool (.sl 3 (.int .i64)))))))) (g_Vs_l20Disk_0 r0 r1 a2), .int .i64 (g_Vs_l20Disk_1 r0 r1 a2)], [[.sl .any 5 (.int .u8) (g_Vs_l20Disk_2 r0 r1 a2), .int .i64 (g_Vs_l20Disk_3 r0 r1 a2)]]) := by kernel_rfl
theorem ss_l20Disk : Sound Go.Proofs.Tryd.prog 71 mss_l20Disk Fs_l20Disk := by
  refine fn_gen goods_l20Disk (by kernel_rfl) .sh (fn := Go.Proofs.Tryd.f71) (c := (Go.Proofs.Tryd.f71.body.getD .skip)) (o := Os_l20Disk_2) (k := 2) (by kernel_rfl) (by kernel_rfl) (by kernel_rfl) (by kernel_rfl) (by decide) ks_l20Disk_2 ?_
  intro ys r outs h
  unfold Fs_l20Disk at h
  split at h
  · exact (vs_l20Disk _ _ _).trans h
  · cases h
end Go.Proofs.YtibafhmmnoijkaaDoor.E
end
section
namespace Go.Proofs.YtibafhmmnoijkaaDoor.E
open Go
set_option maxRecDepth 100000
set_option linter.all false
noncomputable def mss_l20DiskR : List PM := mss_l20Disk
theorem sames_l20Disk (r0 : List Int) (r1 : Int) (a2 : Int) : g_Vs_l20Disk_2 r0 r1 a2 = r0 := by
  unfold g_Vs_l20Disk_2
  simp only [Bool.cond_self]
noncomputable def Fs_l20DiskR : FSem := fun ys => match ys with
  | [.val true [.sl .any 5 (.int .u8) r0, .int .i64 r1], .val false [.int .i64 a2]] => some ((g_As_l20Disk r0 r1 a2), .val true [.own .any false 59 (.pair (.int .i64) (.pair (.int .i64) (.pair (.sl 9 .str) (.sl 83 (.pair .str (.pair .bool (.sl 3 (.int .i64)))))))) (g_Vs_l20Disk_0 r0 r1 a2), .int .i64 (g_Vs_l20Disk_1 r0 r1 a2)], [[.sl .any 5 (.int .u8) r0, .int .i64 (g_Vs_l20Disk_3 r0 r1 a2)]])
  | _ => none
theorem ss_l20DiskR : Sound Go.Proofs.Tryd.prog 71 mss_l20DiskR Fs_l20DiskR := by
  refine ⟨ss_l20Disk.fn, fun w S ψ ys vs r outs hF hh hg => ss_l20Disk.calls w S ψ ys vs r outs (Eq.trans ?_ hF) hh hg⟩
  unfold Fs_l20DiskR at hF ⊢
  split at hF
  · rename_i  r0 r1 a2
    show (some ((g_As_l20Disk r0 r1 a2), .val true [.own .any false 59 (.pair (.int .i64) (.pair (.int .i64) (.pair (.sl 9 .str) (.sl 83 (.pair .str (.pair .bool (.sl 3 (.int .i64)))))))) (g_Vs_l20Disk_0 r0 r1 a2), .int .i64 (g_Vs_l20Disk_1 r0 r1 a2)], [[.sl .any 5 (.int .u8) (g_Vs_l20Disk_2 r0 r1 a2), .int .i64 (g_Vs_l20Disk_3 r0 r1 a2)]]) : Option (Bool × RV × List (List Cell))) = _
    rw [sames_l20Disk]
  · cases hF
end Go.Proofs.YtibafhmmnoijkaaDoor.E
end
section
namespace Go.Proofs.YtibafhmmnoijkaaDoor.E
open Go
set_option maxRecDepth 100000
set_option maxHeartbeats 0
set_option linter.all false
noncomputable def Es_l20Open : Env where
  tt := mkTI Go.Proofs.Tryd.prog
  fn := fun _ => none
  bxf := fun _ => none
  mv := []
  keep := fun _ => []
  keepB := fun _ => []
  keepX := fun _ => []
  keepXB := fun _ => []
theorem goodFs_l20Open : ∀ f ms F, Es_l20Open.fn f = some (ms, F) → Sound Go.Proofs.Tryd.prog f ms F := fun f ms F h => by cases h
theorem goodBs_l20Open : ∀ f ms F, Es_l20Open.bxf f = some (ms, F) → SoundB Go.Proofs.Tryd.prog f ms F := fun f ms F h => by cases h
theorem goods_l20Open : Good Go.Proofs.Tryd.prog Es_l20Open := ⟨rfl, goodFs_l20Open, goodBs_l20Open⟩
noncomputable def Os_l20Open_0 : Orc := fun _ _ => none
noncomputable def mss_l20Open : List PM := [.fz]
noncomputable def lss_l20Open : List (Nat × Code) := loopsAll 0 (Go.Proofs.Tryd.f70.body.getD .skip)

theorem ks_l20Open_0 : OrcOk Es_l20Open Os_l20Open_0 lss_l20Open 0 := orcOk_none
noncomputable def g_As_l20Open (a0 : List (Int)) : Bool := Bool.rec (!decide ((↑(List.length a0) : Int) > (2000 : Int)) && true) true (decide ((0 : Int) ≤ (2000 : Int) ∧ (2000 : Int) ≤ (↑(List.length a0) : Int)) && true)
noncomputable def g_Vs_l20Open_0 (a0 : List (Int)) : List (Int) := bif decide ((↑(List.length a0) : Int) > (2000 : Int)) then List.drop (nat_lit 0) (List.take (nat_lit 2000) a0) else a0
noncomputable def g_Vs_l20Open_1 (a0 : List (Int)) : Int := bif decide ((↑(List.length a0) : Int) > (2000 : Int)) then (0 : Int) else (0 : Int)
noncomputable def Fs_l20Open : List RV → Option (Bool × List Cell × List (List Cell)) := fun ys => match ys with
  | [.val false [.sl .any 5 (.int .u8) a0]] => some ((g_As_l20Open a0), [.sl .any 5 (.int .u8) (g_Vs_l20Open_0 a0), .int .i64 (g_Vs_l20Open_1 a0)], [])
  | _ => none
theorem vs_l20Open (a0 : List (Int)) : collapse Es_l20Open Os_l20Open_0 (execFnB Es_l20Open Go.Proofs.Tryd.f70 mss_l20Open 2 [.val false [.sl .any 5 (.int .u8) a0]]) = some ((g_As_l20Open a0), .val true [.sl .any 5 (.int .u8) (g_Vs_l20Open_0 a0), .int .i64 (g_Vs_l20Open_1 a0)], []) := by kernel_rfl
theorem ss_l20Open : SoundB Go.Proofs.Tryd.prog 70 mss_l20Open Fs_l20Open := by
  refine fn_genB goods_l20Open (by kernel_rfl) (fn := Go.Proofs.Tryd.f70) (c := (Go.Proofs.Tryd.f70.body.getD .skip)) (o := Os_l20Open_0) (k := 0) (tr := 2) (by kernel_rfl) (by kernel_rfl) (by kernel_rfl) (by kernel_rfl) (by decide) (by kernel_rfl) (by decide) ks_l20Open_0 ?_
  intro ys r outs h
  unfold Fs_l20Open at h
  split at h
  · simp only [Option.some.injEq, Prod.mk.injEq] at h
    obtain ⟨h1, h2, h3⟩ := h
    refine ⟨h3.symm, (vs_l20Open _).trans ?_⟩
    rw [h1, h2]
  · cases h
end Go.Proofs.YtibafhmmnoijkaaDoor.E
end
section
namespace Go.Proofs.YtibafhmmnoijkaaDoor.E
open Go
set_option maxRecDepth 100000
set_option maxHeartbeats 0
set_option linter.all false
noncomputable def Es_DrawDiskFall : Env where
  tt := mkTI Go.Proofs.Tryd.prog
  fn := fun f => match f with
    | 71 => some (mss_l20DiskR, FSem.wk mss_l20DiskR Fs_l20DiskR)
    | 72 => some (mss_l20Rd_pick, FSem.wk mss_l20Rd_pick Fs_l20Rd_pick)
    | _ => none
  bxf := fun f => match f with
    | 70 => some (mss_l20Open, Fs_l20Open)
    | _ => none
  mv := []
  keep := fun _ => []
  keepB := fun _ => []
  keepX := fun _ => []
  keepXB := fun _ => []
theorem goodFs_DrawDiskFall : ∀ f ms F, Es_DrawDiskFall.fn f = some (ms, F) → Sound Go.Proofs.Tryd.prog f ms F := fun f ms F h => by
  unfold Es_DrawDiskFall at h
  dsimp only at h
  split at h
  · injection h with h; injection h with e1 e2; subst e1 e2; exact Sound.wk ss_l20DiskR
  · injection h with h; injection h with e1 e2; subst e1 e2; exact Sound.wk ss_l20Rd_pick
  · cases h
theorem goodBs_DrawDiskFall : ∀ f ms F, Es_DrawDiskFall.bxf f = some (ms, F) → SoundB Go.Proofs.Tryd.prog f ms F := fun f ms F h => by
  unfold Es_DrawDiskFall at h
  dsimp only at h
  split at h
  · injection h with h; injection h with e1 e2; subst e1 e2; exact ss_l20Open
  · cases h
theorem goods_DrawDiskFall : Good Go.Proofs.Tryd.prog Es_DrawDiskFall := ⟨rfl, goodFs_DrawDiskFall, goodBs_DrawDiskFall⟩
noncomputable def Os_DrawDiskFall_0 : Orc := fun _ _ => none
noncomputable def mss_DrawDiskFall : List PM := [.fz]
noncomputable def lss_DrawDiskFall : List (Nat × Code) := loopsAll 0 (Go.Proofs.Tryd.f33.body.getD .skip)

theorem ks_DrawDiskFall_0 : OrcOk Es_DrawDiskFall Os_DrawDiskFall_0 lss_DrawDiskFall 0 := orcOk_none
noncomputable def g_As_DrawDiskFall (a0 : List (Int)) : Bool := g_As_l20Open a0 && (g_As_l20Disk (g_Vs_l20Open_0 a0) (g_Vs_l20Open_1 a0) (9 : Int) && (g_pickA (g_Vs_l20Open_0 a0) (g_Vs_l20Disk_3 (g_Vs_l20Open_0 a0) (g_Vs_l20Open_1 a0) (9 : Int)) (6 : Int) && (g_pickA (g_Vs_l20Open_0 a0) (IntKind.wrap IntKind.i64 (g_Vs_l20Disk_3 (g_Vs_l20Open_0 a0) (g_Vs_l20Open_1 a0) (9 : Int) + (1 : Int))) (5 : Int) && (decide ((0 : Int) ≤ g_pick (g_Vs_l20Open_0 a0) (IntKind.wrap IntKind.i64 (g_Vs_l20Disk_3 (g_Vs_l20Open_0 a0) (g_Vs_l20Open_1 a0) (9 : Int) + (1 : Int))) (5 : Int) ∧ g_pick (g_Vs_l20Open_0 a0) (IntKind.wrap IntKind.i64 (g_Vs_l20Disk_3 (g_Vs_l20Open_0 a0) (g_Vs_l20Open_1 a0) (9 : Int) + (1 : Int))) (5 : Int) < (5 : Int)) && (decide (Int.toNat (g_pick (g_Vs_l20Open_0 a0) (IntKind.wrap IntKind.i64 (g_Vs_l20Disk_3 (g_Vs_l20Open_0 a0) (g_Vs_l20Open_1 a0) (9 : Int) + (1 : Int))) (5 : Int)) < nat_lit 5) && (decide ((0 : Int) ≤ at_ (Ty.int IntKind.i64) [(0 : Int), (0 : Int), (0 : Int), (1 : Int), (2 : Int)] (Int.toNat (g_pick (g_Vs_l20Open_0 a0) (IntKind.wrap IntKind.i64 (g_Vs_l20Disk_3 (g_Vs_l20Open_0 a0) (g_Vs_l20Open_1 a0) (9 : Int) + (1 : Int))) (5 : Int))) ∧ at_ (Ty.int IntKind.i64) [(0 : Int), (0 : Int), (0 : Int), (1 : Int), (2 : Int)] (Int.toNat (g_pick (g_Vs_l20Open_0 a0) (IntKind.wrap IntKind.i64 (g_Vs_l20Disk_3 (g_Vs_l20Open_0 a0) (g_Vs_l20Open_1 a0) (9 : Int) + (1 : Int))) (5 : Int))) < (↑(List.length [g_pick (g_Vs_l20Open_0 a0) (g_Vs_l20Disk_3 (g_Vs_l20Open_0 a0) (g_Vs_l20Open_1 a0) (9 : Int)) (6 : Int), (-1 : Int), (9223372036854775807 : Int)]) : Int)) && decide (Int.toNat (at_ (Ty.int IntKind.i64) [(0 : Int), (0 : Int), (0 : Int), (1 : Int), (2 : Int)] (Int.toNat (g_pick (g_Vs_l20Open_0 a0) (IntKind.wrap IntKind.i64 (g_Vs_l20Disk_3 (g_Vs_l20Open_0 a0) (g_Vs_l20Open_1 a0) (9 : Int) + (1 : Int))) (5 : Int)))) < List.length [g_pick (g_Vs_l20Open_0 a0) (g_Vs_l20Disk_3 (g_Vs_l20Open_0 a0) (g_Vs_l20Open_1 a0) (9 : Int)) (6 : Int), (-1 : Int), (9223372036854775807 : Int)])))))))
noncomputable def g_Vs_DrawDiskFall_0 (a0 : List (Int)) : List ((Int) × ((Int) × ((List (ByteArray)) × (List ((ByteArray) × ((Bool) × (List (Int)))))))) := g_Vs_l20Disk_0 (g_Vs_l20Open_0 a0) (g_Vs_l20Open_1 a0) (9 : Int)
noncomputable def g_Vs_DrawDiskFall_1 (a0 : List (Int)) : Int := g_Vs_l20Disk_1 (g_Vs_l20Open_0 a0) (g_Vs_l20Open_1 a0) (9 : Int)
noncomputable def g_Vs_DrawDiskFall_2 (a0 : List (Int)) : Int := at_ (Ty.int IntKind.i64) [g_pick (g_Vs_l20Open_0 a0) (g_Vs_l20Disk_3 (g_Vs_l20Open_0 a0) (g_Vs_l20Open_1 a0) (9 : Int)) (6 : Int), (-1 : Int), (9223372036854775807 : Int)] (Int.toNat (at_ (Ty.int IntKind.i64) [(0 : Int), (0 : Int), (0 : Int), (1 : Int), (2 : Int)] (Int.toNat (g_pick (g_Vs_l20Open_0 a0) (IntKind.wrap IntKind.i64 (g_Vs_l20Disk_3 (g_Vs_l20Open_0 a0) (g_Vs_l20Open_1 a0) (9 : Int) + (1 : Int))) (5 : Int)))))
noncomputable def Fs_DrawDiskFall : FSem := fun ys => match ys with
  | [.val false [.sl .any 5 (.int .u8) a0]] => some ((g_As_DrawDiskFall a0), .tup [(true, [.own .any false 59 (.pair (.int .i64) (.pair (.int .i64) (.pair (.sl 9 .str) (.sl 83 (.pair .str (.pair .bool (.sl 3 (.int .i64)))))))) (g_Vs_DrawDiskFall_0 a0), .int .i64 (g_Vs_DrawDiskFall_1 a0)]), (false, [.int .i64 (g_Vs_DrawDiskFall_2 a0)])], [])
  | _ => none
theorem vs_DrawDiskFall (a0 : List (Int)) : collapseH .std Es_DrawDiskFall Os_DrawDiskFall_0 (execFn Es_DrawDiskFall Go.Proofs.Tryd.f33 mss_DrawDiskFall [.val false [.sl .any 5 (.int .u8) a0]]) = some ((g_As_DrawDiskFall a0), .tup [(true, [.own .any false 59 (.pair (.int .i64) (.pair (.int .i64) (.pair (.sl 9 .str) (.sl 83 (.pair .str (.pair .bool (.sl 3 (.int .i64)))))))) (g_Vs_DrawDiskFall_0 a0), .int .i64 (g_Vs_DrawDiskFall_1 a0)]), (false, [.int .i64 (g_Vs_DrawDiskFall_2 a0)])], []) := by kernel_rfl
theorem ss_DrawDiskFall : Sound Go.Proofs.Tryd.prog 33 mss_DrawDiskFall Fs_DrawDiskFall := by
  refine fn_gen goods_DrawDiskFall (by kernel_rfl) .std (fn := Go.Proofs.Tryd.f33) (c := (Go.Proofs.Tryd.f33.body.getD .skip)) (o := Os_DrawDiskFall_0) (k := 0) (by kernel_rfl) (by kernel_rfl) (by kernel_rfl) (by kernel_rfl) (by decide) ks_DrawDiskFall_0 ?_
  intro ys r outs h
  unfold Fs_DrawDiskFall at h
  split at h
  · exact (vs_DrawDiskFall _).trans h
  · cases h
end Go.Proofs.YtibafhmmnoijkaaDoor.E
end
section
namespace Go.Proofs.YtibafhmmnoijkaaDoor.E
open Go
set_option maxRecDepth 100000
set_option maxHeartbeats 0
set_option linter.all false
noncomputable def Ew_jaTexts : Env where
  tt := mkTI Go.Proofs.Tryd.prog
  fn := fun _ => none
  bxf := fun _ => none
  mv := []
  keep := fun b => match b with
    | 0 => [(0, false), (1, false), (5, false)]
    | _ => []
  keepB := fun b => match b with
    | 0 => []
    | _ => []
  keepX := fun b => match b with
    | 0 => [(4, false)]
    | _ => []
  keepXB := fun b => match b with
    | 0 => []
    | _ => []
theorem goodFw_jaTexts : ∀ f ms F, Ew_jaTexts.fn f = some (ms, F) → Sound Go.Proofs.Tryd.prog f ms F := fun f ms F h => by cases h
theorem goodBw_jaTexts : ∀ f ms F, Ew_jaTexts.bxf f = some (ms, F) → SoundB Go.Proofs.Tryd.prog f ms F := fun f ms F h => by cases h
theorem goodw_jaTexts : Good Go.Proofs.Tryd.prog Ew_jaTexts := ⟨rfl, goodFw_jaTexts, goodBw_jaTexts⟩
noncomputable def Ow_jaTexts_0 : Orc := fun _ _ => none
noncomputable def msw_jaTexts : List PM := [.rd, .rd]
noncomputable def lsw_jaTexts : List (Nat × Code) := loopsAll 0 (Go.Proofs.Tryd.f126.body.getD .skip)
noncomputable def cw_jaTexts_0 : Code := (loopOf 0 (Go.Proofs.Tryd.f126.body.getD .skip)).getD .skip
theorem lseqw_jaTexts : lsw_jaTexts = [(0, cw_jaTexts_0)] := by kernel_rfl
theorem mw_jaTexts_0 : ∀ p, p ∈ lsw_jaTexts → p.1 = 0 → p.2 = cw_jaTexts_0 := by
  intro p hp
  rw [lseqw_jaTexts] at hp
  simp only [List.mem_cons, List.not_mem_nil, or_false] at hp
  subst hp; simp
theorem kw_jaTexts_0 : OrcOk Ew_jaTexts Ow_jaTexts_0 lsw_jaTexts 0 := orcOk_none
noncomputable def hw_jaTexts_0 (y0 : List (ByteArray)) (y1 : List (ByteArray)) (y2 : Int) : List (Pl × LV) := [(.T 0, .t (.val false [.sl .any 9 .str y0])), (.T 1, .t (.val false [.sl .any 9 .str y1])), (.T 5, .t (.val false [.int .i64 y2]))]
noncomputable def g_Sw_jaTexts_0 (y0 : List (ByteArray)) (y1 : List (ByteArray)) : ((Int)) → RT ((Int)) (((Bool)) ⊕ (Unit))
  | y2 => .br (true) (.br (decide (y2 < (↑(List.length y0) : Int))) (.br (decide ((0 : Int) ≤ y2 ∧ y2 < (↑(List.length y0) : Int))) (.br (decide ((0 : Int) ≤ y2 ∧ y2 < (↑(List.length y1) : Int))) (.br (true) (.br (!ByteArray.toList (at_ Ty.str y0 (Int.toNat y2)) == ByteArray.toList (at_ Ty.str y1 (Int.toNat y2))) (.out (.inl false)) (.br (true) (.go (IntKind.wrap IntKind.i64 (y2 + (1 : Int)))) (.bad))) (.bad)) (.bad)) (.bad)) (.out (.inr (())))) (.bad)
noncomputable def g_Lw_jaTexts_0 (y0 : List (ByteArray)) (y1 : List (ByteArray)) (x : (Int)) : Option (((Bool)) ⊕ (Unit)) := loopO (g_Sw_jaTexts_0 y0 y1) x
noncomputable def xw_jaTexts_0 (y0 : List (ByteArray)) (y1 : List (ByteArray)) : (((Bool)) ⊕ (Unit)) → Ex × List (Pl × LV) := fun
  | .inl r => (.ret, [(.T 4, .t (.val false [.bool r]))])
  | .inr (r) => (.exit 0, [(.T 4, .t (.val false [.undef]))])
noncomputable def Ow_jaTexts_1 : Orc := fun b h => match b, h with
  | 0, [(.T 0, .t (.val false [.sl .any 9 .str y0])), (.T 1, .t (.val false [.sl .any 9 .str y1])), (.T 5, .t (.val false [.int .i64 y2]))] => some (okO (g_Lw_jaTexts_0 y0 y1 y2), (.br (isL (valO (g_Lw_jaTexts_0 y0 y1 y2))) (.leaf .ret [(.T 4, .t (.val false [.bool (getL (valO (g_Lw_jaTexts_0 y0 y1 y2)))]))]) (.leaf (.exit 0) [(.T 4, .t (.val false [.undef]))])))
  | b, h => Ow_jaTexts_0 b h
theorem bw_jaTexts_0 (y0 : List (ByteArray)) (y1 : List (ByteArray)) (y2 : Int) : Tr.bt Ew_jaTexts Ow_jaTexts_0 (exec Ew_jaTexts 0 cw_jaTexts_0 (St.of (hw_jaTexts_0 y0 y1 y2)) (leafRd Ew_jaTexts 0)) = (g_Sw_jaTexts_0 y0 y1 y2).bt (fun (y2 : (Int)) => (hw_jaTexts_0 y0 y1 y2)) (xw_jaTexts_0 y0 y1) := by kernel_rfl
theorem kw_jaTexts_1 : OrcOk Ew_jaTexts Ow_jaTexts_1 lsw_jaTexts 1 := orc_add kw_jaTexts_0 (fun n p hp h ex h' ho => by
  obtain ⟨b, c⟩ := p
  obtain ⟨xt, h1, h2⟩ := ho
  have h1 : Ow_jaTexts_1 b h = some (true, xt) := h1
  unfold Ow_jaTexts_1 at h1
  split at h1
  · injection h1 with h1
    injection h1 with e1 e2
    subst e2
    have hc : c = cw_jaTexts_0 := mw_jaTexts_0 _ hp rfl
    subst hc
    right
    rename_i y0 y1 y2
    have key := LT_step kw_jaTexts_0 hp (fun q hq => loopsAll_in _ _ _ _ hp hq) (fun (y2 : (Int)) => (hw_jaTexts_0 y0 y1 y2)) (xw_jaTexts_0 y0 y1) (g_Sw_jaTexts_0 y0 y1) (fun x => by first | exact bw_jaTexts_0 y0 y1 x) n (x := y2) (okO_some e1)
    have hx : ∀ r, XT.sel (.br (isL r) (.leaf .ret [(.T 4, .t (.val false [.bool (getL r)]))]) (.leaf (.exit 0) [(.T 4, .t (.val false [.undef]))])) = xw_jaTexts_0 y0 y1 r := fun r => by first | rfl | (rcases r with r | r <;> rfl) | (rcases r with r | r | r <;> rfl) | (rcases r with r | r | r | r <;> rfl)
    have h3 := (hx (valO (g_Lw_jaTexts_0 y0 y1 y2))).symm.trans h2
    have e3 := congrArg Prod.fst h3
    have e4 := congrArg Prod.snd h3
    simp only at e3 e4
    rw [← e3, ← e4]
    exact key
  · exact .inl ⟨xt, h1, h2⟩)
noncomputable def g_Aw_jaTexts (a0 : List (ByteArray)) (a1 : List (ByteArray)) : Bool := (↑(List.length a0) : Int) != (↑(List.length a1) : Int) || okO (g_Lw_jaTexts_0 a0 a1 (0 : Int))
noncomputable def g_Vw_jaTexts_0 (a0 : List (ByteArray)) (a1 : List (ByteArray)) : Bool := bif (↑(List.length a0) : Int) != (↑(List.length a1) : Int) then false else bif isL (valO (g_Lw_jaTexts_0 a0 a1 (0 : Int))) then getL (valO (g_Lw_jaTexts_0 a0 a1 (0 : Int))) else true
noncomputable def Fw_jaTexts : FSem := fun ys => match ys with
  | [.val false [.sl .any 9 .str a0], .val false [.sl .any 9 .str a1]] => some ((g_Aw_jaTexts a0 a1), .val false [.bool (g_Vw_jaTexts_0 a0 a1)], [])
  | _ => none
theorem vw_jaTexts (a0 : List (ByteArray)) (a1 : List (ByteArray)) : collapseH .std Ew_jaTexts Ow_jaTexts_1 (execFn Ew_jaTexts Go.Proofs.Tryd.f126 msw_jaTexts [.val false [.sl .any 9 .str a0], .val false [.sl .any 9 .str a1]]) = some ((g_Aw_jaTexts a0 a1), .val false [.bool (g_Vw_jaTexts_0 a0 a1)], []) := by kernel_rfl
theorem sw_jaTexts : Sound Go.Proofs.Tryd.prog 126 msw_jaTexts Fw_jaTexts := by
  refine fn_gen goodw_jaTexts (by kernel_rfl) .std (fn := Go.Proofs.Tryd.f126) (c := (Go.Proofs.Tryd.f126.body.getD .skip)) (o := Ow_jaTexts_1) (k := 1) (by kernel_rfl) (by kernel_rfl) (by kernel_rfl) (by kernel_rfl) (by decide) kw_jaTexts_1 ?_
  intro ys r outs h
  unfold Fw_jaTexts at h
  split at h
  · exact (vw_jaTexts _ _).trans h
  · cases h
end Go.Proofs.YtibafhmmnoijkaaDoor.E
end
section
namespace Go.Proofs.YtibafhmmnoijkaaDoor.E
open Go
set_option maxRecDepth 100000
set_option maxHeartbeats 0
set_option linter.all false
noncomputable def Ew_jaInts : Env where
  tt := mkTI Go.Proofs.Tryd.prog
  fn := fun _ => none
  bxf := fun _ => none
  mv := []
  keep := fun b => match b with
    | 0 => [(0, false), (1, false), (5, false)]
    | _ => []
  keepB := fun b => match b with
    | 0 => []
    | _ => []
  keepX := fun b => match b with
    | 0 => [(4, false)]
    | _ => []
  keepXB := fun b => match b with
    | 0 => []
    | _ => []
theorem goodFw_jaInts : ∀ f ms F, Ew_jaInts.fn f = some (ms, F) → Sound Go.Proofs.Tryd.prog f ms F := fun f ms F h => by cases h
theorem goodBw_jaInts : ∀ f ms F, Ew_jaInts.bxf f = some (ms, F) → SoundB Go.Proofs.Tryd.prog f ms F := fun f ms F h => by cases h
theorem goodw_jaInts : Good Go.Proofs.Tryd.prog Ew_jaInts := ⟨rfl, goodFw_jaInts, goodBw_jaInts⟩
noncomputable def Ow_jaInts_0 : Orc := fun _ _ => none
noncomputable def msw_jaInts : List PM := [.rd, .rd]
noncomputable def lsw_jaInts : List (Nat × Code) := loopsAll 0 (Go.Proofs.Tryd.f98.body.getD .skip)
noncomputable def cw_jaInts_0 : Code := (loopOf 0 (Go.Proofs.Tryd.f98.body.getD .skip)).getD .skip
theorem lseqw_jaInts : lsw_jaInts = [(0, cw_jaInts_0)] := by kernel_rfl
theorem mw_jaInts_0 : ∀ p, p ∈ lsw_jaInts → p.1 = 0 → p.2 = cw_jaInts_0 := by
  intro p hp
  rw [lseqw_jaInts] at hp
  simp only [List.mem_cons, List.not_mem_nil, or_false] at hp
  subst hp; simp
theorem kw_jaInts_0 : OrcOk Ew_jaInts Ow_jaInts_0 lsw_jaInts 0 := orcOk_none
noncomputable def hw_jaInts_0 (y0 : List (Int)) (y1 : List (Int)) (y2 : Int) : List (Pl × LV) := [(.T 0, .t (.val false [.sl .any 3 (.int .i64) y0])), (.T 1, .t (.val false [.sl .any 3 (.int .i64) y1])), (.T 5, .t (.val false [.int .i64 y2]))]
noncomputable def g_Sw_jaInts_0 (y0 : List (Int)) (y1 : List (Int)) : ((Int)) → RT ((Int)) (((Bool)) ⊕ (Unit))
  | y2 => .br (true) (.br (decide (y2 < (↑(List.length y0) : Int))) (.br (decide ((0 : Int) ≤ y2 ∧ y2 < (↑(List.length y0) : Int))) (.br (decide ((0 : Int) ≤ y2 ∧ y2 < (↑(List.length y1) : Int))) (.br (true) (.br (at_ (Ty.int IntKind.i64) y0 (Int.toNat y2) != at_ (Ty.int IntKind.i64) y1 (Int.toNat y2)) (.out (.inl false)) (.br (true) (.go (IntKind.wrap IntKind.i64 (y2 + (1 : Int)))) (.bad))) (.bad)) (.bad)) (.bad)) (.out (.inr (())))) (.bad)
noncomputable def g_Lw_jaInts_0 (y0 : List (Int)) (y1 : List (Int)) (x : (Int)) : Option (((Bool)) ⊕ (Unit)) := loopO (g_Sw_jaInts_0 y0 y1) x
noncomputable def xw_jaInts_0 (y0 : List (Int)) (y1 : List (Int)) : (((Bool)) ⊕ (Unit)) → Ex × List (Pl × LV) := fun
  | .inl r => (.ret, [(.T 4, .t (.val false [.bool r]))])
  | .inr (r) => (.exit 0, [(.T 4, .t (.val false [.undef]))])
noncomputable def Ow_jaInts_1 : Orc := fun b h => match b, h with
  | 0, [(.T 0, .t (.val false [.sl .any 3 (.int .i64) y0])), (.T 1, .t (.val false [.sl .any 3 (.int .i64) y1])), (.T 5, .t (.val false [.int .i64 y2]))] => some (okO (g_Lw_jaInts_0 y0 y1 y2), (.br (isL (valO (g_Lw_jaInts_0 y0 y1 y2))) (.leaf .ret [(.T 4, .t (.val false [.bool (getL (valO (g_Lw_jaInts_0 y0 y1 y2)))]))]) (.leaf (.exit 0) [(.T 4, .t (.val false [.undef]))])))
  | b, h => Ow_jaInts_0 b h
theorem bw_jaInts_0 (y0 : List (Int)) (y1 : List (Int)) (y2 : Int) : Tr.bt Ew_jaInts Ow_jaInts_0 (exec Ew_jaInts 0 cw_jaInts_0 (St.of (hw_jaInts_0 y0 y1 y2)) (leafRd Ew_jaInts 0)) = (g_Sw_jaInts_0 y0 y1 y2).bt (fun (y2 : (Int)) => (hw_jaInts_0 y0 y1 y2)) (xw_jaInts_0 y0 y1) := by kernel_rfl
theorem kw_jaInts_1 : OrcOk Ew_jaInts Ow_jaInts_1 lsw_jaInts 1 := orc_add kw_jaInts_0 (fun n p hp h ex h' ho => by
  obtain ⟨b, c⟩ := p
  obtain ⟨xt, h1, h2⟩ := ho
  have h1 : Ow_jaInts_1 b h = some (true, xt) := h1
  unfold Ow_jaInts_1 at h1
  split at h1
  · injection h1 with h1
    injection h1 with e1 e2
    subst e2
    have hc : c = cw_jaInts_0 := mw_jaInts_0 _ hp rfl
    subst hc
    right
    rename_i y0 y1 y2
    have key := LT_step kw_jaInts_0 hp (fun q hq => loopsAll_in _ _ _ _ hp hq) (fun (y2 : (Int)) => (hw_jaInts_0 y0 y1 y2)) (xw_jaInts_0 y0 y1) (g_Sw_jaInts_0 y0 y1) (fun x => by first | exact bw_jaInts_0 y0 y1 x) n (x := y2) (okO_some e1)
    have hx : ∀ r, XT.sel (.br (isL r) (.leaf .ret [(.T 4, .t (.val false [.bool (getL r)]))]) (.leaf (.exit 0) [(.T 4, .t (.val false [.undef]))])) = xw_jaInts_0 y0 y1 r := fun r => by first | rfl | (rcases r with r | r <;> rfl) | (rcases r with r | r | r <;> rfl) | (rcases r with r | r | r | r <;> rfl)
    have h3 := (hx (valO (g_Lw_jaInts_0 y0 y1 y2))).symm.trans h2
    have e3 := congrArg Prod.fst h3
    have e4 := congrArg Prod.snd h3
    simp only at e3 e4
    rw [← e3, ← e4]
    exact key
  · exact .inl ⟨xt, h1, h2⟩)
noncomputable def g_Aw_jaInts (a0 : List (Int)) (a1 : List (Int)) : Bool := (↑(List.length a0) : Int) != (↑(List.length a1) : Int) || okO (g_Lw_jaInts_0 a0 a1 (0 : Int))
noncomputable def g_Vw_jaInts_0 (a0 : List (Int)) (a1 : List (Int)) : Bool := bif (↑(List.length a0) : Int) != (↑(List.length a1) : Int) then false else bif isL (valO (g_Lw_jaInts_0 a0 a1 (0 : Int))) then getL (valO (g_Lw_jaInts_0 a0 a1 (0 : Int))) else true
noncomputable def Fw_jaInts : FSem := fun ys => match ys with
  | [.val false [.sl .any 3 (.int .i64) a0], .val false [.sl .any 3 (.int .i64) a1]] => some ((g_Aw_jaInts a0 a1), .val false [.bool (g_Vw_jaInts_0 a0 a1)], [])
  | _ => none
theorem vw_jaInts (a0 : List (Int)) (a1 : List (Int)) : collapseH .std Ew_jaInts Ow_jaInts_1 (execFn Ew_jaInts Go.Proofs.Tryd.f98 msw_jaInts [.val false [.sl .any 3 (.int .i64) a0], .val false [.sl .any 3 (.int .i64) a1]]) = some ((g_Aw_jaInts a0 a1), .val false [.bool (g_Vw_jaInts_0 a0 a1)], []) := by kernel_rfl
theorem sw_jaInts : Sound Go.Proofs.Tryd.prog 98 msw_jaInts Fw_jaInts := by
  refine fn_gen goodw_jaInts (by kernel_rfl) .std (fn := Go.Proofs.Tryd.f98) (c := (Go.Proofs.Tryd.f98.body.getD .skip)) (o := Ow_jaInts_1) (k := 1) (by kernel_rfl) (by kernel_rfl) (by kernel_rfl) (by kernel_rfl) (by decide) kw_jaInts_1 ?_
  intro ys r outs h
  unfold Fw_jaInts at h
  split at h
  · exact (vw_jaInts _ _).trans h
  · cases h
end Go.Proofs.YtibafhmmnoijkaaDoor.E
end
section
namespace Go.Proofs.YtibafhmmnoijkaaDoor.E
open Go
set_option maxRecDepth 100000
set_option maxHeartbeats 0
set_option linter.all false
noncomputable def Ew_jaWrites : Env where
  tt := mkTI Go.Proofs.Tryd.prog
  fn := fun f => match f with
    | 98 => some (msw_jaInts, FSem.wk msw_jaInts Fw_jaInts)
    | _ => none
  bxf := fun _ => none
  mv := []
  keep := fun b => match b with
    | 0 => [(0, false), (1, false), (5, false)]
    | _ => []
  keepB := fun b => match b with
    | 0 => []
    | _ => []
  keepX := fun b => match b with
    | 0 => [(4, false)]
    | _ => []
  keepXB := fun b => match b with
    | 0 => []
    | _ => []
theorem goodFw_jaWrites : ∀ f ms F, Ew_jaWrites.fn f = some (ms, F) → Sound Go.Proofs.Tryd.prog f ms F := fun f ms F h => by
  unfold Ew_jaWrites at h
  dsimp only at h
  split at h
  · injection h with h; injection h with e1 e2; subst e1 e2; exact Sound.wk sw_jaInts
  · cases h
theorem goodBw_jaWrites : ∀ f ms F, Ew_jaWrites.bxf f = some (ms, F) → SoundB Go.Proofs.Tryd.prog f ms F := fun f ms F h => by cases h
theorem goodw_jaWrites : Good Go.Proofs.Tryd.prog Ew_jaWrites := ⟨rfl, goodFw_jaWrites, goodBw_jaWrites⟩
noncomputable def Ow_jaWrites_0 : Orc := fun _ _ => none
noncomputable def msw_jaWrites : List PM := [.rd, .rd]
noncomputable def lsw_jaWrites : List (Nat × Code) := loopsAll 0 (Go.Proofs.Tryd.f127.body.getD .skip)
noncomputable def cw_jaWrites_0 : Code := (loopOf 0 (Go.Proofs.Tryd.f127.body.getD .skip)).getD .skip
theorem lseqw_jaWrites : lsw_jaWrites = [(0, cw_jaWrites_0)] := by kernel_rfl
theorem mw_jaWrites_0 : ∀ p, p ∈ lsw_jaWrites → p.1 = 0 → p.2 = cw_jaWrites_0 := by
  intro p hp
  rw [lseqw_jaWrites] at hp
  simp only [List.mem_cons, List.not_mem_nil, or_false] at hp
  subst hp; simp
theorem kw_jaWrites_0 : OrcOk Ew_jaWrites Ow_jaWrites_0 lsw_jaWrites 0 := orcOk_none
noncomputable def hw_jaWrites_0 (y0 : List ((ByteArray) × ((Bool) × (List (Int))))) (y1 : List ((ByteArray) × ((Bool) × (List (Int))))) (y2 : Int) : List (Pl × LV) := [(.T 0, .t (.val false [.sl .any 83 (.pair .str (.pair .bool (.sl 3 (.int .i64)))) y0])), (.T 1, .t (.val false [.sl .any 83 (.pair .str (.pair .bool (.sl 3 (.int .i64)))) y1])), (.T 5, .t (.val false [.int .i64 y2]))]
noncomputable def g_Sw_jaWrites_0 (y0 : List ((ByteArray) × ((Bool) × (List (Int))))) (y1 : List ((ByteArray) × ((Bool) × (List (Int))))) : ((Int)) → RT ((Int)) (((Bool)) ⊕ (Unit))
  | y2 => .br (true) (.br (decide (y2 < (↑(List.length y0) : Int))) (.br (decide ((0 : Int) ≤ y2 ∧ y2 < (↑(List.length y0) : Int))) (.br (decide ((0 : Int) ≤ y2 ∧ y2 < (↑(List.length y1) : Int))) (.br (true) (.br (!ByteArray.toList (at_ (Ty.pair Ty.str (Ty.pair Ty.bool (Ty.sl (nat_lit 3) (Ty.int IntKind.i64)))) y0 (Int.toNat y2)).1 == ByteArray.toList (at_ (Ty.pair Ty.str (Ty.pair Ty.bool (Ty.sl (nat_lit 3) (Ty.int IntKind.i64)))) y1 (Int.toNat y2)).1) (.out (.inl false)) (.br (decide ((0 : Int) ≤ y2 ∧ y2 < (↑(List.length y0) : Int))) (.br (decide ((0 : Int) ≤ y2 ∧ y2 < (↑(List.length y1) : Int))) (.br (!(at_ (Ty.pair Ty.str (Ty.pair Ty.bool (Ty.sl (nat_lit 3) (Ty.int IntKind.i64)))) y0 (Int.toNat y2)).2.1 == (at_ (Ty.pair Ty.str (Ty.pair Ty.bool (Ty.sl (nat_lit 3) (Ty.int IntKind.i64)))) y1 (Int.toNat y2)).2.1) (.out (.inl false)) (.br (decide ((0 : Int) ≤ y2 ∧ y2 < (↑(List.length y0) : Int))) (.br (decide ((0 : Int) ≤ y2 ∧ y2 < (↑(List.length y1) : Int))) (.br (g_Aw_jaInts (at_ (Ty.pair Ty.str (Ty.pair Ty.bool (Ty.sl (nat_lit 3) (Ty.int IntKind.i64)))) y0 (Int.toNat y2)).2.2 (at_ (Ty.pair Ty.str (Ty.pair Ty.bool (Ty.sl (nat_lit 3) (Ty.int IntKind.i64)))) y1 (Int.toNat y2)).2.2) (.br (!g_Vw_jaInts_0 (at_ (Ty.pair Ty.str (Ty.pair Ty.bool (Ty.sl (nat_lit 3) (Ty.int IntKind.i64)))) y0 (Int.toNat y2)).2.2 (at_ (Ty.pair Ty.str (Ty.pair Ty.bool (Ty.sl (nat_lit 3) (Ty.int IntKind.i64)))) y1 (Int.toNat y2)).2.2) (.out (.inl false)) (.br (true) (.go (IntKind.wrap IntKind.i64 (y2 + (1 : Int)))) (.bad))) (.bad)) (.bad)) (.bad))) (.bad)) (.bad))) (.bad)) (.bad)) (.bad)) (.out (.inr (())))) (.bad)
noncomputable def g_Lw_jaWrites_0 (y0 : List ((ByteArray) × ((Bool) × (List (Int))))) (y1 : List ((ByteArray) × ((Bool) × (List (Int))))) (x : (Int)) : Option (((Bool)) ⊕ (Unit)) := loopO (g_Sw_jaWrites_0 y0 y1) x
noncomputable def xw_jaWrites_0 (y0 : List ((ByteArray) × ((Bool) × (List (Int))))) (y1 : List ((ByteArray) × ((Bool) × (List (Int))))) : (((Bool)) ⊕ (Unit)) → Ex × List (Pl × LV) := fun
  | .inl r => (.ret, [(.T 4, .t (.val false [.bool r]))])
  | .inr (r) => (.exit 0, [(.T 4, .t (.val false [.undef]))])
noncomputable def Ow_jaWrites_1 : Orc := fun b h => match b, h with
  | 0, [(.T 0, .t (.val false [.sl .any 83 (.pair .str (.pair .bool (.sl 3 (.int .i64)))) y0])), (.T 1, .t (.val false [.sl .any 83 (.pair .str (.pair .bool (.sl 3 (.int .i64)))) y1])), (.T 5, .t (.val false [.int .i64 y2]))] => some (okO (g_Lw_jaWrites_0 y0 y1 y2), (.br (isL (valO (g_Lw_jaWrites_0 y0 y1 y2))) (.leaf .ret [(.T 4, .t (.val false [.bool (getL (valO (g_Lw_jaWrites_0 y0 y1 y2)))]))]) (.leaf (.exit 0) [(.T 4, .t (.val false [.undef]))])))
  | b, h => Ow_jaWrites_0 b h
theorem bw_jaWrites_0 (y0 : List ((ByteArray) × ((Bool) × (List (Int))))) (y1 : List ((ByteArray) × ((Bool) × (List (Int))))) (y2 : Int) : Tr.bt Ew_jaWrites Ow_jaWrites_0 (exec Ew_jaWrites 0 cw_jaWrites_0 (St.of (hw_jaWrites_0 y0 y1 y2)) (leafRd Ew_jaWrites 0)) = (g_Sw_jaWrites_0 y0 y1 y2).bt (fun (y2 : (Int)) => (hw_jaWrites_0 y0 y1 y2)) (xw_jaWrites_0 y0 y1) := by kernel_rfl
theorem kw_jaWrites_1 : OrcOk Ew_jaWrites Ow_jaWrites_1 lsw_jaWrites 1 := orc_add kw_jaWrites_0 (fun n p hp h ex h' ho => by
  obtain ⟨b, c⟩ := p
  obtain ⟨xt, h1, h2⟩ := ho
  have h1 : Ow_jaWrites_1 b h = some (true, xt) := h1
  unfold Ow_jaWrites_1 at h1
  split at h1
  · injection h1 with h1
    injection h1 with e1 e2
    subst e2
    have hc : c = cw_jaWrites_0 := mw_jaWrites_0 _ hp rfl
    subst hc
    right
    rename_i y0 y1 y2
    have key := LT_step kw_jaWrites_0 hp (fun q hq => loopsAll_in _ _ _ _ hp hq) (fun (y2 : (Int)) => (hw_jaWrites_0 y0 y1 y2)) (xw_jaWrites_0 y0 y1) (g_Sw_jaWrites_0 y0 y1) (fun x => by first | exact bw_jaWrites_0 y0 y1 x) n (x := y2) (okO_some e1)
    have hx : ∀ r, XT.sel (.br (isL r) (.leaf .ret [(.T 4, .t (.val false [.bool (getL r)]))]) (.leaf (.exit 0) [(.T 4, .t (.val false [.undef]))])) = xw_jaWrites_0 y0 y1 r := fun r => by first | rfl | (rcases r with r | r <;> rfl) | (rcases r with r | r | r <;> rfl) | (rcases r with r | r | r | r <;> rfl)
    have h3 := (hx (valO (g_Lw_jaWrites_0 y0 y1 y2))).symm.trans h2
    have e3 := congrArg Prod.fst h3
    have e4 := congrArg Prod.snd h3
    simp only at e3 e4
    rw [← e3, ← e4]
    exact key
  · exact .inl ⟨xt, h1, h2⟩)
noncomputable def g_Aw_jaWrites (a0 : List ((ByteArray) × ((Bool) × (List (Int))))) (a1 : List ((ByteArray) × ((Bool) × (List (Int))))) : Bool := (↑(List.length a0) : Int) != (↑(List.length a1) : Int) || okO (g_Lw_jaWrites_0 a0 a1 (0 : Int))
noncomputable def g_Vw_jaWrites_0 (a0 : List ((ByteArray) × ((Bool) × (List (Int))))) (a1 : List ((ByteArray) × ((Bool) × (List (Int))))) : Bool := bif (↑(List.length a0) : Int) != (↑(List.length a1) : Int) then false else bif isL (valO (g_Lw_jaWrites_0 a0 a1 (0 : Int))) then getL (valO (g_Lw_jaWrites_0 a0 a1 (0 : Int))) else true
noncomputable def Fw_jaWrites : FSem := fun ys => match ys with
  | [.val false [.sl .any 83 (.pair .str (.pair .bool (.sl 3 (.int .i64)))) a0], .val false [.sl .any 83 (.pair .str (.pair .bool (.sl 3 (.int .i64)))) a1]] => some ((g_Aw_jaWrites a0 a1), .val false [.bool (g_Vw_jaWrites_0 a0 a1)], [])
  | _ => none
theorem vw_jaWrites (a0 : List ((ByteArray) × ((Bool) × (List (Int))))) (a1 : List ((ByteArray) × ((Bool) × (List (Int))))) : collapseH .std Ew_jaWrites Ow_jaWrites_1 (execFn Ew_jaWrites Go.Proofs.Tryd.f127 msw_jaWrites [.val false [.sl .any 83 (.pair .str (.pair .bool (.sl 3 (.int .i64)))) a0], .val false [.sl .any 83 (.pair .str (.pair .bool (.sl 3 (.int .i64)))) a1]]) = some ((g_Aw_jaWrites a0 a1), .val false [.bool (g_Vw_jaWrites_0 a0 a1)], []) := by kernel_rfl
theorem sw_jaWrites : Sound Go.Proofs.Tryd.prog 127 msw_jaWrites Fw_jaWrites := by
  refine fn_gen goodw_jaWrites (by kernel_rfl) .std (fn := Go.Proofs.Tryd.f127) (c := (Go.Proofs.Tryd.f127.body.getD .skip)) (o := Ow_jaWrites_1) (k := 1) (by kernel_rfl) (by kernel_rfl) (by kernel_rfl) (by kernel_rfl) (by decide) kw_jaWrites_1 ?_
  intro ys r outs h
  unfold Fw_jaWrites at h
  split at h
  · exact (vw_jaWrites _ _).trans h
  · cases h
end Go.Proofs.YtibafhmmnoijkaaDoor.E
end
section
namespace Go.Proofs.YtibafhmmnoijkaaDoor.E
open Go
set_option maxRecDepth 100000
set_option maxHeartbeats 0
set_option linter.all false
noncomputable def Ew_jaNote : Env where
  tt := mkTI Go.Proofs.Tryd.prog
  fn := fun f => match f with
    | 126 => some (msw_jaTexts, FSem.wk msw_jaTexts Fw_jaTexts)
    | 127 => some (msw_jaWrites, FSem.wk msw_jaWrites Fw_jaWrites)
    | _ => none
  bxf := fun _ => none
  mv := []
  keep := fun _ => []
  keepB := fun _ => []
  keepX := fun _ => []
  keepXB := fun _ => []
theorem goodFw_jaNote : ∀ f ms F, Ew_jaNote.fn f = some (ms, F) → Sound Go.Proofs.Tryd.prog f ms F := fun f ms F h => by
  unfold Ew_jaNote at h
  dsimp only at h
  split at h
  · injection h with h; injection h with e1 e2; subst e1 e2; exact Sound.wk sw_jaTexts
  · injection h with h; injection h with e1 e2; subst e1 e2; exact Sound.wk sw_jaWrites
  · cases h
theorem goodBw_jaNote : ∀ f ms F, Ew_jaNote.bxf f = some (ms, F) → SoundB Go.Proofs.Tryd.prog f ms F := fun f ms F h => by cases h
theorem goodw_jaNote : Good Go.Proofs.Tryd.prog Ew_jaNote := ⟨rfl, goodFw_jaNote, goodBw_jaNote⟩
noncomputable def Ow_jaNote_0 : Orc := fun _ _ => none
noncomputable def msw_jaNote : List PM := [.rd, .rd]
noncomputable def lsw_jaNote : List (Nat × Code) := loopsAll 0 (Go.Proofs.Tryd.f80.body.getD .skip)

theorem kw_jaNote_0 : OrcOk Ew_jaNote Ow_jaNote_0 lsw_jaNote 0 := orcOk_none
noncomputable def g_Aw_jaNote (a0 : Int) (a1 : Int) (a2 : List (ByteArray)) (a3 : List ((ByteArray) × ((Bool) × (List (Int))))) (a4 : Int) (a5 : Int) (a6 : List (ByteArray)) (a7 : List ((ByteArray) × ((Bool) × (List (Int))))) : Bool := !a0 == a4 || (!a1 == a5 || g_Aw_jaTexts a2 a6 && (!g_Vw_jaTexts_0 a2 a6 || g_Aw_jaWrites a3 a7))
noncomputable def g_Vw_jaNote_0 (a0 : Int) (a1 : Int) (a2 : List (ByteArray)) (a3 : List ((ByteArray) × ((Bool) × (List (Int))))) (a4 : Int) (a5 : Int) (a6 : List (ByteArray)) (a7 : List ((ByteArray) × ((Bool) × (List (Int))))) : Bool := bif a0 == a4 then bif a1 == a5 then bif g_Vw_jaTexts_0 a2 a6 then g_Vw_jaWrites_0 a3 a7 else false else false else false
noncomputable def Fw_jaNote : FSem := fun ys => match ys with
  | [.val true [.int .i64 a0, .int .i64 a1, .sl .any 9 .str a2, .sl .any 83 (.pair .str (.pair .bool (.sl 3 (.int .i64)))) a3], .val true [.int .i64 a4, .int .i64 a5, .sl .any 9 .str a6, .sl .any 83 (.pair .str (.pair .bool (.sl 3 (.int .i64)))) a7]] => some ((g_Aw_jaNote a0 a1 a2 a3 a4 a5 a6 a7), .val false [.bool (g_Vw_jaNote_0 a0 a1 a2 a3 a4 a5 a6 a7)], [])
  | _ => none
theorem vw_jaNote (a0 : Int) (a1 : Int) (a2 : List (ByteArray)) (a3 : List ((ByteArray) × ((Bool) × (List (Int))))) (a4 : Int) (a5 : Int) (a6 : List (ByteArray)) (a7 : List ((ByteArray) × ((Bool) × (List (Int))))) : collapseH .std Ew_jaNote Ow_jaNote_0 (execFn Ew_jaNote Go.Proofs.Tryd.f80 msw_jaNote [.val true [.int .i64 a0, .int .i64 a1, .sl .any 9 .str a2, .sl .any 83 (.pair .str (.pair .bool (.sl 3 (.int .i64)))) a3], .val true [.int .i64 a4, .int .i64 a5, .sl .any 9 .str a6, .sl .any 83 (.pair .str (.pair .bool (.sl 3 (.int .i64)))) a7]]) = some ((g_Aw_jaNote a0 a1 a2 a3 a4 a5 a6 a7), .val false [.bool (g_Vw_jaNote_0 a0 a1 a2 a3 a4 a5 a6 a7)], []) := by kernel_rfl
theorem sw_jaNote : Sound Go.Proofs.Tryd.prog 80 msw_jaNote Fw_jaNote := by
  refine fn_gen goodw_jaNote (by kernel_rfl) .std (fn := Go.Proofs.Tryd.f80) (c := (Go.Proofs.Tryd.f80.body.getD .skip)) (o := Ow_jaNote_0) (k := 0) (by kernel_rfl) (by kernel_rfl) (by kernel_rfl) (by kernel_rfl) (by decide) kw_jaNote_0 ?_
  intro ys r outs h
  unfold Fw_jaNote at h
  split at h
  · exact (vw_jaNote _ _ _ _ _ _ _ _).trans h
  · cases h
end Go.Proofs.YtibafhmmnoijkaaDoor.E
end
section
namespace Go.Proofs.YtibafhmmnoijkaaDoor.E
open Go
set_option maxRecDepth 100000
set_option maxHeartbeats 0
set_option linter.all false
noncomputable def Ew_jaNotes : Env where
  tt := mkTI Go.Proofs.Tryd.prog
  fn := fun f => match f with
    | 80 => some (msw_jaNote, FSem.wk msw_jaNote Fw_jaNote)
    | _ => none
  bxf := fun _ => none
  mv := []
  keep := fun b => match b with
    | 0 => [(0, false), (1, false), (5, false)]
    | _ => []
  keepB := fun b => match b with
    | 0 => []
    | _ => []
  keepX := fun b => match b with
    | 0 => [(4, false)]
    | _ => []
  keepXB := fun b => match b with
    | 0 => []
    | _ => []
theorem goodFw_jaNotes : ∀ f ms F, Ew_jaNotes.fn f = some (ms, F) → Sound Go.Proofs.Tryd.prog f ms F := fun f ms F h => by
  unfold Ew_jaNotes at h
  dsimp only at h
  split at h
  · injection h with h; injection h with e1 e2; subst e1 e2; exact Sound.wk sw_jaNote
  · cases h
theorem goodBw_jaNotes : ∀ f ms F, Ew_jaNotes.bxf f = some (ms, F) → SoundB Go.Proofs.Tryd.prog f ms F := fun f ms F h => by cases h
theorem goodw_jaNotes : Good Go.Proofs.Tryd.prog Ew_jaNotes := ⟨rfl, goodFw_jaNotes, goodBw_jaNotes⟩
noncomputable def Ow_jaNotes_0 : Orc := fun _ _ => none
noncomputable def msw_jaNotes : List PM := [.rd, .rd]
noncomputable def lsw_jaNotes : List (Nat × Code) := loopsAll 0 (Go.Proofs.Tryd.f37.body.getD .skip)
noncomputable def cw_jaNotes_0 : Code := (loopOf 0 (Go.Proofs.Tryd.f37.body.getD .skip)).getD .skip
theorem lseqw_jaNotes : lsw_jaNotes = [(0, cw_jaNotes_0)] := by kernel_rfl
theorem mw_jaNotes_0 : ∀ p, p ∈ lsw_jaNotes → p.1 = 0 → p.2 = cw_jaNotes_0 := by
  intro p hp
  rw [lseqw_jaNotes] at hp
  simp only [List.mem_cons, List.not_mem_nil, or_false] at hp
  subst hp; simp
theorem kw_jaNotes_0 : OrcOk Ew_jaNotes Ow_jaNotes_0 lsw_jaNotes 0 := orcOk_none
noncomputable def hw_jaNotes_0 (y0 : List ((Int) × ((Int) × ((List (ByteArray)) × (List ((ByteArray) × ((Bool) × (List (Int))))))))) (y1 : List ((Int) × ((Int) × ((List (ByteArray)) × (List ((ByteArray) × ((Bool) × (List (Int))))))))) (y2 : Int) : List (Pl × LV) := [(.T 0, .t (.val false [.sl .any 59 (.pair (.int .i64) (.pair (.int .i64) (.pair (.sl 9 .str) (.sl 83 (.pair .str (.pair .bool (.sl 3 (.int .i64)))))))) y0])), (.T 1, .t (.val false [.sl .any 59 (.pair (.int .i64) (.pair (.int .i64) (.pair (.sl 9 .str) (.sl 83 (.pair .str (.pair .bool (.sl 3 (.int .i64)))))))) y1])), (.T 5, .t (.val false [.int .i64 y2]))]
noncomputable def g_Sw_jaNotes_0 (y0 : List ((Int) × ((Int) × ((List (ByteArray)) × (List ((ByteArray) × ((Bool) × (List (Int))))))))) (y1 : List ((Int) × ((Int) × ((List (ByteArray)) × (List ((ByteArray) × ((Bool) × (List (Int))))))))) : ((Int)) → RT ((Int)) (((Bool)) ⊕ (Unit))
  | y2 => .br (true) (.br (decide (y2 < (↑(List.length y0) : Int))) (.br (decide ((0 : Int) ≤ y2 ∧ y2 < (↑(List.length y0) : Int))) (.br (decide ((0 : Int) ≤ y2 ∧ y2 < (↑(List.length y1) : Int))) (.br (g_Aw_jaNote (at_ (Ty.pair (Ty.int IntKind.i64) (Ty.pair (Ty.int IntKind.i64) (Ty.pair (Ty.sl (nat_lit 9) Ty.str) (Ty.sl (nat_lit 83) (Ty.pair Ty.str (Ty.pair Ty.bool (Ty.sl (nat_lit 3) (Ty.int IntKind.i64)))))))) y0 (Int.toNat y2)).1 (at_ (Ty.pair (Ty.int IntKind.i64) (Ty.pair (Ty.int IntKind.i64) (Ty.pair (Ty.sl (nat_lit 9) Ty.str) (Ty.sl (nat_lit 83) (Ty.pair Ty.str (Ty.pair Ty.bool (Ty.sl (nat_lit 3) (Ty.int IntKind.i64)))))))) y0 (Int.toNat y2)).2.1 (at_ (Ty.pair (Ty.int IntKind.i64) (Ty.pair (Ty.int IntKind.i64) (Ty.pair (Ty.sl (nat_lit 9) Ty.str) (Ty.sl (nat_lit 83) (Ty.pair Ty.str (Ty.pair Ty.bool (Ty.sl (nat_lit 3) (Ty.int IntKind.i64)))))))) y0 (Int.toNat y2)).2.2.1 (at_ (Ty.pair (Ty.int IntKind.i64) (Ty.pair (Ty.int IntKind.i64) (Ty.pair (Ty.sl (nat_lit 9) Ty.str) (Ty.sl (nat_lit 83) (Ty.pair Ty.str (Ty.pair Ty.bool (Ty.sl (nat_lit 3) (Ty.int IntKind.i64)))))))) y0 (Int.toNat y2)).2.2.2 (at_ (Ty.pair (Ty.int IntKind.i64) (Ty.pair (Ty.int IntKind.i64) (Ty.pair (Ty.sl (nat_lit 9) Ty.str) (Ty.sl (nat_lit 83) (Ty.pair Ty.str (Ty.pair Ty.bool (Ty.sl (nat_lit 3) (Ty.int IntKind.i64)))))))) y1 (Int.toNat y2)).1 (at_ (Ty.pair (Ty.int IntKind.i64) (Ty.pair (Ty.int IntKind.i64) (Ty.pair (Ty.sl (nat_lit 9) Ty.str) (Ty.sl (nat_lit 83) (Ty.pair Ty.str (Ty.pair Ty.bool (Ty.sl (nat_lit 3) (Ty.int IntKind.i64)))))))) y1 (Int.toNat y2)).2.1 (at_ (Ty.pair (Ty.int IntKind.i64) (Ty.pair (Ty.int IntKind.i64) (Ty.pair (Ty.sl (nat_lit 9) Ty.str) (Ty.sl (nat_lit 83) (Ty.pair Ty.str (Ty.pair Ty.bool (Ty.sl (nat_lit 3) (Ty.int IntKind.i64)))))))) y1 (Int.toNat y2)).2.2.1 (at_ (Ty.pair (Ty.int IntKind.i64) (Ty.pair (Ty.int IntKind.i64) (Ty.pair (Ty.sl (nat_lit 9) Ty.str) (Ty.sl (nat_lit 83) (Ty.pair Ty.str (Ty.pair Ty.bool (Ty.sl (nat_lit 3) (Ty.int IntKind.i64)))))))) y1 (Int.toNat y2)).2.2.2) (.br (!g_Vw_jaNote_0 (at_ (Ty.pair (Ty.int IntKind.i64) (Ty.pair (Ty.int IntKind.i64) (Ty.pair (Ty.sl (nat_lit 9) Ty.str) (Ty.sl (nat_lit 83) (Ty.pair Ty.str (Ty.pair Ty.bool (Ty.sl (nat_lit 3) (Ty.int IntKind.i64)))))))) y0 (Int.toNat y2)).1 (at_ (Ty.pair (Ty.int IntKind.i64) (Ty.pair (Ty.int IntKind.i64) (Ty.pair (Ty.sl (nat_lit 9) Ty.str) (Ty.sl (nat_lit 83) (Ty.pair Ty.str (Ty.pair Ty.bool (Ty.sl (nat_lit 3) (Ty.int IntKind.i64)))))))) y0 (Int.toNat y2)).2.1 (at_ (Ty.pair (Ty.int IntKind.i64) (Ty.pair (Ty.int IntKind.i64) (Ty.pair (Ty.sl (nat_lit 9) Ty.str) (Ty.sl (nat_lit 83) (Ty.pair Ty.str (Ty.pair Ty.bool (Ty.sl (nat_lit 3) (Ty.int IntKind.i64)))))))) y0 (Int.toNat y2)).2.2.1 (at_ (Ty.pair (Ty.int IntKind.i64) (Ty.pair (Ty.int IntKind.i64) (Ty.pair (Ty.sl (nat_lit 9) Ty.str) (Ty.sl (nat_lit 83) (Ty.pair Ty.str (Ty.pair Ty.bool (Ty.sl (nat_lit 3) (Ty.int IntKind.i64)))))))) y0 (Int.toNat y2)).2.2.2 (at_ (Ty.pair (Ty.int IntKind.i64) (Ty.pair (Ty.int IntKind.i64) (Ty.pair (Ty.sl (nat_lit 9) Ty.str) (Ty.sl (nat_lit 83) (Ty.pair Ty.str (Ty.pair Ty.bool (Ty.sl (nat_lit 3) (Ty.int IntKind.i64)))))))) y1 (Int.toNat y2)).1 (at_ (Ty.pair (Ty.int IntKind.i64) (Ty.pair (Ty.int IntKind.i64) (Ty.pair (Ty.sl (nat_lit 9) Ty.str) (Ty.sl (nat_lit 83) (Ty.pair Ty.str (Ty.pair Ty.bool (Ty.sl (nat_lit 3) (Ty.int IntKind.i64)))))))) y1 (Int.toNat y2)).2.1 (at_ (Ty.pair (Ty.int IntKind.i64) (Ty.pair (Ty.int IntKind.i64) (Ty.pair (Ty.sl (nat_lit 9) Ty.str) (Ty.sl (nat_lit 83) (Ty.pair Ty.str (Ty.pair Ty.bool (Ty.sl (nat_lit 3) (Ty.int IntKind.i64)))))))) y1 (Int.toNat y2)).2.2.1 (at_ (Ty.pair (Ty.int IntKind.i64) (Ty.pair (Ty.int IntKind.i64) (Ty.pair (Ty.sl (nat_lit 9) Ty.str) (Ty.sl (nat_lit 83) (Ty.pair Ty.str (Ty.pair Ty.bool (Ty.sl (nat_lit 3) (Ty.int IntKind.i64)))))))) y1 (Int.toNat y2)).2.2.2) (.out (.inl false)) (.br (true) (.go (IntKind.wrap IntKind.i64 (y2 + (1 : Int)))) (.bad))) (.bad)) (.bad)) (.bad)) (.out (.inr (())))) (.bad)
noncomputable def g_Lw_jaNotes_0 (y0 : List ((Int) × ((Int) × ((List (ByteArray)) × (List ((ByteArray) × ((Bool) × (List (Int))))))))) (y1 : List ((Int) × ((Int) × ((List (ByteArray)) × (List ((ByteArray) × ((Bool) × (List (Int))))))))) (x : (Int)) : Option (((Bool)) ⊕ (Unit)) := loopO (g_Sw_jaNotes_0 y0 y1) x
noncomputable def xw_jaNotes_0 (y0 : List ((Int) × ((Int) × ((List (ByteArray)) × (List ((ByteArray) × ((Bool) × (List (Int))))))))) (y1 : List ((Int) × ((Int) × ((List (ByteArray)) × (List ((ByteArray) × ((Bool) × (List (Int))))))))) : (((Bool)) ⊕ (Unit)) → Ex × List (Pl × LV) := fun
  | .inl r => (.ret, [(.T 4, .t (.val false [.bool r]))])
  | .inr (r) => (.exit 0, [(.T 4, .t (.val false [.undef]))])
noncomputable def Ow_jaNotes_1 : Orc := fun b h => match b, h with
  | 0, [(.T 0, .t (.val false [.sl .any 59 (.pair (.int .i64) (.pair (.int .i64) (.pair (.sl 9 .str) (.sl 83 (.pair .str (.pair .bool (.sl 3 (.int .i64)))))))) y0])), (.T 1, .t (.val false [.sl .any 59 (.pair (.int .i64) (.pair (.int .i64) (.pair (.sl 9 .str) (.sl 83 (.pair .str (.pair .bool (.sl 3 (.int .i64)))))))) y1])), (.T 5, .t (.val false [.int .i64 y2]))] => some (okO (g_Lw_jaNotes_0 y0 y1 y2), (.br (isL (valO (g_Lw_jaNotes_0 y0 y1 y2))) (.leaf .ret [(.T 4, .t (.val false [.bool (getL (valO (g_Lw_jaNotes_0 y0 y1 y2)))]))]) (.leaf (.exit 0) [(.T 4, .t (.val false [.undef]))])))
  | b, h => Ow_jaNotes_0 b h
theorem bw_jaNotes_0 (y0 : List ((Int) × ((Int) × ((List (ByteArray)) × (List ((ByteArray) × ((Bool) × (List (Int))))))))) (y1 : List ((Int) × ((Int) × ((List (ByteArray)) × (List ((ByteArray) × ((Bool) × (List (Int))))))))) (y2 : Int) : Tr.bt Ew_jaNotes Ow_jaNotes_0 (exec Ew_jaNotes 0 cw_jaNotes_0 (St.of (hw_jaNotes_0 y0 y1 y2)) (leafRd Ew_jaNotes 0)) = (g_Sw_jaNotes_0 y0 y1 y2).bt (fun (y2 : (Int)) => (hw_jaNotes_0 y0 y1 y2)) (xw_jaNotes_0 y0 y1) := by kernel_rfl
theorem kw_jaNotes_1 : OrcOk Ew_jaNotes Ow_jaNotes_1 lsw_jaNotes 1 := orc_add kw_jaNotes_0 (fun n p hp h ex h' ho => by
  obtain ⟨b, c⟩ := p
  obtain ⟨xt, h1, h2⟩ := ho
  have h1 : Ow_jaNotes_1 b h = some (true, xt) := h1
  unfold Ow_jaNotes_1 at h1
  split at h1
  · injection h1 with h1
    injection h1 with e1 e2
    subst e2
    have hc : c = cw_jaNotes_0 := mw_jaNotes_0 _ hp rfl
    subst hc
    right
    rename_i y0 y1 y2
    have key := LT_step kw_jaNotes_0 hp (fun q hq => loopsAll_in _ _ _ _ hp hq) (fun (y2 : (Int)) => (hw_jaNotes_0 y0 y1 y2)) (xw_jaNotes_0 y0 y1) (g_Sw_jaNotes_0 y0 y1) (fun x => by first | exact bw_jaNotes_0 y0 y1 x) n (x := y2) (okO_some e1)
    have hx : ∀ r, XT.sel (.br (isL r) (.leaf .ret [(.T 4, .t (.val false [.bool (getL r)]))]) (.leaf (.exit 0) [(.T 4, .t (.val false [.undef]))])) = xw_jaNotes_0 y0 y1 r := fun r => by first | rfl | (rcases r with r | r <;> rfl) | (rcases r with r | r | r <;> rfl) | (rcases r with r | r | r | r <;> rfl)
    have h3 := (hx (valO (g_Lw_jaNotes_0 y0 y1 y2))).symm.trans h2
    have e3 := congrArg Prod.fst h3
    have e4 := congrArg Prod.snd h3
    simp only at e3 e4
    rw [← e3, ← e4]
    exact key
  · exact .inl ⟨xt, h1, h2⟩)
noncomputable def g_Aw_jaNotes (a0 : List ((Int) × ((Int) × ((List (ByteArray)) × (List ((ByteArray) × ((Bool) × (List (Int))))))))) (a1 : List ((Int) × ((Int) × ((List (ByteArray)) × (List ((ByteArray) × ((Bool) × (List (Int))))))))) : Bool := (↑(List.length a0) : Int) != (↑(List.length a1) : Int) || okO (g_Lw_jaNotes_0 a0 a1 (0 : Int))
noncomputable def g_Vw_jaNotes_0 (a0 : List ((Int) × ((Int) × ((List (ByteArray)) × (List ((ByteArray) × ((Bool) × (List (Int))))))))) (a1 : List ((Int) × ((Int) × ((List (ByteArray)) × (List ((ByteArray) × ((Bool) × (List (Int))))))))) : Bool := bif (↑(List.length a0) : Int) != (↑(List.length a1) : Int) then false else bif isL (valO (g_Lw_jaNotes_0 a0 a1 (0 : Int))) then getL (valO (g_Lw_jaNotes_0 a0 a1 (0 : Int))) else true
noncomputable def Fw_jaNotes : FSem := fun ys => match ys with
  | [.val false [.sl .any 59 (.pair (.int .i64) (.pair (.int .i64) (.pair (.sl 9 .str) (.sl 83 (.pair .str (.pair .bool (.sl 3 (.int .i64)))))))) a0], .val false [.sl .any 59 (.pair (.int .i64) (.pair (.int .i64) (.pair (.sl 9 .str) (.sl 83 (.pair .str (.pair .bool (.sl 3 (.int .i64)))))))) a1]] => some ((g_Aw_jaNotes a0 a1), .val false [.bool (g_Vw_jaNotes_0 a0 a1)], [])
  | _ => none
theorem vw_jaNotes (a0 : List ((Int) × ((Int) × ((List (ByteArray)) × (List ((ByteArray) × ((Bool) × (List (Int))))))))) (a1 : List ((Int) × ((Int) × ((List (ByteArray)) × (List ((ByteArray) × ((Bool) × (List (Int))))))))) : collapseH .std Ew_jaNotes Ow_jaNotes_1 (execFn Ew_jaNotes Go.Proofs.Tryd.f37 msw_jaNotes [.val false [.sl .any 59 (.pair (.int .i64) (.pair (.int .i64) (.pair (.sl 9 .str) (.sl 83 (.pair .str (.pair .bool (.sl 3 (.int .i64)))))))) a0], .val false [.sl .any 59 (.pair (.int .i64) (.pair (.int .i64) (.pair (.sl 9 .str) (.sl 83 (.pair .str (.pair .bool (.sl 3 (.int .i64)))))))) a1]]) = some ((g_Aw_jaNotes a0 a1), .val false [.bool (g_Vw_jaNotes_0 a0 a1)], []) := by kernel_rfl
theorem sw_jaNotes : Sound Go.Proofs.Tryd.prog 37 msw_jaNotes Fw_jaNotes := by
  refine fn_gen goodw_jaNotes (by kernel_rfl) .std (fn := Go.Proofs.Tryd.f37) (c := (Go.Proofs.Tryd.f37.body.getD .skip)) (o := Ow_jaNotes_1) (k := 1) (by kernel_rfl) (by kernel_rfl) (by kernel_rfl) (by kernel_rfl) (by decide) kw_jaNotes_1 ?_
  intro ys r outs h
  unfold Fw_jaNotes at h
  split at h
  · exact (vw_jaNotes _ _).trans h
  · cases h
end Go.Proofs.YtibafhmmnoijkaaDoor.E
end
section
namespace Go.Proofs.YtibafhmmnoijkaaDoor.E
open Go
set_option maxRecDepth 100000
set_option maxHeartbeats 0
set_option linter.all false
noncomputable def Ew_jaDisk : Env where
  tt := mkTI Go.Proofs.Tryd.prog
  fn := fun f => match f with
    | 37 => some (msw_jaNotes, FSem.wk msw_jaNotes Fw_jaNotes)
    | _ => none
  bxf := fun _ => none
  mv := []
  keep := fun _ => []
  keepB := fun _ => []
  keepX := fun _ => []
  keepXB := fun _ => []
theorem goodFw_jaDisk : ∀ f ms F, Ew_jaDisk.fn f = some (ms, F) → Sound Go.Proofs.Tryd.prog f ms F := fun f ms F h => by
  unfold Ew_jaDisk at h
  dsimp only at h
  split at h
  · injection h with h; injection h with e1 e2; subst e1 e2; exact Sound.wk sw_jaNotes
  · cases h
theorem goodBw_jaDisk : ∀ f ms F, Ew_jaDisk.bxf f = some (ms, F) → SoundB Go.Proofs.Tryd.prog f ms F := fun f ms F h => by cases h
theorem goodw_jaDisk : Good Go.Proofs.Tryd.prog Ew_jaDisk := ⟨rfl, goodFw_jaDisk, goodBw_jaDisk⟩
noncomputable def Ow_jaDisk_0 : Orc := fun _ _ => none
noncomputable def msw_jaDisk : List PM := [.rd, .rd]
noncomputable def lsw_jaDisk : List (Nat × Code) := loopsAll 0 (Go.Proofs.Tryd.f35.body.getD .skip)

theorem kw_jaDisk_0 : OrcOk Ew_jaDisk Ow_jaDisk_0 lsw_jaDisk 0 := orcOk_none
noncomputable def g_Aw_jaDisk (a0 : List ((Int) × ((Int) × ((List (ByteArray)) × (List ((ByteArray) × ((Bool) × (List (Int))))))))) (a1 : Int) (a2 : List ((Int) × ((Int) × ((List (ByteArray)) × (List ((ByteArray) × ((Bool) × (List (Int))))))))) (a3 : Int) : Bool := !a1 == a3 || g_Aw_jaNotes a0 a2
noncomputable def g_Vw_jaDisk_0 (a0 : List ((Int) × ((Int) × ((List (ByteArray)) × (List ((ByteArray) × ((Bool) × (List (Int))))))))) (a1 : Int) (a2 : List ((Int) × ((Int) × ((List (ByteArray)) × (List ((ByteArray) × ((Bool) × (List (Int))))))))) (a3 : Int) : Bool := bif a1 == a3 then g_Vw_jaNotes_0 a0 a2 else false
noncomputable def Fw_jaDisk : FSem := fun ys => match ys with
  | [.val true [.sl .any 59 (.pair (.int .i64) (.pair (.int .i64) (.pair (.sl 9 .str) (.sl 83 (.pair .str (.pair .bool (.sl 3 (.int .i64)))))))) a0, .int .i64 a1], .val true [.sl .any 59 (.pair (.int .i64) (.pair (.int .i64) (.pair (.sl 9 .str) (.sl 83 (.pair .str (.pair .bool (.sl 3 (.int .i64)))))))) a2, .int .i64 a3]] => some ((g_Aw_jaDisk a0 a1 a2 a3), .val false [.bool (g_Vw_jaDisk_0 a0 a1 a2 a3)], [])
  | _ => none
theorem vw_jaDisk (a0 : List ((Int) × ((Int) × ((List (ByteArray)) × (List ((ByteArray) × ((Bool) × (List (Int))))))))) (a1 : Int) (a2 : List ((Int) × ((Int) × ((List (ByteArray)) × (List ((ByteArray) × ((Bool) × (List (Int))))))))) (a3 : Int) : collapseH .std Ew_jaDisk Ow_jaDisk_0 (execFn Ew_jaDisk Go.Proofs.Tryd.f35 msw_jaDisk [.val true [.sl .any 59 (.pair (.int .i64) (.pair (.int .i64) (.pair (.sl 9 .str) (.sl 83 (.pair .str (.pair .bool (.sl 3 (.int .i64)))))))) a0, .int .i64 a1], .val true [.sl .any 59 (.pair (.int .i64) (.pair (.int .i64) (.pair (.sl 9 .str) (.sl 83 (.pair .str (.pair .bool (.sl 3 (.int .i64)))))))) a2, .int .i64 a3]]) = some ((g_Aw_jaDisk a0 a1 a2 a3), .val false [.bool (g_Vw_jaDisk_0 a0 a1 a2 a3)], []) := by kernel_rfl
theorem sw_jaDisk : Sound Go.Proofs.Tryd.prog 35 msw_jaDisk Fw_jaDisk := by
  refine fn_gen goodw_jaDisk (by kernel_rfl) .std (fn := Go.Proofs.Tryd.f35) (c := (Go.Proofs.Tryd.f35.body.getD .skip)) (o := Ow_jaDisk_0) (k := 0) (by kernel_rfl) (by kernel_rfl) (by kernel_rfl) (by kernel_rfl) (by decide) kw_jaDisk_0 ?_
  intro ys r outs h
  unfold Fw_jaDisk at h
  split at h
  · exact (vw_jaDisk _ _ _ _).trans h
  · cases h
end Go.Proofs.YtibafhmmnoijkaaDoor.E
end
section
namespace Go.Proofs.YtibafhmmnoijkaaDoor.E
open Go
set_option maxRecDepth 100000
set_option maxHeartbeats 0
set_option linter.all false
noncomputable def Ew_jaOk : Env where
  tt := mkTI Go.Proofs.Tryd.prog
  fn := fun f => match f with
    | 75 => some (msi_WrtOk, FSem.wk msi_WrtOk Fi_WrtOk)
    | _ => none
  bxf := fun _ => none
  mv := []
  keep := fun _ => []
  keepB := fun _ => []
  keepX := fun _ => []
  keepXB := fun _ => []
theorem goodFw_jaOk : ∀ f ms F, Ew_jaOk.fn f = some (ms, F) → Sound Go.Proofs.Tryd.prog f ms F := fun f ms F h => by
  unfold Ew_jaOk at h
  dsimp only at h
  split at h
  · injection h with h; injection h with e1 e2; subst e1 e2; exact Sound.wk si_WrtOk
  · cases h
theorem goodBw_jaOk : ∀ f ms F, Ew_jaOk.bxf f = some (ms, F) → SoundB Go.Proofs.Tryd.prog f ms F := fun f ms F h => by cases h
theorem goodw_jaOk : Good Go.Proofs.Tryd.prog Ew_jaOk := ⟨rfl, goodFw_jaOk, goodBw_jaOk⟩
noncomputable def Ow_jaOk_0 : Orc := fun _ _ => none
noncomputable def msw_jaOk : List PM := []
noncomputable def lsw_jaOk : List (Nat × Code) := loopsAll 0 (Go.Proofs.Tryd.f31.body.getD .skip)

theorem kw_jaOk_0 : OrcOk Ew_jaOk Ow_jaOk_0 lsw_jaOk 0 := orcOk_none
noncomputable def g_Aw_jaOk : Bool := g_Ai_WrtOk (lit [(97 : Nat), (49 : Nat)]) false [(1 : Int)]
noncomputable def g_Vw_jaOk_0 : Bool := g_Vi_WrtOk_0 (lit [(97 : Nat), (49 : Nat)]) false [(1 : Int)]
noncomputable def Fw_jaOk : FSem := fun ys => match ys with
  | [] => some (g_Aw_jaOk, .val false [.bool g_Vw_jaOk_0], [])
  | _ => none
theorem vw_jaOk : collapseH .std Ew_jaOk Ow_jaOk_0 (execFn Ew_jaOk Go.Proofs.Tryd.f31 msw_jaOk []) = some (g_Aw_jaOk, .val false [.bool g_Vw_jaOk_0], []) := by kernel_rfl
theorem sw_jaOk : Sound Go.Proofs.Tryd.prog 31 msw_jaOk Fw_jaOk := by
  refine fn_gen goodw_jaOk (by kernel_rfl) .std (fn := Go.Proofs.Tryd.f31) (c := (Go.Proofs.Tryd.f31.body.getD .skip)) (o := Ow_jaOk_0) (k := 0) (by kernel_rfl) (by kernel_rfl) (by kernel_rfl) (by kernel_rfl) (by decide) kw_jaOk_0 ?_
  intro ys r outs h
  unfold Fw_jaOk at h
  split at h
  · exact (vw_jaOk).trans h
  · cases h
end Go.Proofs.YtibafhmmnoijkaaDoor.E
end
section
namespace Go.Proofs.YtibafhmmnoijkaaDoor.E
open Go
set_option maxRecDepth 100000
set_option maxHeartbeats 0
set_option linter.all false
noncomputable def Ew_FnDiskFall : Env where
  tt := mkTI Go.Proofs.Tryd.prog
  fn := fun f => match f with
    | 24 => some (mss_DiskOk, FSem.wk mss_DiskOk Fs_DiskOk)
    | 31 => some (msw_jaOk, FSem.wk msw_jaOk Fw_jaOk)
    | 33 => some (mss_DrawDiskFall, FSem.wk mss_DrawDiskFall Fs_DrawDiskFall)
    | 34 => some (msi_DiskFall, FSem.wk msi_DiskFall Fi_DiskFall)
    | 35 => some (msw_jaDisk, FSem.wk msw_jaDisk Fw_jaDisk)
    | 36 => some (mss_DiskFall, FSem.wk mss_DiskFall Fs_DiskFall)
    | 37 => some (msw_jaNotes, FSem.wk msw_jaNotes Fw_jaNotes)
    | _ => none
  bxf := fun _ => none
  mv := []
  keep := fun _ => []
  keepB := fun _ => []
  keepX := fun _ => []
  keepXB := fun _ => []
theorem goodFw_FnDiskFall : ∀ f ms F, Ew_FnDiskFall.fn f = some (ms, F) → Sound Go.Proofs.Tryd.prog f ms F := fun f ms F h => by
  unfold Ew_FnDiskFall at h
  dsimp only at h
  split at h
  · injection h with h; injection h with e1 e2; subst e1 e2; exact Sound.wk ss_DiskOk
  · injection h with h; injection h with e1 e2; subst e1 e2; exact Sound.wk sw_jaOk
  · injection h with h; injection h with e1 e2; subst e1 e2; exact Sound.wk ss_DrawDiskFall
  · injection h with h; injection h with e1 e2; subst e1 e2; exact Sound.wk si_DiskFall
  · injection h with h; injection h with e1 e2; subst e1 e2; exact Sound.wk sw_jaDisk
  · injection h with h; injection h with e1 e2; subst e1 e2; exact Sound.wk ss_DiskFall
  · injection h with h; injection h with e1 e2; subst e1 e2; exact Sound.wk sw_jaNotes
  · cases h
theorem goodBw_FnDiskFall : ∀ f ms F, Ew_FnDiskFall.bxf f = some (ms, F) → SoundB Go.Proofs.Tryd.prog f ms F := fun f ms F h => by cases h
theorem goodw_FnDiskFall : Good Go.Proofs.Tryd.prog Ew_FnDiskFall := ⟨rfl, goodFw_FnDiskFall, goodBw_FnDiskFall⟩
noncomputable def Ow_FnDiskFall_0 : Orc := fun _ _ => none
noncomputable def msw_FnDiskFall : List PM := [.rd]
noncomputable def lsw_FnDiskFall : List (Nat × Code) := loopsAll 0 (Go.Proofs.Tryd.f7.body.getD .skip)

theorem kw_FnDiskFall_0 : OrcOk Ew_FnDiskFall Ow_FnDiskFall_0 lsw_FnDiskFall 0 := orcOk_none
noncomputable def g_Aw_FnDiskFall (a0 : List (Int)) : Bool := decide ((↑(List.length a0) : Int) > (1048576 : Int)) || g_As_DrawDiskFall a0 && (g_Ai_DiskFall (g_Vs_DrawDiskFall_0 a0) (g_Vs_DrawDiskFall_1 a0) (g_Vs_DrawDiskFall_2 a0) && (g_As_DiskFall (g_Vs_DrawDiskFall_0 a0) (g_Vs_DrawDiskFall_1 a0) (g_Vs_DrawDiskFall_2 a0) && (g_Aw_jaDisk (g_Vi_DiskFall_0 (g_Vs_DrawDiskFall_0 a0) (g_Vs_DrawDiskFall_1 a0) (g_Vs_DrawDiskFall_2 a0)) (g_Vi_DiskFall_1 (g_Vs_DrawDiskFall_0 a0) (g_Vs_DrawDiskFall_1 a0) (g_Vs_DrawDiskFall_2 a0)) (g_Vs_DiskFall_0 (g_Vs_DrawDiskFall_0 a0) (g_Vs_DrawDiskFall_1 a0) (g_Vs_DrawDiskFall_2 a0)) (g_Vs_DiskFall_1 (g_Vs_DrawDiskFall_0 a0) (g_Vs_DrawDiskFall_1 a0) (g_Vs_DrawDiskFall_2 a0)) && (!g_Vw_jaDisk_0 (g_Vi_DiskFall_0 (g_Vs_DrawDiskFall_0 a0) (g_Vs_DrawDiskFall_1 a0) (g_Vs_DrawDiskFall_2 a0)) (g_Vi_DiskFall_1 (g_Vs_DrawDiskFall_0 a0) (g_Vs_DrawDiskFall_1 a0) (g_Vs_DrawDiskFall_2 a0)) (g_Vs_DiskFall_0 (g_Vs_DrawDiskFall_0 a0) (g_Vs_DrawDiskFall_1 a0) (g_Vs_DrawDiskFall_2 a0)) (g_Vs_DiskFall_1 (g_Vs_DrawDiskFall_0 a0) (g_Vs_DrawDiskFall_1 a0) (g_Vs_DrawDiskFall_2 a0)) || g_As_DiskOk (g_Vs_DrawDiskFall_0 a0) (g_Vs_DrawDiskFall_1 a0) && bif !g_Vs_DiskOk_0 (g_Vs_DrawDiskFall_0 a0) (g_Vs_DrawDiskFall_1 a0) then !(↑(List.length (g_Vi_DiskFall_0 (g_Vs_DrawDiskFall_0 a0) (g_Vs_DrawDiskFall_1 a0) (g_Vs_DrawDiskFall_2 a0))) : Int) == (0 : Int) || g_Aw_jaOk else decide ((↑(List.length (g_Vi_DiskFall_0 (g_Vs_DrawDiskFall_0 a0) (g_Vs_DrawDiskFall_1 a0) (g_Vs_DrawDiskFall_2 a0))) : Int) < g_Vs_DrawDiskFall_1 a0) || (decide ((↑(List.length (g_Vi_DiskFall_0 (g_Vs_DrawDiskFall_0 a0) (g_Vs_DrawDiskFall_1 a0) (g_Vs_DrawDiskFall_2 a0))) : Int) > (↑(List.length (g_Vs_DrawDiskFall_0 a0)) : Int)) || decide ((0 : Int) ≤ (↑(List.length (g_Vi_DiskFall_0 (g_Vs_DrawDiskFall_0 a0) (g_Vs_DrawDiskFall_1 a0) (g_Vs_DrawDiskFall_2 a0))) : Int) ∧ (↑(List.length (g_Vi_DiskFall_0 (g_Vs_DrawDiskFall_0 a0) (g_Vs_DrawDiskFall_1 a0) (g_Vs_DrawDiskFall_2 a0))) : Int) ≤ (↑(List.length (g_Vs_DrawDiskFall_0 a0)) : Int)) && (g_Aw_jaNotes (g_Vi_DiskFall_0 (g_Vs_DrawDiskFall_0 a0) (g_Vs_DrawDiskFall_1 a0) (g_Vs_DrawDiskFall_2 a0)) (List.drop (nat_lit 0) (List.take (Int.toNat (↑(List.length (g_Vi_DiskFall_0 (g_Vs_DrawDiskFall_0 a0) (g_Vs_DrawDiskFall_1 a0) (g_Vs_DrawDiskFall_2 a0))) : Int)) (g_Vs_DrawDiskFall_0 a0))) && (!g_Vw_jaNotes_0 (g_Vi_DiskFall_0 (g_Vs_DrawDiskFall_0 a0) (g_Vs_DrawDiskFall_1 a0) (g_Vs_DrawDiskFall_2 a0)) (List.drop (nat_lit 0) (List.take (Int.toNat (↑(List.length (g_Vi_DiskFall_0 (g_Vs_DrawDiskFall_0 a0) (g_Vs_DrawDiskFall_1 a0) (g_Vs_DrawDiskFall_2 a0))) : Int)) (g_Vs_DrawDiskFall_0 a0))) || (g_Vi_DiskFall_1 (g_Vs_DrawDiskFall_0 a0) (g_Vs_DrawDiskFall_1 a0) (g_Vs_DrawDiskFall_2 a0) != (↑(List.length (g_Vi_DiskFall_0 (g_Vs_DrawDiskFall_0 a0) (g_Vs_DrawDiskFall_1 a0) (g_Vs_DrawDiskFall_2 a0))) : Int) || bif decide (g_Vs_DrawDiskFall_2 a0 > (0 : Int)) then bif decide (g_Vs_DrawDiskFall_2 a0 < (0 : Int)) then g_Ai_DiskFall (g_Vi_DiskFall_0 (g_Vs_DrawDiskFall_0 a0) (g_Vs_DrawDiskFall_1 a0) (g_Vs_DrawDiskFall_2 a0)) (g_Vi_DiskFall_1 (g_Vs_DrawDiskFall_0 a0) (g_Vs_DrawDiskFall_1 a0) (g_Vs_DrawDiskFall_2 a0)) (g_Vs_DrawDiskFall_2 a0) && g_Aw_jaDisk (g_Vi_DiskFall_0 (g_Vi_DiskFall_0 (g_Vs_DrawDiskFall_0 a0) (g_Vs_DrawDiskFall_1 a0) (g_Vs_DrawDiskFall_2 a0)) (g_Vi_DiskFall_1 (g_Vs_DrawDiskFall_0 a0) (g_Vs_DrawDiskFall_1 a0) (g_Vs_DrawDiskFall_2 a0)) (g_Vs_DrawDiskFall_2 a0)) (g_Vi_DiskFall_1 (g_Vi_DiskFall_0 (g_Vs_DrawDiskFall_0 a0) (g_Vs_DrawDiskFall_1 a0) (g_Vs_DrawDiskFall_2 a0)) (g_Vi_DiskFall_1 (g_Vs_DrawDiskFall_0 a0) (g_Vs_DrawDiskFall_1 a0) (g_Vs_DrawDiskFall_2 a0)) (g_Vs_DrawDiskFall_2 a0)) (g_Vi_DiskFall_0 (g_Vs_DrawDiskFall_0 a0) (g_Vs_DrawDiskFall_1 a0) (g_Vs_DrawDiskFall_2 a0)) (g_Vi_DiskFall_1 (g_Vs_DrawDiskFall_0 a0) (g_Vs_DrawDiskFall_1 a0) (g_Vs_DrawDiskFall_2 a0)) else !(↑(List.length (g_Vi_DiskFall_0 (g_Vs_DrawDiskFall_0 a0) (g_Vs_DrawDiskFall_1 a0) (g_Vs_DrawDiskFall_2 a0))) : Int) == IntKind.wrap IntKind.i64 (g_Vs_DrawDiskFall_1 a0 + if IntKind.wrap IntKind.i64 ((↑(List.length (g_Vs_DrawDiskFall_0 a0)) : Int) - g_Vs_DrawDiskFall_1 a0) < g_Vs_DrawDiskFall_2 a0 then IntKind.wrap IntKind.i64 ((↑(List.length (g_Vs_DrawDiskFall_0 a0)) : Int) - g_Vs_DrawDiskFall_1 a0) else g_Vs_DrawDiskFall_2 a0) || g_Ai_DiskFall (g_Vi_DiskFall_0 (g_Vs_DrawDiskFall_0 a0) (g_Vs_DrawDiskFall_1 a0) (g_Vs_DrawDiskFall_2 a0)) (g_Vi_DiskFall_1 (g_Vs_DrawDiskFall_0 a0) (g_Vs_DrawDiskFall_1 a0) (g_Vs_DrawDiskFall_2 a0)) (g_Vs_DrawDiskFall_2 a0) && g_Aw_jaDisk (g_Vi_DiskFall_0 (g_Vi_DiskFall_0 (g_Vs_DrawDiskFall_0 a0) (g_Vs_DrawDiskFall_1 a0) (g_Vs_DrawDiskFall_2 a0)) (g_Vi_DiskFall_1 (g_Vs_DrawDiskFall_0 a0) (g_Vs_DrawDiskFall_1 a0) (g_Vs_DrawDiskFall_2 a0)) (g_Vs_DrawDiskFall_2 a0)) (g_Vi_DiskFall_1 (g_Vi_DiskFall_0 (g_Vs_DrawDiskFall_0 a0) (g_Vs_DrawDiskFall_1 a0) (g_Vs_DrawDiskFall_2 a0)) (g_Vi_DiskFall_1 (g_Vs_DrawDiskFall_0 a0) (g_Vs_DrawDiskFall_1 a0) (g_Vs_DrawDiskFall_2 a0)) (g_Vs_DrawDiskFall_2 a0)) (g_Vi_DiskFall_0 (g_Vs_DrawDiskFall_0 a0) (g_Vs_DrawDiskFall_1 a0) (g_Vs_DrawDiskFall_2 a0)) (g_Vi_DiskFall_1 (g_Vs_DrawDiskFall_0 a0) (g_Vs_DrawDiskFall_1 a0) (g_Vs_DrawDiskFall_2 a0)) else !(↑(List.length (g_Vi_DiskFall_0 (g_Vs_DrawDiskFall_0 a0) (g_Vs_DrawDiskFall_1 a0) (g_Vs_DrawDiskFall_2 a0))) : Int) == g_Vs_DrawDiskFall_1 a0 || bif decide (g_Vs_DrawDiskFall_2 a0 < (0 : Int)) then g_Ai_DiskFall (g_Vi_DiskFall_0 (g_Vs_DrawDiskFall_0 a0) (g_Vs_DrawDiskFall_1 a0) (g_Vs_DrawDiskFall_2 a0)) (g_Vi_DiskFall_1 (g_Vs_DrawDiskFall_0 a0) (g_Vs_DrawDiskFall_1 a0) (g_Vs_DrawDiskFall_2 a0)) (g_Vs_DrawDiskFall_2 a0) && g_Aw_jaDisk (g_Vi_DiskFall_0 (g_Vi_DiskFall_0 (g_Vs_DrawDiskFall_0 a0) (g_Vs_DrawDiskFall_1 a0) (g_Vs_DrawDiskFall_2 a0)) (g_Vi_DiskFall_1 (g_Vs_DrawDiskFall_0 a0) (g_Vs_DrawDiskFall_1 a0) (g_Vs_DrawDiskFall_2 a0)) (g_Vs_DrawDiskFall_2 a0)) (g_Vi_DiskFall_1 (g_Vi_DiskFall_0 (g_Vs_DrawDiskFall_0 a0) (g_Vs_DrawDiskFall_1 a0) (g_Vs_DrawDiskFall_2 a0)) (g_Vi_DiskFall_1 (g_Vs_DrawDiskFall_0 a0) (g_Vs_DrawDiskFall_1 a0) (g_Vs_DrawDiskFall_2 a0)) (g_Vs_DrawDiskFall_2 a0)) (g_Vi_DiskFall_0 (g_Vs_DrawDiskFall_0 a0) (g_Vs_DrawDiskFall_1 a0) (g_Vs_DrawDiskFall_2 a0)) (g_Vi_DiskFall_1 (g_Vs_DrawDiskFall_0 a0) (g_Vs_DrawDiskFall_1 a0) (g_Vs_DrawDiskFall_2 a0)) else !(↑(List.length (g_Vi_DiskFall_0 (g_Vs_DrawDiskFall_0 a0) (g_Vs_DrawDiskFall_1 a0) (g_Vs_DrawDiskFall_2 a0))) : Int) == IntKind.wrap IntKind.i64 (g_Vs_DrawDiskFall_1 a0 + if IntKind.wrap IntKind.i64 ((↑(List.length (g_Vs_DrawDiskFall_0 a0)) : Int) - g_Vs_DrawDiskFall_1 a0) < g_Vs_DrawDiskFall_2 a0 then IntKind.wrap IntKind.i64 ((↑(List.length (g_Vs_DrawDiskFall_0 a0)) : Int) - g_Vs_DrawDiskFall_1 a0) else g_Vs_DrawDiskFall_2 a0) || g_Ai_DiskFall (g_Vi_DiskFall_0 (g_Vs_DrawDiskFall_0 a0) (g_Vs_DrawDiskFall_1 a0) (g_Vs_DrawDiskFall_2 a0)) (g_Vi_DiskFall_1 (g_Vs_DrawDiskFall_0 a0) (g_Vs_DrawDiskFall_1 a0) (g_Vs_DrawDiskFall_2 a0)) (g_Vs_DrawDiskFall_2 a0) && g_Aw_jaDisk (g_Vi_DiskFall_0 (g_Vi_DiskFall_0 (g_Vs_DrawDiskFall_0 a0) (g_Vs_DrawDiskFall_1 a0) (g_Vs_DrawDiskFall_2 a0)) (g_Vi_DiskFall_1 (g_Vs_DrawDiskFall_0 a0) (g_Vs_DrawDiskFall_1 a0) (g_Vs_DrawDiskFall_2 a0)) (g_Vs_DrawDiskFall_2 a0)) (g_Vi_DiskFall_1 (g_Vi_DiskFall_0 (g_Vs_DrawDiskFall_0 a0) (g_Vs_DrawDiskFall_1 a0) (g_Vs_DrawDiskFall_2 a0)) (g_Vi_DiskFall_1 (g_Vs_DrawDiskFall_0 a0) (g_Vs_DrawDiskFall_1 a0) (g_Vs_DrawDiskFall_2 a0)) (g_Vs_DrawDiskFall_2 a0)) (g_Vi_DiskFall_0 (g_Vs_DrawDiskFall_0 a0) (g_Vs_DrawDiskFall_1 a0) (g_Vs_DrawDiskFall_2 a0)) (g_Vi_DiskFall_1 (g_Vs_DrawDiskFall_0 a0) (g_Vs_DrawDiskFall_1 a0) (g_Vs_DrawDiskFall_2 a0))))))))))
noncomputable def g_Vw_FnDiskFall_0 (a0 : List (Int)) : Bool := bif decide ((↑(List.length a0) : Int) > (1048576 : Int)) then true else bif !g_Vw_jaDisk_0 (g_Vi_DiskFall_0 (g_Vs_DrawDiskFall_0 a0) (g_Vs_DrawDiskFall_1 a0) (g_Vs_DrawDiskFall_2 a0)) (g_Vi_DiskFall_1 (g_Vs_DrawDiskFall_0 a0) (g_Vs_DrawDiskFall_1 a0) (g_Vs_DrawDiskFall_2 a0)) (g_Vs_DiskFall_0 (g_Vs_DrawDiskFall_0 a0) (g_Vs_DrawDiskFall_1 a0) (g_Vs_DrawDiskFall_2 a0)) (g_Vs_DiskFall_1 (g_Vs_DrawDiskFall_0 a0) (g_Vs_DrawDiskFall_1 a0) (g_Vs_DrawDiskFall_2 a0)) then false else bif !g_Vs_DiskOk_0 (g_Vs_DrawDiskFall_0 a0) (g_Vs_DrawDiskFall_1 a0) then bif (↑(List.length (g_Vi_DiskFall_0 (g_Vs_DrawDiskFall_0 a0) (g_Vs_DrawDiskFall_1 a0) (g_Vs_DrawDiskFall_2 a0))) : Int) == (0 : Int) then g_Vw_jaOk_0 else false else bif decide ((↑(List.length (g_Vi_DiskFall_0 (g_Vs_DrawDiskFall_0 a0) (g_Vs_DrawDiskFall_1 a0) (g_Vs_DrawDiskFall_2 a0))) : Int) < g_Vs_DrawDiskFall_1 a0) then false else bif decide ((↑(List.length (g_Vi_DiskFall_0 (g_Vs_DrawDiskFall_0 a0) (g_Vs_DrawDiskFall_1 a0) (g_Vs_DrawDiskFall_2 a0))) : Int) > (↑(List.length (g_Vs_DrawDiskFall_0 a0)) : Int)) then false else bif !g_Vw_jaNotes_0 (g_Vi_DiskFall_0 (g_Vs_DrawDiskFall_0 a0) (g_Vs_DrawDiskFall_1 a0) (g_Vs_DrawDiskFall_2 a0)) (List.drop (nat_lit 0) (List.take (Int.toNat (↑(List.length (g_Vi_DiskFall_0 (g_Vs_DrawDiskFall_0 a0) (g_Vs_DrawDiskFall_1 a0) (g_Vs_DrawDiskFall_2 a0))) : Int)) (g_Vs_DrawDiskFall_0 a0))) then false else bif g_Vi_DiskFall_1 (g_Vs_DrawDiskFall_0 a0) (g_Vs_DrawDiskFall_1 a0) (g_Vs_DrawDiskFall_2 a0) != (↑(List.length (g_Vi_DiskFall_0 (g_Vs_DrawDiskFall_0 a0) (g_Vs_DrawDiskFall_1 a0) (g_Vs_DrawDiskFall_2 a0))) : Int) then false else bif decide (g_Vs_DrawDiskFall_2 a0 > (0 : Int)) then bif decide (g_Vs_DrawDiskFall_2 a0 < (0 : Int)) then g_Vw_jaDisk_0 (g_Vi_DiskFall_0 (g_Vi_DiskFall_0 (g_Vs_DrawDiskFall_0 a0) (g_Vs_DrawDiskFall_1 a0) (g_Vs_DrawDiskFall_2 a0)) (g_Vi_DiskFall_1 (g_Vs_DrawDiskFall_0 a0) (g_Vs_DrawDiskFall_1 a0) (g_Vs_DrawDiskFall_2 a0)) (g_Vs_DrawDiskFall_2 a0)) (g_Vi_DiskFall_1 (g_Vi_DiskFall_0 (g_Vs_DrawDiskFall_0 a0) (g_Vs_DrawDiskFall_1 a0) (g_Vs_DrawDiskFall_2 a0)) (g_Vi_DiskFall_1 (g_Vs_DrawDiskFall_0 a0) (g_Vs_DrawDiskFall_1 a0) (g_Vs_DrawDiskFall_2 a0)) (g_Vs_DrawDiskFall_2 a0)) (g_Vi_DiskFall_0 (g_Vs_DrawDiskFall_0 a0) (g_Vs_DrawDiskFall_1 a0) (g_Vs_DrawDiskFall_2 a0)) (g_Vi_DiskFall_1 (g_Vs_DrawDiskFall_0 a0) (g_Vs_DrawDiskFall_1 a0) (g_Vs_DrawDiskFall_2 a0)) else bif (↑(List.length (g_Vi_DiskFall_0 (g_Vs_DrawDiskFall_0 a0) (g_Vs_DrawDiskFall_1 a0) (g_Vs_DrawDiskFall_2 a0))) : Int) == IntKind.wrap IntKind.i64 (g_Vs_DrawDiskFall_1 a0 + if IntKind.wrap IntKind.i64 ((↑(List.length (g_Vs_DrawDiskFall_0 a0)) : Int) - g_Vs_DrawDiskFall_1 a0) < g_Vs_DrawDiskFall_2 a0 then IntKind.wrap IntKind.i64 ((↑(List.length (g_Vs_DrawDiskFall_0 a0)) : Int) - g_Vs_DrawDiskFall_1 a0) else g_Vs_DrawDiskFall_2 a0) then g_Vw_jaDisk_0 (g_Vi_DiskFall_0 (g_Vi_DiskFall_0 (g_Vs_DrawDiskFall_0 a0) (g_Vs_DrawDiskFall_1 a0) (g_Vs_DrawDiskFall_2 a0)) (g_Vi_DiskFall_1 (g_Vs_DrawDiskFall_0 a0) (g_Vs_DrawDiskFall_1 a0) (g_Vs_DrawDiskFall_2 a0)) (g_Vs_DrawDiskFall_2 a0)) (g_Vi_DiskFall_1 (g_Vi_DiskFall_0 (g_Vs_DrawDiskFall_0 a0) (g_Vs_DrawDiskFall_1 a0) (g_Vs_DrawDiskFall_2 a0)) (g_Vi_DiskFall_1 (g_Vs_DrawDiskFall_0 a0) (g_Vs_DrawDiskFall_1 a0) (g_Vs_DrawDiskFall_2 a0)) (g_Vs_DrawDiskFall_2 a0)) (g_Vi_DiskFall_0 (g_Vs_DrawDiskFall_0 a0) (g_Vs_DrawDiskFall_1 a0) (g_Vs_DrawDiskFall_2 a0)) (g_Vi_DiskFall_1 (g_Vs_DrawDiskFall_0 a0) (g_Vs_DrawDiskFall_1 a0) (g_Vs_DrawDiskFall_2 a0)) else false else bif (↑(List.length (g_Vi_DiskFall_0 (g_Vs_DrawDiskFall_0 a0) (g_Vs_DrawDiskFall_1 a0) (g_Vs_DrawDiskFall_2 a0))) : Int) == g_Vs_DrawDiskFall_1 a0 then bif decide (g_Vs_DrawDiskFall_2 a0 < (0 : Int)) then g_Vw_jaDisk_0 (g_Vi_DiskFall_0 (g_Vi_DiskFall_0 (g_Vs_DrawDiskFall_0 a0) (g_Vs_DrawDiskFall_1 a0) (g_Vs_DrawDiskFall_2 a0)) (g_Vi_DiskFall_1 (g_Vs_DrawDiskFall_0 a0) (g_Vs_DrawDiskFall_1 a0) (g_Vs_DrawDiskFall_2 a0)) (g_Vs_DrawDiskFall_2 a0)) (g_Vi_DiskFall_1 (g_Vi_DiskFall_0 (g_Vs_DrawDiskFall_0 a0) (g_Vs_DrawDiskFall_1 a0) (g_Vs_DrawDiskFall_2 a0)) (g_Vi_DiskFall_1 (g_Vs_DrawDiskFall_0 a0) (g_Vs_DrawDiskFall_1 a0) (g_Vs_DrawDiskFall_2 a0)) (g_Vs_DrawDiskFall_2 a0)) (g_Vi_DiskFall_0 (g_Vs_DrawDiskFall_0 a0) (g_Vs_DrawDiskFall_1 a0) (g_Vs_DrawDiskFall_2 a0)) (g_Vi_DiskFall_1 (g_Vs_DrawDiskFall_0 a0) (g_Vs_DrawDiskFall_1 a0) (g_Vs_DrawDiskFall_2 a0)) else bif (↑(List.length (g_Vi_DiskFall_0 (g_Vs_DrawDiskFall_0 a0) (g_Vs_DrawDiskFall_1 a0) (g_Vs_DrawDiskFall_2 a0))) : Int) == IntKind.wrap IntKind.i64 (g_Vs_DrawDiskFall_1 a0 + if IntKind.wrap IntKind.i64 ((↑(List.length (g_Vs_DrawDiskFall_0 a0)) : Int) - g_Vs_DrawDiskFall_1 a0) < g_Vs_DrawDiskFall_2 a0 then IntKind.wrap IntKind.i64 ((↑(List.length (g_Vs_DrawDiskFall_0 a0)) : Int) - g_Vs_DrawDiskFall_1 a0) else g_Vs_DrawDiskFall_2 a0) then g_Vw_jaDisk_0 (g_Vi_DiskFall_0 (g_Vi_DiskFall_0 (g_Vs_DrawDiskFall_0 a0) (g_Vs_DrawDiskFall_1 a0) (g_Vs_DrawDiskFall_2 a0)) (g_Vi_DiskFall_1 (g_Vs_DrawDiskFall_0 a0) (g_Vs_DrawDiskFall_1 a0) (g_Vs_DrawDiskFall_2 a0)) (g_Vs_DrawDiskFall_2 a0)) (g_Vi_DiskFall_1 (g_Vi_DiskFall_0 (g_Vs_DrawDiskFall_0 a0) (g_Vs_DrawDiskFall_1 a0) (g_Vs_DrawDiskFall_2 a0)) (g_Vi_DiskFall_1 (g_Vs_DrawDiskFall_0 a0) (g_Vs_DrawDiskFall_1 a0) (g_Vs_DrawDiskFall_2 a0)) (g_Vs_DrawDiskFall_2 a0)) (g_Vi_DiskFall_0 (g_Vs_DrawDiskFall_0 a0) (g_Vs_DrawDiskFall_1 a0) (g_Vs_DrawDiskFall_2 a0)) (g_Vi_DiskFall_1 (g_Vs_DrawDiskFall_0 a0) (g_Vs_DrawDiskFall_1 a0) (g_Vs_DrawDiskFall_2 a0)) else false else false
noncomputable def Fw_FnDiskFall : FSem := fun ys => match ys with
  | [.val false [.sl .any 5 (.int .u8) a0]] => some ((g_Aw_FnDiskFall a0), .val false [.bool (g_Vw_FnDiskFall_0 a0)], [])
  | _ => none
theorem vw_FnDiskFall (a0 : List (Int)) : collapseH .std Ew_FnDiskFall Ow_FnDiskFall_0 (execFn Ew_FnDiskFall Go.Proofs.Tryd.f7 msw_FnDiskFall [.val false [.sl .any 5 (.int .u8) a0]]) = some ((g_Aw_FnDiskFall a0), .val false [.bool (g_Vw_FnDiskFall_0 a0)], []) := by kernel_rfl
theorem sw_FnDiskFall : Sound Go.Proofs.Tryd.prog 7 msw_FnDiskFall Fw_FnDiskFall := by
  refine fn_gen goodw_FnDiskFall (by kernel_rfl) .std (fn := Go.Proofs.Tryd.f7) (c := (Go.Proofs.Tryd.f7.body.getD .skip)) (o := Ow_FnDiskFall_0) (k := 0) (by kernel_rfl) (by kernel_rfl) (by kernel_rfl) (by kernel_rfl) (by decide) kw_FnDiskFall_0 ?_
  intro ys r outs h
  unfold Fw_FnDiskFall at h
  split at h
  · exact (vw_FnDiskFall _).trans h
  · cases h
end Go.Proofs.YtibafhmmnoijkaaDoor.E
end
section
namespace Go.Proofs.YtibafhmmnoijkaaDoor.E
open Go
set_option maxRecDepth 100000
set_option maxHeartbeats 0
set_option linter.all false
noncomputable def Ei_LogDisk_add : Env where
  tt := mkTI Go.Proofs.Tryd.prog
  fn := fun f => match f with
    | 125 => some (msi_LogNote_copied, FSem.wk msi_LogNote_copied Fi_LogNote_copied)
    | _ => none
  bxf := fun _ => none
  mv := []
  keep := fun _ => []
  keepB := fun _ => []
  keepX := fun _ => []
  keepXB := fun _ => []
theorem goodFi_LogDisk_add : ∀ f ms F, Ei_LogDisk_add.fn f = some (ms, F) → Sound Go.Proofs.Tryd.prog f ms F := fun f ms F h => by
  unfold Ei_LogDisk_add at h
  dsimp only at h
  split at h
  · injection h with h; injection h with e1 e2; subst e1 e2; exact Sound.wk si_LogNote_copied
  · cases h
theorem goodBi_LogDisk_add : ∀ f ms F, Ei_LogDisk_add.bxf f = some (ms, F) → SoundB Go.Proofs.Tryd.prog f ms F := fun f ms F h => by cases h
theorem goodi_LogDisk_add : Good Go.Proofs.Tryd.prog Ei_LogDisk_add := ⟨rfl, goodFi_LogDisk_add, goodBi_LogDisk_add⟩
noncomputable def Oi_LogDisk_add_0 : Orc := fun _ _ => none
noncomputable def msi_LogDisk_add : List PM := [.bx, .rd, .own]
noncomputable def lsi_LogDisk_add : List (Nat × Code) := loopsAll 0 (Go.Proofs.Tryd.f77.body.getD .skip)

theorem ki_LogDisk_add_0 : OrcOk Ei_LogDisk_add Oi_LogDisk_add_0 lsi_LogDisk_add 0 := orcOk_none
noncomputable def g_Ai_LogDisk_add (a0 : List ((Int) × ((Int) × ((List (ByteArray)) × (List ((ByteArray) × ((Bool) × (List (Int))))))))) (a1 : Int) (a2 : Int) (a3 : Int) (a4 : List (ByteArray)) (a5 : List ((ByteArray) × ((Bool) × (List (Int))))) (a6 : Bool) : Bool := (↑(List.length a0) : Int) == (120 : Int) || g_Ai_LogNote_copied a2 a3 a4 a5 && decide ((List.length a0 + List.length [(a2, a3, a4, g_Vi_writesOf_0 a5)]) * nat_lit 64 ≤ nat_lit 140737488355328 ∧ List.length a0 + List.length [(a2, a3, a4, g_Vi_writesOf_0 a5)] ≤ nat_lit 9223372036854775807)
noncomputable def g_Vi_LogDisk_add_0 (a0 : List ((Int) × ((Int) × ((List (ByteArray)) × (List ((ByteArray) × ((Bool) × (List (Int))))))))) (a1 : Int) (a2 : Int) (a3 : Int) (a4 : List (ByteArray)) (a5 : List ((ByteArray) × ((Bool) × (List (Int))))) (a6 : Bool) : Bool := bif (↑(List.length a0) : Int) == (120 : Int) then false else bif a6 then true else true
noncomputable def g_Vi_LogDisk_add_1 (a0 : List ((Int) × ((Int) × ((List (ByteArray)) × (List ((ByteArray) × ((Bool) × (List (Int))))))))) (a1 : Int) (a2 : Int) (a3 : Int) (a4 : List (ByteArray)) (a5 : List ((ByteArray) × ((Bool) × (List (Int))))) (a6 : Bool) : List ((Int) × ((Int) × ((List (ByteArray)) × (List ((ByteArray) × ((Bool) × (List (Int)))))))) := bif (↑(List.length a0) : Int) == (120 : Int) then a0 else bif a6 then a0 ++ [(a2, a3, a4, g_Vi_writesOf_0 a5)] else a0 ++ [(a2, a3, a4, g_Vi_writesOf_0 a5)]
noncomputable def g_Vi_LogDisk_add_2 (a0 : List ((Int) × ((Int) × ((List (ByteArray)) × (List ((ByteArray) × ((Bool) × (List (Int))))))))) (a1 : Int) (a2 : Int) (a3 : Int) (a4 : List (ByteArray)) (a5 : List ((ByteArray) × ((Bool) × (List (Int))))) (a6 : Bool) : Int := bif (↑(List.length a0) : Int) == (120 : Int) then a1 else bif a6 then (↑(List.length (a0 ++ [(a2, a3, a4, g_Vi_writesOf_0 a5)])) : Int) else a1
noncomputable def Fi_LogDisk_add : FSem := fun ys => match ys with
  | [.val true [.own .any true 59 (.pair (.int .i64) (.pair (.int .i64) (.pair (.sl 9 .str) (.sl 83 (.pair .str (.pair .bool (.sl 3 (.int .i64)))))))) a0, .int .i64 a1], .val true [.int .i64 a2, .int .i64 a3, .sl .any 9 .str a4, .sl .any 83 (.pair .str (.pair .bool (.sl 3 (.int .i64)))) a5], .val false [.bool a6]] => some ((g_Ai_LogDisk_add a0 a1 a2 a3 a4 a5 a6), .val false [.bool (g_Vi_LogDisk_add_0 a0 a1 a2 a3 a4 a5 a6)], [[.own .any true 59 (.pair (.int .i64) (.pair (.int .i64) (.pair (.sl 9 .str) (.sl 83 (.pair .str (.pair .bool (.sl 3 (.int .i64)))))))) (g_Vi_LogDisk_add_1 a0 a1 a2 a3 a4 a5 a6), .int .i64 (g_Vi_LogDisk_add_2 a0 a1 a2 a3 a4 a5 a6)]])
  | _ => none
theorem vi_LogDisk_add (a0 : List ((Int) × ((Int) × ((List (ByteArray)) × (List ((ByteArray) × ((Bool) × (List (Int))))))))) (a1 : Int) (a2 : Int) (a3 : Int) (a4 : List (ByteArray)) (a5 : List ((ByteArray) × ((Bool) × (List (Int))))) (a6 : Bool) : collapseH .std Ei_LogDisk_add Oi_LogDisk_add_0 (execFn Ei_LogDisk_add Go.Proofs.Tryd.f77 msi_LogDisk_add [.val true [.own .any true 59 (.pair (.int .i64) (.pair (.int .i64) (.pair (.sl 9 .str) (.sl 83 (.pair .str (.pair .bool (.sl 3 (.int .i64)))))))) a0, .int .i64 a1], .val true [.int .i64 a2, .int .i64 a3, .sl .any 9 .str a4, .sl .any 83 (.pair .str (.pair .bool (.sl 3 (.int .i64)))) a5], .val false [.bool a6]]) = some ((g_Ai_LogDisk_add a0 a1 a2 a3 a4 a5 a6), .val false [.bool (g_Vi_LogDisk_add_0 a0 a1 a2 a3 a4 a5 a6)], [[.own .any true 59 (.pair (.int .i64) (.pair (.int .i64) (.pair (.sl 9 .str) (.sl 83 (.pair .str (.pair .bool (.sl 3 (.int .i64)))))))) (g_Vi_LogDisk_add_1 a0 a1 a2 a3 a4 a5 a6), .int .i64 (g_Vi_LogDisk_add_2 a0 a1 a2 a3 a4 a5 a6)]]) := by kernel_rfl
theorem si_LogDisk_add : Sound Go.Proofs.Tryd.prog 77 msi_LogDisk_add Fi_LogDisk_add := by
  refine fn_gen goodi_LogDisk_add (by kernel_rfl) .std (fn := Go.Proofs.Tryd.f77) (c := (Go.Proofs.Tryd.f77.body.getD .skip)) (o := Oi_LogDisk_add_0) (k := 0) (by kernel_rfl) (by kernel_rfl) (by kernel_rfl) (by kernel_rfl) (by decide) ki_LogDisk_add_0 ?_
  intro ys r outs h
  unfold Fi_LogDisk_add at h
  split at h
  · exact (vi_LogDisk_add _ _ _ _ _ _ _).trans h
  · cases h
end Go.Proofs.YtibafhmmnoijkaaDoor.E
end
section
namespace Go.Proofs.YtibafhmmnoijkaaDoor.E
open Go
set_option maxRecDepth 100000
set_option maxHeartbeats 0
set_option linter.all false
noncomputable def Ei_DiskAdd : Env where
  tt := mkTI Go.Proofs.Tryd.prog
  fn := fun f => match f with
    | 26 => some (msi_DiskOk, FSem.wk msi_DiskOk Fi_DiskOk)
    | 66 => some (msi_NoteOk, FSem.wk msi_NoteOk Fi_NoteOk)
    | 76 => some (msi_LogDisk_copied, FSem.wk msi_LogDisk_copied Fi_LogDisk_copied)
    | 77 => some (msi_LogDisk_add, FSem.wk msi_LogDisk_add Fi_LogDisk_add)
    | _ => none
  bxf := fun _ => none
  mv := []
  keep := fun _ => []
  keepB := fun _ => []
  keepX := fun _ => []
  keepXB := fun _ => []
theorem goodFi_DiskAdd : ∀ f ms F, Ei_DiskAdd.fn f = some (ms, F) → Sound Go.Proofs.Tryd.prog f ms F := fun f ms F h => by
  unfold Ei_DiskAdd at h
  dsimp only at h
  split at h
  · injection h with h; injection h with e1 e2; subst e1 e2; exact Sound.wk si_DiskOk
  · injection h with h; injection h with e1 e2; subst e1 e2; exact Sound.wk si_NoteOk
  · injection h with h; injection h with e1 e2; subst e1 e2; exact Sound.wk si_LogDisk_copied
  · injection h with h; injection h with e1 e2; subst e1 e2; exact Sound.wk si_LogDisk_add
  · cases h
theorem goodBi_DiskAdd : ∀ f ms F, Ei_DiskAdd.bxf f = some (ms, F) → SoundB Go.Proofs.Tryd.prog f ms F := fun f ms F h => by cases h
theorem goodi_DiskAdd : Good Go.Proofs.Tryd.prog Ei_DiskAdd := ⟨rfl, goodFi_DiskAdd, goodBi_DiskAdd⟩
noncomputable def Oi_DiskAdd_0 : Orc := fun _ _ => none
noncomputable def msi_DiskAdd : List PM := [.rd, .rd, .own]
noncomputable def lsi_DiskAdd : List (Nat × Code) := loopsAll 0 (Go.Proofs.Tryd.f32.body.getD .skip)

theorem ki_DiskAdd_0 : OrcOk Ei_DiskAdd Oi_DiskAdd_0 lsi_DiskAdd 0 := orcOk_none
noncomputable def g_Ai_DiskAdd (a0 : List ((Int) × ((Int) × ((List (ByteArray)) × (List ((ByteArray) × ((Bool) × (List (Int))))))))) (a1 : Int) (a2 : Int) (a3 : Int) (a4 : List (ByteArray)) (a5 : List ((ByteArray) × ((Bool) × (List (Int))))) (a6 : Bool) : Bool := g_Ai_DiskOk a0 a1 && (!g_Vi_DiskOk_0 a0 a1 || g_Ai_NoteOk a2 a3 a4 a5 && (!g_Vi_NoteOk_0 a2 a3 a4 a5 || g_Ai_LogDisk_copied a0 a1 && g_Ai_LogDisk_add (g_Vi_LogDisk_copied_0 a0 a1) a1 a2 a3 a4 a5 a6))
noncomputable def g_Vi_DiskAdd_0 (a0 : List ((Int) × ((Int) × ((List (ByteArray)) × (List ((ByteArray) × ((Bool) × (List (Int))))))))) (a1 : Int) (a2 : Int) (a3 : Int) (a4 : List (ByteArray)) (a5 : List ((ByteArray) × ((Bool) × (List (Int))))) (a6 : Bool) : List ((Int) × ((Int) × ((List (ByteArray)) × (List ((ByteArray) × ((Bool) × (List (Int)))))))) := bif !g_Vi_DiskOk_0 a0 a1 then [] else bif !g_Vi_NoteOk_0 a2 a3 a4 a5 then [] else g_Vi_LogDisk_add_1 (g_Vi_LogDisk_copied_0 a0 a1) a1 a2 a3 a4 a5 a6
noncomputable def g_Vi_DiskAdd_1 (a0 : List ((Int) × ((Int) × ((List (ByteArray)) × (List ((ByteArray) × ((Bool) × (List (Int))))))))) (a1 : Int) (a2 : Int) (a3 : Int) (a4 : List (ByteArray)) (a5 : List ((ByteArray) × ((Bool) × (List (Int))))) (a6 : Bool) : Int := bif !g_Vi_DiskOk_0 a0 a1 then (0 : Int) else bif !g_Vi_NoteOk_0 a2 a3 a4 a5 then (0 : Int) else g_Vi_LogDisk_add_2 (g_Vi_LogDisk_copied_0 a0 a1) a1 a2 a3 a4 a5 a6
noncomputable def g_Vi_DiskAdd_2 (a0 : List ((Int) × ((Int) × ((List (ByteArray)) × (List ((ByteArray) × ((Bool) × (List (Int))))))))) (a1 : Int) (a2 : Int) (a3 : Int) (a4 : List (ByteArray)) (a5 : List ((ByteArray) × ((Bool) × (List (Int))))) (a6 : Bool) : Bool := bif !g_Vi_DiskOk_0 a0 a1 then false else bif !g_Vi_NoteOk_0 a2 a3 a4 a5 then false else g_Vi_LogDisk_add_0 (g_Vi_LogDisk_copied_0 a0 a1) a1 a2 a3 a4 a5 a6
noncomputable def Fi_DiskAdd : FSem := fun ys => match ys with
  | [.val true [.sl .any 59 (.pair (.int .i64) (.pair (.int .i64) (.pair (.sl 9 .str) (.sl 83 (.pair .str (.pair .bool (.sl 3 (.int .i64)))))))) a0, .int .i64 a1], .val true [.int .i64 a2, .int .i64 a3, .sl .any 9 .str a4, .sl .any 83 (.pair .str (.pair .bool (.sl 3 (.int .i64)))) a5], .val false [.bool a6]] => some ((g_Ai_DiskAdd a0 a1 a2 a3 a4 a5 a6), .tup [(true, [.own .any true 59 (.pair (.int .i64) (.pair (.int .i64) (.pair (.sl 9 .str) (.sl 83 (.pair .str (.pair .bool (.sl 3 (.int .i64)))))))) (g_Vi_DiskAdd_0 a0 a1 a2 a3 a4 a5 a6), .int .i64 (g_Vi_DiskAdd_1 a0 a1 a2 a3 a4 a5 a6)]), (false, [.bool (g_Vi_DiskAdd_2 a0 a1 a2 a3 a4 a5 a6)])], [])
  | _ => none
theorem vi_DiskAdd (a0 : List ((Int) × ((Int) × ((List (ByteArray)) × (List ((ByteArray) × ((Bool) × (List (Int))))))))) (a1 : Int) (a2 : Int) (a3 : Int) (a4 : List (ByteArray)) (a5 : List ((ByteArray) × ((Bool) × (List (Int))))) (a6 : Bool) : collapseH .std Ei_DiskAdd Oi_DiskAdd_0 (execFn Ei_DiskAdd Go.Proofs.Tryd.f32 msi_DiskAdd [.val true [.sl .any 59 (.pair (.int .i64) (.pair (.int .i64) (.pair (.sl 9 .str) (.sl 83 (.pair .str (.pair .bool (.sl 3 (.int .i64)))))))) a0, .int .i64 a1], .val true [.int .i64 a2, .int .i64 a3, .sl .any 9 .str a4, .sl .any 83 (.pair .str (.pair .bool (.sl 3 (.int .i64)))) a5], .val false [.bool a6]]) = some ((g_Ai_DiskAdd a0 a1 a2 a3 a4 a5 a6), .tup [(true, [.own .any true 59 (.pair (.int .i64) (.pair (.int .i64) (.pair (.sl 9 .str) (.sl 83 (.pair .str (.pair .bool (.sl 3 (.int .i64)))))))) (g_Vi_DiskAdd_0 a0 a1 a2 a3 a4 a5 a6), .int .i64 (g_Vi_DiskAdd_1 a0 a1 a2 a3 a4 a5 a6)]), (false, [.bool (g_Vi_DiskAdd_2 a0 a1 a2 a3 a4 a5 a6)])], []) := by kernel_rfl
theorem si_DiskAdd : Sound Go.Proofs.Tryd.prog 32 msi_DiskAdd Fi_DiskAdd := by
  refine fn_gen goodi_DiskAdd (by kernel_rfl) .std (fn := Go.Proofs.Tryd.f32) (c := (Go.Proofs.Tryd.f32.body.getD .skip)) (o := Oi_DiskAdd_0) (k := 0) (by kernel_rfl) (by kernel_rfl) (by kernel_rfl) (by kernel_rfl) (by decide) ki_DiskAdd_0 ?_
  intro ys r outs h
  unfold Fi_DiskAdd at h
  split at h
  · exact (vi_DiskAdd _ _ _ _ _ _ _).trans h
  · cases h
end Go.Proofs.YtibafhmmnoijkaaDoor.E
end
