/- What the functions that are reached do, by the engine: for the proof (laws.FnExactDiskOk): part 2. No conditions. -/
import Derived.Test.YtibafhmmnoijkaaDoorGa
import Derived.Test.YtibafhmmnoijkaaDoorProg
set_option linter.all false
section
namespace Go.Proofs.YtibafhmmnoijkaaDoor.E
open Go
set_option maxRecDepth 100000
set_option maxHeartbeats 0
set_option linter.all false
noncomputable def Ew_FnExactDiskOk : Env where
  tt := mkTI Go.Proofs.Tryd.prog
  fn := fun f => match f with
    | 23 => some (msw_szLogDisk, FSem.wk msw_szLogDisk Fw_szLogDisk)
    | 24 => some (mss_DiskOk, FSem.wk mss_DiskOk Fs_DiskOk)
    | 25 => some (msw_toLogDisk, FSem.wk msw_toLogDisk Fw_toLogDisk)
    | 26 => some (msi_DiskOk, FSem.wk msi_DiskOk Fi_DiskOk)
    | 27 => some (msw_eqLogDisk, FSem.wk msw_eqLogDisk Fw_eqLogDisk)
    | _ => none
  bxf := fun _ => none
  mv := []
  keep := fun _ => []
  keepB := fun _ => []
  keepX := fun _ => []
  keepXB := fun _ => []
theorem goodFw_FnExactDiskOk : ∀ f ms F, Ew_FnExactDiskOk.fn f = some (ms, F) → Sound Go.Proofs.Tryd.prog f ms F := fun f ms F h => by
  unfold Ew_FnExactDiskOk at h
  dsimp only at h
  split at h
  · injection h with h; injection h with e1 e2; subst e1 e2; exact Sound.wk sw_szLogDisk
  · injection h with h; injection h with e1 e2; subst e1 e2; exact Sound.wk ss_DiskOk
  · injection h with h; injection h with e1 e2; subst e1 e2; exact Sound.wk sw_toLogDisk
  · injection h with h; injection h with e1 e2; subst e1 e2; exact Sound.wk si_DiskOk
  · injection h with h; injection h with e1 e2; subst e1 e2; exact Sound.wk sw_eqLogDisk
  · cases h
theorem goodBw_FnExactDiskOk : ∀ f ms F, Ew_FnExactDiskOk.bxf f = some (ms, F) → SoundB Go.Proofs.Tryd.prog f ms F := fun f ms F h => by cases h
theorem goodw_FnExactDiskOk : Good Go.Proofs.Tryd.prog Ew_FnExactDiskOk := ⟨rfl, goodFw_FnExactDiskOk, goodBw_FnExactDiskOk⟩
noncomputable def Ow_FnExactDiskOk_0 : Orc := fun _ _ => none
noncomputable def msw_FnExactDiskOk : List PM := [.rd]
noncomputable def lsw_FnExactDiskOk : List (Nat × Code) := loopsAll 0 (Go.Proofs.Tryd.f4.body.getD .skip)

theorem kw_FnExactDiskOk_0 : OrcOk Ew_FnExactDiskOk Ow_FnExactDiskOk_0 lsw_FnExactDiskOk 0 := orcOk_none
noncomputable def g_Aw_FnExactDiskOk (a0 : List ((Int) × ((Int) × ((List (ByteArray)) × (List ((ByteArray) × ((Bool) × (List (Int))))))))) (a1 : Int) : Bool := g_Aw_szLogDisk a0 a1 (1048576 : Int) && (decide (g_Vw_szLogDisk_0 a0 a1 (1048576 : Int) < (0 : Int)) || g_Aw_toLogDisk a0 a1 && (g_As_DiskOk (g_Vw_toLogNoteS_0 a0) a1 && (g_Aw_toLogDisk a0 a1 && (g_Ai_DiskOk (g_Vw_toLogNoteS_0 a0) a1 && (!g_Vi_DiskOk_0 (g_Vw_toLogNoteS_0 a0) a1 == g_Vs_DiskOk_0 (g_Vw_toLogNoteS_0 a0) a1 || g_Aw_toLogDisk a0 a1 && g_Aw_eqLogDisk (g_Vw_toLogNoteS_0 a0) a1 (g_Vw_toLogNoteS_0 a0) a1)))))
noncomputable def g_Vw_FnExactDiskOk_0 (a0 : List ((Int) × ((Int) × ((List (ByteArray)) × (List ((ByteArray) × ((Bool) × (List (Int))))))))) (a1 : Int) : Bool := bif decide (g_Vw_szLogDisk_0 a0 a1 (1048576 : Int) < (0 : Int)) then true else bif !g_Vi_DiskOk_0 (g_Vw_toLogNoteS_0 a0) a1 == g_Vs_DiskOk_0 (g_Vw_toLogNoteS_0 a0) a1 then false else bif !g_Vw_eqLogDisk_0 (g_Vw_toLogNoteS_0 a0) a1 (g_Vw_toLogNoteS_0 a0) a1 then false else true
noncomputable def Fw_FnExactDiskOk : FSem := fun ys => match ys with
  | [.val true [.sl .any 140 (.pair (.int .i64) (.pair (.int .i64) (.pair (.sl 9 .str) (.sl 194 (.pair .str (.pair .bool (.sl 3 (.int .i64)))))))) a0, .int .i64 a1]] => some ((g_Aw_FnExactDiskOk a0 a1), .val false [.bool (g_Vw_FnExactDiskOk_0 a0 a1)], [])
  | _ => none
theorem vw_FnExactDiskOk (a0 : List ((Int) × ((Int) × ((List (ByteArray)) × (List ((ByteArray) × ((Bool) × (List (Int))))))))) (a1 : Int) : collapseH .std Ew_FnExactDiskOk Ow_FnExactDiskOk_0 (execFn Ew_FnExactDiskOk Go.Proofs.Tryd.f4 msw_FnExactDiskOk [.val true [.sl .any 140 (.pair (.int .i64) (.pair (.int .i64) (.pair (.sl 9 .str) (.sl 194 (.pair .str (.pair .bool (.sl 3 (.int .i64)))))))) a0, .int .i64 a1]]) = some ((g_Aw_FnExactDiskOk a0 a1), .val false [.bool (g_Vw_FnExactDiskOk_0 a0 a1)], []) := by kernel_rfl
theorem sw_FnExactDiskOk : Sound Go.Proofs.Tryd.prog 4 msw_FnExactDiskOk Fw_FnExactDiskOk := by
  refine fn_gen goodw_FnExactDiskOk (by kernel_rfl) .std (fn := Go.Proofs.Tryd.f4) (c := (Go.Proofs.Tryd.f4.body.getD .skip)) (o := Ow_FnExactDiskOk_0) (k := 0) (by kernel_rfl) (by kernel_rfl) (by kernel_rfl) (by kernel_rfl) (by decide) kw_FnExactDiskOk_0 ?_
  intro ys r outs h
  unfold Fw_FnExactDiskOk at h
  split at h
  · exact (vw_FnExactDiskOk _ _).trans h
  · cases h
end Go.Proofs.YtibafhmmnoijkaaDoor.E
end
