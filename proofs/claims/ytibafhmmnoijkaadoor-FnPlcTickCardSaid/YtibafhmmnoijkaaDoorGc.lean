/- What the functions that are reached do, by the engine: for the proof (laws.FnPlcTick): part 3. No conditions. -/
import Derived.Test.YtibafhmmnoijkaaDoorGb
import Derived.Test.YtibafhmmnoijkaaDoorProg
set_option linter.all false
section
namespace Go.Proofs.YtibafhmmnoijkaaDoor.E
open Go
set_option maxRecDepth 100000
set_option maxHeartbeats 0
set_option linter.all false
noncomputable def Ei_DiskAdd : Env where
  tt := mkTI Go.Proofs.Tryd.prog
  fn := fun f => match f with
    | 26 => some (msi_DiskOk, FSem.wk msi_DiskOk Fi_DiskOk)
    | 66 => some (msi_NoteOk, FSem.wk msi_NoteOk Fi_NoteOk)
    | 76 => some (msi_LogDisk_copied, FSem.wk msi_LogDisk_copied Fi_LogDisk_copied)
    | 77 => some (msi_LogDisk_add, FSem.wk msi_LogDisk_add Fi_LogDisk_add)
    | _ => none
  bxf := fun _ => none
  mv := []
  keep := fun _ => []
  keepB := fun _ => []
  keepX := fun _ => []
  keepXB := fun _ => []
theorem goodFi_DiskAdd : ∀ f ms F, Ei_DiskAdd.fn f = some (ms, F) → Sound Go.Proofs.Tryd.prog f ms F := fun f ms F h => by
  unfold Ei_DiskAdd at h
  dsimp only at h
  split at h
  · injection h with h; injection h with e1 e2; subst e1 e2; exact Sound.wk si_DiskOk
  · injection h with h; injection h with e1 e2; subst e1 e2; exact Sound.wk si_NoteOk
  · injection h with h; injection h with e1 e2; subst e1 e2; exact Sound.wk si_LogDisk_copied
  · injection h with h; injection h with e1 e2; subst e1 e2; exact Sound.wk si_LogDisk_add
  · cases h
theorem goodBi_DiskAdd : ∀ f ms F, Ei_DiskAdd.bxf f = some (ms, F) → SoundB Go.Proofs.Tryd.prog f ms F := fun f ms F h => by cases h
theorem goodi_DiskAdd : Good Go.Proofs.Tryd.prog Ei_DiskAdd := ⟨rfl, goodFi_DiskAdd, goodBi_DiskAdd⟩
noncomputable def Oi_DiskAdd_0 : Orc := fun _ _ => none
noncomputable def msi_DiskAdd : List PM := [.rd, .rd, .own]
noncomputable def lsi_DiskAdd : List (Nat × Code) := loopsAll 0 (Go.Proofs.Tryd.f32.body.getD .skip)

theorem ki_DiskAdd_0 : OrcOk Ei_DiskAdd Oi_DiskAdd_0 lsi_DiskAdd 0 := orcOk_none
noncomputable def g_Ai_DiskAdd (a0 : List ((Int) × ((Int) × ((List (ByteArray)) × (List ((ByteArray) × ((Bool) × (List (Int))))))))) (a1 : Int) (a2 : Int) (a3 : Int) (a4 : List (ByteArray)) (a5 : List ((ByteArray) × ((Bool) × (List (Int))))) (a6 : Bool) : Bool := g_Ai_DiskOk a0 a1 && (!g_Vi_DiskOk_0 a0 a1 || g_Ai_NoteOk a2 a3 a4 a5 && (!g_Vi_NoteOk_0 a2 a3 a4 a5 || g_Ai_LogDisk_copied a0 a1 && g_Ai_LogDisk_add (g_Vi_LogDisk_copied_0 a0 a1) a1 a2 a3 a4 a5 a6))
noncomputable def g_Vi_DiskAdd_0 (a0 : List ((Int) × ((Int) × ((List (ByteArray)) × (List ((ByteArray) × ((Bool) × (List (Int))))))))) (a1 : Int) (a2 : Int) (a3 : Int) (a4 : List (ByteArray)) (a5 : List ((ByteArray) × ((Bool) × (List (Int))))) (a6 : Bool) : List ((Int) × ((Int) × ((List (ByteArray)) × (List ((ByteArray) × ((Bool) × (List (Int)))))))) := bif !g_Vi_DiskOk_0 a0 a1 then [] else bif !g_Vi_NoteOk_0 a2 a3 a4 a5 then [] else g_Vi_LogDisk_add_1 (g_Vi_LogDisk_copied_0 a0 a1) a1 a2 a3 a4 a5 a6
noncomputable def g_Vi_DiskAdd_1 (a0 : List ((Int) × ((Int) × ((List (ByteArray)) × (List ((ByteArray) × ((Bool) × (List (Int))))))))) (a1 : Int) (a2 : Int) (a3 : Int) (a4 : List (ByteArray)) (a5 : List ((ByteArray) × ((Bool) × (List (Int))))) (a6 : Bool) : Int := bif !g_Vi_DiskOk_0 a0 a1 then (0 : Int) else bif !g_Vi_NoteOk_0 a2 a3 a4 a5 then (0 : Int) else g_Vi_LogDisk_add_2 (g_Vi_LogDisk_copied_0 a0 a1) a1 a2 a3 a4 a5 a6
noncomputable def g_Vi_DiskAdd_2 (a0 : List ((Int) × ((Int) × ((List (ByteArray)) × (List ((ByteArray) × ((Bool) × (List (Int))))))))) (a1 : Int) (a2 : Int) (a3 : Int) (a4 : List (ByteArray)) (a5 : List ((ByteArray) × ((Bool) × (List (Int))))) (a6 : Bool) : Bool := bif !g_Vi_DiskOk_0 a0 a1 then false else bif !g_Vi_NoteOk_0 a2 a3 a4 a5 then false else g_Vi_LogDisk_add_0 (g_Vi_LogDisk_copied_0 a0 a1) a1 a2 a3 a4 a5 a6
noncomputable def Fi_DiskAdd : FSem := fun ys => match ys with
  | [.val true [.sl .any 59 (.pair (.int .i64) (.pair (.int .i64) (.pair (.sl 9 .str) (.sl 83 (.pair .str (.pair .bool (.sl 3 (.int .i64)))))))) a0, .int .i64 a1], .val true [.int .i64 a2, .int .i64 a3, .sl .any 9 .str a4, .sl .any 83 (.pair .str (.pair .bool (.sl 3 (.int .i64)))) a5], .val false [.bool a6]] => some ((g_Ai_DiskAdd a0 a1 a2 a3 a4 a5 a6), .tup [(true, [.own .any true 59 (.pair (.int .i64) (.pair (.int .i64) (.pair (.sl 9 .str) (.sl 83 (.pair .str (.pair .bool (.sl 3 (.int .i64)))))))) (g_Vi_DiskAdd_0 a0 a1 a2 a3 a4 a5 a6), .int .i64 (g_Vi_DiskAdd_1 a0 a1 a2 a3 a4 a5 a6)]), (false, [.bool (g_Vi_DiskAdd_2 a0 a1 a2 a3 a4 a5 a6)])], [])
  | _ => none
theorem vi_DiskAdd (a0 : List ((Int) × ((Int) × ((List (ByteArray)) × (List ((ByteArray) × ((Bool) × (List (Int))))))))) (a1 : Int) (a2 : Int) (a3 : Int) (a4 : List (ByteArray)) (a5 : List ((ByteArray) × ((Bool) × (List (Int))))) (a6 : Bool) : collapseH .std Ei_DiskAdd Oi_DiskAdd_0 (execFn Ei_DiskAdd Go.Proofs.Tryd.f32 msi_DiskAdd [.val true [.sl .any 59 (.pair (.int .i64) (.pair (.int .i64) (.pair (.sl 9 .str) (.sl 83 (.pair .str (.pair .bool (.sl 3 (.int .i64)))))))) a0, .int .i64 a1], .val true [.int .i64 a2, .int .i64 a3, .sl .any 9 .str a4, .sl .any 83 (.pair .str (.pair .bool (.sl 3 (.int .i64)))) a5], .val false [.bool a6]]) = some ((g_Ai_DiskAdd a0 a1 a2 a3 a4 a5 a6), .tup [(true, [.own .any true 59 (.pair (.int .i64) (.pair (.int .i64) (.pair (.sl 9 .str) (.sl 83 (.pair .str (.pair .bool (.sl 3 (.int .i64)))))))) (g_Vi_DiskAdd_0 a0 a1 a2 a3 a4 a5 a6), .int .i64 (g_Vi_DiskAdd_1 a0 a1 a2 a3 a4 a5 a6)]), (false, [.bool (g_Vi_DiskAdd_2 a0 a1 a2 a3 a4 a5 a6)])], []) := by kernel_rfl
theorem si_DiskAdd : Sound Go.Proofs.Tryd.prog 32 msi_DiskAdd Fi_DiskAdd := by
  refine fn_gen goodi_DiskAdd (by kernel_rfl) .std (fn := Go.Proofs.Tryd.f32) (c := (Go.Proofs.Tryd.f32.body.getD .skip)) (o := Oi_DiskAdd_0) (k := 0) (by kernel_rfl) (by kernel_rfl) (by kernel_rfl) (by kernel_rfl) (by decide) ki_DiskAdd_0 ?_
  intro ys r outs h
  unfold Fi_DiskAdd at h
  split at h
  · exact (vi_DiskAdd _ _ _ _ _ _ _).trans h
  · cases h
end Go.Proofs.YtibafhmmnoijkaaDoor.E
end
