/- What the functions that are reached do, by the engine: for the proof (laws.FnDiskOf): part 2. No conditions. -/
import Derived.Test.YtibafhmmnoijkaaDoorGa
import Derived.Test.YtibafhmmnoijkaaDoorProg
import Derived.Test.YtibafhmmnoijkaaDoorShelf
set_option linter.all false
section
namespace Go.Proofs.YtibafhmmnoijkaaDoor.E
open Go
set_option maxRecDepth 100000
set_option maxHeartbeats 0
set_option linter.all false
noncomputable def Es_DiskAdd : Env where
  tt := mkTI Go.Proofs.Tryd.prog
  fn := fun f => match f with
    | 24 => some (mss_DiskOk, FSem.wk mss_DiskOk Fs_DiskOk)
    | 40 => some (mss_NoteOk, FSem.wk mss_NoteOk Fs_NoteOk)
    | 79 => some (mss_l2Copy, FSem.wk mss_l2Copy Fs_l2Copy)
    | 83 => some (mss_l2Note, FSem.wk mss_l2Note Fs_l2Note)
    | _ => none
  bxf := fun _ => none
  mv := []
  keep := fun _ => []
  keepB := fun _ => []
  keepX := fun _ => []
  keepXB := fun _ => []
theorem goodFs_DiskAdd : ∀ f ms F, Es_DiskAdd.fn f = some (ms, F) → Sound Go.Proofs.Tryd.prog f ms F := fun f ms F h => by
  unfold Es_DiskAdd at h
  dsimp only at h
  split at h
  · injection h with h; injection h with e1 e2; subst e1 e2; exact Sound.wk ss_DiskOk
  · injection h with h; injection h with e1 e2; subst e1 e2; exact Sound.wk ss_NoteOk
  · injection h with h; injection h with e1 e2; subst e1 e2; exact Sound.wk ss_l2Copy
  · injection h with h; injection h with e1 e2; subst e1 e2; exact Sound.wk ss_l2Note
  · cases h
theorem goodBs_DiskAdd : ∀ f ms F, Es_DiskAdd.bxf f = some (ms, F) → SoundB Go.Proofs.Tryd.prog f ms F := fun f ms F h => by cases h
theorem goods_DiskAdd : Good Go.Proofs.Tryd.prog Es_DiskAdd := ⟨rfl, goodFs_DiskAdd, goodBs_DiskAdd⟩
noncomputable def Os_DiskAdd_0 : Orc := fun _ _ => none
noncomputable def mss_DiskAdd : List PM := [.rd, .rd, .own]
noncomputable def lss_DiskAdd : List (Nat × Code) := loopsAll 0 (Go.Proofs.Tryd.f39.body.getD .skip)

theorem ks_DiskAdd_0 : OrcOk Es_DiskAdd Os_DiskAdd_0 lss_DiskAdd 0 := orcOk_none
noncomputable def g_As_DiskAdd (a0 : List ((Int) × ((Int) × ((List (ByteArray)) × (List ((ByteArray) × ((Bool) × (List (Int))))))))) (a1 : Int) (a2 : Int) (a3 : Int) (a4 : List (ByteArray)) (a5 : List ((ByteArray) × ((Bool) × (List (Int))))) (a6 : Bool) : Bool := g_As_DiskOk a0 a1 && (!g_Vs_DiskOk_0 a0 a1 || g_As_NoteOk a2 a3 a4 a5 && (!g_Vs_NoteOk_0 a2 a3 a4 a5 || g_As_l2Copy a0 a1 && ((↑(List.length (g_Vs_l2Copy_0 a0 a1)) : Int) == (120 : Int) || g_As_l2Note a2 a3 a4 a5 && decide ((List.length (g_Vs_l2Copy_0 a0 a1) + List.length [(a2, a3, g_Vs_l2Note_0 a2 a3 a4 a5, g_Vs_l2Note_1 a2 a3 a4 a5)]) * nat_lit 64 ≤ nat_lit 140737488355328 ∧ List.length (g_Vs_l2Copy_0 a0 a1) + List.length [(a2, a3, g_Vs_l2Note_0 a2 a3 a4 a5, g_Vs_l2Note_1 a2 a3 a4 a5)] ≤ nat_lit 9223372036854775807))))
noncomputable def g_Vs_DiskAdd_0 (a0 : List ((Int) × ((Int) × ((List (ByteArray)) × (List ((ByteArray) × ((Bool) × (List (Int))))))))) (a1 : Int) (a2 : Int) (a3 : Int) (a4 : List (ByteArray)) (a5 : List ((ByteArray) × ((Bool) × (List (Int))))) (a6 : Bool) : List ((Int) × ((Int) × ((List (ByteArray)) × (List ((ByteArray) × ((Bool) × (List (Int)))))))) := bif !g_Vs_DiskOk_0 a0 a1 then [] else bif !g_Vs_NoteOk_0 a2 a3 a4 a5 then [] else bif (↑(List.length (g_Vs_l2Copy_0 a0 a1)) : Int) == (120 : Int) then g_Vs_l2Copy_0 a0 a1 else bif a6 then g_Vs_l2Copy_0 a0 a1 ++ [(a2, a3, g_Vs_l2Note_0 a2 a3 a4 a5, g_Vs_l2Note_1 a2 a3 a4 a5)] else g_Vs_l2Copy_0 a0 a1 ++ [(a2, a3, g_Vs_l2Note_0 a2 a3 a4 a5, g_Vs_l2Note_1 a2 a3 a4 a5)]
noncomputable def g_Vs_DiskAdd_1 (a0 : List ((Int) × ((Int) × ((List (ByteArray)) × (List ((ByteArray) × ((Bool) × (List (Int))))))))) (a1 : Int) (a2 : Int) (a3 : Int) (a4 : List (ByteArray)) (a5 : List ((ByteArray) × ((Bool) × (List (Int))))) (a6 : Bool) : Int := bif !g_Vs_DiskOk_0 a0 a1 then (0 : Int) else bif !g_Vs_NoteOk_0 a2 a3 a4 a5 then (0 : Int) else bif (↑(List.length (g_Vs_l2Copy_0 a0 a1)) : Int) == (120 : Int) then a1 else bif a6 then (↑(List.length (g_Vs_l2Copy_0 a0 a1 ++ [(a2, a3, g_Vs_l2Note_0 a2 a3 a4 a5, g_Vs_l2Note_1 a2 a3 a4 a5)])) : Int) else a1
noncomputable def g_Vs_DiskAdd_2 (a0 : List ((Int) × ((Int) × ((List (ByteArray)) × (List ((ByteArray) × ((Bool) × (List (Int))))))))) (a1 : Int) (a2 : Int) (a3 : Int) (a4 : List (ByteArray)) (a5 : List ((ByteArray) × ((Bool) × (List (Int))))) (a6 : Bool) : Bool := bif !g_Vs_DiskOk_0 a0 a1 then false else bif !g_Vs_NoteOk_0 a2 a3 a4 a5 then false else bif (↑(List.length (g_Vs_l2Copy_0 a0 a1)) : Int) == (120 : Int) then false else bif a6 then true else true
noncomputable def Fs_DiskAdd : FSem := fun ys => match ys with
  | [.val true [.sl .any 59 (.pair (.int .i64) (.pair (.int .i64) (.pair (.sl 9 .str) (.sl 83 (.pair .str (.pair .bool (.sl 3 (.int .i64)))))))) a0, .int .i64 a1], .val true [.int .i64 a2, .int .i64 a3, .sl .any 9 .str a4, .sl .any 83 (.pair .str (.pair .bool (.sl 3 (.int .i64)))) a5], .val false [.bool a6]] => some ((g_As_DiskAdd a0 a1 a2 a3 a4 a5 a6), .tup [(true, [.own .any true 59 (.pair (.int .i64) (.pair (.int .i64) (.pair (.sl 9 .str) (.sl 83 (.pair .str (.pair .bool (.sl 3 (.int .i64)))))))) (g_Vs_DiskAdd_0 a0 a1 a2 a3 a4 a5 a6), .int .i64 (g_Vs_DiskAdd_1 a0 a1 a2 a3 a4 a5 a6)]), (false, [.bool (g_Vs_DiskAdd_2 a0 a1 a2 a3 a4 a5 a6)])], [])
  | _ => none
theorem vs_DiskAdd (a0 : List ((Int) × ((Int) × ((List (ByteArray)) × (List ((ByteArray) × ((Bool) × (List (Int))))))))) (a1 : Int) (a2 : Int) (a3 : Int) (a4 : List (ByteArray)) (a5 : List ((ByteArray) × ((Bool) × (List (Int))))) (a6 : Bool) : collapseH .std Es_DiskAdd Os_DiskAdd_0 (execFn Es_DiskAdd Go.Proofs.Tryd.f39 mss_DiskAdd [.val true [.sl .any 59 (.pair (.int .i64) (.pair (.int .i64) (.pair (.sl 9 .str) (.sl 83 (.pair .str (.pair .bool (.sl 3 (.int .i64)))))))) a0, .int .i64 a1], .val true [.int .i64 a2, .int .i64 a3, .sl .any 9 .str a4, .sl .any 83 (.pair .str (.pair .bool (.sl 3 (.int .i64)))) a5], .val false [.bool a6]]) = some ((g_As_DiskAdd a0 a1 a2 a3 a4 a5 a6), .tup [(true, [.own .any true 59 (.pair (.int .i64) (.pair (.int .i64) (.pair (.sl 9 .str) (.sl 83 (.pair .str (.pair .bool (.sl 3 (.int .i64)))))))) (g_Vs_DiskAdd_0 a0 a1 a2 a3 a4 a5 a6), .int .i64 (g_Vs_DiskAdd_1 a0 a1 a2 a3 a4 a5 a6)]), (false, [.bool (g_Vs_DiskAdd_2 a0 a1 a2 a3 a4 a5 a6)])], []) := by kernel_rfl
theorem ss_DiskAdd : Sound Go.Proofs.Tryd.prog 39 mss_DiskAdd Fs_DiskAdd := by
  refine fn_gen goods_DiskAdd (by kernel_rfl) .std (fn := Go.Proofs.Tryd.f39) (c := (Go.Proofs.Tryd.f39.body.getD .skip)) (o := Os_DiskAdd_0) (k := 0) (by kernel_rfl) (by kernel_rfl) (by kernel_rfl) (by kernel_rfl) (by decide) ks_DiskAdd_0 ?_
  intro ys r outs h
  unfold Fs_DiskAdd at h
  split at h
  · exact (vs_DiskAdd _ _ _ _ _ _ _).trans h
  · cases h
end Go.Proofs.YtibafhmmnoijkaaDoor.E
end
section
namespace Go.Proofs.YtibafhmmnoijkaaDoor.E
open Go
set_option maxRecDepth 100000
set_option maxHeartbeats 0
set_option linter.all false
noncomputable def Es_l20Rd_pick0 : Env where
  tt := mkTI Go.Proofs.Tryd.prog
  fn := fun _ => none
  bxf := fun _ => none
  mv := []
  keep := fun _ => []
  keepB := fun _ => []
  keepX := fun _ => []
  keepXB := fun _ => []
theorem goodFs_l20Rd_pick0 : ∀ f ms F, Es_l20Rd_pick0.fn f = some (ms, F) → Sound Go.Proofs.Tryd.prog f ms F := fun f ms F h => by cases h
theorem goodBs_l20Rd_pick0 : ∀ f ms F, Es_l20Rd_pick0.bxf f = some (ms, F) → SoundB Go.Proofs.Tryd.prog f ms F := fun f ms F h => by cases h
theorem goods_l20Rd_pick0 : Good Go.Proofs.Tryd.prog Es_l20Rd_pick0 := ⟨rfl, goodFs_l20Rd_pick0, goodBs_l20Rd_pick0⟩
noncomputable def Os_l20Rd_pick0_0 : Orc := fun _ _ => none
noncomputable def mss_l20Rd_pick0 : List PM := [.bx, .own]
noncomputable def lss_l20Rd_pick0 : List (Nat × Code) := loopsAll 0 (Go.Proofs.Tryd.f72.body.getD .skip)

theorem ks_l20Rd_pick0_0 : OrcOk Es_l20Rd_pick0 Os_l20Rd_pick0_0 lss_l20Rd_pick0 0 := orcOk_none
noncomputable def g_As_l20Rd_pick0 (r0 : List Int) (r1 : Int) (a2 : Int) : Bool := decide (a2 < (1 : Int)) || ((↑(List.length r0) : Int) == (0 : Int) || bif decide (IntKind.wrap IntKind.i64 (IntKind.wrap IntKind.i64 (r1 + (1 : Int)) - (1 : Int)) < (↑(List.length r0) : Int)) then decide ((0 : Int) ≤ IntKind.wrap IntKind.i64 (IntKind.wrap IntKind.i64 (r1 + (1 : Int)) - (1 : Int)) ∧ IntKind.wrap IntKind.i64 (IntKind.wrap IntKind.i64 (r1 + (1 : Int)) - (1 : Int)) < (↑(List.length r0) : Int)) && !a2 == (0 : Int) else !(↑(List.length r0) : Int) == (0 : Int) && (decide ((0 : Int) ≤ Int.tmod (IntKind.wrap IntKind.i64 (IntKind.wrap IntKind.i64 (r1 + (1 : Int)) - (1 : Int))) (↑(List.length r0) : Int) ∧ Int.tmod (IntKind.wrap IntKind.i64 (IntKind.wrap IntKind.i64 (r1 + (1 : Int)) - (1 : Int))) (↑(List.length r0) : Int) < (↑(List.length r0) : Int)) && (!(↑(List.length r0) : Int) == (0 : Int) && (decide ((0 : Int) ≤ Int.tmod (IntKind.wrap IntKind.i64 (IntKind.wrap IntKind.i64 (IntKind.wrap IntKind.i64 (IntKind.wrap IntKind.i64 (r1 + (1 : Int)) - (1 : Int)) * (7 : Int)) + (3 : Int))) (↑(List.length r0) : Int) ∧ Int.tmod (IntKind.wrap IntKind.i64 (IntKind.wrap IntKind.i64 (IntKind.wrap IntKind.i64 (IntKind.wrap IntKind.i64 (r1 + (1 : Int)) - (1 : Int)) * (7 : Int)) + (3 : Int))) (↑(List.length r0) : Int) < (↑(List.length r0) : Int)) && (!(↑(List.length r0) : Int) == (0 : Int) && !a2 == (0 : Int))))))
noncomputable def g_Vs_l20Rd_pick0_0 (r0 : List Int) (r1 : Int) (a2 : Int) : Int := bif decide (a2 < (1 : Int)) then (0 : Int) else bif (↑(List.length r0) : Int) == (0 : Int) then (0 : Int) else bif decide (IntKind.wrap IntKind.i64 (IntKind.wrap IntKind.i64 (r1 + (1 : Int)) - (1 : Int)) < (↑(List.length r0) : Int)) then Int.tmod (IntKind.wrap IntKind.i64 (at_ (Ty.int IntKind.u8) r0 (Int.toNat (IntKind.wrap IntKind.i64 (IntKind.wrap IntKind.i64 (r1 + (1 : Int)) - (1 : Int)))))) a2 else Int.tmod (IntKind.wrap IntKind.i64 (↑(BitVec.toNat (BitVec.ofInt (nat_lit 64) (IntKind.wrap IntKind.i64 (IntKind.wrap IntKind.i64 (IntKind.wrap IntKind.i64 (IntKind.wrap IntKind.i64 (IntKind.wrap IntKind.i64 (at_ (Ty.int IntKind.u8) r0 (Int.toNat (Int.tmod (IntKind.wrap IntKind.i64 (IntKind.wrap IntKind.i64 (r1 + (1 : Int)) - (1 : Int))) (↑(List.length r0) : Int)))) * (131 : Int)) + IntKind.wrap IntKind.i64 (IntKind.wrap IntKind.i64 (at_ (Ty.int IntKind.u8) r0 (Int.toNat (Int.tmod (IntKind.wrap IntKind.i64 (IntKind.wrap IntKind.i64 (IntKind.wrap IntKind.i64 (IntKind.wrap IntKind.i64 (r1 + (1 : Int)) - (1 : Int)) * (7 : Int)) + (3 : Int))) (↑(List.length r0) : Int)))) * (1117 : Int))) + IntKind.wrap IntKind.i64 (IntKind.wrap IntKind.i64 (IntKind.wrap IntKind.i64 (r1 + (1 : Int)) - (1 : Int)) * (29 : Int))) + IntKind.wrap IntKind.i64 (IntKind.wrap IntKind.i64 (Int.tdiv (IntKind.wrap IntKind.i64 (IntKind.wrap IntKind.i64 (r1 + (1 : Int)) - (1 : Int))) (↑(List.length r0) : Int)) * (53 : Int)))) ^^^ BitVec.ofInt (nat_lit 64) (IntKind.wrap IntKind.i64 (Int.tdiv (IntKind.wrap IntKind.i64 (IntKind.wrap IntKind.i64 (IntKind.wrap IntKind.i64 (IntKind.wrap IntKind.i64 (IntKind.wrap IntKind.i64 (at_ (Ty.int IntKind.u8) r0 (Int.toNat (Int.tmod (IntKind.wrap IntKind.i64 (IntKind.wrap IntKind.i64 (r1 + (1 : Int)) - (1 : Int))) (↑(List.length r0) : Int)))) * (131 : Int)) + IntKind.wrap IntKind.i64 (IntKind.wrap IntKind.i64 (at_ (Ty.int IntKind.u8) r0 (Int.toNat (Int.tmod (IntKind.wrap IntKind.i64 (IntKind.wrap IntKind.i64 (IntKind.wrap IntKind.i64 (IntKind.wrap IntKind.i64 (r1 + (1 : Int)) - (1 : Int)) * (7 : Int)) + (3 : Int))) (↑(List.length r0) : Int)))) * (1117 : Int))) + IntKind.wrap IntKind.i64 (IntKind.wrap IntKind.i64 (IntKind.wrap IntKind.i64 (r1 + (1 : Int)) - (1 : Int)) * (29 : Int))) + IntKind.wrap IntKind.i64 (IntKind.wrap IntKind.i64 (Int.tdiv (IntKind.wrap IntKind.i64 (IntKind.wrap IntKind.i64 (r1 + (1 : Int)) - (1 : Int))) (↑(List.length r0) : Int)) * (53 : Int)))) (64 : Int))))) : Int)) a2
noncomputable def g_Vs_l20Rd_pick0_1 (r0 : List Int) (r1 : Int) (a2 : Int) : List (Int) := bif decide (a2 < (1 : Int)) then r0 else bif (↑(List.length r0) : Int) == (0 : Int) then r0 else bif decide (IntKind.wrap IntKind.i64 (IntKind.wrap IntKind.i64 (r1 + (1 : Int)) - (1 : Int)) < (↑(List.length r0) : Int)) then r0 else r0
noncomputable def g_Vs_l20Rd_pick0_2 (r0 : List Int) (r1 : Int) (a2 : Int) : Int := bif decide (a2 < (1 : Int)) then IntKind.wrap IntKind.i64 (r1 + (1 : Int)) else bif (↑(List.length r0) : Int) == (0 : Int) then IntKind.wrap IntKind.i64 (r1 + (1 : Int)) else bif decide (IntKind.wrap IntKind.i64 (IntKind.wrap IntKind.i64 (r1 + (1 : Int)) - (1 : Int)) < (↑(List.length r0) : Int)) then IntKind.wrap IntKind.i64 (r1 + (1 : Int)) else IntKind.wrap IntKind.i64 (r1 + (1 : Int))
noncomputable def Fs_l20Rd_pick0 : FSem := fun ys => match ys with
  | [.val true [.sl .any 5 (.int .u8) r0, .int .i64 r1], .val false [.int .i64 a2]] => some ((g_As_l20Rd_pick0 r0 r1 a2), .val false [.int .i64 (g_Vs_l20Rd_pick0_0 r0 r1 a2)], [[.sl .any 5 (.int .u8) (g_Vs_l20Rd_pick0_1 r0 r1 a2), .int .i64 (g_Vs_l20Rd_pick0_2 r0 r1 a2)]])
  | _ => none
theorem vs_l20Rd_pick0 (r0 : List Int) (r1 : Int) (a2 : Int) : collapseH .std Es_l20Rd_pick0 Os_l20Rd_pick0_0 (execFn Es_l20Rd_pick0 Go.Proofs.Tryd.f72 mss_l20Rd_pick0 [.val true [.sl .any 5 (.int .u8) r0, .int .i64 r1], .val false [.int .i64 a2]]) = some ((g_As_l20Rd_pick0 r0 r1 a2), .val false [.int .i64 (g_Vs_l20Rd_pick0_0 r0 r1 a2)], [[.sl .any 5 (.int .u8) (g_Vs_l20Rd_pick0_1 r0 r1 a2), .int .i64 (g_Vs_l20Rd_pick0_2 r0 r1 a2)]]) := by kernel_rfl
theorem ss_l20Rd_pick0 : Sound Go.Proofs.Tryd.prog 72 mss_l20Rd_pick0 Fs_l20Rd_pick0 := by
  refine fn_gen goods_l20Rd_pick0 (by kernel_rfl) .std (fn := Go.Proofs.Tryd.f72) (c := (Go.Proofs.Tryd.f72.body.getD .skip)) (o := Os_l20Rd_pick0_0) (k := 0) (by kernel_rfl) (by kernel_rfl) (by kernel_rfl) (by kernel_rfl) (by decide) ks_l20Rd_pick0_0 ?_
  intro ys r outs h
  unfold Fs_l20Rd_pick0 at h
  split at h
  · exact (vs_l20Rd_pick0 _ _ _).trans h
  · cases h
end Go.Proofs.YtibafhmmnoijkaaDoor.E
end
section
namespace Go.Proofs.YtibafhmmnoijkaaDoor.E
open Go
set_option maxRecDepth 100000
set_option linter.all false
noncomputable def mss_l20Rd_pick : List PM := mss_l20Rd_pick0
/-- A number from 0 on, below n. -/
noncomputable def g_pick (r0 : List Int) (r1 : Int) (n : Int) : Int := g_Vs_l20Rd_pick0_0 r0 r1 n
noncomputable def g_pickA (r0 : List Int) (r1 : Int) (n : Int) : Bool := g_As_l20Rd_pick0 r0 r1 n
noncomputable def Fs_l20Rd_pick : FSem := fun ys => match ys with
  | [.val true [.sl .any 5 (.int .u8) r0, .int .i64 r1], .val false [.int .i64 a2]] => some (g_pickA r0 r1 a2, .val false [.int .i64 (g_pick r0 r1 a2)], [[.sl .any 5 (.int .u8) r0, .int .i64 (IntKind.wrap .i64 (r1 + 1))]])
  | _ => none
theorem ss_l20Rd_pick : Sound Go.Proofs.Tryd.prog 72 mss_l20Rd_pick Fs_l20Rd_pick := by
  refine ⟨ss_l20Rd_pick0.fn, fun w S ψ ys vs r outs hF hh hg => ss_l20Rd_pick0.calls w S ψ ys vs r outs (Eq.trans ?_ hF) hh hg⟩
  unfold Fs_l20Rd_pick at hF ⊢
  split at hF
  · rename_i r0 r1 a2
    have e1 : g_Vs_l20Rd_pick0_1 r0 r1 a2 = r0 := by unfold g_Vs_l20Rd_pick0_1; generalize decide (a2 < (1 : Int)) = p; generalize ((r0.length : Int) == (0 : Int)) = q; cases p <;> cases q <;> simp
    have e2 : g_Vs_l20Rd_pick0_2 r0 r1 a2 = IntKind.wrap .i64 (r1 + 1) := by unfold g_Vs_l20Rd_pick0_2; generalize decide (a2 < (1 : Int)) = p; generalize ((r0.length : Int) == (0 : Int)) = q; cases p <;> cases q <;> simp
    show some (g_As_l20Rd_pick0 r0 r1 a2, RV.val false [Cell.int .i64 (g_Vs_l20Rd_pick0_0 r0 r1 a2)], [[Cell.sl .any 5 (.int .u8) (g_Vs_l20Rd_pick0_1 r0 r1 a2), Cell.int .i64 (g_Vs_l20Rd_pick0_2 r0 r1 a2)]]) = _
    rw [e1, e2]
    rfl
  · cases hF
end Go.Proofs.YtibafhmmnoijkaaDoor.E
end
section
namespace Go.Proofs.YtibafhmmnoijkaaDoor.E
open Go
set_option maxRecDepth 100000
set_option maxHeartbeats 0
set_option linter.all false
noncomputable def Es_l20Rd_odd : Env where
  tt := mkTI Go.Proofs.Tryd.prog
  fn := fun f => match f with
    | 72 => some (mss_l20Rd_pick, FSem.wk mss_l20Rd_pick Fs_l20Rd_pick)
    | _ => none
  bxf := fun _ => none
  mv := []
  keep := fun _ => []
  keepB := fun _ => []
  keepX := fun _ => []
  keepXB := fun _ => []
theorem goodFs_l20Rd_odd : ∀ f ms F, Es_l20Rd_odd.fn f = some (ms, F) → Sound Go.Proofs.Tryd.prog f ms F := fun f ms F h => by
  unfold Es_l20Rd_odd at h
  dsimp only at h
  split at h
  · injection h with h; injection h with e1 e2; subst e1 e2; exact Sound.wk ss_l20Rd_pick
  · cases h
theorem goodBs_l20Rd_odd : ∀ f ms F, Es_l20Rd_odd.bxf f = some (ms, F) → SoundB Go.Proofs.Tryd.prog f ms F := fun f ms F h => by cases h
theorem goods_l20Rd_odd : Good Go.Proofs.Tryd.prog Es_l20Rd_odd := ⟨rfl, goodFs_l20Rd_odd, goodBs_l20Rd_odd⟩
noncomputable def Os_l20Rd_odd_0 : Orc := fun _ _ => none
noncomputable def mss_l20Rd_odd : List PM := [.bx, .own]
noncomputable def lss_l20Rd_odd : List (Nat × Code) := loopsAll 0 (Go.Proofs.Tryd.f81.body.getD .skip)

theorem ks_l20Rd_odd_0 : OrcOk Es_l20Rd_odd Os_l20Rd_odd_0 lss_l20Rd_odd 0 := orcOk_none
noncomputable def g_As_l20Rd_odd (r0 : List Int) (r1 : Int) (a2 : Int) : Bool := !decide (a2 > (0 : Int)) || g_pickA r0 r1 a2 && true
noncomputable def g_Vs_l20Rd_odd_0 (r0 : List Int) (r1 : Int) (a2 : Int) : Bool := bif decide (a2 > (0 : Int)) then g_pick r0 r1 a2 == IntKind.wrap IntKind.i64 (a2 - (1 : Int)) else false
noncomputable def g_Vs_l20Rd_odd_1 (r0 : List Int) (r1 : Int) (a2 : Int) : List (Int) := bif decide (a2 > (0 : Int)) then r0 else r0
noncomputable def g_Vs_l20Rd_odd_2 (r0 : List Int) (r1 : Int) (a2 : Int) : Int := bif decide (a2 > (0 : Int)) then IntKind.wrap IntKind.i64 (r1 + (1 : Int)) else r1
noncomputable def Fs_l20Rd_odd : FSem := fun ys => match ys with
  | [.val true [.sl .any 5 (.int .u8) r0, .int .i64 r1], .val false [.int .i64 a2]] => some ((g_As_l20Rd_odd r0 r1 a2), .val false [.bool (g_Vs_l20Rd_odd_0 r0 r1 a2)], [[.sl .any 5 (.int .u8) (g_Vs_l20Rd_odd_1 r0 r1 a2), .int .i64 (g_Vs_l20Rd_odd_2 r0 r1 a2)]])
  | _ => none
theorem vs_l20Rd_odd (r0 : List Int) (r1 : Int) (a2 : Int) : collapseH .std Es_l20Rd_odd Os_l20Rd_odd_0 (execFn Es_l20Rd_odd Go.Proofs.Tryd.f81 mss_l20Rd_odd [.val true [.sl .any 5 (.int .u8) r0, .int .i64 r1], .val false [.int .i64 a2]]) = some ((g_As_l20Rd_odd r0 r1 a2), .val false [.bool (g_Vs_l20Rd_odd_0 r0 r1 a2)], [[.sl .any 5 (.int .u8) (g_Vs_l20Rd_odd_1 r0 r1 a2), .int .i64 (g_Vs_l20Rd_odd_2 r0 r1 a2)]]) := by kernel_rfl
theorem ss_l20Rd_odd : Sound Go.Proofs.Tryd.prog 81 mss_l20Rd_odd Fs_l20Rd_odd := by
  refine fn_gen goods_l20Rd_odd (by kernel_rfl) .std (fn := Go.Proofs.Tryd.f81) (c := (Go.Proofs.Tryd.f81.body.getD .skip)) (o := Os_l20Rd_odd_0) (k := 0) (by kernel_rfl) (by kernel_rfl) (by kernel_rfl) (by kernel_rfl) (by decide) ks_l20Rd_odd_0 ?_
  intro ys r outs h
  unfold Fs_l20Rd_odd at h
  split at h
  · exact (vs_l20Rd_odd _ _ _).trans h
  · cases h
end Go.Proofs.YtibafhmmnoijkaaDoor.E
end
section
namespace Go.Proofs.YtibafhmmnoijkaaDoor.E
open Go
set_option maxRecDepth 100000
set_option linter.all false
noncomputable def mss_l20Rd_oddR : List PM := mss_l20Rd_odd
theorem sames_l20Rd_odd (r0 : List Int) (r1 : Int) (a2 : Int) : g_Vs_l20Rd_odd_1 r0 r1 a2 = r0 := by
  unfold g_Vs_l20Rd_odd_1
  simp only [Bool.cond_self]
noncomputable def Fs_l20Rd_oddR : FSem := fun ys => match ys with
  | [.val true [.sl .any 5 (.int .u8) r0, .int .i64 r1], .val false [.int .i64 a2]] => some ((g_As_l20Rd_odd r0 r1 a2), .val false [.bool (g_Vs_l20Rd_odd_0 r0 r1 a2)], [[.sl .any 5 (.int .u8) r0, .int .i64 (g_Vs_l20Rd_odd_2 r0 r1 a2)]])
  | _ => none
theorem ss_l20Rd_oddR : Sound Go.Proofs.Tryd.prog 81 mss_l20Rd_oddR Fs_l20Rd_oddR := by
  refine ⟨ss_l20Rd_odd.fn, fun w S ψ ys vs r outs hF hh hg => ss_l20Rd_odd.calls w S ψ ys vs r outs (Eq.trans ?_ hF) hh hg⟩
  unfold Fs_l20Rd_oddR at hF ⊢
  split at hF
  · rename_i  r0 r1 a2
    show (some ((g_As_l20Rd_odd r0 r1 a2), .val false [.bool (g_Vs_l20Rd_odd_0 r0 r1 a2)], [[.sl .any 5 (.int .u8) (g_Vs_l20Rd_odd_1 r0 r1 a2), .int .i64 (g_Vs_l20Rd_odd_2 r0 r1 a2)]]) : Option (Bool × RV × List (List Cell))) = _
    rw [sames_l20Rd_odd]
  · cases hF
end Go.Proofs.YtibafhmmnoijkaaDoor.E
end
section
namespace Go.Proofs.YtibafhmmnoijkaaDoor.E
open Go
set_option maxRecDepth 100000
set_option maxHeartbeats 0
set_option linter.all false
noncomputable def Es_l3Digit : Env where
  tt := mkTI Go.Proofs.Tryd.prog
  fn := fun _ => none
  bxf := fun _ => none
  mv := []
  keep := fun _ => []
  keepB := fun _ => []
  keepX := fun _ => []
  keepXB := fun _ => []
theorem goodFs_l3Digit : ∀ f ms F, Es_l3Digit.fn f = some (ms, F) → Sound Go.Proofs.Tryd.prog f ms F := fun f ms F h => by cases h
theorem goodBs_l3Digit : ∀ f ms F, Es_l3Digit.bxf f = some (ms, F) → SoundB Go.Proofs.Tryd.prog f ms F := fun f ms F h => by cases h
theorem goods_l3Digit : Good Go.Proofs.Tryd.prog Es_l3Digit := ⟨rfl, goodFs_l3Digit, goodBs_l3Digit⟩
noncomputable def Os_l3Digit_0 : Orc := fun _ _ => none
noncomputable def mss_l3Digit : List PM := [.own]
noncomputable def lss_l3Digit : List (Nat × Code) := loopsAll 0 (Go.Proofs.Tryd.f133.body.getD .skip)

theorem ks_l3Digit_0 : OrcOk Es_l3Digit Os_l3Digit_0 lss_l3Digit 0 := orcOk_none
noncomputable def g_Vs_l3Digit_0 (a0 : Int) : ByteArray := { data := List.toArray (List.map (fun n => UInt8.ofNat (Int.toNat n)) [IntKind.wrap IntKind.u8 (IntKind.wrap IntKind.i64 ((48 : Int) + a0))]) }
noncomputable def Fs_l3Digit : FSem := fun ys => match ys with
  | [.val false [.int .i64 a0]] => some (true, .val false [.str (g_Vs_l3Digit_0 a0)], [])
  | _ => none
theorem vs_l3Digit (a0 : Int) : collapseH .std Es_l3Digit Os_l3Digit_0 (execFn Es_l3Digit Go.Proofs.Tryd.f133 mss_l3Digit [.val false [.int .i64 a0]]) = some (true, .val false [.str (g_Vs_l3Digit_0 a0)], []) := by kernel_rfl
theorem ss_l3Digit : Sound Go.Proofs.Tryd.prog 133 mss_l3Digit Fs_l3Digit := by
  refine fn_gen goods_l3Digit (by kernel_rfl) .std (fn := Go.Proofs.Tryd.f133) (c := (Go.Proofs.Tryd.f133.body.getD .skip)) (o := Os_l3Digit_0) (k := 0) (by kernel_rfl) (by kernel_rfl) (by kernel_rfl) (by kernel_rfl) (by decide) ks_l3Digit_0 ?_
  intro ys r outs h
  unfold Fs_l3Digit at h
  split at h
  · exact (vs_l3Digit _).trans h
  · cases h
end Go.Proofs.YtibafhmmnoijkaaDoor.E
end
section
namespace Go.Proofs.YtibafhmmnoijkaaDoor.E
open Go
set_option maxRecDepth 100000
set_option maxHeartbeats 0
set_option linter.all false
noncomputable def Es_l3Plain : Env where
  tt := mkTI Go.Proofs.Tryd.prog
  fn := fun f => match f with
    | 133 => some (mss_l3Digit, FSem.wk mss_l3Digit Fs_l3Digit)
    | _ => none
  bxf := fun _ => none
  mv := []
  keep := fun b => match b with
    | 0 => [(0, false), (3, false)]
    | _ => []
  keepB := fun b => match b with
    | 0 => []
    | _ => []
  keepX := fun b => match b with
    | 0 => [(0, false), (3, false)]
    | _ => []
  keepXB := fun b => match b with
    | 0 => []
    | _ => []
theorem goodFs_l3Plain : ∀ f ms F, Es_l3Plain.fn f = some (ms, F) → Sound Go.Proofs.Tryd.prog f ms F := fun f ms F h => by
  unfold Es_l3Plain at h
  dsimp only at h
  split at h
  · injection h with h; injection h with e1 e2; subst e1 e2; exact Sound.wk ss_l3Digit
  · cases h
theorem goodBs_l3Plain : ∀ f ms F, Es_l3Plain.bxf f = some (ms, F) → SoundB Go.Proofs.Tryd.prog f ms F := fun f ms F h => by cases h
theorem goods_l3Plain : Good Go.Proofs.Tryd.prog Es_l3Plain := ⟨rfl, goodFs_l3Plain, goodBs_l3Plain⟩
noncomputable def Os_l3Plain_0 : Orc := fun _ _ => none
noncomputable def mss_l3Plain : List PM := [.own]
noncomputable def lss_l3Plain : List (Nat × Code) := loopsAll 0 (Go.Proofs.Tryd.f93.body.getD .skip)
noncomputable def cs_l3Plain_0 : Code := (loopOf 0 (Go.Proofs.Tryd.f93.body.getD .skip)).getD .skip
theorem lseqs_l3Plain : lss_l3Plain = [(0, cs_l3Plain_0)] := by kernel_rfl
theorem ms_l3Plain_0 : ∀ p, p ∈ lss_l3Plain → p.1 = 0 → p.2 = cs_l3Plain_0 := by
  intro p hp
  rw [lseqs_l3Plain] at hp
  simp only [List.mem_cons, List.not_mem_nil, or_false] at hp
  subst hp; simp
theorem ks_l3Plain_0 : OrcOk Es_l3Plain Os_l3Plain_0 lss_l3Plain 0 := orcOk_none
noncomputable def hs_l3Plain_0 (y0 : Int) (y1 : ByteArray) : List (Pl × LV) := [(.T 0, .t (.val false [.int .i64 y0])), (.T 3, .t (.val false [.str y1]))]
noncomputable def g_Ss_l3Plain_0 : ((Int) × (ByteArray)) → RT ((Int) × (ByteArray)) (((Int) × (ByteArray)))
  | (y0, y1) => .br (true) (.br (decide (y0 > (9 : Int))) (.br (true) (.br (true) (.br (decide (ByteArray.size (g_Vs_l3Digit_0 (Int.tmod y0 (10 : Int))) + ByteArray.size y1 ≤ nat_lit 9223372036854775807)) (.br (true) (.go ((IntKind.wrap IntKind.i64 (Int.tdiv y0 (10 : Int)), g_Vs_l3Digit_0 (Int.tmod y0 (10 : Int)) ++ y1))) (.bad)) (.bad)) (.bad)) (.bad)) (.out ((y0, y1)))) (.bad)
noncomputable def g_Ls_l3Plain_0 (x : (Int) × (ByteArray)) : Option (((Int) × (ByteArray))) := loopO (g_Ss_l3Plain_0) x
noncomputable def xs_l3Plain_0 : (((Int) × (ByteArray))) → Ex × List (Pl × LV) := fun r => (.exit 0, [(.T 0, .t (.val false [.int .i64 r.1])), (.T 3, .t (.val false [.str r.2]))])
noncomputable def Os_l3Plain_1 : Orc := fun b h => match b, h with
  | 0, [(.T 0, .t (.val false [.int .i64 y0])), (.T 3, .t (.val false [.str y1]))] => some (okO (g_Ls_l3Plain_0 (y0, y1)), (.leaf (.exit 0) [(.T 0, .t (.val false [.int .i64 (valO (g_Ls_l3Plain_0 (y0, y1))).1])), (.T 3, .t (.val false [.str (valO (g_Ls_l3Plain_0 (y0, y1))).2]))]))
  | b, h => Os_l3Plain_0 b h
theorem bs_l3Plain_0 (y0 : Int) (y1 : ByteArray) : Tr.bt Es_l3Plain Os_l3Plain_0 (exec Es_l3Plain 0 cs_l3Plain_0 (St.of (hs_l3Plain_0 y0 y1)) (leafRd Es_l3Plain 0)) = (g_Ss_l3Plain_0 (y0, y1)).bt (fun ((y0, y1) : (Int) × (ByteArray)) => (hs_l3Plain_0 y0 y1)) (xs_l3Plain_0) := by kernel_rfl
theorem ks_l3Plain_1 : OrcOk Es_l3Plain Os_l3Plain_1 lss_l3Plain 1 := orc_add ks_l3Plain_0 (fun n p hp h ex h' ho => by
  obtain ⟨b, c⟩ := p
  obtain ⟨xt, h1, h2⟩ := ho
  have h1 : Os_l3Plain_1 b h = some (true, xt) := h1
  unfold Os_l3Plain_1 at h1
  split at h1
  · injection h1 with h1
    injection h1 with e1 e2
    subst e2
    have hc : c = cs_l3Plain_0 := ms_l3Plain_0 _ hp rfl
    subst hc
    right
    rename_i y0 y1
    have key := LT_step ks_l3Plain_0 hp (fun q hq => loopsAll_in _ _ _ _ hp hq) (fun ((y0, y1) : (Int) × (ByteArray)) => (hs_l3Plain_0 y0 y1)) (xs_l3Plain_0) (g_Ss_l3Plain_0) (fun x => by first | exact bs_l3Plain_0 x.1 x.2) n (x := (y0, y1)) (okO_some e1)
    have hx : ∀ r, XT.sel (.leaf (.exit 0) [(.T 0, .t (.val false [.int .i64 r.1])), (.T 3, .t (.val false [.str r.2]))]) = xs_l3Plain_0 r := fun r => by first | rfl | (rcases r with r | r <;> rfl) | (rcases r with r | r | r <;> rfl) | (rcases r with r | r | r | r <;> rfl)
    have h3 := (hx (valO (g_Ls_l3Plain_0 (y0, y1)))).symm.trans h2
    have e3 := congrArg Prod.fst h3
    have e4 := congrArg Prod.snd h3
    simp only at e3 e4
    rw [← e3, ← e4]
    exact key
  · exact .inl ⟨xt, h1, h2⟩)
noncomputable def g_As_l3Plain (a0 : Int) : Bool := okO (g_Ls_l3Plain_0 (a0, lit [])) && decide (ByteArray.size (g_Vs_l3Digit_0 (valO (g_Ls_l3Plain_0 (a0, lit []))).1) + ByteArray.size (valO (g_Ls_l3Plain_0 (a0, lit []))).2 ≤ nat_lit 9223372036854775807)
noncomputable def g_Vs_l3Plain_0 (a0 : Int) : ByteArray := g_Vs_l3Digit_0 (valO (g_Ls_l3Plain_0 (a0, lit []))).1 ++ (valO (g_Ls_l3Plain_0 (a0, lit []))).2
noncomputable def Fs_l3Plain : FSem := fun ys => match ys with
  | [.val false [.int .i64 a0]] => some ((g_As_l3Plain a0), .val false [.str (g_Vs_l3Plain_0 a0)], [])
  | _ => none
theorem vs_l3Plain (a0 : Int) : collapseH .std Es_l3Plain Os_l3Plain_1 (execFn Es_l3Plain Go.Proofs.Tryd.f93 mss_l3Plain [.val false [.int .i64 a0]]) = some ((g_As_l3Plain a0), .val false [.str (g_Vs_l3Plain_0 a0)], []) := by kernel_rfl
theorem ss_l3Plain : Sound Go.Proofs.Tryd.prog 93 mss_l3Plain Fs_l3Plain := by
  refine fn_gen goods_l3Plain (by kernel_rfl) .std (fn := Go.Proofs.Tryd.f93) (c := (Go.Proofs.Tryd.f93.body.getD .skip)) (o := Os_l3Plain_1) (k := 1) (by kernel_rfl) (by kernel_rfl) (by kernel_rfl) (by kernel_rfl) (by decide) ks_l3Plain_1 ?_
  intro ys r outs h
  unfold Fs_l3Plain at h
  split at h
  · exact (vs_l3Plain _).trans h
  · cases h
end Go.Proofs.YtibafhmmnoijkaaDoor.E
end
section
namespace Go.Proofs.YtibafhmmnoijkaaDoor.E
open Go
set_option maxRecDepth 100000
set_option maxHeartbeats 0
set_option linter.all false
noncomputable def Es_l20Key : Env where
  tt := mkTI Go.Proofs.Tryd.prog
  fn := fun f => match f with
    | 72 => some (mss_l20Rd_pick, FSem.wk mss_l20Rd_pick Fs_l20Rd_pick)
    | 81 => some (mss_l20Rd_oddR, FSem.wk mss_l20Rd_oddR Fs_l20Rd_oddR)
    | 93 => some (mss_l3Plain, FSem.wk mss_l3Plain Fs_l3Plain)
    | _ => none
  bxf := fun _ => none
  mv := []
  keep := fun _ => []
  keepB := fun _ => []
  keepX := fun _ => []
  keepXB := fun _ => []
theorem goodFs_l20Key : ∀ f ms F, Es_l20Key.fn f = some (ms, F) → Sound Go.Proofs.Tryd.prog f ms F := fun f ms F h => by
  unfold Es_l20Key at h
  dsimp only at h
  split at h
  · injection h with h; injection h with e1 e2; subst e1 e2; exact Sound.wk ss_l20Rd_pick
  · injection h with h; injection h with e1 e2; subst e1 e2; exact Sound.wk ss_l20Rd_oddR
  · injection h with h; injection h with e1 e2; subst e1 e2; exact Sound.wk ss_l3Plain
  · cases h
theorem goodBs_l20Key : ∀ f ms F, Es_l20Key.bxf f = some (ms, F) → SoundB Go.Proofs.Tryd.prog f ms F := fun f ms F h => by cases h
theorem goods_l20Key : Good Go.Proofs.Tryd.prog Es_l20Key := ⟨rfl, goodFs_l20Key, goodBs_l20Key⟩
noncomputable def Os_l20Key_0 : Orc := fun _ _ => none
noncomputable def mss_l20Key : List PM := [.bx, .own]
noncomputable def lss_l20Key : List (Nat × Code) := loopsAll 0 (Go.Proofs.Tryd.f128.body.getD .skip)

theorem ks_l20Key_0 : OrcOk Es_l20Key Os_l20Key_0 lss_l20Key 0 := orcOk_none
noncomputable def g_As_l20Key (r0 : List Int) (r1 : Int) (a2 : Int) : Bool := g_pickA r0 r1 (5 : Int) && (decide ((0 : Int) ≤ g_pick r0 r1 (5 : Int) ∧ g_pick r0 r1 (5 : Int) < (5 : Int)) && (decide (Int.toNat (g_pick r0 r1 (5 : Int)) < nat_lit 5) && (g_pickA r0 (IntKind.wrap IntKind.i64 (r1 + (1 : Int))) (4 : Int) && (g_pickA r0 (IntKind.wrap IntKind.i64 (IntKind.wrap IntKind.i64 (r1 + (1 : Int)) + (1 : Int))) (30 : Int) && (g_pickA r0 (IntKind.wrap IntKind.i64 (IntKind.wrap IntKind.i64 (IntKind.wrap IntKind.i64 (r1 + (1 : Int)) + (1 : Int)) + (1 : Int))) (2 : Int) && (decide ((0 : Int) ≤ g_pick r0 (IntKind.wrap IntKind.i64 (IntKind.wrap IntKind.i64 (IntKind.wrap IntKind.i64 (r1 + (1 : Int)) + (1 : Int)) + (1 : Int))) (2 : Int) ∧ g_pick r0 (IntKind.wrap IntKind.i64 (IntKind.wrap IntKind.i64 (IntKind.wrap IntKind.i64 (r1 + (1 : Int)) + (1 : Int)) + (1 : Int))) (2 : Int) < (↑(List.length [g_pick r0 (IntKind.wrap IntKind.i64 (r1 + (1 : Int))) (4 : Int), g_pick r0 (IntKind.wrap IntKind.i64 (IntKind.wrap IntKind.i64 (r1 + (1 : Int)) + (1 : Int))) (30 : Int)]) : Int)) && (decide (Int.toNat (g_pick r0 (IntKind.wrap IntKind.i64 (IntKind.wrap IntKind.i64 (IntKind.wrap IntKind.i64 (r1 + (1 : Int)) + (1 : Int)) + (1 : Int))) (2 : Int)) < List.length [g_pick r0 (IntKind.wrap IntKind.i64 (r1 + (1 : Int))) (4 : Int), g_pick r0 (IntKind.wrap IntKind.i64 (IntKind.wrap IntKind.i64 (r1 + (1 : Int)) + (1 : Int))) (30 : Int)]) && (g_As_l3Plain (at_ (Ty.int IntKind.i64) [g_pick r0 (IntKind.wrap IntKind.i64 (r1 + (1 : Int))) (4 : Int), g_pick r0 (IntKind.wrap IntKind.i64 (IntKind.wrap IntKind.i64 (r1 + (1 : Int)) + (1 : Int))) (30 : Int)] (Int.toNat (g_pick r0 (IntKind.wrap IntKind.i64 (IntKind.wrap IntKind.i64 (IntKind.wrap IntKind.i64 (r1 + (1 : Int)) + (1 : Int)) + (1 : Int))) (2 : Int)))) && (decide (ByteArray.size (at_ Ty.str [lit [(115 : Nat)], lit [(99 : Nat)], lit [(102 : Nat)], lit [(117 : Nat)], lit [(97 : Nat)]] (Int.toNat (g_pick r0 r1 (5 : Int)))) + ByteArray.size (g_Vs_l3Plain_0 (at_ (Ty.int IntKind.i64) [g_pick r0 (IntKind.wrap IntKind.i64 (r1 + (1 : Int))) (4 : Int), g_pick r0 (IntKind.wrap IntKind.i64 (IntKind.wrap IntKind.i64 (r1 + (1 : Int)) + (1 : Int))) (30 : Int)] (Int.toNat (g_pick r0 (IntKind.wrap IntKind.i64 (IntKind.wrap IntKind.i64 (IntKind.wrap IntKind.i64 (r1 + (1 : Int)) + (1 : Int)) + (1 : Int))) (2 : Int))))) ≤ nat_lit 9223372036854775807) && (g_As_l20Rd_odd r0 (IntKind.wrap IntKind.i64 (IntKind.wrap IntKind.i64 (IntKind.wrap IntKind.i64 (IntKind.wrap IntKind.i64 (r1 + (1 : Int)) + (1 : Int)) + (1 : Int)) + (1 : Int))) a2 && (!g_Vs_l20Rd_odd_0 r0 (IntKind.wrap IntKind.i64 (IntKind.wrap IntKind.i64 (IntKind.wrap IntKind.i64 (IntKind.wrap IntKind.i64 (r1 + (1 : Int)) + (1 : Int)) + (1 : Int)) + (1 : Int))) a2 || g_pickA r0 (g_Vs_l20Rd_odd_2 r0 (IntKind.wrap IntKind.i64 (IntKind.wrap IntKind.i64 (IntKind.wrap IntKind.i64 (IntKind.wrap IntKind.i64 (r1 + (1 : Int)) + (1 : Int)) + (1 : Int)) + (1 : Int))) a2) (6 : Int) && (decide ((0 : Int) ≤ g_pick r0 (g_Vs_l20Rd_odd_2 r0 (IntKind.wrap IntKind.i64 (IntKind.wrap IntKind.i64 (IntKind.wrap IntKind.i64 (IntKind.wrap IntKind.i64 (r1 + (1 : Int)) + (1 : Int)) + (1 : Int)) + (1 : Int))) a2) (6 : Int) ∧ g_pick r0 (g_Vs_l20Rd_odd_2 r0 (IntKind.wrap IntKind.i64 (IntKind.wrap IntKind.i64 (IntKind.wrap IntKind.i64 (IntKind.wrap IntKind.i64 (r1 + (1 : Int)) + (1 : Int)) + (1 : Int)) + (1 : Int))) a2) (6 : Int) < (6 : Int)) && decide (Int.toNat (g_pick r0 (g_Vs_l20Rd_odd_2 r0 (IntKind.wrap IntKind.i64 (IntKind.wrap IntKind.i64 (IntKind.wrap IntKind.i64 (IntKind.wrap IntKind.i64 (r1 + (1 : Int)) + (1 : Int)) + (1 : Int)) + (1 : Int))) a2) (6 : Int)) < nat_lit 6)))))))))))))
noncomputable def g_Vs_l20Key_0 (r0 : List Int) (r1 : Int) (a2 : Int) : ByteArray := bif g_Vs_l20Rd_odd_0 r0 (IntKind.wrap IntKind.i64 (IntKind.wrap IntKind.i64 (IntKind.wrap IntKind.i64 (IntKind.wrap IntKind.i64 (r1 + (1 : Int)) + (1 : Int)) + (1 : Int)) + (1 : Int))) a2 then at_ Ty.str [lit [], lit [(115 : Nat)], lit [(83 : Nat), (49 : Nat)], lit [(115 : Nat), (49 : Nat), (50 : Nat), (51 : Nat)], lit [(49 : Nat), (115 : Nat)], lit [(115 : Nat), (97 : Nat)]] (Int.toNat (g_pick r0 (g_Vs_l20Rd_odd_2 r0 (IntKind.wrap IntKind.i64 (IntKind.wrap IntKind.i64 (IntKind.wrap IntKind.i64 (IntKind.wrap IntKind.i64 (r1 + (1 : Int)) + (1 : Int)) + (1 : Int)) + (1 : Int))) a2) (6 : Int))) else at_ Ty.str [lit [(115 : Nat)], lit [(99 : Nat)], lit [(102 : Nat)], lit [(117 : Nat)], lit [(97 : Nat)]] (Int.toNat (g_pick r0 r1 (5 : Int))) ++ g_Vs_l3Plain_0 (at_ (Ty.int IntKind.i64) [g_pick r0 (IntKind.wrap IntKind.i64 (r1 + (1 : Int))) (4 : Int), g_pick r0 (IntKind.wrap IntKind.i64 (IntKind.wrap IntKind.i64 (r1 + (1 : Int)) + (1 : Int))) (30 : Int)] (Int.toNat (g_pick r0 (IntKind.wrap IntKind.i64 (IntKind.wrap IntKind.i64 (IntKind.wrap IntKind.i64 (r1 + (1 : Int)) + (1 : Int)) + (1 : Int))) (2 : Int))))
noncomputable def g_Vs_l20Key_1 (r0 : List Int) (r1 : Int) (a2 : Int) : List (Int) := bif g_Vs_l20Rd_odd_0 r0 (IntKind.wrap IntKind.i64 (IntKind.wrap IntKind.i64 (IntKind.wrap IntKind.i64 (IntKind.wrap IntKind.i64 (r1 + (1 : Int)) + (1 : Int)) + (1 : Int)) + (1 : Int))) a2 then r0 else r0
noncomputable def g_Vs_l20Key_2 (r0 : List Int) (r1 : Int) (a2 : Int) : Int := bif g_Vs_l20Rd_odd_0 r0 (IntKind.wrap IntKind.i64 (IntKind.wrap IntKind.i64 (IntKind.wrap IntKind.i64 (IntKind.wrap IntKind.i64 (r1 + (1 : Int)) + (1 : Int)) + (1 : Int)) + (1 : Int))) a2 then IntKind.wrap IntKind.i64 (g_Vs_l20Rd_odd_2 r0 (IntKind.wrap IntKind.i64 (IntKind.wrap IntKind.i64 (IntKind.wrap IntKind.i64 (IntKind.wrap IntKind.i64 (r1 + (1 : Int)) + (1 : Int)) + (1 : Int)) + (1 : Int))) a2 + (1 : Int)) else g_Vs_l20Rd_odd_2 r0 (IntKind.wrap IntKind.i64 (IntKind.wrap IntKind.i64 (IntKind.wrap IntKind.i64 (IntKind.wrap IntKind.i64 (r1 + (1 : Int)) + (1 : Int)) + (1 : Int)) + (1 : Int))) a2
noncomputable def Fs_l20Key : FSem := fun ys => match ys with
  | [.val true [.sl .any 5 (.int .u8) r0, .int .i64 r1], .val false [.int .i64 a2]] => some ((g_As_l20Key r0 r1 a2), .val false [.str (g_Vs_l20Key_0 r0 r1 a2)], [[.sl .any 5 (.int .u8) (g_Vs_l20Key_1 r0 r1 a2), .int .i64 (g_Vs_l20Key_2 r0 r1 a2)]])
  | _ => none
theorem vs_l20Key (r0 : List Int) (r1 : Int) (a2 : Int) : collapseH .std Es_l20Key Os_l20Key_0 (execFn Es_l20Key Go.Proofs.Tryd.f128 mss_l20Key [.val true [.sl .any 5 (.int .u8) r0, .int .i64 r1], .val false [.int .i64 a2]]) = some ((g_As_l20Key r0 r1 a2), .val false [.str (g_Vs_l20Key_0 r0 r1 a2)], [[.sl .any 5 (.int .u8) (g_Vs_l20Key_1 r0 r1 a2), .int .i64 (g_Vs_l20Key_2 r0 r1 a2)]]) := by kernel_rfl
theorem ss_l20Key : Sound Go.Proofs.Tryd.prog 128 mss_l20Key Fs_l20Key := by
  refine fn_gen goods_l20Key (by kernel_rfl) .std (fn := Go.Proofs.Tryd.f128) (c := (Go.Proofs.Tryd.f128.body.getD .skip)) (o := Os_l20Key_0) (k := 0) (by kernel_rfl) (by kernel_rfl) (by kernel_rfl) (by kernel_rfl) (by decide) ks_l20Key_0 ?_
  intro ys r outs h
  unfold Fs_l20Key at h
  split at h
  · exact (vs_l20Key _ _ _).trans h
  · cases h
end Go.Proofs.YtibafhmmnoijkaaDoor.E
end
section
namespace Go.Proofs.YtibafhmmnoijkaaDoor.E
open Go
set_option maxRecDepth 100000
set_option linter.all false
noncomputable def mss_l20KeyR : List PM := mss_l20Key
theorem sames_l20Key (r0 : List Int) (r1 : Int) (a2 : Int) : g_Vs_l20Key_1 r0 r1 a2 = r0 := by
  unfold g_Vs_l20Key_1
  simp only [Bool.cond_self]
noncomputable def Fs_l20KeyR : FSem := fun ys => match ys with
  | [.val true [.sl .any 5 (.int .u8) r0, .int .i64 r1], .val false [.int .i64 a2]] => some ((g_As_l20Key r0 r1 a2), .val false [.str (g_Vs_l20Key_0 r0 r1 a2)], [[.sl .any 5 (.int .u8) r0, .int .i64 (g_Vs_l20Key_2 r0 r1 a2)]])
  | _ => none
theorem ss_l20KeyR : Sound Go.Proofs.Tryd.prog 128 mss_l20KeyR Fs_l20KeyR := by
  refine ⟨ss_l20Key.fn, fun w S ψ ys vs r outs hF hh hg => ss_l20Key.calls w S ψ ys vs r outs (Eq.trans ?_ hF) hh hg⟩
  unfold Fs_l20KeyR at hF ⊢
  split at hF
  · rename_i  r0 r1 a2
    show (some ((g_As_l20Key r0 r1 a2), .val false [.str (g_Vs_l20Key_0 r0 r1 a2)], [[.sl .any 5 (.int .u8) (g_Vs_l20Key_1 r0 r1 a2), .int .i64 (g_Vs_l20Key_2 r0 r1 a2)]]) : Option (Bool × RV × List (List Cell))) = _
    rw [sames_l20Key]
  · cases hF
end Go.Proofs.YtibafhmmnoijkaaDoor.E
end
section
namespace Go.Proofs.YtibafhmmnoijkaaDoor.E
open Go
set_option maxRecDepth 100000
set_option maxHeartbeats 0
set_option linter.all false
noncomputable def Es_l20Val : Env where
  tt := mkTI Go.Proofs.Tryd.prog
  fn := fun f => match f with
    | 72 => some (mss_l20Rd_pick, FSem.wk mss_l20Rd_pick Fs_l20Rd_pick)
    | 81 => some (mss_l20Rd_oddR, FSem.wk mss_l20Rd_oddR Fs_l20Rd_oddR)
    | _ => none
  bxf := fun _ => none
  mv := []
  keep := fun b => match b with
    | 0 => [(0, false), (1, false), (5, false), (6, false)]
    | _ => []
  keepB := fun b => match b with
    | 0 => [(0, false)]
    | _ => []
  keepX := fun b => match b with
    | 0 => [(0, false), (1, false), (5, false)]
    | _ => []
  keepXB := fun b => match b with
    | 0 => [(0, false)]
    | _ => []
theorem goodFs_l20Val : ∀ f ms F, Es_l20Val.fn f = some (ms, F) → Sound Go.Proofs.Tryd.prog f ms F := fun f ms F h => by
  unfold Es_l20Val at h
  dsimp only at h
  split at h
  · injection h with h; injection h with e1 e2; subst e1 e2; exact Sound.wk ss_l20Rd_pick
  · injection h with h; injection h with e1 e2; subst e1 e2; exact Sound.wk ss_l20Rd_oddR
  · cases h
theorem goodBs_l20Val : ∀ f ms F, Es_l20Val.bxf f = some (ms, F) → SoundB Go.Proofs.Tryd.prog f ms F := fun f ms F h => by cases h
theorem goods_l20Val : Good Go.Proofs.Tryd.prog Es_l20Val := ⟨rfl, goodFs_l20Val, goodBs_l20Val⟩
noncomputable def Os_l20Val_0 : Orc := fun _ _ => none
noncomputable def mss_l20Val : List PM := [.bx, .own]
noncomputable def lss_l20Val : List (Nat × Code) := loopsAll 0 (Go.Proofs.Tryd.f132.body.getD .skip)
noncomputable def cs_l20Val_0 : Code := (loopOf 0 (Go.Proofs.Tryd.f132.body.getD .skip)).getD .skip
theorem lseqs_l20Val : lss_l20Val = [(0, cs_l20Val_0)] := by kernel_rfl
theorem ms_l20Val_0 : ∀ p, p ∈ lss_l20Val → p.1 = 0 → p.2 = cs_l20Val_0 := by
  intro p hp
  rw [lseqs_l20Val] at hp
  simp only [List.mem_cons, List.not_mem_nil, or_false] at hp
  subst hp; simp
theorem ks_l20Val_0 : OrcOk Es_l20Val Os_l20Val_0 lss_l20Val 0 := orcOk_none
noncomputable def hs_l20Val_0 (y0 : Int) (y1 : List (Int)) (y2 : Int) (y3 : List (Int)) (y4 : Int) : List (Pl × LV) := [(.T 0, .t (.val false [.ptr 0 0 0])), (.T 1, .t (.val false [.int .i64 y0])), (.T 5, .t (.val false [.row 5 0 0])), (.R 5 0, .r 0 (some ⟨false, .non, true, 3, (.int .i64), y1⟩)), (.T 6, .t (.val false [.int .i64 y2])), (.B 0, .b 0 false [.sl .any 5 (.int .u8) y3, .int .i64 y4])]
noncomputable def g_Ss_l20Val_0 (y0 : Int) (y3 : List (Int)) : ((List (Int)) × (Int) × (Int)) → RT ((List (Int)) × (Int) × (Int)) (((List (Int)) × (Int)))
  | (y1, y2, y4) => .br (true) (.br (decide (y2 > (0 : Int))) (.br (g_pickA y3 y4 (12 : Int)) (.br (decide ((List.length y1 + List.length [g_pick y3 y4 (12 : Int)]) * nat_lit 8 ≤ nat_lit 140737488355328 ∧ List.length y1 + List.length [g_pick y3 y4 (12 : Int)] ≤ nat_lit 9223372036854775807)) (.br (true) (.go ((y1 ++ [g_pick y3 y4 (12 : Int)], IntKind.wrap IntKind.i64 (y2 - (1 : Int)), IntKind.wrap IntKind.i64 (y4 + (1 : Int))))) (.bad)) (.bad)) (.bad)) (.out ((y1, y4)))) (.bad)
noncomputable def g_Ls_l20Val_0 (y0 : Int) (y3 : List (Int)) (x : (List (Int)) × (Int) × (Int)) : Option (((List (Int)) × (Int))) := loopO (g_Ss_l20Val_0 y0 y3) x
noncomputable def xs_l20Val_0 (y0 : Int) (y3 : List (Int)) : (((List (Int)) × (Int))) → Ex × List (Pl × LV) := fun r => (.exit 0, [(.T 0, .t (.val false [.ptr 0 0 0])), (.T 1, .t (.val false [.int .i64 y0])), (.T 5, .t (.val false [.row 5 0 0])), (.R 5 0, .r 0 (some ⟨false, .non, true, 3, (.int .i64), r.1⟩)), (.B 0, .b 0 false [.sl .any 5 (.int .u8) y3, .int .i64 r.2])])
noncomputable def Os_l20Val_1 : Orc := fun b h => match b, h with
  | 0, [(.T 0, .t (.val false [.ptr 0 0 0])), (.T 1, .t (.val false [.int .i64 y0])), (.T 5, .t (.val false [.row 5 0 0])), (.R 5 0, .r 0 (some ⟨false, .non, true, 3, (.int .i64), y1⟩)), (.T 6, .t (.val false [.int .i64 y2])), (.B 0, .b 0 false [.sl .any 5 (.int .u8) y3, .int .i64 y4])] => some (okO (g_Ls_l20Val_0 y0 y3 (y1, y2, y4)), (.leaf (.exit 0) [(.T 0, .t (.val false [.ptr 0 0 0])), (.T 1, .t (.val false [.int .i64 y0])), (.T 5, .t (.val false [.row 5 0 0])), (.R 5 0, .r 0 (some ⟨false, .non, true, 3, (.int .i64), (valO (g_Ls_l20Val_0 y0 y3 (y1, y2, y4))).1⟩)), (.B 0, .b 0 false [.sl .any 5 (.int .u8) y3, .int .i64 (valO (g_Ls_l20Val_0 y0 y3 (y1, y2, y4))).2])]))
  | b, h => Os_l20Val_0 b h
theorem bs_l20Val_0 (y0 : Int) (y1 : List (Int)) (y2 : Int) (y3 : List (Int)) (y4 : Int) : Tr.bt Es_l20Val Os_l20Val_0 (exec Es_l20Val 0 cs_l20Val_0 (St.of (hs_l20Val_0 y0 y1 y2 y3 y4)) (leafRd Es_l20Val 0)) = (g_Ss_l20Val_0 y0 y3 (y1, y2, y4)).bt (fun ((y1, y2, y4) : (List (Int)) × (Int) × (Int)) => (hs_l20Val_0 y0 y1 y2 y3 y4)) (xs_l20Val_0 y0 y3) := by kernel_rfl
theorem ks_l20Val_1 : OrcOk Es_l20Val Os_l20Val_1 lss_l20Val 1 := orc_add ks_l20Val_0 (fun n p hp h ex h' ho => by
  obtain ⟨b, c⟩ := p
  obtain ⟨xt, h1, h2⟩ := ho
  have h1 : Os_l20Val_1 b h = some (true, xt) := h1
  unfold Os_l20Val_1 at h1
  split at h1
  · injection h1 with h1
    injection h1 with e1 e2
    subst e2
    have hc : c = cs_l20Val_0 := ms_l20Val_0 _ hp rfl
    subst hc
    right
    rename_i y0 y1 y2 y3 y4
    have key := LT_step ks_l20Val_0 hp (fun q hq => loopsAll_in _ _ _ _ hp hq) (fun ((y1, y2, y4) : (List (Int)) × (Int) × (Int)) => (hs_l20Val_0 y0 y1 y2 y3 y4)) (xs_l20Val_0 y0 y3) (g_Ss_l20Val_0 y0 y3) (fun x => by first | exact bs_l20Val_0 y0 x.1 x.2.1 y3 x.2.2) n (x := (y1, y2, y4)) (okO_some e1)
    have hx : ∀ r, XT.sel (.leaf (.exit 0) [(.T 0, .t (.val false [.ptr 0 0 0])), (.T 1, .t (.val false [.int .i64 y0])), (.T 5, .t (.val false [.row 5 0 0])), (.R 5 0, .r 0 (some ⟨false, .non, true, 3, (.int .i64), r.1⟩)), (.B 0, .b 0 false [.sl .any 5 (.int .u8) y3, .int .i64 r.2])]) = xs_l20Val_0 y0 y3 r := fun r => by first | rfl | (rcases r with r | r <;> rfl) | (rcases r with r | r | r <;> rfl) | (rcases r with r | r | r | r <;> rfl)
    have h3 := (hx (valO (g_Ls_l20Val_0 y0 y3 (y1, y2, y4)))).symm.trans h2
    have e3 := congrArg Prod.fst h3
    have e4 := congrArg Prod.snd h3
    simp only at e3 e4
    rw [← e3, ← e4]
    exact key
  · exact .inl ⟨xt, h1, h2⟩)
noncomputable def g_As_l20Val (r0 : List Int) (r1 : Int) (a2 : Int) : Bool := g_pickA r0 r1 (4 : Int) && (g_pickA r0 (IntKind.wrap IntKind.i64 (r1 + (1 : Int))) (3 : Int) && (okO (g_Ls_l20Val_0 a2 r0 ([g_pick r0 r1 (4 : Int)], g_pick r0 (IntKind.wrap IntKind.i64 (r1 + (1 : Int))) (3 : Int), IntKind.wrap IntKind.i64 (IntKind.wrap IntKind.i64 (r1 + (1 : Int)) + (1 : Int)))) && (g_As_l20Rd_odd r0 (valO (g_Ls_l20Val_0 a2 r0 ([g_pick r0 r1 (4 : Int)], g_pick r0 (IntKind.wrap IntKind.i64 (r1 + (1 : Int))) (3 : Int), IntKind.wrap IntKind.i64 (IntKind.wrap IntKind.i64 (r1 + (1 : Int)) + (1 : Int))))).2 a2 && (!g_Vs_l20Rd_odd_0 r0 (valO (g_Ls_l20Val_0 a2 r0 ([g_pick r0 r1 (4 : Int)], g_pick r0 (IntKind.wrap IntKind.i64 (r1 + (1 : Int))) (3 : Int), IntKind.wrap IntKind.i64 (IntKind.wrap IntKind.i64 (r1 + (1 : Int)) + (1 : Int))))).2 a2 || g_pickA r0 (g_Vs_l20Rd_odd_2 r0 (valO (g_Ls_l20Val_0 a2 r0 ([g_pick r0 r1 (4 : Int)], g_pick r0 (IntKind.wrap IntKind.i64 (r1 + (1 : Int))) (3 : Int), IntKind.wrap IntKind.i64 (IntKind.wrap IntKind.i64 (r1 + (1 : Int)) + (1 : Int))))).2 a2) (4 : Int) && (decide ((0 : Int) ≤ g_pick r0 (g_Vs_l20Rd_odd_2 r0 (valO (g_Ls_l20Val_0 a2 r0 ([g_pick r0 r1 (4 : Int)], g_pick r0 (IntKind.wrap IntKind.i64 (r1 + (1 : Int))) (3 : Int), IntKind.wrap IntKind.i64 (IntKind.wrap IntKind.i64 (r1 + (1 : Int)) + (1 : Int))))).2 a2) (4 : Int) ∧ g_pick r0 (g_Vs_l20Rd_odd_2 r0 (valO (g_Ls_l20Val_0 a2 r0 ([g_pick r0 r1 (4 : Int)], g_pick r0 (IntKind.wrap IntKind.i64 (r1 + (1 : Int))) (3 : Int), IntKind.wrap IntKind.i64 (IntKind.wrap IntKind.i64 (r1 + (1 : Int)) + (1 : Int))))).2 a2) (4 : Int) < (4 : Int)) && decide (Int.toNat (g_pick r0 (g_Vs_l20Rd_odd_2 r0 (valO (g_Ls_l20Val_0 a2 r0 ([g_pick r0 r1 (4 : Int)], g_pick r0 (IntKind.wrap IntKind.i64 (r1 + (1 : Int))) (3 : Int), IntKind.wrap IntKind.i64 (IntKind.wrap IntKind.i64 (r1 + (1 : Int)) + (1 : Int))))).2 a2) (4 : Int)) < nat_lit 4))))))
noncomputable def g_Vs_l20Val_0 (r0 : List Int) (r1 : Int) (a2 : Int) : List (Int) := bif g_Vs_l20Rd_odd_0 r0 (valO (g_Ls_l20Val_0 a2 r0 ([g_pick r0 r1 (4 : Int)], g_pick r0 (IntKind.wrap IntKind.i64 (r1 + (1 : Int))) (3 : Int), IntKind.wrap IntKind.i64 (IntKind.wrap IntKind.i64 (r1 + (1 : Int)) + (1 : Int))))).2 a2 then at_ (Ty.sl (nat_lit 3) (Ty.int IntKind.i64)) [[], [(-1 : Int)], [(10000 : Int)], [(1 : Int), (2 : Int), (3 : Int), (4 : Int)]] (Int.toNat (g_pick r0 (g_Vs_l20Rd_odd_2 r0 (valO (g_Ls_l20Val_0 a2 r0 ([g_pick r0 r1 (4 : Int)], g_pick r0 (IntKind.wrap IntKind.i64 (r1 + (1 : Int))) (3 : Int), IntKind.wrap IntKind.i64 (IntKind.wrap IntKind.i64 (r1 + (1 : Int)) + (1 : Int))))).2 a2) (4 : Int))) else (valO (g_Ls_l20Val_0 a2 r0 ([g_pick r0 r1 (4 : Int)], g_pick r0 (IntKind.wrap IntKind.i64 (r1 + (1 : Int))) (3 : Int), IntKind.wrap IntKind.i64 (IntKind.wrap IntKind.i64 (r1 + (1 : Int)) + (1 : Int))))).1
noncomputable def g_Vs_l20Val_1 (r0 : List Int) (r1 : Int) (a2 : Int) : List (Int) := bif g_Vs_l20Rd_odd_0 r0 (valO (g_Ls_l20Val_0 a2 r0 ([g_pick r0 r1 (4 : Int)], g_pick r0 (IntKind.wrap IntKind.i64 (r1 + (1 : Int))) (3 : Int), IntKind.wrap IntKind.i64 (IntKind.wrap IntKind.i64 (r1 + (1 : Int)) + (1 : Int))))).2 a2 then r0 else r0
noncomputable def g_Vs_l20Val_2 (r0 : List Int) (r1 : Int) (a2 : Int) : Int := bif g_Vs_l20Rd_odd_0 r0 (valO (g_Ls_l20Val_0 a2 r0 ([g_pick r0 r1 (4 : Int)], g_pick r0 (IntKind.wrap IntKind.i64 (r1 + (1 : Int))) (3 : Int), IntKind.wrap IntKind.i64 (IntKind.wrap IntKind.i64 (r1 + (1 : Int)) + (1 : Int))))).2 a2 then IntKind.wrap IntKind.i64 (g_Vs_l20Rd_odd_2 r0 (valO (g_Ls_l20Val_0 a2 r0 ([g_pick r0 r1 (4 : Int)], g_pick r0 (IntKind.wrap IntKind.i64 (r1 + (1 : Int))) (3 : Int), IntKind.wrap IntKind.i64 (IntKind.wrap IntKind.i64 (r1 + (1 : Int)) + (1 : Int))))).2 a2 + (1 : Int)) else g_Vs_l20Rd_odd_2 r0 (valO (g_Ls_l20Val_0 a2 r0 ([g_pick r0 r1 (4 : Int)], g_pick r0 (IntKind.wrap IntKind.i64 (r1 + (1 : Int))) (3 : Int), IntKind.wrap IntKind.i64 (IntKind.wrap IntKind.i64 (r1 + (1 : Int)) + (1 : Int))))).2 a2
noncomputable def Fs_l20Val : FSem := fun ys => match ys with
  | [.val true [.sl .any 5 (.int .u8) r0, .int .i64 r1], .val false [.int .i64 a2]] => some ((g_As_l20Val r0 r1 a2), .val false [.sl .any 3 (.int .i64) (g_Vs_l20Val_0 r0 r1 a2)], [[.sl .any 5 (.int .u8) (g_Vs_l20Val_1 r0 r1 a2), .int .i64 (g_Vs_l20Val_2 r0 r1 a2)]])
  | _ => none
theorem vs_l20Val (r0 : List Int) (r1 : Int) (a2 : Int) : collapseH .fr Es_l20Val Os_l20Val_1 (execFn Es_l20Val Go.Proofs.Tryd.f132 mss_l20Val [.val true [.sl .any 5 (.int .u8) r0, .int .i64 r1], .val false [.int .i64 a2]]) = some ((g_As_l20Val r0 r1 a2), .val false [.sl .any 3 (.int .i64) (g_Vs_l20Val_0 r0 r1 a2)], [[.sl .any 5 (.int .u8) (g_Vs_l20Val_1 r0 r1 a2), .int .i64 (g_Vs_l20Val_2 r0 r1 a2)]]) := by kernel_rfl
theorem ss_l20Val : Sound Go.Proofs.Tryd.prog 132 mss_l20Val Fs_l20Val := by
  refine fn_gen goods_l20Val (by kernel_rfl) .fr (fn := Go.Proofs.Tryd.f132) (c := (Go.Proofs.Tryd.f132.body.getD .skip)) (o := Os_l20Val_1) (k := 1) (by kernel_rfl) (by kernel_rfl) (by kernel_rfl) (by kernel_rfl) (by decide) ks_l20Val_1 ?_
  intro ys r outs h
  unfold Fs_l20Val at h
  split at h
  · exact (vs_l20Val _ _ _).trans h
  · cases h
end Go.Proofs.YtibafhmmnoijkaaDoor.E
end
section
namespace Go.Proofs.YtibafhmmnoijkaaDoor.E
open Go
set_option maxRecDepth 100000
set_option linter.all false
noncomputable def mss_l20ValR : List PM := mss_l20Val
theorem sames_l20Val (r0 : List Int) (r1 : Int) (a2 : Int) : g_Vs_l20Val_1 r0 r1 a2 = r0 := by
  unfold g_Vs_l20Val_1
  simp only [Bool.cond_self]
noncomputable def Fs_l20ValR : FSem := fun ys => match ys with
  | [.val true [.sl .any 5 (.int .u8) r0, .int .i64 r1], .val false [.int .i64 a2]] => some ((g_As_l20Val r0 r1 a2), .val false [.sl .any 3 (.int .i64) (g_Vs_l20Val_0 r0 r1 a2)], [[.sl .any 5 (.int .u8) r0, .int .i64 (g_Vs_l20Val_2 r0 r1 a2)]])
  | _ => none
theorem ss_l20ValR : Sound Go.Proofs.Tryd.prog 132 mss_l20ValR Fs_l20ValR := by
  refine ⟨ss_l20Val.fn, fun w S ψ ys vs r outs hF hh hg => ss_l20Val.calls w S ψ ys vs r outs (Eq.trans ?_ hF) hh hg⟩
  unfold Fs_l20ValR at hF ⊢
  split at hF
  · rename_i  r0 r1 a2
    show (some ((g_As_l20Val r0 r1 a2), .val false [.sl .any 3 (.int .i64) (g_Vs_l20Val_0 r0 r1 a2)], [[.sl .any 5 (.int .u8) (g_Vs_l20Val_1 r0 r1 a2), .int .i64 (g_Vs_l20Val_2 r0 r1 a2)]]) : Option (Bool × RV × List (List Cell))) = _
    rw [sames_l20Val]
  · cases hF
end Go.Proofs.YtibafhmmnoijkaaDoor.E
end
section
namespace Go.Proofs.YtibafhmmnoijkaaDoor.E
open Go
set_option maxRecDepth 100000
set_option maxHeartbeats 0
set_option linter.all false
noncomputable def Es_l20Write : Env where
  tt := mkTI Go.Proofs.Tryd.prog
  fn := fun f => match f with
    | 72 => some (mss_l20Rd_pick, FSem.wk mss_l20Rd_pick Fs_l20Rd_pick)
    | 81 => some (mss_l20Rd_oddR, FSem.wk mss_l20Rd_oddR Fs_l20Rd_oddR)
    | 128 => some (mss_l20KeyR, FSem.wk mss_l20KeyR Fs_l20KeyR)
    | 132 => some (mss_l20ValR, FSem.wk mss_l20ValR Fs_l20ValR)
    | _ => none
  bxf := fun _ => none
  mv := []
  keep := fun _ => []
  keepB := fun _ => []
  keepX := fun _ => []
  keepXB := fun _ => []
theorem goodFs_l20Write : ∀ f ms F, Es_l20Write.fn f = some (ms, F) → Sound Go.Proofs.Tryd.prog f ms F := fun f ms F h => by
  unfold Es_l20Write at h
  dsimp only at h
  split at h
  · injection h with h; injection h with e1 e2; subst e1 e2; exact Sound.wk ss_l20Rd_pick
  · injection h with h; injection h with e1 e2; subst e1 e2; exact Sound.wk ss_l20Rd_oddR
  · injection h with h; injection h with e1 e2; subst e1 e2; exact Sound.wk ss_l20KeyR
  · injection h with h; injection h with e1 e2; subst e1 e2; exact Sound.wk ss_l20ValR
  · cases h
theorem goodBs_l20Write : ∀ f ms F, Es_l20Write.bxf f = some (ms, F) → SoundB Go.Proofs.Tryd.prog f ms F := fun f ms F h => by cases h
theorem goods_l20Write : Good Go.Proofs.Tryd.prog Es_l20Write := ⟨rfl, goodFs_l20Write, goodBs_l20Write⟩
noncomputable def Os_l20Write_0 : Orc := fun _ _ => none
noncomputable def mss_l20Write : List PM := [.bx, .own]
noncomputable def lss_l20Write : List (Nat × Code) := loopsAll 0 (Go.Proofs.Tryd.f129.body.getD .skip)

theorem ks_l20Write_0 : OrcOk Es_l20Write Os_l20Write_0 lss_l20Write 0 := orcOk_none
noncomputable def g_As_l20Write (r0 : List Int) (r1 : Int) (a2 : Int) : Bool := g_As_l20Key r0 r1 a2 && (g_pickA r0 (g_Vs_l20Key_2 r0 r1 a2) (3 : Int) && bif g_pick r0 (g_Vs_l20Key_2 r0 r1 a2) (3 : Int) == (0 : Int) then g_As_l20Rd_odd r0 (IntKind.wrap IntKind.i64 (g_Vs_l20Key_2 r0 r1 a2 + (1 : Int))) a2 else g_As_l20Val r0 (IntKind.wrap IntKind.i64 (g_Vs_l20Key_2 r0 r1 a2 + (1 : Int))) a2)
noncomputable def g_Vs_l20Write_0 (r0 : List Int) (r1 : Int) (a2 : Int) : ByteArray := bif g_pick r0 (g_Vs_l20Key_2 r0 r1 a2) (3 : Int) == (0 : Int) then bif g_Vs_l20Rd_odd_0 r0 (IntKind.wrap IntKind.i64 (g_Vs_l20Key_2 r0 r1 a2 + (1 : Int))) a2 then g_Vs_l20Key_0 r0 r1 a2 else g_Vs_l20Key_0 r0 r1 a2 else g_Vs_l20Key_0 r0 r1 a2
noncomputable def g_Vs_l20Write_1 (r0 : List Int) (r1 : Int) (a2 : Int) : Bool := bif g_pick r0 (g_Vs_l20Key_2 r0 r1 a2) (3 : Int) == (0 : Int) then bif g_Vs_l20Rd_odd_0 r0 (IntKind.wrap IntKind.i64 (g_Vs_l20Key_2 r0 r1 a2 + (1 : Int))) a2 then true else true else false
noncomputable def g_Vs_l20Write_2 (r0 : List Int) (r1 : Int) (a2 : Int) : List (Int) := bif g_pick r0 (g_Vs_l20Key_2 r0 r1 a2) (3 : Int) == (0 : Int) then bif g_Vs_l20Rd_odd_0 r0 (IntKind.wrap IntKind.i64 (g_Vs_l20Key_2 r0 r1 a2 + (1 : Int))) a2 then [(1 : Int)] else [] else g_Vs_l20Val_0 r0 (IntKind.wrap IntKind.i64 (g_Vs_l20Key_2 r0 r1 a2 + (1 : Int))) a2
noncomputable def g_Vs_l20Write_3 (r0 : List Int) (r1 : Int) (a2 : Int) : List (Int) := bif g_pick r0 (g_Vs_l20Key_2 r0 r1 a2) (3 : Int) == (0 : Int) then bif g_Vs_l20Rd_odd_0 r0 (IntKind.wrap IntKind.i64 (g_Vs_l20Key_2 r0 r1 a2 + (1 : Int))) a2 then r0 else r0 else r0
noncomputable def g_Vs_l20Write_4 (r0 : List Int) (r1 : Int) (a2 : Int) : Int := bif g_pick r0 (g_Vs_l20Key_2 r0 r1 a2) (3 : Int) == (0 : Int) then bif g_Vs_l20Rd_odd_0 r0 (IntKind.wrap IntKind.i64 (g_Vs_l20Key_2 r0 r1 a2 + (1 : Int))) a2 then g_Vs_l20Rd_odd_2 r0 (IntKind.wrap IntKind.i64 (g_Vs_l20Key_2 r0 r1 a2 + (1 : Int))) a2 else g_Vs_l20Rd_odd_2 r0 (IntKind.wrap IntKind.i64 (g_Vs_l20Key_2 r0 r1 a2 + (1 : Int))) a2 else g_Vs_l20Val_2 r0 (IntKind.wrap IntKind.i64 (g_Vs_l20Key_2 r0 r1 a2 + (1 : Int))) a2
noncomputable def Fs_l20Write : FSem := fun ys => match ys with
  | [.val true [.sl .any 5 (.int .u8) r0, .int .i64 r1], .val false [.int .i64 a2]] => some ((g_As_l20Write r0 r1 a2), .val true [.str (g_Vs_l20Write_0 r0 r1 a2), .bool (g_Vs_l20Write_1 r0 r1 a2), .sl .any 3 (.int .i64) (g_Vs_l20Write_2 r0 r1 a2)], [[.sl .any 5 (.int .u8) (g_Vs_l20Write_3 r0 r1 a2), .int .i64 (g_Vs_l20Write_4 r0 r1 a2)]])
  | _ => none
theorem vs_l20Write (r0 : List Int) (r1 : Int) (a2 : Int) : collapseH .fr Es_l20Write Os_l20Write_0 (execFn Es_l20Write Go.Proofs.Tryd.f129 mss_l20Write [.val true [.sl .any 5 (.int .u8) r0, .int .i64 r1], .val false [.int .i64 a2]]) = some ((g_As_l20Write r0 r1 a2), .val true [.str (g_Vs_l20Write_0 r0 r1 a2), .bool (g_Vs_l20Write_1 r0 r1 a2), .sl .any 3 (.int .i64) (g_Vs_l20Write_2 r0 r1 a2)], [[.sl .any 5 (.int .u8) (g_Vs_l20Write_3 r0 r1 a2), .int .i64 (g_Vs_l20Write_4 r0 r1 a2)]]) := by kernel_rfl
theorem ss_l20Write : Sound Go.Proofs.Tryd.prog 129 mss_l20Write Fs_l20Write := by
  refine fn_gen goods_l20Write (by kernel_rfl) .fr (fn := Go.Proofs.Tryd.f129) (c := (Go.Proofs.Tryd.f129.body.getD .skip)) (o := Os_l20Write_0) (k := 0) (by kernel_rfl) (by kernel_rfl) (by kernel_rfl) (by kernel_rfl) (by decide) ks_l20Write_0 ?_
  intro ys r outs h
  unfold Fs_l20Write at h
  split at h
  · exact (vs_l20Write _ _ _).trans h
  · cases h
end Go.Proofs.YtibafhmmnoijkaaDoor.E
end
section
namespace Go.Proofs.YtibafhmmnoijkaaDoor.E
open Go
set_option maxRecDepth 100000
set_option linter.all false
noncomputable def mss_l20WriteR : List PM := mss_l20Write
theorem sames_l20Write (r0 : List Int) (r1 : Int) (a2 : Int) : g_Vs_l20Write_3 r0 r1 a2 = r0 := by
  unfold g_Vs_l20Write_3
  simp only [Bool.cond_self]
noncomputable def Fs_l20WriteR : FSem := fun ys => match ys with
  | [.val true [.sl .any 5 (.int .u8) r0, .int .i64 r1], .val false [.int .i64 a2]] => some ((g_As_l20Write r0 r1 a2), .val true [.str (g_Vs_l20Write_0 r0 r1 a2), .bool (g_Vs_l20Write_1 r0 r1 a2), .sl .any 3 (.int .i64) (g_Vs_l20Write_2 r0 r1 a2)], [[.sl .any 5 (.int .u8) r0, .int .i64 (g_Vs_l20Write_4 r0 r1 a2)]])
  | _ => none
theorem ss_l20WriteR : Sound Go.Proofs.Tryd.prog 129 mss_l20WriteR Fs_l20WriteR := by
  refine ⟨ss_l20Write.fn, fun w S ψ ys vs r outs hF hh hg => ss_l20Write.calls w S ψ ys vs r outs (Eq.trans ?_ hF) hh hg⟩
  unfold Fs_l20WriteR at hF ⊢
  split at hF
  · rename_i  r0 r1 a2
    show (some ((g_As_l20Write r0 r1 a2), .val true [.str (g_Vs_l20Write_0 r0 r1 a2), .bool (g_Vs_l20Write_1 r0 r1 a2), .sl .any 3 (.int .i64) (g_Vs_l20Write_2 r0 r1 a2)], [[.sl .any 5 (.int .u8) (g_Vs_l20Write_3 r0 r1 a2), .int .i64 (g_Vs_l20Write_4 r0 r1 a2)]]) : Option (Bool × RV × List (List Cell))) = _
    rw [sames_l20Write]
  · cases hF
end Go.Proofs.YtibafhmmnoijkaaDoor.E
end
section
namespace Go.Proofs.YtibafhmmnoijkaaDoor.E
open Go
set_option maxRecDepth 100000
set_option maxHeartbeats 0
set_option linter.all false
noncomputable def Es_l20Writes : Env where
  tt := mkTI Go.Proofs.Tryd.prog
  fn := fun f => match f with
    | 72 => some (mss_l20Rd_pick, FSem.wk mss_l20Rd_pick Fs_l20Rd_pick)
    | 81 => some (mss_l20Rd_oddR, FSem.wk mss_l20Rd_oddR Fs_l20Rd_oddR)
    | 129 => some (mss_l20WriteR, FSem.wk mss_l20WriteR Fs_l20WriteR)
    | _ => none
  bxf := fun _ => none
  mv := []
  keep := fun b => match b with
    | 0 => [(0, false), (1, false), (5, true), (6, false)]
    | _ => []
  keepB := fun b => match b with
    | 0 => [(0, false)]
    | _ => []
  keepX := fun b => match b with
    | 0 => [(0, false), (1, false), (5, true)]
    | _ => []
  keepXB := fun b => match b with
    | 0 => [(0, false)]
    | _ => []
theorem goodFs_l20Writes : ∀ f ms F, Es_l20Writes.fn f = some (ms, F) → Sound Go.Proofs.Tryd.prog f ms F := fun f ms F h => by
  unfold Es_l20Writes at h
  dsimp only at h
  split at h
  · injection h with h; injection h with e1 e2; subst e1 e2; exact Sound.wk ss_l20Rd_pick
  · injection h with h; injection h with e1 e2; subst e1 e2; exact Sound.wk ss_l20Rd_oddR
  · injection h with h; injection h with e1 e2; subst e1 e2; exact Sound.wk ss_l20WriteR
  · cases h
theorem goodBs_l20Writes : ∀ f ms F, Es_l20Writes.bxf f = some (ms, F) → SoundB Go.Proofs.Tryd.prog f ms F := fun f ms F h => by cases h
theorem goods_l20Writes : Good Go.Proofs.Tryd.prog Es_l20Writes := ⟨rfl, goodFs_l20Writes, goodBs_l20Writes⟩
noncomputable def Os_l20Writes_0 : Orc := fun _ _ => none
noncomputable def mss_l20Writes : List PM := [.bx, .own]
noncomputable def lss_l20Writes : List (Nat × Code) := loopsAll 0 (Go.Proofs.Tryd.f92.body.getD .skip)
noncomputable def cs_l20Writes_0 : Code := (loopOf 0 (Go.Proofs.Tryd.f92.body.getD .skip)).getD .skip
theorem lseqs_l20Writes : lss_l20Writes = [(0, cs_l20Writes_0)] := by kernel_rfl
theorem ms_l20Writes_0 : ∀ p, p ∈ lss_l20Writes → p.1 = 0 → p.2 = cs_l20Writes_0 := by
  intro p hp
  rw [lseqs_l20Writes] at hp
  simp only [List.mem_cons, List.not_mem_nil, or_false] at hp
  subst hp; simp
theorem ks_l20Writes_0 : OrcOk Es_l20Writes Os_l20Writes_0 lss_l20Writes 0 := orcOk_none
noncomputable def hs_l20Writes_0 (y0 : Int) (y1 : List ((ByteArray) × ((Bool) × (List (Int))))) (y2 : Int) (y3 : List (Int)) (y4 : Int) : List (Pl × LV) := [(.T 0, .t (.val false [.ptr 0 0 0])), (.T 1, .t (.val false [.int .i64 y0])), (.T 5, .t (.val false [.row 5 0 0])), (.R 5 0, .r 0 (some ⟨false, .non, false, 83, (.pair .str (.pair .bool (.sl 3 (.int .i64)))), y1⟩)), (.T 6, .t (.val false [.int .i64 y2])), (.B 0, .b 0 false [.sl .any 5 (.int .u8) y3, .int .i64 y4])]
noncomputable def g_Ss_l20Writes_0 (y0 : Int) (y3 : List (Int)) : ((List ((ByteArray) × ((Bool) × (List (Int))))) × (Int) × (Int)) → RT ((List ((ByteArray) × ((Bool) × (List (Int))))) × (Int) × (Int)) (((List ((ByteArray) × ((Bool) × (List (Int))))) × (Int)))
  | (y1, y2, y4) => .br (true) (.br (decide (y2 > (0 : Int))) (.br (g_As_l20Write y3 y4 (0 : Int)) (.br (decide ((List.length y1 + List.length [(g_Vs_l20Write_0 y3 y4 (0 : Int), g_Vs_l20Write_1 y3 y4 (0 : Int), g_Vs_l20Write_2 y3 y4 (0 : Int))]) * nat_lit 48 ≤ nat_lit 140737488355328 ∧ List.length y1 + List.length [(g_Vs_l20Write_0 y3 y4 (0 : Int), g_Vs_l20Write_1 y3 y4 (0 : Int), g_Vs_l20Write_2 y3 y4 (0 : Int))] ≤ nat_lit 9223372036854775807)) (.br (true) (.go ((y1 ++ [(g_Vs_l20Write_0 y3 y4 (0 : Int), g_Vs_l20Write_1 y3 y4 (0 : Int), g_Vs_l20Write_2 y3 y4 (0 : Int))], IntKind.wrap IntKind.i64 (y2 - (1 : Int)), g_Vs_l20Write_4 y3 y4 (0 : Int)))) (.bad)) (.bad)) (.bad)) (.out ((y1, y4)))) (.bad)
noncomputable def g_Ls_l20Writes_0 (y0 : Int) (y3 : List (Int)) (x : (List ((ByteArray) × ((Bool) × (List (Int))))) × (Int) × (Int)) : Option (((List ((ByteArray) × ((Bool) × (List (Int))))) × (Int))) := loopO (g_Ss_l20Writes_0 y0 y3) x
noncomputable def xs_l20Writes_0 (y0 : Int) (y3 : List (Int)) : (((List ((ByteArray) × ((Bool) × (List (Int))))) × (Int))) → Ex × List (Pl × LV) := fun r => (.exit 0, [(.T 0, .t (.val false [.ptr 0 0 0])), (.T 1, .t (.val false [.int .i64 y0])), (.T 5, .t (.val false [.row 5 0 0])), (.R 5 0, .r 0 (some ⟨false, .non, false, 83, (.pair .str (.pair .bool (.sl 3 (.int .i64)))), r.1⟩)), (.B 0, .b 0 false [.sl .any 5 (.int .u8) y3, .int .i64 r.2])])
noncomputable def Os_l20Writes_1 : Orc := fun b h => match b, h with
  | 0, [(.T 0, .t (.val false [.ptr 0 0 0])), (.T 1, .t (.val false [.int .i64 y0])), (.T 5, .t (.val false [.row 5 0 0])), (.R 5 0, .r 0 (some ⟨false, .non, false, 83, (.pair .str (.pair .bool (.sl 3 (.int .i64)))), y1⟩)), (.T 6, .t (.val false [.int .i64 y2])), (.B 0, .b 0 false [.sl .any 5 (.int .u8) y3, .int .i64 y4])] => some (okO (g_Ls_l20Writes_0 y0 y3 (y1, y2, y4)), (.leaf (.exit 0) [(.T 0, .t (.val false [.ptr 0 0 0])), (.T 1, .t (.val false [.int .i64 y0])), (.T 5, .t (.val false [.row 5 0 0])), (.R 5 0, .r 0 (some ⟨false, .non, false, 83, (.pair .str (.pair .bool (.sl 3 (.int .i64)))), (valO (g_Ls_l20Writes_0 y0 y3 (y1, y2, y4))).1⟩)), (.B 0, .b 0 false [.sl .any 5 (.int .u8) y3, .int .i64 (valO (g_Ls_l20Writes_0 y0 y3 (y1, y2, y4))).2])]))
  | b, h => Os_l20Writes_0 b h
theorem bs_l20Writes_0 (y0 : Int) (y1 : List ((ByteArray) × ((Bool) × (List (Int))))) (y2 : Int) (y3 : List (Int)) (y4 : Int) : Tr.bt Es_l20Writes Os_l20Writes_0 (exec Es_l20Writes 0 cs_l20Writes_0 (St.of (hs_l20Writes_0 y0 y1 y2 y3 y4)) (leafRd Es_l20Writes 0)) = (g_Ss_l20Writes_0 y0 y3 (y1, y2, y4)).bt (fun ((y1, y2, y4) : (List ((ByteArray) × ((Bool) × (List (Int))))) × (Int) × (Int)) => (hs_l20Writes_0 y0 y1 y2 y3 y4)) (xs_l20Writes_0 y0 y3) := by kernel_rfl
theorem ks_l20Writes_1 : OrcOk Es_l20Writes Os_l20Writes_1 lss_l20Writes 1 := orc_add ks_l20Writes_0 (fun n p hp h ex h' ho => by
  obtain ⟨b, c⟩ := p
  obtain ⟨xt, h1, h2⟩ := ho
  have h1 : Os_l20Writes_1 b h = some (true, xt) := h1
  unfold Os_l20Writes_1 at h1
  split at h1
  · injection h1 with h1
    injection h1 with e1 e2
    subst e2
    have hc : c = cs_l20Writes_0 := ms_l20Writes_0 _ hp rfl
    subst hc
    right
    rename_i y0 y1 y2 y3 y4
    have key := LT_step ks_l20Writes_0 hp (fun q hq => loopsAll_in _ _ _ _ hp hq) (fun ((y1, y2, y4) : (List ((ByteArray) × ((Bool) × (List (Int))))) × (Int) × (Int)) => (hs_l20Writes_0 y0 y1 y2 y3 y4)) (xs_l20Writes_0 y0 y3) (g_Ss_l20Writes_0 y0 y3) (fun x => by first | exact bs_l20Writes_0 y0 x.1 x.2.1 y3 x.2.2) n (x := (y1, y2, y4)) (okO_some e1)
    have hx : ∀ r, XT.sel (.leaf (.exit 0) [(.T 0, .t (.val false [.ptr 0 0 0])), (.T 1, .t (.val false [.int .i64 y0])), (.T 5, .t (.val false [.row 5 0 0])), (.R 5 0, .r 0 (some ⟨false, .non, false, 83, (.pair .str (.pair .bool (.sl 3 (.int .i64)))), r.1⟩)), (.B 0, .b 0 false [.sl .any 5 (.int .u8) y3, .int .i64 r.2])]) = xs_l20Writes_0 y0 y3 r := fun r => by first | rfl | (rcases r with r | r <;> rfl) | (rcases r with r | r | r <;> rfl) | (rcases r with r | r | r | r <;> rfl)
    have h3 := (hx (valO (g_Ls_l20Writes_0 y0 y3 (y1, y2, y4)))).symm.trans h2
    have e3 := congrArg Prod.fst h3
    have e4 := congrArg Prod.snd h3
    simp only at e3 e4
    rw [← e3, ← e4]
    exact key
  · exact .inl ⟨xt, h1, h2⟩)
noncomputable def g_As_l20Writes (r0 : List Int) (r1 : Int) (a2 : Int) : Bool := g_pickA r0 r1 (6 : Int) && (okO (g_Ls_l20Writes_0 a2 r0 ([], g_pick r0 r1 (6 : Int), IntKind.wrap IntKind.i64 (r1 + (1 : Int)))) && (g_As_l20Rd_odd r0 (valO (g_Ls_l20Writes_0 a2 r0 ([], g_pick r0 r1 (6 : Int), IntKind.wrap IntKind.i64 (r1 + (1 : Int))))).2 a2 && (!g_Vs_l20Rd_odd_0 r0 (valO (g_Ls_l20Writes_0 a2 r0 ([], g_pick r0 r1 (6 : Int), IntKind.wrap IntKind.i64 (r1 + (1 : Int))))).2 a2 || g_As_l20Write r0 (g_Vs_l20Rd_odd_2 r0 (valO (g_Ls_l20Writes_0 a2 r0 ([], g_pick r0 r1 (6 : Int), IntKind.wrap IntKind.i64 (r1 + (1 : Int))))).2 a2) (2 : Int) && decide ((List.length (valO (g_Ls_l20Writes_0 a2 r0 ([], g_pick r0 r1 (6 : Int), IntKind.wrap IntKind.i64 (r1 + (1 : Int))))).1 + List.length [(g_Vs_l20Write_0 r0 (g_Vs_l20Rd_odd_2 r0 (valO (g_Ls_l20Writes_0 a2 r0 ([], g_pick r0 r1 (6 : Int), IntKind.wrap IntKind.i64 (r1 + (1 : Int))))).2 a2) (2 : Int), g_Vs_l20Write_1 r0 (g_Vs_l20Rd_odd_2 r0 (valO (g_Ls_l20Writes_0 a2 r0 ([], g_pick r0 r1 (6 : Int), IntKind.wrap IntKind.i64 (r1 + (1 : Int))))).2 a2) (2 : Int), g_Vs_l20Write_2 r0 (g_Vs_l20Rd_odd_2 r0 (valO (g_Ls_l20Writes_0 a2 r0 ([], g_pick r0 r1 (6 : Int), IntKind.wrap IntKind.i64 (r1 + (1 : Int))))).2 a2) (2 : Int))]) * nat_lit 48 ≤ nat_lit 140737488355328 ∧ List.length (valO (g_Ls_l20Writes_0 a2 r0 ([], g_pick r0 r1 (6 : Int), IntKind.wrap IntKind.i64 (r1 + (1 : Int))))).1 + List.length [(g_Vs_l20Write_0 r0 (g_Vs_l20Rd_odd_2 r0 (valO (g_Ls_l20Writes_0 a2 r0 ([], g_pick r0 r1 (6 : Int), IntKind.wrap IntKind.i64 (r1 + (1 : Int))))).2 a2) (2 : Int), g_Vs_l20Write_1 r0 (g_Vs_l20Rd_odd_2 r0 (valO (g_Ls_l20Writes_0 a2 r0 ([], g_pick r0 r1 (6 : Int), IntKind.wrap IntKind.i64 (r1 + (1 : Int))))).2 a2) (2 : Int), g_Vs_l20Write_2 r0 (g_Vs_l20Rd_odd_2 r0 (valO (g_Ls_l20Writes_0 a2 r0 ([], g_pick r0 r1 (6 : Int), IntKind.wrap IntKind.i64 (r1 + (1 : Int))))).2 a2) (2 : Int))] ≤ nat_lit 9223372036854775807))))
noncomputable def g_Vs_l20Writes_0 (r0 : List Int) (r1 : Int) (a2 : Int) : List ((ByteArray) × ((Bool) × (List (Int)))) := bif g_Vs_l20Rd_odd_0 r0 (valO (g_Ls_l20Writes_0 a2 r0 ([], g_pick r0 r1 (6 : Int), IntKind.wrap IntKind.i64 (r1 + (1 : Int))))).2 a2 then (valO (g_Ls_l20Writes_0 a2 r0 ([], g_pick r0 r1 (6 : Int), IntKind.wrap IntKind.i64 (r1 + (1 : Int))))).1 ++ [(g_Vs_l20Write_0 r0 (g_Vs_l20Rd_odd_2 r0 (valO (g_Ls_l20Writes_0 a2 r0 ([], g_pick r0 r1 (6 : Int), IntKind.wrap IntKind.i64 (r1 + (1 : Int))))).2 a2) (2 : Int), g_Vs_l20Write_1 r0 (g_Vs_l20Rd_odd_2 r0 (valO (g_Ls_l20Writes_0 a2 r0 ([], g_pick r0 r1 (6 : Int), IntKind.wrap IntKind.i64 (r1 + (1 : Int))))).2 a2) (2 : Int), g_Vs_l20Write_2 r0 (g_Vs_l20Rd_odd_2 r0 (valO (g_Ls_l20Writes_0 a2 r0 ([], g_pick r0 r1 (6 : Int), IntKind.wrap IntKind.i64 (r1 + (1 : Int))))).2 a2) (2 : Int))] else (valO (g_Ls_l20Writes_0 a2 r0 ([], g_pick r0 r1 (6 : Int), IntKind.wrap IntKind.i64 (r1 + (1 : Int))))).1
noncomputable def g_Vs_l20Writes_1 (r0 : List Int) (r1 : Int) (a2 : Int) : List (Int) := bif g_Vs_l20Rd_odd_0 r0 (valO (g_Ls_l20Writes_0 a2 r0 ([], g_pick r0 r1 (6 : Int), IntKind.wrap IntKind.i64 (r1 + (1 : Int))))).2 a2 then r0 else r0
noncomputable def g_Vs_l20Writes_2 (r0 : List Int) (r1 : Int) (a2 : Int) : Int := bif g_Vs_l20Rd_odd_0 r0 (valO (g_Ls_l20Writes_0 a2 r0 ([], g_pick r0 r1 (6 : Int), IntKind.wrap IntKind.i64 (r1 + (1 : Int))))).2 a2 then g_Vs_l20Write_4 r0 (g_Vs_l20Rd_odd_2 r0 (valO (g_Ls_l20Writes_0 a2 r0 ([], g_pick r0 r1 (6 : Int), IntKind.wrap IntKind.i64 (r1 + (1 : Int))))).2 a2) (2 : Int) else g_Vs_l20Rd_odd_2 r0 (valO (g_Ls_l20Writes_0 a2 r0 ([], g_pick r0 r1 (6 : Int), IntKind.wrap IntKind.i64 (r1 + (1 : Int))))).2 a2
noncomputable def Fs_l20Writes : FSem := fun ys => match ys with
  | [.val true [.sl .any 5 (.int .u8) r0, .int .i64 r1], .val false [.int .i64 a2]] => some ((g_As_l20Writes r0 r1 a2), .val false [.own .any false 83 (.pair .str (.pair .bool (.sl 3 (.int .i64)))) (g_Vs_l20Writes_0 r0 r1 a2)], [[.sl .any 5 (.int .u8) (g_Vs_l20Writes_1 r0 r1 a2), .int .i64 (g_Vs_l20Writes_2 r0 r1 a2)]])
  | _ => none
theorem vs_l20Writes (r0 : List Int) (r1 : Int) (a2 : Int) : collapseH .std Es_l20Writes Os_l20Writes_1 (execFn Es_l20Writes Go.Proofs.Tryd.f92 mss_l20Writes [.val true [.sl .any 5 (.int .u8) r0, .int .i64 r1], .val false [.int .i64 a2]]) = some ((g_As_l20Writes r0 r1 a2), .val false [.own .any false 83 (.pair .str (.pair .bool (.sl 3 (.int .i64)))) (g_Vs_l20Writes_0 r0 r1 a2)], [[.sl .any 5 (.int .u8) (g_Vs_l20Writes_1 r0 r1 a2), .int .i64 (g_Vs_l20Writes_2 r0 r1 a2)]]) := by kernel_rfl
theorem ss_l20Writes : Sound Go.Proofs.Tryd.prog 92 mss_l20Writes Fs_l20Writes := by
  refine fn_gen goods_l20Writes (by kernel_rfl) .std (fn := Go.Proofs.Tryd.f92) (c := (Go.Proofs.Tryd.f92.body.getD .skip)) (o := Os_l20Writes_1) (k := 1) (by kernel_rfl) (by kernel_rfl) (by kernel_rfl) (by kernel_rfl) (by decide) ks_l20Writes_1 ?_
  intro ys r outs h
  unfold Fs_l20Writes at h
  split at h
  · exact (vs_l20Writes _ _ _).trans h
  · cases h
end Go.Proofs.YtibafhmmnoijkaaDoor.E
end
section
namespace Go.Proofs.YtibafhmmnoijkaaDoor.E
open Go
set_option maxRecDepth 100000
set_option linter.all false
noncomputable def mss_l20WritesR : List PM := mss_l20Writes
theorem sames_l20Writes (r0 : List Int) (r1 : Int) (a2 : Int) : g_Vs_l20Writes_1 r0 r1 a2 = r0 := by
  unfold g_Vs_l20Writes_1
  simp only [Bool.cond_self]
noncomputable def Fs_l20WritesR : FSem := fun ys => match ys with
  | [.val true [.sl .any 5 (.int .u8) r0, .int .i64 r1], .val false [.int .i64 a2]] => some ((g_As_l20Writes r0 r1 a2), .val false [.own .any false 83 (.pair .str (.pair .bool (.sl 3 (.int .i64)))) (g_Vs_l20Writes_0 r0 r1 a2)], [[.sl .any 5 (.int .u8) r0, .int .i64 (g_Vs_l20Writes_2 r0 r1 a2)]])
  | _ => none
theorem ss_l20WritesR : Sound Go.Proofs.Tryd.prog 92 mss_l20WritesR Fs_l20WritesR := by
  refine ⟨ss_l20Writes.fn, fun w S ψ ys vs r outs hF hh hg => ss_l20Writes.calls w S ψ ys vs r outs (Eq.trans ?_ hF) hh hg⟩
  unfold Fs_l20WritesR at hF ⊢
  split at hF
  · rename_i  r0 r1 a2
    show (some ((g_As_l20Writes r0 r1 a2), .val false [.own .any false 83 (.pair .str (.pair .bool (.sl 3 (.int .i64)))) (g_Vs_l20Writes_0 r0 r1 a2)], [[.sl .any 5 (.int .u8) (g_Vs_l20Writes_1 r0 r1 a2), .int .i64 (g_Vs_l20Writes_2 r0 r1 a2)]]) : Option (Bool × RV × List (List Cell))) = _
    rw [sames_l20Writes]
  · cases hF
end Go.Proofs.YtibafhmmnoijkaaDoor.E
end
section
namespace Go.Proofs.YtibafhmmnoijkaaDoor.E
open Go
set_option maxRecDepth 100000
set_option maxHeartbeats 0
set_option linter.all false
noncomputable def Es_l20Note : Env where
  tt := mkTI Go.Proofs.Tryd.prog
  fn := fun f => match f with
    | 72 => some (mss_l20Rd_pick, FSem.wk mss_l20Rd_pick Fs_l20Rd_pick)
    | 81 => some (mss_l20Rd_oddR, FSem.wk mss_l20Rd_oddR Fs_l20Rd_oddR)
    | 92 => some (mss_l20WritesR, FSem.wk mss_l20WritesR Fs_l20WritesR)
    | 128 => some (mss_l20KeyR, FSem.wk mss_l20KeyR Fs_l20KeyR)
    | 129 => some (mss_l20WriteR, FSem.wk mss_l20WriteR Fs_l20WriteR)
    | _ => none
  bxf := fun _ => none
  mv := []
  keep := fun b => match b with
    | 0 => [(0, false), (1, false), (4, false), (5, false), (6, false)]
    | _ => []
  keepB := fun b => match b with
    | 0 => [(4, false), (5, false), (0, false)]
    | _ => []
  keepX := fun b => match b with
    | 0 => [(0, false), (1, false), (4, false), (5, false)]
    | _ => []
  keepXB := fun b => match b with
    | 0 => [(4, false), (5, false), (0, false)]
    | _ => []
theorem goodFs_l20Note : ∀ f ms F, Es_l20Note.fn f = some (ms, F) → Sound Go.Proofs.Tryd.prog f ms F := fun f ms F h => by
  unfold Es_l20Note at h
  dsimp only at h
  split at h
  · injection h with h; injection h with e1 e2; subst e1 e2; exact Sound.wk ss_l20Rd_pick
  · injection h with h; injection h with e1 e2; subst e1 e2; exact Sound.wk ss_l20Rd_oddR
  · injection h with h; injection h with e1 e2; subst e1 e2; exact Sound.wk ss_l20WritesR
  · injection h with h; injection h with e1 e2; subst e1 e2; exact Sound.wk ss_l20KeyR
  · injection h with h; injection h with e1 e2; subst e1 e2; exact Sound.wk ss_l20WriteR
  · cases h
theorem goodBs_l20Note : ∀ f ms F, Es_l20Note.bxf f = some (ms, F) → SoundB Go.Proofs.Tryd.prog f ms F := fun f ms F h => by cases h
theorem goods_l20Note : Good Go.Proofs.Tryd.prog Es_l20Note := ⟨rfl, goodFs_l20Note, goodBs_l20Note⟩
noncomputable def Os_l20Note_0 : Orc := fun _ _ => none
noncomputable def mss_l20Note : List PM := [.bx, .own]
noncomputable def lss_l20Note : List (Nat × Code) := loopsAll 0 (Go.Proofs.Tryd.f82.body.getD .skip)
noncomputable def cs_l20Note_0 : Code := (loopOf 0 (Go.Proofs.Tryd.f82.body.getD .skip)).getD .skip
theorem lseqs_l20Note : lss_l20Note = [(0, cs_l20Note_0)] := by kernel_rfl
theorem ms_l20Note_0 : ∀ p, p ∈ lss_l20Note → p.1 = 0 → p.2 = cs_l20Note_0 := by
  intro p hp
  rw [lseqs_l20Note] at hp
  simp only [List.mem_cons, List.not_mem_nil, or_false] at hp
  subst hp; simp
theorem ks_l20Note_0 : OrcOk Es_l20Note Os_l20Note_0 lss_l20Note 0 := orcOk_none
noncomputable def hs_l20Note_0 (y0 : Int) (y1 : Int) (y2 : Int) (y3 : Int) (y4 : List (ByteArray)) (y5 : List ((ByteArray) × ((Bool) × (List (Int))))) (y6 : Int) (y7 : Int) (y8 : List (ByteArray)) (y9 : List ((ByteArray) × ((Bool) × (List (Int))))) (y10 : List (Int)) (y11 : Int) : List (Pl × LV) := [(.T 0, .t (.val false [.ptr 0 0 0])), (.T 1, .t (.val false [.int .i64 y0])), (.T 4, .t (.val false [.ptr 4 0 0])), (.T 5, .t (.val false [.ptr 5 0 0])), (.T 6, .t (.val false [.int .i64 y1])), (.B 4, .b 0 false [.int .i64 y2, .int .i64 y3, .row 4 5 0, .row 4 7 0]), (.R 4 5, .r 0 (some ⟨false, .any, true, 9, .str, y4⟩)), (.R 4 7, .r 0 (some ⟨false, .any, true, 83, (.pair .str (.pair .bool (.sl 3 (.int .i64)))), y5⟩)), (.B 5, .b 0 false [.int .i64 y6, .int .i64 y7, .row 5 5 0, .row 5 7 0]), (.R 5 5, .r 0 (some ⟨false, .any, true, 9, .str, y8⟩)), (.R 5 7, .r 0 (some ⟨false, .any, false, 83, (.pair .str (.pair .bool (.sl 3 (.int .i64)))), y9⟩)), (.B 0, .b 0 false [.sl .any 5 (.int .u8) y10, .int .i64 y11])]
noncomputable def g_Ss_l20Note_0 (y0 : Int) (y2 : Int) (y3 : Int) (y4 : List (ByteArray)) (y5 : List ((ByteArray) × ((Bool) × (List (Int))))) (y6 : Int) (y7 : Int) (y9 : List ((ByteArray) × ((Bool) × (List (Int))))) (y10 : List (Int)) (y11 : Int) : ((Int) × (List (ByteArray))) → RT ((Int) × (List (ByteArray))) (((List (ByteArray))))
  | (y1, y8) => .br (true) (.br (decide (y1 < (↑(List.length y9) : Int))) (.br (decide ((0 : Int) ≤ y1 ∧ y1 < (↑(List.length y9) : Int))) (.br (decide (Int.toNat y1 < List.length y9)) (.br (decide ((List.length y8 + List.length [(at_ (Ty.pair Ty.str (Ty.pair Ty.bool (Ty.sl (nat_lit 3) (Ty.int IntKind.i64)))) y9 (Int.toNat y1)).1]) * nat_lit 16 ≤ nat_lit 140737488355328 ∧ List.length y8 + List.length [(at_ (Ty.pair Ty.str (Ty.pair Ty.bool (Ty.sl (nat_lit 3) (Ty.int IntKind.i64)))) y9 (Int.toNat y1)).1] ≤ nat_lit 9223372036854775807)) (.br (true) (.go ((IntKind.wrap IntKind.i64 (y1 + (1 : Int)), y8 ++ [(at_ (Ty.pair Ty.str (Ty.pair Ty.bool (Ty.sl (nat_lit 3) (Ty.int IntKind.i64)))) y9 (Int.toNat y1)).1]))) (.bad)) (.bad)) (.bad)) (.bad)) (.out (y8))) (.bad)
noncomputable def g_Ls_l20Note_0 (y0 : Int) (y2 : Int) (y3 : Int) (y4 : List (ByteArray)) (y5 : List ((ByteArray) × ((Bool) × (List (Int))))) (y6 : Int) (y7 : Int) (y9 : List ((ByteArray) × ((Bool) × (List (Int))))) (y10 : List (Int)) (y11 : Int) (x : (Int) × (List (ByteArray))) : Option (((List (ByteArray)))) := loopO (g_Ss_l20Note_0 y0 y2 y3 y4 y5 y6 y7 y9 y10 y11) x
noncomputable def xs_l20Note_0 (y0 : Int) (y2 : Int) (y3 : Int) (y4 : List (ByteArray)) (y5 : List ((ByteArray) × ((Bool) × (List (Int))))) (y6 : Int) (y7 : Int) (y9 : List ((ByteArray) × ((Bool) × (List (Int))))) (y10 : List (Int)) (y11 : Int) : (((List (ByteArray)))) → Ex × List (Pl × LV) := fun r => (.exit 0, [(.T 0, .t (.val false [.ptr 0 0 0])), (.T 1, .t (.val false [.int .i64 y0])), (.T 4, .t (.val false [.ptr 4 0 0])), (.T 5, .t (.val false [.ptr 5 0 0])), (.B 4, .b 0 false [.int .i64 y2, .int .i64 y3, .row 4 5 0, .row 4 7 0]), (.R 4 5, .r 0 (some ⟨false, .any, true, 9, .str, y4⟩)), (.R 4 7, .r 0 (some ⟨false, .any, true, 83, (.pair .str (.pair .bool (.sl 3 (.int .i64)))), y5⟩)), (.B 5, .b 0 false [.int .i64 y6, .int .i64 y7, .row 5 5 0, .row 5 7 0]), (.R 5 5, .r 0 (some ⟨false, .any, true, 9, .str, r⟩)), (.R 5 7, .r 0 (some ⟨false, .any, false, 83, (.pair .str (.pair .bool (.sl 3 (.int .i64)))), y9⟩)), (.B 0, .b 0 false [.sl .any 5 (.int .u8) y10, .int .i64 y11])])
noncomputable def Os_l20Note_1 : Orc := fun b h => match b, h with
  | 0, [(.T 0, .t (.val false [.ptr 0 0 0])), (.T 1, .t (.val false [.int .i64 y0])), (.T 4, .t (.val false [.ptr 4 0 0])), (.T 5, .t (.val false [.ptr 5 0 0])), (.T 6, .t (.val false [.int .i64 y1])), (.B 4, .b 0 false [.int .i64 y2, .int .i64 y3, .row 4 5 0, .row 4 7 0]), (.R 4 5, .r 0 (some ⟨false, .any, true, 9, .str, y4⟩)), (.R 4 7, .r 0 (some ⟨false, .any, true, 83, (.pair .str (.pair .bool (.sl 3 (.int .i64)))), y5⟩)), (.B 5, .b 0 false [.int .i64 y6, .int .i64 y7, .row 5 5 0, .row 5 7 0]), (.R 5 5, .r 0 (some ⟨false, .any, true, 9, .str, y8⟩)), (.R 5 7, .r 0 (some ⟨false, .any, false, 83, (.pair .str (.pair .bool (.sl 3 (.int .i64)))), y9⟩)), (.B 0, .b 0 false [.sl .any 5 (.int .u8) y10, .int .i64 y11])] => some (okO (g_Ls_l20Note_0 y0 y2 y3 y4 y5 y6 y7 y9 y10 y11 (y1, y8)), (.leaf (.exit 0) [(.T 0, .t (.val false [.ptr 0 0 0])), (.T 1, .t (.val false [.int .i64 y0])), (.T 4, .t (.val false [.ptr 4 0 0])), (.T 5, .t (.val false [.ptr 5 0 0])), (.B 4, .b 0 false [.int .i64 y2, .int .i64 y3, .row 4 5 0, .row 4 7 0]), (.R 4 5, .r 0 (some ⟨false, .any, true, 9, .str, y4⟩)), (.R 4 7, .r 0 (some ⟨false, .any, true, 83, (.pair .str (.pair .bool (.sl 3 (.int .i64)))), y5⟩)), (.B 5, .b 0 false [.int .i64 y6, .int .i64 y7, .row 5 5 0, .row 5 7 0]), (.R 5 5, .r 0 (some ⟨false, .any, true, 9, .str, (valO (g_Ls_l20Note_0 y0 y2 y3 y4 y5 y6 y7 y9 y10 y11 (y1, y8)))⟩)), (.R 5 7, .r 0 (some ⟨false, .any, false, 83, (.pair .str (.pair .bool (.sl 3 (.int .i64)))), y9⟩)), (.B 0, .b 0 false [.sl .any 5 (.int .u8) y10, .int .i64 y11])]))
  | b, h => Os_l20Note_0 b h
theorem bs_l20Note_0 (y0 : Int) (y1 : Int) (y2 : Int) (y3 : Int) (y4 : List (ByteArray)) (y5 : List ((ByteArray) × ((Bool) × (List (Int))))) (y6 : Int) (y7 : Int) (y8 : List (ByteArray)) (y9 : List ((ByteArray) × ((Bool) × (List (Int))))) (y10 : List (Int)) (y11 : Int) : Tr.bt Es_l20Note Os_l20Note_0 (exec Es_l20Note 0 cs_l20Note_0 (St.of (hs_l20Note_0 y0 y1 y2 y3 y4 y5 y6 y7 y8 y9 y10 y11)) (leafRd Es_l20Note 0)) = (g_Ss_l20Note_0 y0 y2 y3 y4 y5 y6 y7 y9 y10 y11 (y1, y8)).bt (fun ((y1, y8) : (Int) × (List (ByteArray))) => (hs_l20Note_0 y0 y1 y2 y3 y4 y5 y6 y7 y8 y9 y10 y11)) (xs_l20Note_0 y0 y2 y3 y4 y5 y6 y7 y9 y10 y11) := by kernel_rfl
theorem ks_l20Note_1 : OrcOk Es_l20Note Os_l20Note_1 lss_l20Note 1 := orc_add ks_l20Note_0 (fun n p hp h ex h' ho => by
  obtain ⟨b, c⟩ := p
  obtain ⟨xt, h1, h2⟩ := ho
  have h1 : Os_l20Note_1 b h = some (true, xt) := h1
  unfold Os_l20Note_1 at h1
  split at h1
  · injection h1 with h1
    injection h1 with e1 e2
    subst e2
    have hc : c = cs_l20Note_0 := ms_l20Note_0 _ hp rfl
    subst hc
    right
    rename_i y0 y1 y2 y3 y4 y5 y6 y7 y8 y9 y10 y11
    have key := LT_step ks_l20Note_0 hp (fun q hq => loopsAll_in _ _ _ _ hp hq) (fun ((y1, y8) : (Int) × (List (ByteArray))) => (hs_l20Note_0 y0 y1 y2 y3 y4 y5 y6 y7 y8 y9 y10 y11)) (xs_l20Note_0 y0 y2 y3 y4 y5 y6 y7 y9 y10 y11) (g_Ss_l20Note_0 y0 y2 y3 y4 y5 y6 y7 y9 y10 y11) (fun x => by first | exact bs_l20Note_0 y0 x.1 y2 y3 y4 y5 y6 y7 x.2 y9 y10 y11) n (x := (y1, y8)) (okO_some e1)
    have hx : ∀ r, XT.sel (.leaf (.exit 0) [(.T 0, .t (.val false [.ptr 0 0 0])), (.T 1, .t (.val false [.int .i64 y0])), (.T 4, .t (.val false [.ptr 4 0 0])), (.T 5, .t (.val false [.ptr 5 0 0])), (.B 4, .b 0 false [.int .i64 y2, .int .i64 y3, .row 4 5 0, .row 4 7 0]), (.R 4 5, .r 0 (some ⟨false, .any, true, 9, .str, y4⟩)), (.R 4 7, .r 0 (some ⟨false, .any, true, 83, (.pair .str (.pair .bool (.sl 3 (.int .i64)))), y5⟩)), (.B 5, .b 0 false [.int .i64 y6, .int .i64 y7, .row 5 5 0, .row 5 7 0]), (.R 5 5, .r 0 (some ⟨false, .any, true, 9, .str, r⟩)), (.R 5 7, .r 0 (some ⟨false, .any, false, 83, (.pair .str (.pair .bool (.sl 3 (.int .i64)))), y9⟩)), (.B 0, .b 0 false [.sl .any 5 (.int .u8) y10, .int .i64 y11])]) = xs_l20Note_0 y0 y2 y3 y4 y5 y6 y7 y9 y10 y11 r := fun r => by first | rfl | (rcases r with r | r <;> rfl) | (rcases r with r | r | r <;> rfl) | (rcases r with r | r | r | r <;> rfl)
    have h3 := (hx (valO (g_Ls_l20Note_0 y0 y2 y3 y4 y5 y6 y7 y9 y10 y11 (y1, y8)))).symm.trans h2
    have e3 := congrArg Prod.fst h3
    have e4 := congrArg Prod.snd h3
    simp only at e3 e4
    rw [← e3, ← e4]
    exact key
  · exact .inl ⟨xt, h1, h2⟩)
noncomputable def g_As_l20Note (r0 : List Int) (r1 : Int) (a2 : Int) : Bool := g_pickA r0 r1 (5 : Int) && (decide ((0 : Int) ≤ g_pick r0 r1 (5 : Int) ∧ g_pick r0 r1 (5 : Int) < (5 : Int)) && (decide (Int.toNat (g_pick r0 r1 (5 : Int)) < nat_lit 5) && (g_pickA r0 (IntKind.wrap IntKind.i64 (r1 + (1 : Int))) (5 : Int) && bif at_ (Ty.int IntKind.i64) [(1 : Int), (1 : Int), (2 : Int), (3 : Int), (4 : Int)] (Int.toNat (g_pick r0 r1 (5 : Int))) == (1 : Int) then g_As_l20Writes r0 (IntKind.wrap IntKind.i64 (IntKind.wrap IntKind.i64 (r1 + (1 : Int)) + (1 : Int))) (0 : Int) && (okO (g_Ls_l20Note_0 a2 (0 : Int) (0 : Int) [] [] (at_ (Ty.int IntKind.i64) [(1 : Int), (1 : Int), (2 : Int), (3 : Int), (4 : Int)] (Int.toNat (g_pick r0 r1 (5 : Int)))) (g_pick r0 (IntKind.wrap IntKind.i64 (r1 + (1 : Int))) (5 : Int)) (g_Vs_l20Writes_0 r0 (IntKind.wrap IntKind.i64 (IntKind.wrap IntKind.i64 (r1 + (1 : Int)) + (1 : Int))) (0 : Int)) r0 (g_Vs_l20Writes_2 r0 (IntKind.wrap IntKind.i64 (IntKind.wrap IntKind.i64 (r1 + (1 : Int)) + (1 : Int))) (0 : Int)) ((0 : Int), [])) && (g_pickA r0 (g_Vs_l20Writes_2 r0 (IntKind.wrap IntKind.i64 (IntKind.wrap IntKind.i64 (r1 + (1 : Int)) + (1 : Int))) (0 : Int)) (2 : Int) && bif g_pick r0 (g_Vs_l20Writes_2 r0 (IntKind.wrap IntKind.i64 (IntKind.wrap IntKind.i64 (r1 + (1 : Int)) + (1 : Int))) (0 : Int)) (2 : Int) == (0 : Int) then g_As_l20Key r0 (IntKind.wrap IntKind.i64 (g_Vs_l20Writes_2 r0 (IntKind.wrap IntKind.i64 (IntKind.wrap IntKind.i64 (r1 + (1 : Int)) + (1 : Int))) (0 : Int) + (1 : Int))) (0 : Int) && (decide ((List.length (valO (g_Ls_l20Note_0 a2 (0 : Int) (0 : Int) [] [] (at_ (Ty.int IntKind.i64) [(1 : Int), (1 : Int), (2 : Int), (3 : Int), (4 : Int)] (Int.toNat (g_pick r0 r1 (5 : Int)))) (g_pick r0 (IntKind.wrap IntKind.i64 (r1 + (1 : Int))) (5 : Int)) (g_Vs_l20Writes_0 r0 (IntKind.wrap IntKind.i64 (IntKind.wrap IntKind.i64 (r1 + (1 : Int)) + (1 : Int))) (0 : Int)) r0 (g_Vs_l20Writes_2 r0 (IntKind.wrap IntKind.i64 (IntKind.wrap IntKind.i64 (r1 + (1 : Int)) + (1 : Int))) (0 : Int)) ((0 : Int), []))) + List.length [g_Vs_l20Key_0 r0 (IntKind.wrap IntKind.i64 (g_Vs_l20Writes_2 r0 (IntKind.wrap IntKind.i64 (IntKind.wrap IntKind.i64 (r1 + (1 : Int)) + (1 : Int))) (0 : Int) + (1 : Int))) (0 : Int)]) * nat_lit 16 ≤ nat_lit 140737488355328 ∧ List.length (valO (g_Ls_l20Note_0 a2 (0 : Int) (0 : Int) [] [] (at_ (Ty.int IntKind.i64) [(1 : Int), (1 : Int), (2 : Int), (3 : Int), (4 : Int)] (Int.toNat (g_pick r0 r1 (5 : Int)))) (g_pick r0 (IntKind.wrap IntKind.i64 (r1 + (1 : Int))) (5 : Int)) (g_Vs_l20Writes_0 r0 (IntKind.wrap IntKind.i64 (IntKind.wrap IntKind.i64 (r1 + (1 : Int)) + (1 : Int))) (0 : Int)) r0 (g_Vs_l20Writes_2 r0 (IntKind.wrap IntKind.i64 (IntKind.wrap IntKind.i64 (r1 + (1 : Int)) + (1 : Int))) (0 : Int)) ((0 : Int), []))) + List.length [g_Vs_l20Key_0 r0 (IntKind.wrap IntKind.i64 (g_Vs_l20Writes_2 r0 (IntKind.wrap IntKind.i64 (IntKind.wrap IntKind.i64 (r1 + (1 : Int)) + (1 : Int))) (0 : Int) + (1 : Int))) (0 : Int)] ≤ nat_lit 9223372036854775807) && (g_As_l20Rd_odd r0 (g_Vs_l20Key_2 r0 (IntKind.wrap IntKind.i64 (g_Vs_l20Writes_2 r0 (IntKind.wrap IntKind.i64 (IntKind.wrap IntKind.i64 (r1 + (1 : Int)) + (1 : Int))) (0 : Int) + (1 : Int))) (0 : Int)) a2 && (!g_Vs_l20Rd_odd_0 r0 (g_Vs_l20Key_2 r0 (IntKind.wrap IntKind.i64 (g_Vs_l20Writes_2 r0 (IntKind.wrap IntKind.i64 (IntKind.wrap IntKind.i64 (r1 + (1 : Int)) + (1 : Int))) (0 : Int) + (1 : Int))) (0 : Int)) a2 || g_pickA r0 (g_Vs_l20Rd_odd_2 r0 (g_Vs_l20Key_2 r0 (IntKind.wrap IntKind.i64 (g_Vs_l20Writes_2 r0 (IntKind.wrap IntKind.i64 (IntKind.wrap IntKind.i64 (r1 + (1 : Int)) + (1 : Int))) (0 : Int) + (1 : Int))) (0 : Int)) a2) (5 : Int) && bif g_pick r0 (g_Vs_l20Rd_odd_2 r0 (g_Vs_l20Key_2 r0 (IntKind.wrap IntKind.i64 (g_Vs_l20Writes_2 r0 (IntKind.wrap IntKind.i64 (IntKind.wrap IntKind.i64 (r1 + (1 : Int)) + (1 : Int))) (0 : Int) + (1 : Int))) (0 : Int)) a2) (5 : Int) == (0 : Int) then g_pickA r0 (IntKind.wrap IntKind.i64 (g_Vs_l20Rd_odd_2 r0 (g_Vs_l20Key_2 r0 (IntKind.wrap IntKind.i64 (g_Vs_l20Writes_2 r0 (IntKind.wrap IntKind.i64 (IntKind.wrap IntKind.i64 (r1 + (1 : Int)) + (1 : Int))) (0 : Int) + (1 : Int))) (0 : Int)) a2 + (1 : Int))) (2 : Int) && (decide ((0 : Int) ≤ g_pick r0 (IntKind.wrap IntKind.i64 (g_Vs_l20Rd_odd_2 r0 (g_Vs_l20Key_2 r0 (IntKind.wrap IntKind.i64 (g_Vs_l20Writes_2 r0 (IntKind.wrap IntKind.i64 (IntKind.wrap IntKind.i64 (r1 + (1 : Int)) + (1 : Int))) (0 : Int) + (1 : Int))) (0 : Int)) a2 + (1 : Int))) (2 : Int) ∧ g_pick r0 (IntKind.wrap IntKind.i64 (g_Vs_l20Rd_odd_2 r0 (g_Vs_l20Key_2 r0 (IntKind.wrap IntKind.i64 (g_Vs_l20Writes_2 r0 (IntKind.wrap IntKind.i64 (IntKind.wrap IntKind.i64 (r1 + (1 : Int)) + (1 : Int))) (0 : Int) + (1 : Int))) (0 : Int)) a2 + (1 : Int))) (2 : Int) < (2 : Int)) && decide (Int.toNat (g_pick r0 (IntKind.wrap IntKind.i64 (g_Vs_l20Rd_odd_2 r0 (g_Vs_l20Key_2 r0 (IntKind.wrap IntKind.i64 (g_Vs_l20Writes_2 r0 (IntKind.wrap IntKind.i64 (IntKind.wrap IntKind.i64 (r1 + (1 : Int)) + (1 : Int))) (0 : Int) + (1 : Int))) (0 : Int)) a2 + (1 : Int))) (2 : Int)) < nat_lit 2)) else bif g_pick r0 (g_Vs_l20Rd_odd_2 r0 (g_Vs_l20Key_2 r0 (IntKind.wrap IntKind.i64 (g_Vs_l20Writes_2 r0 (IntKind.wrap IntKind.i64 (IntKind.wrap IntKind.i64 (r1 + (1 : Int)) + (1 : Int))) (0 : Int) + (1 : Int))) (0 : Int)) a2) (5 : Int) == (1 : Int) then g_pickA r0 (IntKind.wrap IntKind.i64 (g_Vs_l20Rd_odd_2 r0 (g_Vs_l20Key_2 r0 (IntKind.wrap IntKind.i64 (g_Vs_l20Writes_2 r0 (IntKind.wrap IntKind.i64 (IntKind.wrap IntKind.i64 (r1 + (1 : Int)) + (1 : Int))) (0 : Int) + (1 : Int))) (0 : Int)) a2 + (1 : Int))) (2 : Int) && (decide ((0 : Int) ≤ g_pick r0 (IntKind.wrap IntKind.i64 (g_Vs_l20Rd_odd_2 r0 (g_Vs_l20Key_2 r0 (IntKind.wrap IntKind.i64 (g_Vs_l20Writes_2 r0 (IntKind.wrap IntKind.i64 (IntKind.wrap IntKind.i64 (r1 + (1 : Int)) + (1 : Int))) (0 : Int) + (1 : Int))) (0 : Int)) a2 + (1 : Int))) (2 : Int) ∧ g_pick r0 (IntKind.wrap IntKind.i64 (g_Vs_l20Rd_odd_2 r0 (g_Vs_l20Key_2 r0 (IntKind.wrap IntKind.i64 (g_Vs_l20Writes_2 r0 (IntKind.wrap IntKind.i64 (IntKind.wrap IntKind.i64 (r1 + (1 : Int)) + (1 : Int))) (0 : Int) + (1 : Int))) (0 : Int)) a2 + (1 : Int))) (2 : Int) < (2 : Int)) && decide (Int.toNat (g_pick r0 (IntKind.wrap IntKind.i64 (g_Vs_l20Rd_odd_2 r0 (g_Vs_l20Key_2 r0 (IntKind.wrap IntKind.i64 (g_Vs_l20Writes_2 r0 (IntKind.wrap IntKind.i64 (IntKind.wrap IntKind.i64 (r1 + (1 : Int)) + (1 : Int))) (0 : Int) + (1 : Int))) (0 : Int)) a2 + (1 : Int))) (2 : Int)) < nat_lit 2)) else bif g_pick r0 (g_Vs_l20Rd_odd_2 r0 (g_Vs_l20Key_2 r0 (IntKind.wrap IntKind.i64 (g_Vs_l20Writes_2 r0 (IntKind.wrap IntKind.i64 (IntKind.wrap IntKind.i64 (r1 + (1 : Int)) + (1 : Int))) (0 : Int) + (1 : Int))) (0 : Int)) a2) (5 : Int) == (2 : Int) then decide ((List.length (valO (g_Ls_l20Note_0 a2 (0 : Int) (0 : Int) [] [] (at_ (Ty.int IntKind.i64) [(1 : Int), (1 : Int), (2 : Int), (3 : Int), (4 : Int)] (Int.toNat (g_pick r0 r1 (5 : Int)))) (g_pick r0 (IntKind.wrap IntKind.i64 (r1 + (1 : Int))) (5 : Int)) (g_Vs_l20Writes_0 r0 (IntKind.wrap IntKind.i64 (IntKind.wrap IntKind.i64 (r1 + (1 : Int)) + (1 : Int))) (0 : Int)) r0 (g_Vs_l20Writes_2 r0 (IntKind.wrap IntKind.i64 (IntKind.wrap IntKind.i64 (r1 + (1 : Int)) + (1 : Int))) (0 : Int)) ((0 : Int), [])) ++ [g_Vs_l20Key_0 r0 (IntKind.wrap IntKind.i64 (g_Vs_l20Writes_2 r0 (IntKind.wrap IntKind.i64 (IntKind.wrap IntKind.i64 (r1 + (1 : Int)) + (1 : Int))) (0 : Int) + (1 : Int))) (0 : Int)]) + nat_lit 1) * nat_lit 16 ≤ nat_lit 140737488355328 ∧ List.length (valO (g_Ls_l20Note_0 a2 (0 : Int) (0 : Int) [] [] (at_ (Ty.int IntKind.i64) [(1 : Int), (1 : Int), (2 : Int), (3 : Int), (4 : Int)] (Int.toNat (g_pick r0 r1 (5 : Int)))) (g_pick r0 (IntKind.wrap IntKind.i64 (r1 + (1 : Int))) (5 : Int)) (g_Vs_l20Writes_0 r0 (IntKind.wrap IntKind.i64 (IntKind.wrap IntKind.i64 (r1 + (1 : Int)) + (1 : Int))) (0 : Int)) r0 (g_Vs_l20Writes_2 r0 (IntKind.wrap IntKind.i64 (IntKind.wrap IntKind.i64 (r1 + (1 : Int)) + (1 : Int))) (0 : Int)) ((0 : Int), [])) ++ [g_Vs_l20Key_0 r0 (IntKind.wrap IntKind.i64 (g_Vs_l20Writes_2 r0 (IntKind.wrap IntKind.i64 (IntKind.wrap IntKind.i64 (r1 + (1 : Int)) + (1 : Int))) (0 : Int) + (1 : Int))) (0 : Int)]) + nat_lit 1 ≤ nat_lit 9223372036854775807) else bif g_pick r0 (g_Vs_l20Rd_odd_2 r0 (g_Vs_l20Key_2 r0 (IntKind.wrap IntKind.i64 (g_Vs_l20Writes_2 r0 (IntKind.wrap IntKind.i64 (IntKind.wrap IntKind.i64 (r1 + (1 : Int)) + (1 : Int))) (0 : Int) + (1 : Int))) (0 : Int)) a2) (5 : Int) == (3 : Int) then decide ((List.length (g_Vs_l20Writes_0 r0 (IntKind.wrap IntKind.i64 (IntKind.wrap IntKind.i64 (r1 + (1 : Int)) + (1 : Int))) (0 : Int)) + nat_lit 1) * nat_lit 48 ≤ nat_lit 140737488355328 ∧ List.length (g_Vs_l20Writes_0 r0 (IntKind.wrap IntKind.i64 (IntKind.wrap IntKind.i64 (r1 + (1 : Int)) + (1 : Int))) (0 : Int)) + nat_lit 1 ≤ nat_lit 9223372036854775807) else g_As_l20Write r0 (IntKind.wrap IntKind.i64 (g_Vs_l20Rd_odd_2 r0 (g_Vs_l20Key_2 r0 (IntKind.wrap IntKind.i64 (g_Vs_l20Writes_2 r0 (IntKind.wrap IntKind.i64 (IntKind.wrap IntKind.i64 (r1 + (1 : Int)) + (1 : Int))) (0 : Int) + (1 : Int))) (0 : Int)) a2 + (1 : Int))) (1 : Int) && decide ((List.length (g_Vs_l20Writes_0 r0 (IntKind.wrap IntKind.i64 (IntKind.wrap IntKind.i64 (r1 + (1 : Int)) + (1 : Int))) (0 : Int)) + List.length [(g_Vs_l20Write_0 r0 (IntKind.wrap IntKind.i64 (g_Vs_l20Rd_odd_2 r0 (g_Vs_l20Key_2 r0 (IntKind.wrap IntKind.i64 (g_Vs_l20Writes_2 r0 (IntKind.wrap IntKind.i64 (IntKind.wrap IntKind.i64 (r1 + (1 : Int)) + (1 : Int))) (0 : Int) + (1 : Int))) (0 : Int)) a2 + (1 : Int))) (1 : Int), g_Vs_l20Write_1 r0 (IntKind.wrap IntKind.i64 (g_Vs_l20Rd_odd_2 r0 (g_Vs_l20Key_2 r0 (IntKind.wrap IntKind.i64 (g_Vs_l20Writes_2 r0 (IntKind.wrap IntKind.i64 (IntKind.wrap IntKind.i64 (r1 + (1 : Int)) + (1 : Int))) (0 : Int) + (1 : Int))) (0 : Int)) a2 + (1 : Int))) (1 : Int), g_Vs_l20Write_2 r0 (IntKind.wrap IntKind.i64 (g_Vs_l20Rd_odd_2 r0 (g_Vs_l20Key_2 r0 (IntKind.wrap IntKind.i64 (g_Vs_l20Writes_2 r0 (IntKind.wrap IntKind.i64 (IntKind.wrap IntKind.i64 (r1 + (1 : Int)) + (1 : Int))) (0 : Int) + (1 : Int))) (0 : Int)) a2 + (1 : Int))) (1 : Int))]) * nat_lit 48 ≤ nat_lit 140737488355328 ∧ List.length (g_Vs_l20Writes_0 r0 (IntKind.wrap IntKind.i64 (IntKind.wrap IntKind.i64 (r1 + (1 : Int)) + (1 : Int))) (0 : Int)) + List.length [(g_Vs_l20Write_0 r0 (IntKind.wrap IntKind.i64 (g_Vs_l20Rd_odd_2 r0 (g_Vs_l20Key_2 r0 (IntKind.wrap IntKind.i64 (g_Vs_l20Writes_2 r0 (IntKind.wrap IntKind.i64 (IntKind.wrap IntKind.i64 (r1 + (1 : Int)) + (1 : Int))) (0 : Int) + (1 : Int))) (0 : Int)) a2 + (1 : Int))) (1 : Int), g_Vs_l20Write_1 r0 (IntKind.wrap IntKind.i64 (g_Vs_l20Rd_odd_2 r0 (g_Vs_l20Key_2 r0 (IntKind.wrap IntKind.i64 (g_Vs_l20Writes_2 r0 (IntKind.wrap IntKind.i64 (IntKind.wrap IntKind.i64 (r1 + (1 : Int)) + (1 : Int))) (0 : Int) + (1 : Int))) (0 : Int)) a2 + (1 : Int))) (1 : Int), g_Vs_l20Write_2 r0 (IntKind.wrap IntKind.i64 (g_Vs_l20Rd_odd_2 r0 (g_Vs_l20Key_2 r0 (IntKind.wrap IntKind.i64 (g_Vs_l20Writes_2 r0 (IntKind.wrap IntKind.i64 (IntKind.wrap IntKind.i64 (r1 + (1 : Int)) + (1 : Int))) (0 : Int) + (1 : Int))) (0 : Int)) a2 + (1 : Int))) (1 : Int))] ≤ nat_lit 9223372036854775807)))) else g_As_l20Rd_odd r0 (IntKind.wrap IntKind.i64 (g_Vs_l20Writes_2 r0 (IntKind.wrap IntKind.i64 (IntKind.wrap IntKind.i64 (r1 + (1 : Int)) + (1 : Int))) (0 : Int) + (1 : Int))) a2 && (!g_Vs_l20Rd_odd_0 r0 (IntKind.wrap IntKind.i64 (g_Vs_l20Writes_2 r0 (IntKind.wrap IntKind.i64 (IntKind.wrap IntKind.i64 (r1 + (1 : Int)) + (1 : Int))) (0 : Int) + (1 : Int))) a2 || g_pickA r0 (g_Vs_l20Rd_odd_2 r0 (IntKind.wrap IntKind.i64 (g_Vs_l20Writes_2 r0 (IntKind.wrap IntKind.i64 (IntKind.wrap IntKind.i64 (r1 + (1 : Int)) + (1 : Int))) (0 : Int) + (1 : Int))) a2) (5 : Int) && bif g_pick r0 (g_Vs_l20Rd_odd_2 r0 (IntKind.wrap IntKind.i64 (g_Vs_l20Writes_2 r0 (IntKind.wrap IntKind.i64 (IntKind.wrap IntKind.i64 (r1 + (1 : Int)) + (1 : Int))) (0 : Int) + (1 : Int))) a2) (5 : Int) == (0 : Int) then g_pickA r0 (IntKind.wrap IntKind.i64 (g_Vs_l20Rd_odd_2 r0 (IntKind.wrap IntKind.i64 (g_Vs_l20Writes_2 r0 (IntKind.wrap IntKind.i64 (IntKind.wrap IntKind.i64 (r1 + (1 : Int)) + (1 : Int))) (0 : Int) + (1 : Int))) a2 + (1 : Int))) (2 : Int) && (decide ((0 : Int) ≤ g_pick r0 (IntKind.wrap IntKind.i64 (g_Vs_l20Rd_odd_2 r0 (IntKind.wrap IntKind.i64 (g_Vs_l20Writes_2 r0 (IntKind.wrap IntKind.i64 (IntKind.wrap IntKind.i64 (r1 + (1 : Int)) + (1 : Int))) (0 : Int) + (1 : Int))) a2 + (1 : Int))) (2 : Int) ∧ g_pick r0 (IntKind.wrap IntKind.i64 (g_Vs_l20Rd_odd_2 r0 (IntKind.wrap IntKind.i64 (g_Vs_l20Writes_2 r0 (IntKind.wrap IntKind.i64 (IntKind.wrap IntKind.i64 (r1 + (1 : Int)) + (1 : Int))) (0 : Int) + (1 : Int))) a2 + (1 : Int))) (2 : Int) < (2 : Int)) && decide (Int.toNat (g_pick r0 (IntKind.wrap IntKind.i64 (g_Vs_l20Rd_odd_2 r0 (IntKind.wrap IntKind.i64 (g_Vs_l20Writes_2 r0 (IntKind.wrap IntKind.i64 (IntKind.wrap IntKind.i64 (r1 + (1 : Int)) + (1 : Int))) (0 : Int) + (1 : Int))) a2 + (1 : Int))) (2 : Int)) < nat_lit 2)) else bif g_pick r0 (g_Vs_l20Rd_odd_2 r0 (IntKind.wrap IntKind.i64 (g_Vs_l20Writes_2 r0 (IntKind.wrap IntKind.i64 (IntKind.wrap IntKind.i64 (r1 + (1 : Int)) + (1 : Int))) (0 : Int) + (1 : Int))) a2) (5 : Int) == (1 : Int) then g_pickA r0 (IntKind.wrap IntKind.i64 (g_Vs_l20Rd_odd_2 r0 (IntKind.wrap IntKind.i64 (g_Vs_l20Writes_2 r0 (IntKind.wrap IntKind.i64 (IntKind.wrap IntKind.i64 (r1 + (1 : Int)) + (1 : Int))) (0 : Int) + (1 : Int))) a2 + (1 : Int))) (2 : Int) && (decide ((0 : Int) ≤ g_pick r0 (IntKind.wrap IntKind.i64 (g_Vs_l20Rd_odd_2 r0 (IntKind.wrap IntKind.i64 (g_Vs_l20Writes_2 r0 (IntKind.wrap IntKind.i64 (IntKind.wrap IntKind.i64 (r1 + (1 : Int)) + (1 : Int))) (0 : Int) + (1 : Int))) a2 + (1 : Int))) (2 : Int) ∧ g_pick r0 (IntKind.wrap IntKind.i64 (g_Vs_l20Rd_odd_2 r0 (IntKind.wrap IntKind.i64 (g_Vs_l20Writes_2 r0 (IntKind.wrap IntKind.i64 (IntKind.wrap IntKind.i64 (r1 + (1 : Int)) + (1 : Int))) (0 : Int) + (1 : Int))) a2 + (1 : Int))) (2 : Int) < (2 : Int)) && decide (Int.toNat (g_pick r0 (IntKind.wrap IntKind.i64 (g_Vs_l20Rd_odd_2 r0 (IntKind.wrap IntKind.i64 (g_Vs_l20Writes_2 r0 (IntKind.wrap IntKind.i64 (IntKind.wrap IntKind.i64 (r1 + (1 : Int)) + (1 : Int))) (0 : Int) + (1 : Int))) a2 + (1 : Int))) (2 : Int)) < nat_lit 2)) else bif g_pick r0 (g_Vs_l20Rd_odd_2 r0 (IntKind.wrap IntKind.i64 (g_Vs_l20Writes_2 r0 (IntKind.wrap IntKind.i64 (IntKind.wrap IntKind.i64 (r1 + (1 : Int)) + (1 : Int))) (0 : Int) + (1 : Int))) a2) (5 : Int) == (2 : Int) then decide ((List.length (valO (g_Ls_l20Note_0 a2 (0 : Int) (0 : Int) [] [] (at_ (Ty.int IntKind.i64) [(1 : Int), (1 : Int), (2 : Int), (3 : Int), (4 : Int)] (Int.toNat (g_pick r0 r1 (5 : Int)))) (g_pick r0 (IntKind.wrap IntKind.i64 (r1 + (1 : Int))) (5 : Int)) (g_Vs_l20Writes_0 r0 (IntKind.wrap IntKind.i64 (IntKind.wrap IntKind.i64 (r1 + (1 : Int)) + (1 : Int))) (0 : Int)) r0 (g_Vs_l20Writes_2 r0 (IntKind.wrap IntKind.i64 (IntKind.wrap IntKind.i64 (r1 + (1 : Int)) + (1 : Int))) (0 : Int)) ((0 : Int), []))) + nat_lit 1) * nat_lit 16 ≤ nat_lit 140737488355328 ∧ List.length (valO (g_Ls_l20Note_0 a2 (0 : Int) (0 : Int) [] [] (at_ (Ty.int IntKind.i64) [(1 : Int), (1 : Int), (2 : Int), (3 : Int), (4 : Int)] (Int.toNat (g_pick r0 r1 (5 : Int)))) (g_pick r0 (IntKind.wrap IntKind.i64 (r1 + (1 : Int))) (5 : Int)) (g_Vs_l20Writes_0 r0 (IntKind.wrap IntKind.i64 (IntKind.wrap IntKind.i64 (r1 + (1 : Int)) + (1 : Int))) (0 : Int)) r0 (g_Vs_l20Writes_2 r0 (IntKind.wrap IntKind.i64 (IntKind.wrap IntKind.i64 (r1 + (1 : Int)) + (1 : Int))) (0 : Int)) ((0 : Int), []))) + nat_lit 1 ≤ nat_lit 9223372036854775807) else bif g_pick r0 (g_Vs_l20Rd_odd_2 r0 (IntKind.wrap IntKind.i64 (g_Vs_l20Writes_2 r0 (IntKind.wrap IntKind.i64 (IntKind.wrap IntKind.i64 (r1 + (1 : Int)) + (1 : Int))) (0 : Int) + (1 : Int))) a2) (5 : Int) == (3 : Int) then decide ((List.length (g_Vs_l20Writes_0 r0 (IntKind.wrap IntKind.i64 (IntKind.wrap IntKind.i64 (r1 + (1 : Int)) + (1 : Int))) (0 : Int)) + nat_lit 1) * nat_lit 48 ≤ nat_lit 140737488355328 ∧ List.length (g_Vs_l20Writes_0 r0 (IntKind.wrap IntKind.i64 (IntKind.wrap IntKind.i64 (r1 + (1 : Int)) + (1 : Int))) (0 : Int)) + nat_lit 1 ≤ nat_lit 9223372036854775807) else g_As_l20Write r0 (IntKind.wrap IntKind.i64 (g_Vs_l20Rd_odd_2 r0 (IntKind.wrap IntKind.i64 (g_Vs_l20Writes_2 r0 (IntKind.wrap IntKind.i64 (IntKind.wrap IntKind.i64 (r1 + (1 : Int)) + (1 : Int))) (0 : Int) + (1 : Int))) a2 + (1 : Int))) (1 : Int) && decide ((List.length (g_Vs_l20Writes_0 r0 (IntKind.wrap IntKind.i64 (IntKind.wrap IntKind.i64 (r1 + (1 : Int)) + (1 : Int))) (0 : Int)) + List.length [(g_Vs_l20Write_0 r0 (IntKind.wrap IntKind.i64 (g_Vs_l20Rd_odd_2 r0 (IntKind.wrap IntKind.i64 (g_Vs_l20Writes_2 r0 (IntKind.wrap IntKind.i64 (IntKind.wrap IntKind.i64 (r1 + (1 : Int)) + (1 : Int))) (0 : Int) + (1 : Int))) a2 + (1 : Int))) (1 : Int), g_Vs_l20Write_1 r0 (IntKind.wrap IntKind.i64 (g_Vs_l20Rd_odd_2 r0 (IntKind.wrap IntKind.i64 (g_Vs_l20Writes_2 r0 (IntKind.wrap IntKind.i64 (IntKind.wrap IntKind.i64 (r1 + (1 : Int)) + (1 : Int))) (0 : Int) + (1 : Int))) a2 + (1 : Int))) (1 : Int), g_Vs_l20Write_2 r0 (IntKind.wrap IntKind.i64 (g_Vs_l20Rd_odd_2 r0 (IntKind.wrap IntKind.i64 (g_Vs_l20Writes_2 r0 (IntKind.wrap IntKind.i64 (IntKind.wrap IntKind.i64 (r1 + (1 : Int)) + (1 : Int))) (0 : Int) + (1 : Int))) a2 + (1 : Int))) (1 : Int))]) * nat_lit 48 ≤ nat_lit 140737488355328 ∧ List.length (g_Vs_l20Writes_0 r0 (IntKind.wrap IntKind.i64 (IntKind.wrap IntKind.i64 (r1 + (1 : Int)) + (1 : Int))) (0 : Int)) + List.length [(g_Vs_l20Write_0 r0 (IntKind.wrap IntKind.i64 (g_Vs_l20Rd_odd_2 r0 (IntKind.wrap IntKind.i64 (g_Vs_l20Writes_2 r0 (IntKind.wrap IntKind.i64 (IntKind.wrap IntKind.i64 (r1 + (1 : Int)) + (1 : Int))) (0 : Int) + (1 : Int))) a2 + (1 : Int))) (1 : Int), g_Vs_l20Write_1 r0 (IntKind.wrap IntKind.i64 (g_Vs_l20Rd_odd_2 r0 (IntKind.wrap IntKind.i64 (g_Vs_l20Writes_2 r0 (IntKind.wrap IntKind.i64 (IntKind.wrap IntKind.i64 (r1 + (1 : Int)) + (1 : Int))) (0 : Int) + (1 : Int))) a2 + (1 : Int))) (1 : Int), g_Vs_l20Write_2 r0 (IntKind.wrap IntKind.i64 (g_Vs_l20Rd_odd_2 r0 (IntKind.wrap IntKind.i64 (g_Vs_l20Writes_2 r0 (IntKind.wrap IntKind.i64 (IntKind.wrap IntKind.i64 (r1 + (1 : Int)) + (1 : Int))) (0 : Int) + (1 : Int))) a2 + (1 : Int))) (1 : Int))] ≤ nat_lit 9223372036854775807)))) else g_As_l20Rd_odd r0 (IntKind.wrap IntKind.i64 (IntKind.wrap IntKind.i64 (r1 + (1 : Int)) + (1 : Int))) a2 && (!g_Vs_l20Rd_odd_0 r0 (IntKind.wrap IntKind.i64 (IntKind.wrap IntKind.i64 (r1 + (1 : Int)) + (1 : Int))) a2 || g_pickA r0 (g_Vs_l20Rd_odd_2 r0 (IntKind.wrap IntKind.i64 (IntKind.wrap IntKind.i64 (r1 + (1 : Int)) + (1 : Int))) a2) (5 : Int) && bif g_pick r0 (g_Vs_l20Rd_odd_2 r0 (IntKind.wrap IntKind.i64 (IntKind.wrap IntKind.i64 (r1 + (1 : Int)) + (1 : Int))) a2) (5 : Int) == (0 : Int) then g_pickA r0 (IntKind.wrap IntKind.i64 (g_Vs_l20Rd_odd_2 r0 (IntKind.wrap IntKind.i64 (IntKind.wrap IntKind.i64 (r1 + (1 : Int)) + (1 : Int))) a2 + (1 : Int))) (2 : Int) && (decide ((0 : Int) ≤ g_pick r0 (IntKind.wrap IntKind.i64 (g_Vs_l20Rd_odd_2 r0 (IntKind.wrap IntKind.i64 (IntKind.wrap IntKind.i64 (r1 + (1 : Int)) + (1 : Int))) a2 + (1 : Int))) (2 : Int) ∧ g_pick r0 (IntKind.wrap IntKind.i64 (g_Vs_l20Rd_odd_2 r0 (IntKind.wrap IntKind.i64 (IntKind.wrap IntKind.i64 (r1 + (1 : Int)) + (1 : Int))) a2 + (1 : Int))) (2 : Int) < (2 : Int)) && decide (Int.toNat (g_pick r0 (IntKind.wrap IntKind.i64 (g_Vs_l20Rd_odd_2 r0 (IntKind.wrap IntKind.i64 (IntKind.wrap IntKind.i64 (r1 + (1 : Int)) + (1 : Int))) a2 + (1 : Int))) (2 : Int)) < nat_lit 2)) else bif g_pick r0 (g_Vs_l20Rd_odd_2 r0 (IntKind.wrap IntKind.i64 (IntKind.wrap IntKind.i64 (r1 + (1 : Int)) + (1 : Int))) a2) (5 : Int) == (1 : Int) then g_pickA r0 (IntKind.wrap IntKind.i64 (g_Vs_l20Rd_odd_2 r0 (IntKind.wrap IntKind.i64 (IntKind.wrap IntKind.i64 (r1 + (1 : Int)) + (1 : Int))) a2 + (1 : Int))) (2 : Int) && (decide ((0 : Int) ≤ g_pick r0 (IntKind.wrap IntKind.i64 (g_Vs_l20Rd_odd_2 r0 (IntKind.wrap IntKind.i64 (IntKind.wrap IntKind.i64 (r1 + (1 : Int)) + (1 : Int))) a2 + (1 : Int))) (2 : Int) ∧ g_pick r0 (IntKind.wrap IntKind.i64 (g_Vs_l20Rd_odd_2 r0 (IntKind.wrap IntKind.i64 (IntKind.wrap IntKind.i64 (r1 + (1 : Int)) + (1 : Int))) a2 + (1 : Int))) (2 : Int) < (2 : Int)) && decide (Int.toNat (g_pick r0 (IntKind.wrap IntKind.i64 (g_Vs_l20Rd_odd_2 r0 (IntKind.wrap IntKind.i64 (IntKind.wrap IntKind.i64 (r1 + (1 : Int)) + (1 : Int))) a2 + (1 : Int))) (2 : Int)) < nat_lit 2)) else bif g_pick r0 (g_Vs_l20Rd_odd_2 r0 (IntKind.wrap IntKind.i64 (IntKind.wrap IntKind.i64 (r1 + (1 : Int)) + (1 : Int))) a2) (5 : Int) == (2 : Int) then true else bif g_pick r0 (g_Vs_l20Rd_odd_2 r0 (IntKind.wrap IntKind.i64 (IntKind.wrap IntKind.i64 (r1 + (1 : Int)) + (1 : Int))) a2) (5 : Int) == (3 : Int) then true else g_As_l20Write r0 (IntKind.wrap IntKind.i64 (g_Vs_l20Rd_odd_2 r0 (IntKind.wrap IntKind.i64 (IntKind.wrap IntKind.i64 (r1 + (1 : Int)) + (1 : Int))) a2 + (1 : Int))) (1 : Int) && decide ((nat_lit 0 + List.length [(g_Vs_l20Write_0 r0 (IntKind.wrap IntKind.i64 (g_Vs_l20Rd_odd_2 r0 (IntKind.wrap IntKind.i64 (IntKind.wrap IntKind.i64 (r1 + (1 : Int)) + (1 : Int))) a2 + (1 : Int))) (1 : Int), g_Vs_l20Write_1 r0 (IntKind.wrap IntKind.i64 (g_Vs_l20Rd_odd_2 r0 (IntKind.wrap IntKind.i64 (IntKind.wrap IntKind.i64 (r1 + (1 : Int)) + (1 : Int))) a2 + (1 : Int))) (1 : Int), g_Vs_l20Write_2 r0 (IntKind.wrap IntKind.i64 (g_Vs_l20Rd_odd_2 r0 (IntKind.wrap IntKind.i64 (IntKind.wrap IntKind.i64 (r1 + (1 : Int)) + (1 : Int))) a2 + (1 : Int))) (1 : Int))]) * nat_lit 48 ≤ nat_lit 140737488355328 ∧ nat_lit 0 + List.length [(g_Vs_l20Write_0 r0 (IntKind.wrap IntKind.i64 (g_Vs_l20Rd_odd_2 r0 (IntKind.wrap IntKind.i64 (IntKind.wrap IntKind.i64 (r1 + (1 : Int)) + (1 : Int))) a2 + (1 : Int))) (1 : Int), g_Vs_l20Write_1 r0 (IntKind.wrap IntKind.i64 (g_Vs_l20Rd_odd_2 r0 (IntKind.wrap IntKind.i64 (IntKind.wrap IntKind.i64 (r1 + (1 : Int)) + (1 : Int))) a2 + (1 : Int))) (1 : Int), g_Vs_l20Write_2 r0 (IntKind.wrap IntKind.i64 (g_Vs_l20Rd_odd_2 r0 (IntKind.wrap IntKind.i64 (IntKind.wrap IntKind.i64 (r1 + (1 : Int)) + (1 : Int))) a2 + (1 : Int))) (1 : Int))] ≤ nat_lit 9223372036854775807)))))
noncomputable def g_Vs_l20Note_0 (r0 : List Int) (r1 : Int) (a2 : Int) : Int := bif at_ (Ty.int IntKind.i64) [(1 : Int), (1 : Int), (2 : Int), (3 : Int), (4 : Int)] (Int.toNat (g_pick r0 r1 (5 : Int))) == (1 : Int) then bif g_pick r0 (g_Vs_l20Writes_2 r0 (IntKind.wrap IntKind.i64 (IntKind.wrap IntKind.i64 (r1 + (1 : Int)) + (1 : Int))) (0 : Int)) (2 : Int) == (0 : Int) then bif g_Vs_l20Rd_odd_0 r0 (g_Vs_l20Key_2 r0 (IntKind.wrap IntKind.i64 (g_Vs_l20Writes_2 r0 (IntKind.wrap IntKind.i64 (IntKind.wrap IntKind.i64 (r1 + (1 : Int)) + (1 : Int))) (0 : Int) + (1 : Int))) (0 : Int)) a2 then bif g_pick r0 (g_Vs_l20Rd_odd_2 r0 (g_Vs_l20Key_2 r0 (IntKind.wrap IntKind.i64 (g_Vs_l20Writes_2 r0 (IntKind.wrap IntKind.i64 (IntKind.wrap IntKind.i64 (r1 + (1 : Int)) + (1 : Int))) (0 : Int) + (1 : Int))) (0 : Int)) a2) (5 : Int) == (0 : Int) then at_ (Ty.int IntKind.i64) [(0 : Int), (5 : Int)] (Int.toNat (g_pick r0 (IntKind.wrap IntKind.i64 (g_Vs_l20Rd_odd_2 r0 (g_Vs_l20Key_2 r0 (IntKind.wrap IntKind.i64 (g_Vs_l20Writes_2 r0 (IntKind.wrap IntKind.i64 (IntKind.wrap IntKind.i64 (r1 + (1 : Int)) + (1 : Int))) (0 : Int) + (1 : Int))) (0 : Int)) a2 + (1 : Int))) (2 : Int))) else bif g_pick r0 (g_Vs_l20Rd_odd_2 r0 (g_Vs_l20Key_2 r0 (IntKind.wrap IntKind.i64 (g_Vs_l20Writes_2 r0 (IntKind.wrap IntKind.i64 (IntKind.wrap IntKind.i64 (r1 + (1 : Int)) + (1 : Int))) (0 : Int) + (1 : Int))) (0 : Int)) a2) (5 : Int) == (1 : Int) then at_ (Ty.int IntKind.i64) [(1 : Int), (1 : Int), (2 : Int), (3 : Int), (4 : Int)] (Int.toNat (g_pick r0 r1 (5 : Int))) else bif g_pick r0 (g_Vs_l20Rd_odd_2 r0 (g_Vs_l20Key_2 r0 (IntKind.wrap IntKind.i64 (g_Vs_l20Writes_2 r0 (IntKind.wrap IntKind.i64 (IntKind.wrap IntKind.i64 (r1 + (1 : Int)) + (1 : Int))) (0 : Int) + (1 : Int))) (0 : Int)) a2) (5 : Int) == (2 : Int) then at_ (Ty.int IntKind.i64) [(1 : Int), (1 : Int), (2 : Int), (3 : Int), (4 : Int)] (Int.toNat (g_pick r0 r1 (5 : Int))) else bif g_pick r0 (g_Vs_l20Rd_odd_2 r0 (g_Vs_l20Key_2 r0 (IntKind.wrap IntKind.i64 (g_Vs_l20Writes_2 r0 (IntKind.wrap IntKind.i64 (IntKind.wrap IntKind.i64 (r1 + (1 : Int)) + (1 : Int))) (0 : Int) + (1 : Int))) (0 : Int)) a2) (5 : Int) == (3 : Int) then at_ (Ty.int IntKind.i64) [(1 : Int), (1 : Int), (2 : Int), (3 : Int), (4 : Int)] (Int.toNat (g_pick r0 r1 (5 : Int))) else at_ (Ty.int IntKind.i64) [(1 : Int), (1 : Int), (2 : Int), (3 : Int), (4 : Int)] (Int.toNat (g_pick r0 r1 (5 : Int))) else at_ (Ty.int IntKind.i64) [(1 : Int), (1 : Int), (2 : Int), (3 : Int), (4 : Int)] (Int.toNat (g_pick r0 r1 (5 : Int))) else bif g_Vs_l20Rd_odd_0 r0 (IntKind.wrap IntKind.i64 (g_Vs_l20Writes_2 r0 (IntKind.wrap IntKind.i64 (IntKind.wrap IntKind.i64 (r1 + (1 : Int)) + (1 : Int))) (0 : Int) + (1 : Int))) a2 then bif g_pick r0 (g_Vs_l20Rd_odd_2 r0 (IntKind.wrap IntKind.i64 (g_Vs_l20Writes_2 r0 (IntKind.wrap IntKind.i64 (IntKind.wrap IntKind.i64 (r1 + (1 : Int)) + (1 : Int))) (0 : Int) + (1 : Int))) a2) (5 : Int) == (0 : Int) then at_ (Ty.int IntKind.i64) [(0 : Int), (5 : Int)] (Int.toNat (g_pick r0 (IntKind.wrap IntKind.i64 (g_Vs_l20Rd_odd_2 r0 (IntKind.wrap IntKind.i64 (g_Vs_l20Writes_2 r0 (IntKind.wrap IntKind.i64 (IntKind.wrap IntKind.i64 (r1 + (1 : Int)) + (1 : Int))) (0 : Int) + (1 : Int))) a2 + (1 : Int))) (2 : Int))) else bif g_pick r0 (g_Vs_l20Rd_odd_2 r0 (IntKind.wrap IntKind.i64 (g_Vs_l20Writes_2 r0 (IntKind.wrap IntKind.i64 (IntKind.wrap IntKind.i64 (r1 + (1 : Int)) + (1 : Int))) (0 : Int) + (1 : Int))) a2) (5 : Int) == (1 : Int) then at_ (Ty.int IntKind.i64) [(1 : Int), (1 : Int), (2 : Int), (3 : Int), (4 : Int)] (Int.toNat (g_pick r0 r1 (5 : Int))) else bif g_pick r0 (g_Vs_l20Rd_odd_2 r0 (IntKind.wrap IntKind.i64 (g_Vs_l20Writes_2 r0 (IntKind.wrap IntKind.i64 (IntKind.wrap IntKind.i64 (r1 + (1 : Int)) + (1 : Int))) (0 : Int) + (1 : Int))) a2) (5 : Int) == (2 : Int) then at_ (Ty.int IntKind.i64) [(1 : Int), (1 : Int), (2 : Int), (3 : Int), (4 : Int)] (Int.toNat (g_pick r0 r1 (5 : Int))) else bif g_pick r0 (g_Vs_l20Rd_odd_2 r0 (IntKind.wrap IntKind.i64 (g_Vs_l20Writes_2 r0 (IntKind.wrap IntKind.i64 (IntKind.wrap IntKind.i64 (r1 + (1 : Int)) + (1 : Int))) (0 : Int) + (1 : Int))) a2) (5 : Int) == (3 : Int) then at_ (Ty.int IntKind.i64) [(1 : Int), (1 : Int), (2 : Int), (3 : Int), (4 : Int)] (Int.toNat (g_pick r0 r1 (5 : Int))) else at_ (Ty.int IntKind.i64) [(1 : Int), (1 : Int), (2 : Int), (3 : Int), (4 : Int)] (Int.toNat (g_pick r0 r1 (5 : Int))) else at_ (Ty.int IntKind.i64) [(1 : Int), (1 : Int), (2 : Int), (3 : Int), (4 : Int)] (Int.toNat (g_pick r0 r1 (5 : Int))) else bif g_Vs_l20Rd_odd_0 r0 (IntKind.wrap IntKind.i64 (IntKind.wrap IntKind.i64 (r1 + (1 : Int)) + (1 : Int))) a2 then bif g_pick r0 (g_Vs_l20Rd_odd_2 r0 (IntKind.wrap IntKind.i64 (IntKind.wrap IntKind.i64 (r1 + (1 : Int)) + (1 : Int))) a2) (5 : Int) == (0 : Int) then at_ (Ty.int IntKind.i64) [(0 : Int), (5 : Int)] (Int.toNat (g_pick r0 (IntKind.wrap IntKind.i64 (g_Vs_l20Rd_odd_2 r0 (IntKind.wrap IntKind.i64 (IntKind.wrap IntKind.i64 (r1 + (1 : Int)) + (1 : Int))) a2 + (1 : Int))) (2 : Int))) else bif g_pick r0 (g_Vs_l20Rd_odd_2 r0 (IntKind.wrap IntKind.i64 (IntKind.wrap IntKind.i64 (r1 + (1 : Int)) + (1 : Int))) a2) (5 : Int) == (1 : Int) then at_ (Ty.int IntKind.i64) [(1 : Int), (1 : Int), (2 : Int), (3 : Int), (4 : Int)] (Int.toNat (g_pick r0 r1 (5 : Int))) else bif g_pick r0 (g_Vs_l20Rd_odd_2 r0 (IntKind.wrap IntKind.i64 (IntKind.wrap IntKind.i64 (r1 + (1 : Int)) + (1 : Int))) a2) (5 : Int) == (2 : Int) then at_ (Ty.int IntKind.i64) [(1 : Int), (1 : Int), (2 : Int), (3 : Int), (4 : Int)] (Int.toNat (g_pick r0 r1 (5 : Int))) else bif g_pick r0 (g_Vs_l20Rd_odd_2 r0 (IntKind.wrap IntKind.i64 (IntKind.wrap IntKind.i64 (r1 + (1 : Int)) + (1 : Int))) a2) (5 : Int) == (3 : Int) then at_ (Ty.int IntKind.i64) [(1 : Int), (1 : Int), (2 : Int), (3 : Int), (4 : Int)] (Int.toNat (g_pick r0 r1 (5 : Int))) else at_ (Ty.int IntKind.i64) [(1 : Int), (1 : Int), (2 : Int), (3 : Int), (4 : Int)] (Int.toNat (g_pick r0 r1 (5 : Int))) else at_ (Ty.int IntKind.i64) [(1 : Int), (1 : Int), (2 : Int), (3 : Int), (4 : Int)] (Int.toNat (g_pick r0 r1 (5 : Int)))
noncomputable def g_Vs_l20Note_1 (r0 : List Int) (r1 : Int) (a2 : Int) : Int := bif at_ (Ty.int IntKind.i64) [(1 : Int), (1 : Int), (2 : Int), (3 : Int), (4 : Int)] (Int.toNat (g_pick r0 r1 (5 : Int))) == (1 : Int) then bif g_pick r0 (g_Vs_l20Writes_2 r0 (IntKind.wrap IntKind.i64 (IntKind.wrap IntKind.i64 (r1 + (1 : Int)) + (1 : Int))) (0 : Int)) (2 : Int) == (0 : Int) then bif g_Vs_l20Rd_odd_0 r0 (g_Vs_l20Key_2 r0 (IntKind.wrap IntKind.i64 (g_Vs_l20Writes_2 r0 (IntKind.wrap IntKind.i64 (IntKind.wrap IntKind.i64 (r1 + (1 : Int)) + (1 : Int))) (0 : Int) + (1 : Int))) (0 : Int)) a2 then bif g_pick r0 (g_Vs_l20Rd_odd_2 r0 (g_Vs_l20Key_2 r0 (IntKind.wrap IntKind.i64 (g_Vs_l20Writes_2 r0 (IntKind.wrap IntKind.i64 (IntKind.wrap IntKind.i64 (r1 + (1 : Int)) + (1 : Int))) (0 : Int) + (1 : Int))) (0 : Int)) a2) (5 : Int) == (0 : Int) then g_pick r0 (IntKind.wrap IntKind.i64 (r1 + (1 : Int))) (5 : Int) else bif g_pick r0 (g_Vs_l20Rd_odd_2 r0 (g_Vs_l20Key_2 r0 (IntKind.wrap IntKind.i64 (g_Vs_l20Writes_2 r0 (IntKind.wrap IntKind.i64 (IntKind.wrap IntKind.i64 (r1 + (1 : Int)) + (1 : Int))) (0 : Int) + (1 : Int))) (0 : Int)) a2) (5 : Int) == (1 : Int) then at_ (Ty.int IntKind.i64) [(-1 : Int), (30 : Int)] (Int.toNat (g_pick r0 (IntKind.wrap IntKind.i64 (g_Vs_l20Rd_odd_2 r0 (g_Vs_l20Key_2 r0 (IntKind.wrap IntKind.i64 (g_Vs_l20Writes_2 r0 (IntKind.wrap IntKind.i64 (IntKind.wrap IntKind.i64 (r1 + (1 : Int)) + (1 : Int))) (0 : Int) + (1 : Int))) (0 : Int)) a2 + (1 : Int))) (2 : Int))) else bif g_pick r0 (g_Vs_l20Rd_odd_2 r0 (g_Vs_l20Key_2 r0 (IntKind.wrap IntKind.i64 (g_Vs_l20Writes_2 r0 (IntKind.wrap IntKind.i64 (IntKind.wrap IntKind.i64 (r1 + (1 : Int)) + (1 : Int))) (0 : Int) + (1 : Int))) (0 : Int)) a2) (5 : Int) == (2 : Int) then g_pick r0 (IntKind.wrap IntKind.i64 (r1 + (1 : Int))) (5 : Int) else bif g_pick r0 (g_Vs_l20Rd_odd_2 r0 (g_Vs_l20Key_2 r0 (IntKind.wrap IntKind.i64 (g_Vs_l20Writes_2 r0 (IntKind.wrap IntKind.i64 (IntKind.wrap IntKind.i64 (r1 + (1 : Int)) + (1 : Int))) (0 : Int) + (1 : Int))) (0 : Int)) a2) (5 : Int) == (3 : Int) then g_pick r0 (IntKind.wrap IntKind.i64 (r1 + (1 : Int))) (5 : Int) else g_pick r0 (IntKind.wrap IntKind.i64 (r1 + (1 : Int))) (5 : Int) else g_pick r0 (IntKind.wrap IntKind.i64 (r1 + (1 : Int))) (5 : Int) else bif g_Vs_l20Rd_odd_0 r0 (IntKind.wrap IntKind.i64 (g_Vs_l20Writes_2 r0 (IntKind.wrap IntKind.i64 (IntKind.wrap IntKind.i64 (r1 + (1 : Int)) + (1 : Int))) (0 : Int) + (1 : Int))) a2 then bif g_pick r0 (g_Vs_l20Rd_odd_2 r0 (IntKind.wrap IntKind.i64 (g_Vs_l20Writes_2 r0 (IntKind.wrap IntKind.i64 (IntKind.wrap IntKind.i64 (r1 + (1 : Int)) + (1 : Int))) (0 : Int) + (1 : Int))) a2) (5 : Int) == (0 : Int) then g_pick r0 (IntKind.wrap IntKind.i64 (r1 + (1 : Int))) (5 : Int) else bif g_pick r0 (g_Vs_l20Rd_odd_2 r0 (IntKind.wrap IntKind.i64 (g_Vs_l20Writes_2 r0 (IntKind.wrap IntKind.i64 (IntKind.wrap IntKind.i64 (r1 + (1 : Int)) + (1 : Int))) (0 : Int) + (1 : Int))) a2) (5 : Int) == (1 : Int) then at_ (Ty.int IntKind.i64) [(-1 : Int), (30 : Int)] (Int.toNat (g_pick r0 (IntKind.wrap IntKind.i64 (g_Vs_l20Rd_odd_2 r0 (IntKind.wrap IntKind.i64 (g_Vs_l20Writes_2 r0 (IntKind.wrap IntKind.i64 (IntKind.wrap IntKind.i64 (r1 + (1 : Int)) + (1 : Int))) (0 : Int) + (1 : Int))) a2 + (1 : Int))) (2 : Int))) else bif g_pick r0 (g_Vs_l20Rd_odd_2 r0 (IntKind.wrap IntKind.i64 (g_Vs_l20Writes_2 r0 (IntKind.wrap IntKind.i64 (IntKind.wrap IntKind.i64 (r1 + (1 : Int)) + (1 : Int))) (0 : Int) + (1 : Int))) a2) (5 : Int) == (2 : Int) then g_pick r0 (IntKind.wrap IntKind.i64 (r1 + (1 : Int))) (5 : Int) else bif g_pick r0 (g_Vs_l20Rd_odd_2 r0 (IntKind.wrap IntKind.i64 (g_Vs_l20Writes_2 r0 (IntKind.wrap IntKind.i64 (IntKind.wrap IntKind.i64 (r1 + (1 : Int)) + (1 : Int))) (0 : Int) + (1 : Int))) a2) (5 : Int) == (3 : Int) then g_pick r0 (IntKind.wrap IntKind.i64 (r1 + (1 : Int))) (5 : Int) else g_pick r0 (IntKind.wrap IntKind.i64 (r1 + (1 : Int))) (5 : Int) else g_pick r0 (IntKind.wrap IntKind.i64 (r1 + (1 : Int))) (5 : Int) else bif g_Vs_l20Rd_odd_0 r0 (IntKind.wrap IntKind.i64 (IntKind.wrap IntKind.i64 (r1 + (1 : Int)) + (1 : Int))) a2 then bif g_pick r0 (g_Vs_l20Rd_odd_2 r0 (IntKind.wrap IntKind.i64 (IntKind.wrap IntKind.i64 (r1 + (1 : Int)) + (1 : Int))) a2) (5 : Int) == (0 : Int) then g_pick r0 (IntKind.wrap IntKind.i64 (r1 + (1 : Int))) (5 : Int) else bif g_pick r0 (g_Vs_l20Rd_odd_2 r0 (IntKind.wrap IntKind.i64 (IntKind.wrap IntKind.i64 (r1 + (1 : Int)) + (1 : Int))) a2) (5 : Int) == (1 : Int) then at_ (Ty.int IntKind.i64) [(-1 : Int), (30 : Int)] (Int.toNat (g_pick r0 (IntKind.wrap IntKind.i64 (g_Vs_l20Rd_odd_2 r0 (IntKind.wrap IntKind.i64 (IntKind.wrap IntKind.i64 (r1 + (1 : Int)) + (1 : Int))) a2 + (1 : Int))) (2 : Int))) else bif g_pick r0 (g_Vs_l20Rd_odd_2 r0 (IntKind.wrap IntKind.i64 (IntKind.wrap IntKind.i64 (r1 + (1 : Int)) + (1 : Int))) a2) (5 : Int) == (2 : Int) then g_pick r0 (IntKind.wrap IntKind.i64 (r1 + (1 : Int))) (5 : Int) else bif g_pick r0 (g_Vs_l20Rd_odd_2 r0 (IntKind.wrap IntKind.i64 (IntKind.wrap IntKind.i64 (r1 + (1 : Int)) + (1 : Int))) a2) (5 : Int) == (3 : Int) then g_pick r0 (IntKind.wrap IntKind.i64 (r1 + (1 : Int))) (5 : Int) else g_pick r0 (IntKind.wrap IntKind.i64 (r1 + (1 : Int))) (5 : Int) else g_pick r0 (IntKind.wrap IntKind.i64 (r1 + (1 : Int))) (5 : Int)
noncomputable def g_Vs_l20Note_2 (r0 : List Int) (r1 : Int) (a2 : Int) : List (ByteArray) := bif at_ (Ty.int IntKind.i64) [(1 : Int), (1 : Int), (2 : Int), (3 : Int), (4 : Int)] (Int.toNat (g_pick r0 r1 (5 : Int))) == (1 : Int) then bif g_pick r0 (g_Vs_l20Writes_2 r0 (IntKind.wrap IntKind.i64 (IntKind.wrap IntKind.i64 (r1 + (1 : Int)) + (1 : Int))) (0 : Int)) (2 : Int) == (0 : Int) then bif g_Vs_l20Rd_odd_0 r0 (g_Vs_l20Key_2 r0 (IntKind.wrap IntKind.i64 (g_Vs_l20Writes_2 r0 (IntKind.wrap IntKind.i64 (IntKind.wrap IntKind.i64 (r1 + (1 : Int)) + (1 : Int))) (0 : Int) + (1 : Int))) (0 : Int)) a2 then bif g_pick r0 (g_Vs_l20Rd_odd_2 r0 (g_Vs_l20Key_2 r0 (IntKind.wrap IntKind.i64 (g_Vs_l20Writes_2 r0 (IntKind.wrap IntKind.i64 (IntKind.wrap IntKind.i64 (r1 + (1 : Int)) + (1 : Int))) (0 : Int) + (1 : Int))) (0 : Int)) a2) (5 : Int) == (0 : Int) then valO (g_Ls_l20Note_0 a2 (0 : Int) (0 : Int) [] [] (at_ (Ty.int IntKind.i64) [(1 : Int), (1 : Int), (2 : Int), (3 : Int), (4 : Int)] (Int.toNat (g_pick r0 r1 (5 : Int)))) (g_pick r0 (IntKind.wrap IntKind.i64 (r1 + (1 : Int))) (5 : Int)) (g_Vs_l20Writes_0 r0 (IntKind.wrap IntKind.i64 (IntKind.wrap IntKind.i64 (r1 + (1 : Int)) + (1 : Int))) (0 : Int)) r0 (g_Vs_l20Writes_2 r0 (IntKind.wrap IntKind.i64 (IntKind.wrap IntKind.i64 (r1 + (1 : Int)) + (1 : Int))) (0 : Int)) ((0 : Int), [])) ++ [g_Vs_l20Key_0 r0 (IntKind.wrap IntKind.i64 (g_Vs_l20Writes_2 r0 (IntKind.wrap IntKind.i64 (IntKind.wrap IntKind.i64 (r1 + (1 : Int)) + (1 : Int))) (0 : Int) + (1 : Int))) (0 : Int)] else bif g_pick r0 (g_Vs_l20Rd_odd_2 r0 (g_Vs_l20Key_2 r0 (IntKind.wrap IntKind.i64 (g_Vs_l20Writes_2 r0 (IntKind.wrap IntKind.i64 (IntKind.wrap IntKind.i64 (r1 + (1 : Int)) + (1 : Int))) (0 : Int) + (1 : Int))) (0 : Int)) a2) (5 : Int) == (1 : Int) then valO (g_Ls_l20Note_0 a2 (0 : Int) (0 : Int) [] [] (at_ (Ty.int IntKind.i64) [(1 : Int), (1 : Int), (2 : Int), (3 : Int), (4 : Int)] (Int.toNat (g_pick r0 r1 (5 : Int)))) (g_pick r0 (IntKind.wrap IntKind.i64 (r1 + (1 : Int))) (5 : Int)) (g_Vs_l20Writes_0 r0 (IntKind.wrap IntKind.i64 (IntKind.wrap IntKind.i64 (r1 + (1 : Int)) + (1 : Int))) (0 : Int)) r0 (g_Vs_l20Writes_2 r0 (IntKind.wrap IntKind.i64 (IntKind.wrap IntKind.i64 (r1 + (1 : Int)) + (1 : Int))) (0 : Int)) ((0 : Int), [])) ++ [g_Vs_l20Key_0 r0 (IntKind.wrap IntKind.i64 (g_Vs_l20Writes_2 r0 (IntKind.wrap IntKind.i64 (IntKind.wrap IntKind.i64 (r1 + (1 : Int)) + (1 : Int))) (0 : Int) + (1 : Int))) (0 : Int)] else bif g_pick r0 (g_Vs_l20Rd_odd_2 r0 (g_Vs_l20Key_2 r0 (IntKind.wrap IntKind.i64 (g_Vs_l20Writes_2 r0 (IntKind.wrap IntKind.i64 (IntKind.wrap IntKind.i64 (r1 + (1 : Int)) + (1 : Int))) (0 : Int) + (1 : Int))) (0 : Int)) a2) (5 : Int) == (2 : Int) then valO (g_Ls_l20Note_0 a2 (0 : Int) (0 : Int) [] [] (at_ (Ty.int IntKind.i64) [(1 : Int), (1 : Int), (2 : Int), (3 : Int), (4 : Int)] (Int.toNat (g_pick r0 r1 (5 : Int)))) (g_pick r0 (IntKind.wrap IntKind.i64 (r1 + (1 : Int))) (5 : Int)) (g_Vs_l20Writes_0 r0 (IntKind.wrap IntKind.i64 (IntKind.wrap IntKind.i64 (r1 + (1 : Int)) + (1 : Int))) (0 : Int)) r0 (g_Vs_l20Writes_2 r0 (IntKind.wrap IntKind.i64 (IntKind.wrap IntKind.i64 (r1 + (1 : Int)) + (1 : Int))) (0 : Int)) ((0 : Int), [])) ++ [g_Vs_l20Key_0 r0 (IntKind.wrap IntKind.i64 (g_Vs_l20Writes_2 r0 (IntKind.wrap IntKind.i64 (IntKind.wrap IntKind.i64 (r1 + (1 : Int)) + (1 : Int))) (0 : Int) + (1 : Int))) (0 : Int)] ++ [lit []] else bif g_pick r0 (g_Vs_l20Rd_odd_2 r0 (g_Vs_l20Key_2 r0 (IntKind.wrap IntKind.i64 (g_Vs_l20Writes_2 r0 (IntKind.wrap IntKind.i64 (IntKind.wrap IntKind.i64 (r1 + (1 : Int)) + (1 : Int))) (0 : Int) + (1 : Int))) (0 : Int)) a2) (5 : Int) == (3 : Int) then valO (g_Ls_l20Note_0 a2 (0 : Int) (0 : Int) [] [] (at_ (Ty.int IntKind.i64) [(1 : Int), (1 : Int), (2 : Int), (3 : Int), (4 : Int)] (Int.toNat (g_pick r0 r1 (5 : Int)))) (g_pick r0 (IntKind.wrap IntKind.i64 (r1 + (1 : Int))) (5 : Int)) (g_Vs_l20Writes_0 r0 (IntKind.wrap IntKind.i64 (IntKind.wrap IntKind.i64 (r1 + (1 : Int)) + (1 : Int))) (0 : Int)) r0 (g_Vs_l20Writes_2 r0 (IntKind.wrap IntKind.i64 (IntKind.wrap IntKind.i64 (r1 + (1 : Int)) + (1 : Int))) (0 : Int)) ((0 : Int), [])) ++ [g_Vs_l20Key_0 r0 (IntKind.wrap IntKind.i64 (g_Vs_l20Writes_2 r0 (IntKind.wrap IntKind.i64 (IntKind.wrap IntKind.i64 (r1 + (1 : Int)) + (1 : Int))) (0 : Int) + (1 : Int))) (0 : Int)] else valO (g_Ls_l20Note_0 a2 (0 : Int) (0 : Int) [] [] (at_ (Ty.int IntKind.i64) [(1 : Int), (1 : Int), (2 : Int), (3 : Int), (4 : Int)] (Int.toNat (g_pick r0 r1 (5 : Int)))) (g_pick r0 (IntKind.wrap IntKind.i64 (r1 + (1 : Int))) (5 : Int)) (g_Vs_l20Writes_0 r0 (IntKind.wrap IntKind.i64 (IntKind.wrap IntKind.i64 (r1 + (1 : Int)) + (1 : Int))) (0 : Int)) r0 (g_Vs_l20Writes_2 r0 (IntKind.wrap IntKind.i64 (IntKind.wrap IntKind.i64 (r1 + (1 : Int)) + (1 : Int))) (0 : Int)) ((0 : Int), [])) ++ [g_Vs_l20Key_0 r0 (IntKind.wrap IntKind.i64 (g_Vs_l20Writes_2 r0 (IntKind.wrap IntKind.i64 (IntKind.wrap IntKind.i64 (r1 + (1 : Int)) + (1 : Int))) (0 : Int) + (1 : Int))) (0 : Int)] else valO (g_Ls_l20Note_0 a2 (0 : Int) (0 : Int) [] [] (at_ (Ty.int IntKind.i64) [(1 : Int), (1 : Int), (2 : Int), (3 : Int), (4 : Int)] (Int.toNat (g_pick r0 r1 (5 : Int)))) (g_pick r0 (IntKind.wrap IntKind.i64 (r1 + (1 : Int))) (5 : Int)) (g_Vs_l20Writes_0 r0 (IntKind.wrap IntKind.i64 (IntKind.wrap IntKind.i64 (r1 + (1 : Int)) + (1 : Int))) (0 : Int)) r0 (g_Vs_l20Writes_2 r0 (IntKind.wrap IntKind.i64 (IntKind.wrap IntKind.i64 (r1 + (1 : Int)) + (1 : Int))) (0 : Int)) ((0 : Int), [])) ++ [g_Vs_l20Key_0 r0 (IntKind.wrap IntKind.i64 (g_Vs_l20Writes_2 r0 (IntKind.wrap IntKind.i64 (IntKind.wrap IntKind.i64 (r1 + (1 : Int)) + (1 : Int))) (0 : Int) + (1 : Int))) (0 : Int)] else bif g_Vs_l20Rd_odd_0 r0 (IntKind.wrap IntKind.i64 (g_Vs_l20Writes_2 r0 (IntKind.wrap IntKind.i64 (IntKind.wrap IntKind.i64 (r1 + (1 : Int)) + (1 : Int))) (0 : Int) + (1 : Int))) a2 then bif g_pick r0 (g_Vs_l20Rd_odd_2 r0 (IntKind.wrap IntKind.i64 (g_Vs_l20Writes_2 r0 (IntKind.wrap IntKind.i64 (IntKind.wrap IntKind.i64 (r1 + (1 : Int)) + (1 : Int))) (0 : Int) + (1 : Int))) a2) (5 : Int) == (0 : Int) then valO (g_Ls_l20Note_0 a2 (0 : Int) (0 : Int) [] [] (at_ (Ty.int IntKind.i64) [(1 : Int), (1 : Int), (2 : Int), (3 : Int), (4 : Int)] (Int.toNat (g_pick r0 r1 (5 : Int)))) (g_pick r0 (IntKind.wrap IntKind.i64 (r1 + (1 : Int))) (5 : Int)) (g_Vs_l20Writes_0 r0 (IntKind.wrap IntKind.i64 (IntKind.wrap IntKind.i64 (r1 + (1 : Int)) + (1 : Int))) (0 : Int)) r0 (g_Vs_l20Writes_2 r0 (IntKind.wrap IntKind.i64 (IntKind.wrap IntKind.i64 (r1 + (1 : Int)) + (1 : Int))) (0 : Int)) ((0 : Int), [])) else bif g_pick r0 (g_Vs_l20Rd_odd_2 r0 (IntKind.wrap IntKind.i64 (g_Vs_l20Writes_2 r0 (IntKind.wrap IntKind.i64 (IntKind.wrap IntKind.i64 (r1 + (1 : Int)) + (1 : Int))) (0 : Int) + (1 : Int))) a2) (5 : Int) == (1 : Int) then valO (g_Ls_l20Note_0 a2 (0 : Int) (0 : Int) [] [] (at_ (Ty.int IntKind.i64) [(1 : Int), (1 : Int), (2 : Int), (3 : Int), (4 : Int)] (Int.toNat (g_pick r0 r1 (5 : Int)))) (g_pick r0 (IntKind.wrap IntKind.i64 (r1 + (1 : Int))) (5 : Int)) (g_Vs_l20Writes_0 r0 (IntKind.wrap IntKind.i64 (IntKind.wrap IntKind.i64 (r1 + (1 : Int)) + (1 : Int))) (0 : Int)) r0 (g_Vs_l20Writes_2 r0 (IntKind.wrap IntKind.i64 (IntKind.wrap IntKind.i64 (r1 + (1 : Int)) + (1 : Int))) (0 : Int)) ((0 : Int), [])) else bif g_pick r0 (g_Vs_l20Rd_odd_2 r0 (IntKind.wrap IntKind.i64 (g_Vs_l20Writes_2 r0 (IntKind.wrap IntKind.i64 (IntKind.wrap IntKind.i64 (r1 + (1 : Int)) + (1 : Int))) (0 : Int) + (1 : Int))) a2) (5 : Int) == (2 : Int) then valO (g_Ls_l20Note_0 a2 (0 : Int) (0 : Int) [] [] (at_ (Ty.int IntKind.i64) [(1 : Int), (1 : Int), (2 : Int), (3 : Int), (4 : Int)] (Int.toNat (g_pick r0 r1 (5 : Int)))) (g_pick r0 (IntKind.wrap IntKind.i64 (r1 + (1 : Int))) (5 : Int)) (g_Vs_l20Writes_0 r0 (IntKind.wrap IntKind.i64 (IntKind.wrap IntKind.i64 (r1 + (1 : Int)) + (1 : Int))) (0 : Int)) r0 (g_Vs_l20Writes_2 r0 (IntKind.wrap IntKind.i64 (IntKind.wrap IntKind.i64 (r1 + (1 : Int)) + (1 : Int))) (0 : Int)) ((0 : Int), [])) ++ [lit []] else bif g_pick r0 (g_Vs_l20Rd_odd_2 r0 (IntKind.wrap IntKind.i64 (g_Vs_l20Writes_2 r0 (IntKind.wrap IntKind.i64 (IntKind.wrap IntKind.i64 (r1 + (1 : Int)) + (1 : Int))) (0 : Int) + (1 : Int))) a2) (5 : Int) == (3 : Int) then valO (g_Ls_l20Note_0 a2 (0 : Int) (0 : Int) [] [] (at_ (Ty.int IntKind.i64) [(1 : Int), (1 : Int), (2 : Int), (3 : Int), (4 : Int)] (Int.toNat (g_pick r0 r1 (5 : Int)))) (g_pick r0 (IntKind.wrap IntKind.i64 (r1 + (1 : Int))) (5 : Int)) (g_Vs_l20Writes_0 r0 (IntKind.wrap IntKind.i64 (IntKind.wrap IntKind.i64 (r1 + (1 : Int)) + (1 : Int))) (0 : Int)) r0 (g_Vs_l20Writes_2 r0 (IntKind.wrap IntKind.i64 (IntKind.wrap IntKind.i64 (r1 + (1 : Int)) + (1 : Int))) (0 : Int)) ((0 : Int), [])) else valO (g_Ls_l20Note_0 a2 (0 : Int) (0 : Int) [] [] (at_ (Ty.int IntKind.i64) [(1 : Int), (1 : Int), (2 : Int), (3 : Int), (4 : Int)] (Int.toNat (g_pick r0 r1 (5 : Int)))) (g_pick r0 (IntKind.wrap IntKind.i64 (r1 + (1 : Int))) (5 : Int)) (g_Vs_l20Writes_0 r0 (IntKind.wrap IntKind.i64 (IntKind.wrap IntKind.i64 (r1 + (1 : Int)) + (1 : Int))) (0 : Int)) r0 (g_Vs_l20Writes_2 r0 (IntKind.wrap IntKind.i64 (IntKind.wrap IntKind.i64 (r1 + (1 : Int)) + (1 : Int))) (0 : Int)) ((0 : Int), [])) else valO (g_Ls_l20Note_0 a2 (0 : Int) (0 : Int) [] [] (at_ (Ty.int IntKind.i64) [(1 : Int), (1 : Int), (2 : Int), (3 : Int), (4 : Int)] (Int.toNat (g_pick r0 r1 (5 : Int)))) (g_pick r0 (IntKind.wrap IntKind.i64 (r1 + (1 : Int))) (5 : Int)) (g_Vs_l20Writes_0 r0 (IntKind.wrap IntKind.i64 (IntKind.wrap IntKind.i64 (r1 + (1 : Int)) + (1 : Int))) (0 : Int)) r0 (g_Vs_l20Writes_2 r0 (IntKind.wrap IntKind.i64 (IntKind.wrap IntKind.i64 (r1 + (1 : Int)) + (1 : Int))) (0 : Int)) ((0 : Int), [])) else bif g_Vs_l20Rd_odd_0 r0 (IntKind.wrap IntKind.i64 (IntKind.wrap IntKind.i64 (r1 + (1 : Int)) + (1 : Int))) a2 then bif g_pick r0 (g_Vs_l20Rd_odd_2 r0 (IntKind.wrap IntKind.i64 (IntKind.wrap IntKind.i64 (r1 + (1 : Int)) + (1 : Int))) a2) (5 : Int) == (0 : Int) then [] else bif g_pick r0 (g_Vs_l20Rd_odd_2 r0 (IntKind.wrap IntKind.i64 (IntKind.wrap IntKind.i64 (r1 + (1 : Int)) + (1 : Int))) a2) (5 : Int) == (1 : Int) then [] else bif g_pick r0 (g_Vs_l20Rd_odd_2 r0 (IntKind.wrap IntKind.i64 (IntKind.wrap IntKind.i64 (r1 + (1 : Int)) + (1 : Int))) a2) (5 : Int) == (2 : Int) then [lit []] else bif g_pick r0 (g_Vs_l20Rd_odd_2 r0 (IntKind.wrap IntKind.i64 (IntKind.wrap IntKind.i64 (r1 + (1 : Int)) + (1 : Int))) a2) (5 : Int) == (3 : Int) then [] else [] else []
noncomputable def g_Vs_l20Note_3 (r0 : List Int) (r1 : Int) (a2 : Int) : List ((ByteArray) × ((Bool) × (List (Int)))) := bif at_ (Ty.int IntKind.i64) [(1 : Int), (1 : Int), (2 : Int), (3 : Int), (4 : Int)] (Int.toNat (g_pick r0 r1 (5 : Int))) == (1 : Int) then bif g_pick r0 (g_Vs_l20Writes_2 r0 (IntKind.wrap IntKind.i64 (IntKind.wrap IntKind.i64 (r1 + (1 : Int)) + (1 : Int))) (0 : Int)) (2 : Int) == (0 : Int) then bif g_Vs_l20Rd_odd_0 r0 (g_Vs_l20Key_2 r0 (IntKind.wrap IntKind.i64 (g_Vs_l20Writes_2 r0 (IntKind.wrap IntKind.i64 (IntKind.wrap IntKind.i64 (r1 + (1 : Int)) + (1 : Int))) (0 : Int) + (1 : Int))) (0 : Int)) a2 then bif g_pick r0 (g_Vs_l20Rd_odd_2 r0 (g_Vs_l20Key_2 r0 (IntKind.wrap IntKind.i64 (g_Vs_l20Writes_2 r0 (IntKind.wrap IntKind.i64 (IntKind.wrap IntKind.i64 (r1 + (1 : Int)) + (1 : Int))) (0 : Int) + (1 : Int))) (0 : Int)) a2) (5 : Int) == (0 : Int) then g_Vs_l20Writes_0 r0 (IntKind.wrap IntKind.i64 (IntKind.wrap IntKind.i64 (r1 + (1 : Int)) + (1 : Int))) (0 : Int) else bif g_pick r0 (g_Vs_l20Rd_odd_2 r0 (g_Vs_l20Key_2 r0 (IntKind.wrap IntKind.i64 (g_Vs_l20Writes_2 r0 (IntKind.wrap IntKind.i64 (IntKind.wrap IntKind.i64 (r1 + (1 : Int)) + (1 : Int))) (0 : Int) + (1 : Int))) (0 : Int)) a2) (5 : Int) == (1 : Int) then g_Vs_l20Writes_0 r0 (IntKind.wrap IntKind.i64 (IntKind.wrap IntKind.i64 (r1 + (1 : Int)) + (1 : Int))) (0 : Int) else bif g_pick r0 (g_Vs_l20Rd_odd_2 r0 (g_Vs_l20Key_2 r0 (IntKind.wrap IntKind.i64 (g_Vs_l20Writes_2 r0 (IntKind.wrap IntKind.i64 (IntKind.wrap IntKind.i64 (r1 + (1 : Int)) + (1 : Int))) (0 : Int) + (1 : Int))) (0 : Int)) a2) (5 : Int) == (2 : Int) then g_Vs_l20Writes_0 r0 (IntKind.wrap IntKind.i64 (IntKind.wrap IntKind.i64 (r1 + (1 : Int)) + (1 : Int))) (0 : Int) else bif g_pick r0 (g_Vs_l20Rd_odd_2 r0 (g_Vs_l20Key_2 r0 (IntKind.wrap IntKind.i64 (g_Vs_l20Writes_2 r0 (IntKind.wrap IntKind.i64 (IntKind.wrap IntKind.i64 (r1 + (1 : Int)) + (1 : Int))) (0 : Int) + (1 : Int))) (0 : Int)) a2) (5 : Int) == (3 : Int) then g_Vs_l20Writes_0 r0 (IntKind.wrap IntKind.i64 (IntKind.wrap IntKind.i64 (r1 + (1 : Int)) + (1 : Int))) (0 : Int) ++ [(lit [(122 : Nat), (49 : Nat)], false, [(1 : Int)])] else g_Vs_l20Writes_0 r0 (IntKind.wrap IntKind.i64 (IntKind.wrap IntKind.i64 (r1 + (1 : Int)) + (1 : Int))) (0 : Int) ++ [(g_Vs_l20Write_0 r0 (IntKind.wrap IntKind.i64 (g_Vs_l20Rd_odd_2 r0 (g_Vs_l20Key_2 r0 (IntKind.wrap IntKind.i64 (g_Vs_l20Writes_2 r0 (IntKind.wrap IntKind.i64 (IntKind.wrap IntKind.i64 (r1 + (1 : Int)) + (1 : Int))) (0 : Int) + (1 : Int))) (0 : Int)) a2 + (1 : Int))) (1 : Int), g_Vs_l20Write_1 r0 (IntKind.wrap IntKind.i64 (g_Vs_l20Rd_odd_2 r0 (g_Vs_l20Key_2 r0 (IntKind.wrap IntKind.i64 (g_Vs_l20Writes_2 r0 (IntKind.wrap IntKind.i64 (IntKind.wrap IntKind.i64 (r1 + (1 : Int)) + (1 : Int))) (0 : Int) + (1 : Int))) (0 : Int)) a2 + (1 : Int))) (1 : Int), g_Vs_l20Write_2 r0 (IntKind.wrap IntKind.i64 (g_Vs_l20Rd_odd_2 r0 (g_Vs_l20Key_2 r0 (IntKind.wrap IntKind.i64 (g_Vs_l20Writes_2 r0 (IntKind.wrap IntKind.i64 (IntKind.wrap IntKind.i64 (r1 + (1 : Int)) + (1 : Int))) (0 : Int) + (1 : Int))) (0 : Int)) a2 + (1 : Int))) (1 : Int))] else g_Vs_l20Writes_0 r0 (IntKind.wrap IntKind.i64 (IntKind.wrap IntKind.i64 (r1 + (1 : Int)) + (1 : Int))) (0 : Int) else bif g_Vs_l20Rd_odd_0 r0 (IntKind.wrap IntKind.i64 (g_Vs_l20Writes_2 r0 (IntKind.wrap IntKind.i64 (IntKind.wrap IntKind.i64 (r1 + (1 : Int)) + (1 : Int))) (0 : Int) + (1 : Int))) a2 then bif g_pick r0 (g_Vs_l20Rd_odd_2 r0 (IntKind.wrap IntKind.i64 (g_Vs_l20Writes_2 r0 (IntKind.wrap IntKind.i64 (IntKind.wrap IntKind.i64 (r1 + (1 : Int)) + (1 : Int))) (0 : Int) + (1 : Int))) a2) (5 : Int) == (0 : Int) then g_Vs_l20Writes_0 r0 (IntKind.wrap IntKind.i64 (IntKind.wrap IntKind.i64 (r1 + (1 : Int)) + (1 : Int))) (0 : Int) else bif g_pick r0 (g_Vs_l20Rd_odd_2 r0 (IntKind.wrap IntKind.i64 (g_Vs_l20Writes_2 r0 (IntKind.wrap IntKind.i64 (IntKind.wrap IntKind.i64 (r1 + (1 : Int)) + (1 : Int))) (0 : Int) + (1 : Int))) a2) (5 : Int) == (1 : Int) then g_Vs_l20Writes_0 r0 (IntKind.wrap IntKind.i64 (IntKind.wrap IntKind.i64 (r1 + (1 : Int)) + (1 : Int))) (0 : Int) else bif g_pick r0 (g_Vs_l20Rd_odd_2 r0 (IntKind.wrap IntKind.i64 (g_Vs_l20Writes_2 r0 (IntKind.wrap IntKind.i64 (IntKind.wrap IntKind.i64 (r1 + (1 : Int)) + (1 : Int))) (0 : Int) + (1 : Int))) a2) (5 : Int) == (2 : Int) then g_Vs_l20Writes_0 r0 (IntKind.wrap IntKind.i64 (IntKind.wrap IntKind.i64 (r1 + (1 : Int)) + (1 : Int))) (0 : Int) else bif g_pick r0 (g_Vs_l20Rd_odd_2 r0 (IntKind.wrap IntKind.i64 (g_Vs_l20Writes_2 r0 (IntKind.wrap IntKind.i64 (IntKind.wrap IntKind.i64 (r1 + (1 : Int)) + (1 : Int))) (0 : Int) + (1 : Int))) a2) (5 : Int) == (3 : Int) then g_Vs_l20Writes_0 r0 (IntKind.wrap IntKind.i64 (IntKind.wrap IntKind.i64 (r1 + (1 : Int)) + (1 : Int))) (0 : Int) ++ [(lit [(122 : Nat), (49 : Nat)], false, [(1 : Int)])] else g_Vs_l20Writes_0 r0 (IntKind.wrap IntKind.i64 (IntKind.wrap IntKind.i64 (r1 + (1 : Int)) + (1 : Int))) (0 : Int) ++ [(g_Vs_l20Write_0 r0 (IntKind.wrap IntKind.i64 (g_Vs_l20Rd_odd_2 r0 (IntKind.wrap IntKind.i64 (g_Vs_l20Writes_2 r0 (IntKind.wrap IntKind.i64 (IntKind.wrap IntKind.i64 (r1 + (1 : Int)) + (1 : Int))) (0 : Int) + (1 : Int))) a2 + (1 : Int))) (1 : Int), g_Vs_l20Write_1 r0 (IntKind.wrap IntKind.i64 (g_Vs_l20Rd_odd_2 r0 (IntKind.wrap IntKind.i64 (g_Vs_l20Writes_2 r0 (IntKind.wrap IntKind.i64 (IntKind.wrap IntKind.i64 (r1 + (1 : Int)) + (1 : Int))) (0 : Int) + (1 : Int))) a2 + (1 : Int))) (1 : Int), g_Vs_l20Write_2 r0 (IntKind.wrap IntKind.i64 (g_Vs_l20Rd_odd_2 r0 (IntKind.wrap IntKind.i64 (g_Vs_l20Writes_2 r0 (IntKind.wrap IntKind.i64 (IntKind.wrap IntKind.i64 (r1 + (1 : Int)) + (1 : Int))) (0 : Int) + (1 : Int))) a2 + (1 : Int))) (1 : Int))] else g_Vs_l20Writes_0 r0 (IntKind.wrap IntKind.i64 (IntKind.wrap IntKind.i64 (r1 + (1 : Int)) + (1 : Int))) (0 : Int) else bif g_Vs_l20Rd_odd_0 r0 (IntKind.wrap IntKind.i64 (IntKind.wrap IntKind.i64 (r1 + (1 : Int)) + (1 : Int))) a2 then bif g_pick r0 (g_Vs_l20Rd_odd_2 r0 (IntKind.wrap IntKind.i64 (IntKind.wrap IntKind.i64 (r1 + (1 : Int)) + (1 : Int))) a2) (5 : Int) == (0 : Int) then [] else bif g_pick r0 (g_Vs_l20Rd_odd_2 r0 (IntKind.wrap IntKind.i64 (IntKind.wrap IntKind.i64 (r1 + (1 : Int)) + (1 : Int))) a2) (5 : Int) == (1 : Int) then [] else bif g_pick r0 (g_Vs_l20Rd_odd_2 r0 (IntKind.wrap IntKind.i64 (IntKind.wrap IntKind.i64 (r1 + (1 : Int)) + (1 : Int))) a2) (5 : Int) == (2 : Int) then [] else bif g_pick r0 (g_Vs_l20Rd_odd_2 r0 (IntKind.wrap IntKind.i64 (IntKind.wrap IntKind.i64 (r1 + (1 : Int)) + (1 : Int))) a2) (5 : Int) == (3 : Int) then [(lit [(122 : Nat), (49 : Nat)], false, [(1 : Int)])] else [] ++ [(g_Vs_l20Write_0 r0 (IntKind.wrap IntKind.i64 (g_Vs_l20Rd_odd_2 r0 (IntKind.wrap IntKind.i64 (IntKind.wrap IntKind.i64 (r1 + (1 : Int)) + (1 : Int))) a2 + (1 : Int))) (1 : Int), g_Vs_l20Write_1 r0 (IntKind.wrap IntKind.i64 (g_Vs_l20Rd_odd_2 r0 (IntKind.wrap IntKind.i64 (IntKind.wrap IntKind.i64 (r1 + (1 : Int)) + (1 : Int))) a2 + (1 : Int))) (1 : Int), g_Vs_l20Write_2 r0 (IntKind.wrap IntKind.i64 (g_Vs_l20Rd_odd_2 r0 (IntKind.wrap IntKind.i64 (IntKind.wrap IntKind.i64 (r1 + (1 : Int)) + (1 : Int))) a2 + (1 : Int))) (1 : Int))] else []
noncomputable def g_Vs_l20Note_4 (r0 : List Int) (r1 : Int) (a2 : Int) : List (Int) := bif at_ (Ty.int IntKind.i64) [(1 : Int), (1 : Int), (2 : Int), (3 : Int), (4 : Int)] (Int.toNat (g_pick r0 r1 (5 : Int))) == (1 : Int) then bif g_pick r0 (g_Vs_l20Writes_2 r0 (IntKind.wrap IntKind.i64 (IntKind.wrap IntKind.i64 (r1 + (1 : Int)) + (1 : Int))) (0 : Int)) (2 : Int) == (0 : Int) then bif g_Vs_l20Rd_odd_0 r0 (g_Vs_l20Key_2 r0 (IntKind.wrap IntKind.i64 (g_Vs_l20Writes_2 r0 (IntKind.wrap IntKind.i64 (IntKind.wrap IntKind.i64 (r1 + (1 : Int)) + (1 : Int))) (0 : Int) + (1 : Int))) (0 : Int)) a2 then bif g_pick r0 (g_Vs_l20Rd_odd_2 r0 (g_Vs_l20Key_2 r0 (IntKind.wrap IntKind.i64 (g_Vs_l20Writes_2 r0 (IntKind.wrap IntKind.i64 (IntKind.wrap IntKind.i64 (r1 + (1 : Int)) + (1 : Int))) (0 : Int) + (1 : Int))) (0 : Int)) a2) (5 : Int) == (0 : Int) then r0 else bif g_pick r0 (g_Vs_l20Rd_odd_2 r0 (g_Vs_l20Key_2 r0 (IntKind.wrap IntKind.i64 (g_Vs_l20Writes_2 r0 (IntKind.wrap IntKind.i64 (IntKind.wrap IntKind.i64 (r1 + (1 : Int)) + (1 : Int))) (0 : Int) + (1 : Int))) (0 : Int)) a2) (5 : Int) == (1 : Int) then r0 else bif g_pick r0 (g_Vs_l20Rd_odd_2 r0 (g_Vs_l20Key_2 r0 (IntKind.wrap IntKind.i64 (g_Vs_l20Writes_2 r0 (IntKind.wrap IntKind.i64 (IntKind.wrap IntKind.i64 (r1 + (1 : Int)) + (1 : Int))) (0 : Int) + (1 : Int))) (0 : Int)) a2) (5 : Int) == (2 : Int) then r0 else bif g_pick r0 (g_Vs_l20Rd_odd_2 r0 (g_Vs_l20Key_2 r0 (IntKind.wrap IntKind.i64 (g_Vs_l20Writes_2 r0 (IntKind.wrap IntKind.i64 (IntKind.wrap IntKind.i64 (r1 + (1 : Int)) + (1 : Int))) (0 : Int) + (1 : Int))) (0 : Int)) a2) (5 : Int) == (3 : Int) then r0 else r0 else r0 else bif g_Vs_l20Rd_odd_0 r0 (IntKind.wrap IntKind.i64 (g_Vs_l20Writes_2 r0 (IntKind.wrap IntKind.i64 (IntKind.wrap IntKind.i64 (r1 + (1 : Int)) + (1 : Int))) (0 : Int) + (1 : Int))) a2 then bif g_pick r0 (g_Vs_l20Rd_odd_2 r0 (IntKind.wrap IntKind.i64 (g_Vs_l20Writes_2 r0 (IntKind.wrap IntKind.i64 (IntKind.wrap IntKind.i64 (r1 + (1 : Int)) + (1 : Int))) (0 : Int) + (1 : Int))) a2) (5 : Int) == (0 : Int) then r0 else bif g_pick r0 (g_Vs_l20Rd_odd_2 r0 (IntKind.wrap IntKind.i64 (g_Vs_l20Writes_2 r0 (IntKind.wrap IntKind.i64 (IntKind.wrap IntKind.i64 (r1 + (1 : Int)) + (1 : Int))) (0 : Int) + (1 : Int))) a2) (5 : Int) == (1 : Int) then r0 else bif g_pick r0 (g_Vs_l20Rd_odd_2 r0 (IntKind.wrap IntKind.i64 (g_Vs_l20Writes_2 r0 (IntKind.wrap IntKind.i64 (IntKind.wrap IntKind.i64 (r1 + (1 : Int)) + (1 : Int))) (0 : Int) + (1 : Int))) a2) (5 : Int) == (2 : Int) then r0 else bif g_pick r0 (g_Vs_l20Rd_odd_2 r0 (IntKind.wrap IntKind.i64 (g_Vs_l20Writes_2 r0 (IntKind.wrap IntKind.i64 (IntKind.wrap IntKind.i64 (r1 + (1 : Int)) + (1 : Int))) (0 : Int) + (1 : Int))) a2) (5 : Int) == (3 : Int) then r0 else r0 else r0 else bif g_Vs_l20Rd_odd_0 r0 (IntKind.wrap IntKind.i64 (IntKind.wrap IntKind.i64 (r1 + (1 : Int)) + (1 : Int))) a2 then bif g_pick r0 (g_Vs_l20Rd_odd_2 r0 (IntKind.wrap IntKind.i64 (IntKind.wrap IntKind.i64 (r1 + (1 : Int)) + (1 : Int))) a2) (5 : Int) == (0 : Int) then r0 else bif g_pick r0 (g_Vs_l20Rd_odd_2 r0 (IntKind.wrap IntKind.i64 (IntKind.wrap IntKind.i64 (r1 + (1 : Int)) + (1 : Int))) a2) (5 : Int) == (1 : Int) then r0 else bif g_pick r0 (g_Vs_l20Rd_odd_2 r0 (IntKind.wrap IntKind.i64 (IntKind.wrap IntKind.i64 (r1 + (1 : Int)) + (1 : Int))) a2) (5 : Int) == (2 : Int) then r0 else bif g_pick r0 (g_Vs_l20Rd_odd_2 r0 (IntKind.wrap IntKind.i64 (IntKind.wrap IntKind.i64 (r1 + (1 : Int)) + (1 : Int))) a2) (5 : Int) == (3 : Int) then r0 else r0 else r0
noncomputable def g_Vs_l20Note_5 (r0 : List Int) (r1 : Int) (a2 : Int) : Int := bif at_ (Ty.int IntKind.i64) [(1 : Int), (1 : Int), (2 : Int), (3 : Int), (4 : Int)] (Int.toNat (g_pick r0 r1 (5 : Int))) == (1 : Int) then bif g_pick r0 (g_Vs_l20Writes_2 r0 (IntKind.wrap IntKind.i64 (IntKind.wrap IntKind.i64 (r1 + (1 : Int)) + (1 : Int))) (0 : Int)) (2 : Int) == (0 : Int) then bif g_Vs_l20Rd_odd_0 r0 (g_Vs_l20Key_2 r0 (IntKind.wrap IntKind.i64 (g_Vs_l20Writes_2 r0 (IntKind.wrap IntKind.i64 (IntKind.wrap IntKind.i64 (r1 + (1 : Int)) + (1 : Int))) (0 : Int) + (1 : Int))) (0 : Int)) a2 then bif g_pick r0 (g_Vs_l20Rd_odd_2 r0 (g_Vs_l20Key_2 r0 (IntKind.wrap IntKind.i64 (g_Vs_l20Writes_2 r0 (IntKind.wrap IntKind.i64 (IntKind.wrap IntKind.i64 (r1 + (1 : Int)) + (1 : Int))) (0 : Int) + (1 : Int))) (0 : Int)) a2) (5 : Int) == (0 : Int) then IntKind.wrap IntKind.i64 (IntKind.wrap IntKind.i64 (g_Vs_l20Rd_odd_2 r0 (g_Vs_l20Key_2 r0 (IntKind.wrap IntKind.i64 (g_Vs_l20Writes_2 r0 (IntKind.wrap IntKind.i64 (IntKind.wrap IntKind.i64 (r1 + (1 : Int)) + (1 : Int))) (0 : Int) + (1 : Int))) (0 : Int)) a2 + (1 : Int)) + (1 : Int)) else bif g_pick r0 (g_Vs_l20Rd_odd_2 r0 (g_Vs_l20Key_2 r0 (IntKind.wrap IntKind.i64 (g_Vs_l20Writes_2 r0 (IntKind.wrap IntKind.i64 (IntKind.wrap IntKind.i64 (r1 + (1 : Int)) + (1 : Int))) (0 : Int) + (1 : Int))) (0 : Int)) a2) (5 : Int) == (1 : Int) then IntKind.wrap IntKind.i64 (IntKind.wrap IntKind.i64 (g_Vs_l20Rd_odd_2 r0 (g_Vs_l20Key_2 r0 (IntKind.wrap IntKind.i64 (g_Vs_l20Writes_2 r0 (IntKind.wrap IntKind.i64 (IntKind.wrap IntKind.i64 (r1 + (1 : Int)) + (1 : Int))) (0 : Int) + (1 : Int))) (0 : Int)) a2 + (1 : Int)) + (1 : Int)) else bif g_pick r0 (g_Vs_l20Rd_odd_2 r0 (g_Vs_l20Key_2 r0 (IntKind.wrap IntKind.i64 (g_Vs_l20Writes_2 r0 (IntKind.wrap IntKind.i64 (IntKind.wrap IntKind.i64 (r1 + (1 : Int)) + (1 : Int))) (0 : Int) + (1 : Int))) (0 : Int)) a2) (5 : Int) == (2 : Int) then IntKind.wrap IntKind.i64 (g_Vs_l20Rd_odd_2 r0 (g_Vs_l20Key_2 r0 (IntKind.wrap IntKind.i64 (g_Vs_l20Writes_2 r0 (IntKind.wrap IntKind.i64 (IntKind.wrap IntKind.i64 (r1 + (1 : Int)) + (1 : Int))) (0 : Int) + (1 : Int))) (0 : Int)) a2 + (1 : Int)) else bif g_pick r0 (g_Vs_l20Rd_odd_2 r0 (g_Vs_l20Key_2 r0 (IntKind.wrap IntKind.i64 (g_Vs_l20Writes_2 r0 (IntKind.wrap IntKind.i64 (IntKind.wrap IntKind.i64 (r1 + (1 : Int)) + (1 : Int))) (0 : Int) + (1 : Int))) (0 : Int)) a2) (5 : Int) == (3 : Int) then IntKind.wrap IntKind.i64 (g_Vs_l20Rd_odd_2 r0 (g_Vs_l20Key_2 r0 (IntKind.wrap IntKind.i64 (g_Vs_l20Writes_2 r0 (IntKind.wrap IntKind.i64 (IntKind.wrap IntKind.i64 (r1 + (1 : Int)) + (1 : Int))) (0 : Int) + (1 : Int))) (0 : Int)) a2 + (1 : Int)) else g_Vs_l20Write_4 r0 (IntKind.wrap IntKind.i64 (g_Vs_l20Rd_odd_2 r0 (g_Vs_l20Key_2 r0 (IntKind.wrap IntKind.i64 (g_Vs_l20Writes_2 r0 (IntKind.wrap IntKind.i64 (IntKind.wrap IntKind.i64 (r1 + (1 : Int)) + (1 : Int))) (0 : Int) + (1 : Int))) (0 : Int)) a2 + (1 : Int))) (1 : Int) else g_Vs_l20Rd_odd_2 r0 (g_Vs_l20Key_2 r0 (IntKind.wrap IntKind.i64 (g_Vs_l20Writes_2 r0 (IntKind.wrap IntKind.i64 (IntKind.wrap IntKind.i64 (r1 + (1 : Int)) + (1 : Int))) (0 : Int) + (1 : Int))) (0 : Int)) a2 else bif g_Vs_l20Rd_odd_0 r0 (IntKind.wrap IntKind.i64 (g_Vs_l20Writes_2 r0 (IntKind.wrap IntKind.i64 (IntKind.wrap IntKind.i64 (r1 + (1 : Int)) + (1 : Int))) (0 : Int) + (1 : Int))) a2 then bif g_pick r0 (g_Vs_l20Rd_odd_2 r0 (IntKind.wrap IntKind.i64 (g_Vs_l20Writes_2 r0 (IntKind.wrap IntKind.i64 (IntKind.wrap IntKind.i64 (r1 + (1 : Int)) + (1 : Int))) (0 : Int) + (1 : Int))) a2) (5 : Int) == (0 : Int) then IntKind.wrap IntKind.i64 (IntKind.wrap IntKind.i64 (g_Vs_l20Rd_odd_2 r0 (IntKind.wrap IntKind.i64 (g_Vs_l20Writes_2 r0 (IntKind.wrap IntKind.i64 (IntKind.wrap IntKind.i64 (r1 + (1 : Int)) + (1 : Int))) (0 : Int) + (1 : Int))) a2 + (1 : Int)) + (1 : Int)) else bif g_pick r0 (g_Vs_l20Rd_odd_2 r0 (IntKind.wrap IntKind.i64 (g_Vs_l20Writes_2 r0 (IntKind.wrap IntKind.i64 (IntKind.wrap IntKind.i64 (r1 + (1 : Int)) + (1 : Int))) (0 : Int) + (1 : Int))) a2) (5 : Int) == (1 : Int) then IntKind.wrap IntKind.i64 (IntKind.wrap IntKind.i64 (g_Vs_l20Rd_odd_2 r0 (IntKind.wrap IntKind.i64 (g_Vs_l20Writes_2 r0 (IntKind.wrap IntKind.i64 (IntKind.wrap IntKind.i64 (r1 + (1 : Int)) + (1 : Int))) (0 : Int) + (1 : Int))) a2 + (1 : Int)) + (1 : Int)) else bif g_pick r0 (g_Vs_l20Rd_odd_2 r0 (IntKind.wrap IntKind.i64 (g_Vs_l20Writes_2 r0 (IntKind.wrap IntKind.i64 (IntKind.wrap IntKind.i64 (r1 + (1 : Int)) + (1 : Int))) (0 : Int) + (1 : Int))) a2) (5 : Int) == (2 : Int) then IntKind.wrap IntKind.i64 (g_Vs_l20Rd_odd_2 r0 (IntKind.wrap IntKind.i64 (g_Vs_l20Writes_2 r0 (IntKind.wrap IntKind.i64 (IntKind.wrap IntKind.i64 (r1 + (1 : Int)) + (1 : Int))) (0 : Int) + (1 : Int))) a2 + (1 : Int)) else bif g_pick r0 (g_Vs_l20Rd_odd_2 r0 (IntKind.wrap IntKind.i64 (g_Vs_l20Writes_2 r0 (IntKind.wrap IntKind.i64 (IntKind.wrap IntKind.i64 (r1 + (1 : Int)) + (1 : Int))) (0 : Int) + (1 : Int))) a2) (5 : Int) == (3 : Int) then IntKind.wrap IntKind.i64 (g_Vs_l20Rd_odd_2 r0 (IntKind.wrap IntKind.i64 (g_Vs_l20Writes_2 r0 (IntKind.wrap IntKind.i64 (IntKind.wrap IntKind.i64 (r1 + (1 : Int)) + (1 : Int))) (0 : Int) + (1 : Int))) a2 + (1 : Int)) else g_Vs_l20Write_4 r0 (IntKind.wrap IntKind.i64 (g_Vs_l20Rd_odd_2 r0 (IntKind.wrap IntKind.i64 (g_Vs_l20Writes_2 r0 (IntKind.wrap IntKind.i64 (IntKind.wrap IntKind.i64 (r1 + (1 : Int)) + (1 : Int))) (0 : Int) + (1 : Int))) a2 + (1 : Int))) (1 : Int) else g_Vs_l20Rd_odd_2 r0 (IntKind.wrap IntKind.i64 (g_Vs_l20Writes_2 r0 (IntKind.wrap IntKind.i64 (IntKind.wrap IntKind.i64 (r1 + (1 : Int)) + (1 : Int))) (0 : Int) + (1 : Int))) a2 else bif g_Vs_l20Rd_odd_0 r0 (IntKind.wrap IntKind.i64 (IntKind.wrap IntKind.i64 (r1 + (1 : Int)) + (1 : Int))) a2 then bif g_pick r0 (g_Vs_l20Rd_odd_2 r0 (IntKind.wrap IntKind.i64 (IntKind.wrap IntKind.i64 (r1 + (1 : Int)) + (1 : Int))) a2) (5 : Int) == (0 : Int) then IntKind.wrap IntKind.i64 (IntKind.wrap IntKind.i64 (g_Vs_l20Rd_odd_2 r0 (IntKind.wrap IntKind.i64 (IntKind.wrap IntKind.i64 (r1 + (1 : Int)) + (1 : Int))) a2 + (1 : Int)) + (1 : Int)) else bif g_pick r0 (g_Vs_l20Rd_odd_2 r0 (IntKind.wrap IntKind.i64 (IntKind.wrap IntKind.i64 (r1 + (1 : Int)) + (1 : Int))) a2) (5 : Int) == (1 : Int) then IntKind.wrap IntKind.i64 (IntKind.wrap IntKind.i64 (g_Vs_l20Rd_odd_2 r0 (IntKind.wrap IntKind.i64 (IntKind.wrap IntKind.i64 (r1 + (1 : Int)) + (1 : Int))) a2 + (1 : Int)) + (1 : Int)) else bif g_pick r0 (g_Vs_l20Rd_odd_2 r0 (IntKind.wrap IntKind.i64 (IntKind.wrap IntKind.i64 (r1 + (1 : Int)) + (1 : Int))) a2) (5 : Int) == (2 : Int) then IntKind.wrap IntKind.i64 (g_Vs_l20Rd_odd_2 r0 (IntKind.wrap IntKind.i64 (IntKind.wrap IntKind.i64 (r1 + (1 : Int)) + (1 : Int))) a2 + (1 : Int)) else bif g_pick r0 (g_Vs_l20Rd_odd_2 r0 (IntKind.wrap IntKind.i64 (IntKind.wrap IntKind.i64 (r1 + (1 : Int)) + (1 : Int))) a2) (5 : Int) == (3 : Int) then IntKind.wrap IntKind.i64 (g_Vs_l20Rd_odd_2 r0 (IntKind.wrap IntKind.i64 (IntKind.wrap IntKind.i64 (r1 + (1 : Int)) + (1 : Int))) a2 + (1 : Int)) else g_Vs_l20Write_4 r0 (IntKind.wrap IntKind.i64 (g_Vs_l20Rd_odd_2 r0 (IntKind.wrap IntKind.i64 (IntKind.wrap IntKind.i64 (r1 + (1 : Int)) + (1 : Int))) a2 + (1 : Int))) (1 : Int) else g_Vs_l20Rd_odd_2 r0 (IntKind.wrap IntKind.i64 (IntKind.wrap IntKind.i64 (r1 + (1 : Int)) + (1 : Int))) a2
noncomputable def Fs_l20Note : FSem := fun ys => match ys with
  | [.val true [.sl .any 5 (.int .u8) r0, .int .i64 r1], .val false [.int .i64 a2]] => some ((g_As_l20Note r0 r1 a2), .val true [.int .i64 (g_Vs_l20Note_0 r0 r1 a2), .int .i64 (g_Vs_l20Note_1 r0 r1 a2), .sl .any 9 .str (g_Vs_l20Note_2 r0 r1 a2), .sl .any 83 (.pair .str (.pair .bool (.sl 3 (.int .i64)))) (g_Vs_l20Note_3 r0 r1 a2)], [[.sl .any 5 (.int .u8) (g_Vs_l20Note_4 r0 r1 a2), .int .i64 (g_Vs_l20Note_5 r0 r1 a2)]])
  | _ => none
theorem vs_l20Note (r0 : List Int) (r1 : Int) (a2 : Int) : collapseH .fr Es_l20Note Os_l20Note_1 (execFn Es_l20Note Go.Proofs.Tryd.f82 mss_l20Note [.val true [.sl .any 5 (.int .u8) r0, .int .i64 r1], .val false [.int .i64 a2]]) = some ((g_As_l20Note r0 r1 a2), .val true [.int .i64 (g_Vs_l20Note_0 r0 r1 a2), .int .i64 (g_Vs_l20Note_1 r0 r1 a2), .sl .any 9 .str (g_Vs_l20Note_2 r0 r1 a2), .sl .any 83 (.pair .str (.pair .bool (.sl 3 (.int .i64)))) (g_Vs_l20Note_3 r0 r1 a2)], [[.sl .any 5 (.int .u8) (g_Vs_l20Note_4 r0 r1 a2), .int .i64 (g_Vs_l20Note_5 r0 r1 a2)]]) := by kernel_rfl
theorem ss_l20Note : Sound Go.Proofs.Tryd.prog 82 mss_l20Note Fs_l20Note := by
  refine fn_gen goods_l20Note (by kernel_rfl) .fr (fn := Go.Proofs.Tryd.f82) (c := (Go.Proofs.Tryd.f82.body.getD .skip)) (o := Os_l20Note_1) (k := 1) (by kernel_rfl) (by kernel_rfl) (by kernel_rfl) (by kernel_rfl) (by decide) ks_l20Note_1 ?_
  intro ys r outs h
  unfold Fs_l20Note at h
  split at h
  · exact (vs_l20Note _ _ _).trans h
  · cases h
end Go.Proofs.YtibafhmmnoijkaaDoor.E
end
section
namespace Go.Proofs.YtibafhmmnoijkaaDoor.E
open Go
set_option maxRecDepth 100000
set_option linter.all false
noncomputable def mss_l20NoteR : List PM := mss_l20Note
theorem sames_l20Note (r0 : List Int) (r1 : Int) (a2 : Int) : g_Vs_l20Note_4 r0 r1 a2 = r0 := by
  unfold g_Vs_l20Note_4
  simp only [Bool.cond_self]
noncomputable def Fs_l20NoteR : FSem := fun ys => match ys with
  | [.val true [.sl .any 5 (.int .u8) r0, .int .i64 r1], .val false [.int .i64 a2]] => some ((g_As_l20Note r0 r1 a2), .val true [.int .i64 (g_Vs_l20Note_0 r0 r1 a2), .int .i64 (g_Vs_l20Note_1 r0 r1 a2), .sl .any 9 .str (g_Vs_l20Note_2 r0 r1 a2), .sl .any 83 (.pair .str (.pair .bool (.sl 3 (.int .i64)))) (g_Vs_l20Note_3 r0 r1 a2)], [[.sl .any 5 (.int .u8) r0, .int .i64 (g_Vs_l20Note_5 r0 r1 a2)]])
  | _ => none
theorem ss_l20NoteR : Sound Go.Proofs.Tryd.prog 82 mss_l20NoteR Fs_l20NoteR := by
  refine ⟨ss_l20Note.fn, fun w S ψ ys vs r outs hF hh hg => ss_l20Note.calls w S ψ ys vs r outs (Eq.trans ?_ hF) hh hg⟩
  unfold Fs_l20NoteR at hF ⊢
  split at hF
  · rename_i  r0 r1 a2
    show (some ((g_As_l20Note r0 r1 a2), .val true [.int .i64 (g_Vs_l20Note_0 r0 r1 a2), .int .i64 (g_Vs_l20Note_1 r0 r1 a2), .sl .any 9 .str (g_Vs_l20Note_2 r0 r1 a2), .sl .any 83 (.pair .str (.pair .bool (.sl 3 (.int .i64)))) (g_Vs_l20Note_3 r0 r1 a2)], [[.sl .any 5 (.int .u8) (g_Vs_l20Note_4 r0 r1 a2), .int .i64 (g_Vs_l20Note_5 r0 r1 a2)]]) : Option (Bool × RV × List (List Cell))) = _
    rw [sames_l20Note]
  · cases hF
end Go.Proofs.YtibafhmmnoijkaaDoor.E
end
section
namespace Go.Proofs.YtibafhmmnoijkaaDoor.E
open Go
set_option maxRecDepth 100000
set_option maxHeartbeats 0
set_option linter.all false
noncomputable def Es_l20Disk : Env where
  tt := mkTI Go.Proofs.Tryd.prog
  fn := fun f => match f with
    | 39 => some (mss_DiskAdd, FSem.wk mss_DiskAdd Fs_DiskAdd)
    | 72 => some (mss_l20Rd_pick, FSem.wk mss_l20Rd_pick Fs_l20Rd_pick)
    | 81 => some (mss_l20Rd_oddR, FSem.wk mss_l20Rd_oddR Fs_l20Rd_oddR)
    | 82 => some (mss_l20NoteR, FSem.wk mss_l20NoteR Fs_l20NoteR)
    | _ => none
  bxf := fun _ => none
  mv := []
  keep := fun b => match b with
    | 0 => [(0, false), (1, false), (4, false), (5, false), (6, false)]
    | 3 => [(0, false), (4, false), (5, false)]
    | _ => []
  keepB := fun b => match b with
    | 0 => [(4, false), (5, false), (0, false)]
    | 3 => [(4, false), (5, false), (0, false)]
    | _ => []
  keepX := fun b => match b with
    | 0 => [(0, false), (1, false), (4, false), (5, false)]
    | 3 => [(0, false), (4, false), (5, false)]
    | _ => []
  keepXB := fun b => match b with
    | 0 => [(4, false), (5, false), (0, false)]
    | 3 => [(4, false), (5, false), (0, false)]
    | _ => []
theorem goodFs_l20Disk : ∀ f ms F, Es_l20Disk.fn f = some (ms, F) → Sound Go.Proofs.Tryd.prog f ms F := fun f ms F h => by
  unfold Es_l20Disk at h
  dsimp only at h
  split at h
  · injection h with h; injection h with e1 e2; subst e1 e2; exact Sound.wk ss_DiskAdd
  · injection h with h; injection h with e1 e2; subst e1 e2; exact Sound.wk ss_l20Rd_pick
  · injection h with h; injection h with e1 e2; subst e1 e2; exact Sound.wk ss_l20Rd_oddR
  · injection h with h; injection h with e1 e2; subst e1 e2; exact Sound.wk ss_l20NoteR
  · cases h
theorem goodBs_l20Disk : ∀ f ms F, Es_l20Disk.bxf f = some (ms, F) → SoundB Go.Proofs.Tryd.prog f ms F := fun f ms F h => by cases h
theorem goods_l20Disk : Good Go.Proofs.Tryd.prog Es_l20Disk := ⟨rfl, goodFs_l20Disk, goodBs_l20Disk⟩
noncomputable def Os_l20Disk_0 : Orc := fun _ _ => none
noncomputable def mss_l20Disk : List PM := [.bx, .own]
noncomputable def lss_l20Disk : List (Nat × Code) := loopsAll 0 (Go.Proofs.Tryd.f71.body.getD .skip)
noncomputable def cs_l20Disk_0 : Code := (loopOf 0 (Go.Proofs.Tryd.f71.body.getD .skip)).getD .skip
noncomputable def cs_l20Disk_3 : Code := (loopOf 3 (Go.Proofs.Tryd.f71.body.getD .skip)).getD .skip
theorem lseqs_l20Disk : lss_l20Disk = [(0, cs_l20Disk_0), (3, cs_l20Disk_3)] := by kernel_rfl
theorem ms_l20Disk_0 : ∀ p, p ∈ lss_l20Disk → p.1 = 0 → p.2 = cs_l20Disk_0 := by
  intro p hp
  rw [lseqs_l20Disk] at hp
  simp only [List.mem_cons, List.not_mem_nil, or_false] at hp
  rcases hp with rfl | rfl <;> simp
theorem ms_l20Disk_3 : ∀ p, p ∈ lss_l20Disk → p.1 = 3 → p.2 = cs_l20Disk_3 := by
  intro p hp
  rw [lseqs_l20Disk] at hp
  simp only [List.mem_cons, List.not_mem_nil, or_false] at hp
  rcases hp with rfl | rfl <;> simp
theorem ks_l20Disk_0 : OrcOk Es_l20Disk Os_l20Disk_0 lss_l20Disk 0 := orcOk_none
noncomputable def hs_l20Disk_0 (y0 : Int) (y1 : Int) (y2 : Int) (y3 : List ((Int) × ((Int) × ((List (ByteArray)) × (List ((ByteArray) × ((Bool) × (List (Int))))))))) (y4 : Int) (y5 : List ((Int) × ((Int) × ((List (ByteArray)) × (List ((ByteArray) × ((Bool) × (List (Int))))))))) (y6 : List (Int)) (y7 : Int) : List (Pl × LV) := [(.T 0, .t (.val false [.ptr 0 0 0])), (.T 1, .t (.val false [.int .i64 y0])), (.T 4, .t (.val false [.ptr 4 0 0])), (.T 5, .t (.val false [.ptr 5 0 0])), (.T 6, .t (.val false [.int .i64 y1])), (.B 4, .b 0 false [.row 4 1 0, .int .i64 y2]), (.R 4 1, .r 0 (some ⟨false, .any, true, 59, (.pair (.int .i64) (.pair (.int .i64) (.pair (.sl 9 .str) (.sl 83 (.pair .str (.pair .bool (.sl 3 (.int .i64)))))))), y3⟩)), (.B 5, .b 0 false [.row 5 1 0, .int .i64 y4]), (.R 5 1, .r 0 (some ⟨false, .any, true, 59, (.pair (.int .i64) (.pair (.int .i64) (.pair (.sl 9 .str) (.sl 83 (.pair .str (.pair .bool (.sl 3 (.int .i64)))))))), y5⟩)), (.B 0, .b 0 false [.sl .any 5 (.int .u8) y6, .int .i64 y7])]
noncomputable def g_Ss_l20Disk_0 (y0 : Int) (y2 : Int) (y3 : List ((Int) × ((Int) × ((List (ByteArray)) × (List ((ByteArray) × ((Bool) × (List (Int))))))))) (y6 : List (Int)) : ((Int) × (Int) × (List ((Int) × ((Int) × ((List (ByteArray)) × (List ((ByteArray) × ((Bool) × (List (Int))))))))) × (Int)) → RT ((Int) × (Int) × (List ((Int) × ((Int) × ((List (ByteArray)) × (List ((ByteArray) × ((Bool) × (List (Int))))))))) × (Int)) (((Int) × (List ((Int) × ((Int) × ((List (ByteArray)) × (List ((ByteArray) × ((Bool) × (List (Int))))))))) × (Int)))
  | (y1, y4, y5, y7) => .br (true) (.br (decide (y1 > (0 : Int))) (.br (g_As_l20Note y6 y7 (0 : Int)) (.br (g_pickA y6 (g_Vs_l20Note_5 y6 y7 (0 : Int)) (2 : Int)) (.br (true) (.br (g_As_DiskAdd y5 y4 (g_Vs_l20Note_0 y6 y7 (0 : Int)) (g_Vs_l20Note_1 y6 y7 (0 : Int)) (g_Vs_l20Note_2 y6 y7 (0 : Int)) (g_Vs_l20Note_3 y6 y7 (0 : Int)) (g_pick y6 (g_Vs_l20Note_5 y6 y7 (0 : Int)) (2 : Int) == (0 : Int))) (.br (true) (.go ((IntKind.wrap IntKind.i64 (y1 - (1 : Int)), g_Vs_DiskAdd_1 y5 y4 (g_Vs_l20Note_0 y6 y7 (0 : Int)) (g_Vs_l20Note_1 y6 y7 (0 : Int)) (g_Vs_l20Note_2 y6 y7 (0 : Int)) (g_Vs_l20Note_3 y6 y7 (0 : Int)) (g_pick y6 (g_Vs_l20Note_5 y6 y7 (0 : Int)) (2 : Int) == (0 : Int)), g_Vs_DiskAdd_0 y5 y4 (g_Vs_l20Note_0 y6 y7 (0 : Int)) (g_Vs_l20Note_1 y6 y7 (0 : Int)) (g_Vs_l20Note_2 y6 y7 (0 : Int)) (g_Vs_l20Note_3 y6 y7 (0 : Int)) (g_pick y6 (g_Vs_l20Note_5 y6 y7 (0 : Int)) (2 : Int) == (0 : Int)), IntKind.wrap IntKind.i64 (g_Vs_l20Note_5 y6 y7 (0 : Int) + (1 : Int))))) (.bad)) (.bad)) (.bad)) (.bad)) (.bad)) (.out ((y4, y5, y7)))) (.bad)
noncomputable def g_Ls_l20Disk_0 (y0 : Int) (y2 : Int) (y3 : List ((Int) × ((Int) × ((List (ByteArray)) × (List ((ByteArray) × ((Bool) × (List (Int))))))))) (y6 : List (Int)) (x : (Int) × (Int) × (List ((Int) × ((Int) × ((List (ByteArray)) × (List ((ByteArray) × ((Bool) × (List (Int))))))))) × (Int)) : Option (((Int) × (List ((Int) × ((Int) × ((List (ByteArray)) × (List ((ByteArray) × ((Bool) × (List (Int))))))))) × (Int))) := loopO (g_Ss_l20Disk_0 y0 y2 y3 y6) x
noncomputable def xs_l20Disk_0 (y0 : Int) (y2 : Int) (y3 : List ((Int) × ((Int) × ((List (ByteArray)) × (List ((ByteArray) × ((Bool) × (List (Int))))))))) (y6 : List (Int)) : (((Int) × (List ((Int) × ((Int) × ((List (ByteArray)) × (List ((ByteArray) × ((Bool) × (List (Int))))))))) × (Int))) → Ex × List (Pl × LV) := fun r => (.exit 0, [(.T 0, .t (.val false [.ptr 0 0 0])), (.T 1, .t (.val false [.int .i64 y0])), (.T 4, .t (.val false [.ptr 4 0 0])), (.T 5, .t (.val false [.ptr 5 0 0])), (.B 4, .b 0 false [.row 4 1 0, .int .i64 y2]), (.R 4 1, .r 0 (some ⟨false, .any, true, 59, (.pair (.int .i64) (.pair (.int .i64) (.pair (.sl 9 .str) (.sl 83 (.pair .str (.pair .bool (.sl 3 (.int .i64)))))))), y3⟩)), (.B 5, .b 0 false [.row 5 1 0, .int .i64 r.1]), (.R 5 1, .r 0 (some ⟨false, .any, true, 59, (.pair (.int .i64) (.pair (.int .i64) (.pair (.sl 9 .str) (.sl 83 (.pair .str (.pair .bool (.sl 3 (.int .i64)))))))), r.2.1⟩)), (.B 0, .b 0 false [.sl .any 5 (.int .u8) y6, .int .i64 r.2.2])])
noncomputable def Os_l20Disk_1 : Orc := fun b h => match b, h with
  | 0, [(.T 0, .t (.val false [.ptr 0 0 0])), (.T 1, .t (.val false [.int .i64 y0])), (.T 4, .t (.val false [.ptr 4 0 0])), (.T 5, .t (.val false [.ptr 5 0 0])), (.T 6, .t (.val false [.int .i64 y1])), (.B 4, .b 0 false [.row 4 1 0, .int .i64 y2]), (.R 4 1, .r 0 (some ⟨false, .any, true, 59, (.pair (.int .i64) (.pair (.int .i64) (.pair (.sl 9 .str) (.sl 83 (.pair .str (.pair .bool (.sl 3 (.int .i64)))))))), y3⟩)), (.B 5, .b 0 false [.row 5 1 0, .int .i64 y4]), (.R 5 1, .r 0 (some ⟨false, .any, true, 59, (.pair (.int .i64) (.pair (.int .i64) (.pair (.sl 9 .str) (.sl 83 (.pair .str (.pair .bool (.sl 3 (.int .i64)))))))), y5⟩)), (.B 0, .b 0 false [.sl .any 5 (.int .u8) y6, .int .i64 y7])] => some (okO (g_Ls_l20Disk_0 y0 y2 y3 y6 (y1, y4, y5, y7)), (.leaf (.exit 0) [(.T 0, .t (.val false [.ptr 0 0 0])), (.T 1, .t (.val false [.int .i64 y0])), (.T 4, .t (.val false [.ptr 4 0 0])), (.T 5, .t (.val false [.ptr 5 0 0])), (.B 4, .b 0 false [.row 4 1 0, .int .i64 y2]), (.R 4 1, .r 0 (some ⟨false, .any, true, 59, (.pair (.int .i64) (.pair (.int .i64) (.pair (.sl 9 .str) (.sl 83 (.pair .str (.pair .bool (.sl 3 (.int .i64)))))))), y3⟩)), (.B 5, .b 0 false [.row 5 1 0, .int .i64 (valO (g_Ls_l20Disk_0 y0 y2 y3 y6 (y1, y4, y5, y7))).1]), (.R 5 1, .r 0 (some ⟨false, .any, true, 59, (.pair (.int .i64) (.pair (.int .i64) (.pair (.sl 9 .str) (.sl 83 (.pair .str (.pair .bool (.sl 3 (.int .i64)))))))), (valO (g_Ls_l20Disk_0 y0 y2 y3 y6 (y1, y4, y5, y7))).2.1⟩)), (.B 0, .b 0 false [.sl .any 5 (.int .u8) y6, .int .i64 (valO (g_Ls_l20Disk_0 y0 y2 y3 y6 (y1, y4, y5, y7))).2.2])]))
  | b, h => Os_l20Disk_0 b h
theorem bs_l20Disk_0 (y0 : Int) (y1 : Int) (y2 : Int) (y3 : List ((Int) × ((Int) × ((List (ByteArray)) × (List ((ByteArray) × ((Bool) × (List (Int))))))))) (y4 : Int) (y5 : List ((Int) × ((Int) × ((List (ByteArray)) × (List ((ByteArray) × ((Bool) × (List (Int))))))))) (y6 : List (Int)) (y7 : Int) : Tr.bt Es_l20Disk Os_l20Disk_0 (exec Es_l20Disk 0 cs_l20Disk_0 (St.of (hs_l20Disk_0 y0 y1 y2 y3 y4 y5 y6 y7)) (leafRd Es_l20Disk 0)) = (g_Ss_l20Disk_0 y0 y2 y3 y6 (y1, y4, y5, y7)).bt (fun ((y1, y4, y5, y7) : (Int) × (Int) × (List ((Int) × ((Int) × ((List (ByteArray)) × (List ((ByteArray) × ((Bool) × (List (Int))))))))) × (Int)) => (hs_l20Disk_0 y0 y1 y2 y3 y4 y5 y6 y7)) (xs_l20Disk_0 y0 y2 y3 y6) := by kernel_rfl
theorem ks_l20Disk_1 : OrcOk Es_l20Disk Os_l20Disk_1 lss_l20Disk 1 := orc_add ks_l20Disk_0 (fun n p hp h ex h' ho => by
  obtain ⟨b, c⟩ := p
  obtain ⟨xt, h1, h2⟩ := ho
  have h1 : Os_l20Disk_1 b h = some (true, xt) := h1
  unfold Os_l20Disk_1 at h1
  split at h1
  · injection h1 with h1
    injection h1 with e1 e2
    subst e2
    have hc : c = cs_l20Disk_0 := ms_l20Disk_0 _ hp rfl
    subst hc
    right
    rename_i y0 y1 y2 y3 y4 y5 y6 y7
    have key := LT_step ks_l20Disk_0 hp (fun q hq => loopsAll_in _ _ _ _ hp hq) (fun ((y1, y4, y5, y7) : (Int) × (Int) × (List ((Int) × ((Int) × ((List (ByteArray)) × (List ((ByteArray) × ((Bool) × (List (Int))))))))) × (Int)) => (hs_l20Disk_0 y0 y1 y2 y3 y4 y5 y6 y7)) (xs_l20Disk_0 y0 y2 y3 y6) (g_Ss_l20Disk_0 y0 y2 y3 y6) (fun x => by first | exact bs_l20Disk_0 y0 x.1 y2 y3 x.2.1 x.2.2.1 y6 x.2.2.2) n (x := (y1, y4, y5, y7)) (okO_some e1)
    have hx : ∀ r, XT.sel (.leaf (.exit 0) [(.T 0, .t (.val false [.ptr 0 0 0])), (.T 1, .t (.val false [.int .i64 y0])), (.T 4, .t (.val false [.ptr 4 0 0])), (.T 5, .t (.val false [.ptr 5 0 0])), (.B 4, .b 0 false [.row 4 1 0, .int .i64 y2]), (.R 4 1, .r 0 (some ⟨false, .any, true, 59, (.pair (.int .i64) (.pair (.int .i64) (.pair (.sl 9 .str) (.sl 83 (.pair .str (.pair .bool (.sl 3 (.int .i64)))))))), y3⟩)), (.B 5, .b 0 false [.row 5 1 0, .int .i64 r.1]), (.R 5 1, .r 0 (some ⟨false, .any, true, 59, (.pair (.int .i64) (.pair (.int .i64) (.pair (.sl 9 .str) (.sl 83 (.pair .str (.pair .bool (.sl 3 (.int .i64)))))))), r.2.1⟩)), (.B 0, .b 0 false [.sl .any 5 (.int .u8) y6, .int .i64 r.2.2])]) = xs_l20Disk_0 y0 y2 y3 y6 r := fun r => by first | rfl | (rcases r with r | r <;> rfl) | (rcases r with r | r | r <;> rfl) | (rcases r with r | r | r | r <;> rfl)
    have h3 := (hx (valO (g_Ls_l20Disk_0 y0 y2 y3 y6 (y1, y4, y5, y7)))).symm.trans h2
    have e3 := congrArg Prod.fst h3
    have e4 := congrArg Prod.snd h3
    simp only at e3 e4
    rw [← e3, ← e4]
    exact key
  · exact .inl ⟨xt, h1, h2⟩)
noncomputable def hs_l20Disk_3 (y0 : Int) (y1 : List ((Int) × ((Int) × ((List (ByteArray)) × (List ((ByteArray) × ((Bool) × (List (Int))))))))) (y2 : Int) (y3 : List ((Int) × ((Int) × ((List (ByteArray)) × (List ((ByteArray) × ((Bool) × (List (Int))))))))) (y4 : List (Int)) (y5 : Int) : List (Pl × LV) := [(.T 0, .t (.val false [.ptr 0 0 0])), (.T 4, .t (.val false [.ptr 4 0 0])), (.T 5, .t (.val false [.ptr 5 0 0])), (.B 4, .b 0 false [.row 4 1 0, .int .i64 y0]), (.R 4 1, .r 0 (some ⟨false, .any, true, 59, (.pair (.int .i64) (.pair (.int .i64) (.pair (.sl 9 .str) (.sl 83 (.pair .str (.pair .bool (.sl 3 (.int .i64)))))))), y1⟩)), (.B 5, .b 0 false [.row 5 1 0, .int .i64 y2]), (.R 5 1, .r 0 (some ⟨false, .any, true, 59, (.pair (.int .i64) (.pair (.int .i64) (.pair (.sl 9 .str) (.sl 83 (.pair .str (.pair .bool (.sl 3 (.int .i64)))))))), y3⟩)), (.B 0, .b 0 false [.sl .any 5 (.int .u8) y4, .int .i64 y5])]
noncomputable def g_Ss_l20Disk_3 (y0 : Int) (y1 : List ((Int) × ((Int) × ((List (ByteArray)) × (List ((ByteArray) × ((Bool) × (List (Int))))))))) (y2 : Int) (y4 : List (Int)) (y5 : Int) : ((List ((Int) × ((Int) × ((List (ByteArray)) × (List ((ByteArray) × ((Bool) × (List (Int)))))))))) → RT ((List ((Int) × ((Int) × ((List (ByteArray)) × (List ((ByteArray) × ((Bool) × (List (Int)))))))))) (((List ((Int) × ((Int) × ((List (ByteArray)) × (List ((ByteArray) × ((Bool) × (List (Int)))))))))))
  | y3 => .br (true) (.br (decide ((↑(List.length y3) : Int) ≤ (120 : Int))) (.br (decide ((List.length y3 + nat_lit 1) * nat_lit 64 ≤ nat_lit 140737488355328 ∧ List.length y3 + nat_lit 1 ≤ nat_lit 9223372036854775807)) (.go (y3 ++ [((3 : Int), (0 : Int), [], [])])) (.bad)) (.out (y3))) (.bad)
noncomputable def g_Ls_l20Disk_3 (y0 : Int) (y1 : List ((Int) × ((Int) × ((List (ByteArray)) × (List ((ByteArray) × ((Bool) × (List (Int))))))))) (y2 : Int) (y4 : List (Int)) (y5 : Int) (x : (List ((Int) × ((Int) × ((List (ByteArray)) × (List ((ByteArray) × ((Bool) × (List (Int)))))))))) : Option (((List ((Int) × ((Int) × ((List (ByteArray)) × (List ((ByteArray) × ((Bool) × (List (Int))))))))))) := loopO (g_Ss_l20Disk_3 y0 y1 y2 y4 y5) x
noncomputable def xs_l20Disk_3 (y0 : Int) (y1 : List ((Int) × ((Int) × ((List (ByteArray)) × (List ((ByteArray) × ((Bool) × (List (Int))))))))) (y2 : Int) (y4 : List (Int)) (y5 : Int) : (((List ((Int) × ((Int) × ((List (ByteArray)) × (List ((ByteArray) × ((Bool) × (List (Int))))))))))) → Ex × List (Pl × LV) := fun r => (.exit 3, [(.T 0, .t (.val false [.ptr 0 0 0])), (.T 4, .t (.val false [.ptr 4 0 0])), (.T 5, .t (.val false [.ptr 5 0 0])), (.B 4, .b 0 false [.row 4 1 0, .int .i64 y0]), (.R 4 1, .r 0 (some ⟨false, .any, true, 59, (.pair (.int .i64) (.pair (.int .i64) (.pair (.sl 9 .str) (.sl 83 (.pair .str (.pair .bool (.sl 3 (.int .i64)))))))), y1⟩)), (.B 5, .b 0 false [.row 5 1 0, .int .i64 y2]), (.R 5 1, .r 0 (some ⟨false, .any, true, 59, (.pair (.int .i64) (.pair (.int .i64) (.pair (.sl 9 .str) (.sl 83 (.pair .str (.pair .bool (.sl 3 (.int .i64)))))))), r⟩)), (.B 0, .b 0 false [.sl .any 5 (.int .u8) y4, .int .i64 y5])])
noncomputable def Os_l20Disk_2 : Orc := fun b h => match b, h with
  | 3, [(.T 0, .t (.val false [.ptr 0 0 0])), (.T 4, .t (.val false [.ptr 4 0 0])), (.T 5, .t (.val false [.ptr 5 0 0])), (.B 4, .b 0 false [.row 4 1 0, .int .i64 y0]), (.R 4 1, .r 0 (some ⟨false, .any, true, 59, (.pair (.int .i64) (.pair (.int .i64) (.pair (.sl 9 .str) (.sl 83 (.pair .str (.pair .bool (.sl 3 (.int .i64)))))))), y1⟩)), (.B 5, .b 0 false [.row 5 1 0, .int .i64 y2]), (.R 5 1, .r 0 (some ⟨false, .any, true, 59, (.pair (.int .i64) (.pair (.int .i64) (.pair (.sl 9 .str) (.sl 83 (.pair .str (.pair .bool (.sl 3 (.int .i64)))))))), y3⟩)), (.B 0, .b 0 false [.sl .any 5 (.int .u8) y4, .int .i64 y5])] => some (okO (g_Ls_l20Disk_3 y0 y1 y2 y4 y5 y3), (.leaf (.exit 3) [(.T 0, .t (.val false [.ptr 0 0 0])), (.T 4, .t (.val false [.ptr 4 0 0])), (.T 5, .t (.val false [.ptr 5 0 0])), (.B 4, .b 0 false [.row 4 1 0, .int .i64 y0]), (.R 4 1, .r 0 (some ⟨false, .any, true, 59, (.pair (.int .i64) (.pair (.int .i64) (.pair (.sl 9 .str) (.sl 83 (.pair .str (.pair .bool (.sl 3 (.int .i64)))))))), y1⟩)), (.B 5, .b 0 false [.row 5 1 0, .int .i64 y2]), (.R 5 1, .r 0 (some ⟨false, .any, true, 59, (.pair (.int .i64) (.pair (.int .i64) (.pair (.sl 9 .str) (.sl 83 (.pair .str (.pair .bool (.sl 3 (.int .i64)))))))), (valO (g_Ls_l20Disk_3 y0 y1 y2 y4 y5 y3))⟩)), (.B 0, .b 0 false [.sl .any 5 (.int .u8) y4, .int .i64 y5])]))
  | b, h => Os_l20Disk_1 b h
theorem bs_l20Disk_3 (y0 : Int) (y1 : List ((Int) × ((Int) × ((List (ByteArray)) × (List ((ByteArray) × ((Bool) × (List (Int))))))))) (y2 : Int) (y3 : List ((Int) × ((Int) × ((List (ByteArray)) × (List ((ByteArray) × ((Bool) × (List (Int))))))))) (y4 : List (Int)) (y5 : Int) : Tr.bt Es_l20Disk Os_l20Disk_1 (exec Es_l20Disk 3 cs_l20Disk_3 (St.of (hs_l20Disk_3 y0 y1 y2 y3 y4 y5)) (leafRd Es_l20Disk 3)) = (g_Ss_l20Disk_3 y0 y1 y2 y4 y5 y3).bt (fun (y3 : (List ((Int) × ((Int) × ((List (ByteArray)) × (List ((ByteArray) × ((Bool) × (List (Int)))))))))) => (hs_l20Disk_3 y0 y1 y2 y3 y4 y5)) (xs_l20Disk_3 y0 y1 y2 y4 y5) := by kernel_rfl
theorem ks_l20Disk_2 : OrcOk Es_l20Disk Os_l20Disk_2 lss_l20Disk 2 := orc_add ks_l20Disk_1 (fun n p hp h ex h' ho => by
  obtain ⟨b, c⟩ := p
  obtain ⟨xt, h1, h2⟩ := ho
  have h1 : Os_l20Disk_2 b h = some (true, xt) := h1
  unfold Os_l20Disk_2 at h1
  split at h1
  · injection h1 with h1
    injection h1 with e1 e2
    subst e2
    have hc : c = cs_l20Disk_3 := ms_l20Disk_3 _ hp rfl
    subst hc
    right
    rename_i y0 y1 y2 y3 y4 y5
    have key := LT_step ks_l20Disk_1 hp (fun q hq => loopsAll_in _ _ _ _ hp hq) (fun (y3 : (List ((Int) × ((Int) × ((List (ByteArray)) × (List ((ByteArray) × ((Bool) × (List (Int)))))))))) => (hs_l20Disk_3 y0 y1 y2 y3 y4 y5)) (xs_l20Disk_3 y0 y1 y2 y4 y5) (g_Ss_l20Disk_3 y0 y1 y2 y4 y5) (fun x => by first | exact bs_l20Disk_3 y0 y1 y2 x y4 y5) n (x := y3) (okO_some e1)
    have hx : ∀ r, XT.sel (.leaf (.exit 3) [(.T 0, .t (.val false [.ptr 0 0 0])), (.T 4, .t (.val false [.ptr 4 0 0])), (.T 5, .t (.val false [.ptr 5 0 0])), (.B 4, .b 0 false [.row 4 1 0, .int .i64 y0]), (.R 4 1, .r 0 (some ⟨false, .any, true, 59, (.pair (.int .i64) (.pair (.int .i64) (.pair (.sl 9 .str) (.sl 83 (.pair .str (.pair .bool (.sl 3 (.int .i64)))))))), y1⟩)), (.B 5, .b 0 false [.row 5 1 0, .int .i64 y2]), (.R 5 1, .r 0 (some ⟨false, .any, true, 59, (.pair (.int .i64) (.pair (.int .i64) (.pair (.sl 9 .str) (.sl 83 (.pair .str (.pair .bool (.sl 3 (.int .i64)))))))), r⟩)), (.B 0, .b 0 false [.sl .any 5 (.int .u8) y4, .int .i64 y5])]) = xs_l20Disk_3 y0 y1 y2 y4 y5 r := fun r => by first | rfl | (rcases r with r | r <;> rfl) | (rcases r with r | r | r <;> rfl) | (rcases r with r | r | r | r <;> rfl)
    have h3 := (hx (valO (g_Ls_l20Disk_3 y0 y1 y2 y4 y5 y3))).symm.trans h2
    have e3 := congrArg Prod.fst h3
    have e4 := congrArg Prod.snd h3
    simp only at e3 e4
    rw [← e3, ← e4]
    exact key
  · exact .inl ⟨xt, h1, h2⟩)
noncomputable def g_As_l20Disk (r0 : List Int) (r1 : Int) (a2 : Int) : Bool := g_pickA r0 r1 (10 : Int) && (okO (g_Ls_l20Disk_0 a2 (0 : Int) [] r0 (g_pick r0 r1 (10 : Int), (0 : Int), [], IntKind.wrap IntKind.i64 (r1 + (1 : Int)))) && (g_As_l20Rd_odd r0 (valO (g_Ls_l20Disk_0 a2 (0 : Int) [] r0 (g_pick r0 r1 (10 : Int), (0 : Int), [], IntKind.wrap IntKind.i64 (r1 + (1 : Int))))).2.2 a2 && (!g_Vs_l20Rd_odd_0 r0 (valO (g_Ls_l20Disk_0 a2 (0 : Int) [] r0 (g_pick r0 r1 (10 : Int), (0 : Int), [], IntKind.wrap IntKind.i64 (r1 + (1 : Int))))).2.2 a2 || g_pickA r0 (g_Vs_l20Rd_odd_2 r0 (valO (g_Ls_l20Disk_0 a2 (0 : Int) [] r0 (g_pick r0 r1 (10 : Int), (0 : Int), [], IntKind.wrap IntKind.i64 (r1 + (1 : Int))))).2.2 a2) (3 : Int) && bif g_pick r0 (g_Vs_l20Rd_odd_2 r0 (valO (g_Ls_l20Disk_0 a2 (0 : Int) [] r0 (g_pick r0 r1 (10 : Int), (0 : Int), [], IntKind.wrap IntKind.i64 (r1 + (1 : Int))))).2.2 a2) (3 : Int) == (0 : Int) then g_pickA r0 (IntKind.wrap IntKind.i64 (g_Vs_l20Rd_odd_2 r0 (valO (g_Ls_l20Disk_0 a2 (0 : Int) [] r0 (g_pick r0 r1 (10 : Int), (0 : Int), [], IntKind.wrap IntKind.i64 (r1 + (1 : Int))))).2.2 a2 + (1 : Int))) (2 : Int) && (decide ((0 : Int) ≤ g_pick r0 (IntKind.wrap IntKind.i64 (g_Vs_l20Rd_odd_2 r0 (valO (g_Ls_l20Disk_0 a2 (0 : Int) [] r0 (g_pick r0 r1 (10 : Int), (0 : Int), [], IntKind.wrap IntKind.i64 (r1 + (1 : Int))))).2.2 a2 + (1 : Int))) (2 : Int) ∧ g_pick r0 (IntKind.wrap IntKind.i64 (g_Vs_l20Rd_odd_2 r0 (valO (g_Ls_l20Disk_0 a2 (0 : Int) [] r0 (g_pick r0 r1 (10 : Int), (0 : Int), [], IntKind.wrap IntKind.i64 (r1 + (1 : Int))))).2.2 a2 + (1 : Int))) (2 : Int) < (↑(List.length [(-1 : Int), IntKind.wrap IntKind.i64 ((↑(List.length (valO (g_Ls_l20Disk_0 a2 (0 : Int) [] r0 (g_pick r0 r1 (10 : Int), (0 : Int), [], IntKind.wrap IntKind.i64 (r1 + (1 : Int))))).2.1) : Int) + (1 : Int))]) : Int)) && decide (Int.toNat (g_pick r0 (IntKind.wrap IntKind.i64 (g_Vs_l20Rd_odd_2 r0 (valO (g_Ls_l20Disk_0 a2 (0 : Int) [] r0 (g_pick r0 r1 (10 : Int), (0 : Int), [], IntKind.wrap IntKind.i64 (r1 + (1 : Int))))).2.2 a2 + (1 : Int))) (2 : Int)) < List.length [(-1 : Int), IntKind.wrap IntKind.i64 ((↑(List.length (valO (g_Ls_l20Disk_0 a2 (0 : Int) [] r0 (g_pick r0 r1 (10 : Int), (0 : Int), [], IntKind.wrap IntKind.i64 (r1 + (1 : Int))))).2.1) : Int) + (1 : Int))])) else bif g_pick r0 (g_Vs_l20Rd_odd_2 r0 (valO (g_Ls_l20Disk_0 a2 (0 : Int) [] r0 (g_pick r0 r1 (10 : Int), (0 : Int), [], IntKind.wrap IntKind.i64 (r1 + (1 : Int))))).2.2 a2) (3 : Int) == (1 : Int) then g_As_l20Note r0 (IntKind.wrap IntKind.i64 (g_Vs_l20Rd_odd_2 r0 (valO (g_Ls_l20Disk_0 a2 (0 : Int) [] r0 (g_pick r0 r1 (10 : Int), (0 : Int), [], IntKind.wrap IntKind.i64 (r1 + (1 : Int))))).2.2 a2 + (1 : Int))) (1 : Int) && decide ((List.length (valO (g_Ls_l20Disk_0 a2 (0 : Int) [] r0 (g_pick r0 r1 (10 : Int), (0 : Int), [], IntKind.wrap IntKind.i64 (r1 + (1 : Int))))).2.1 + List.length [(g_Vs_l20Note_0 r0 (IntKind.wrap IntKind.i64 (g_Vs_l20Rd_odd_2 r0 (valO (g_Ls_l20Disk_0 a2 (0 : Int) [] r0 (g_pick r0 r1 (10 : Int), (0 : Int), [], IntKind.wrap IntKind.i64 (r1 + (1 : Int))))).2.2 a2 + (1 : Int))) (1 : Int), g_Vs_l20Note_1 r0 (IntKind.wrap IntKind.i64 (g_Vs_l20Rd_odd_2 r0 (valO (g_Ls_l20Disk_0 a2 (0 : Int) [] r0 (g_pick r0 r1 (10 : Int), (0 : Int), [], IntKind.wrap IntKind.i64 (r1 + (1 : Int))))).2.2 a2 + (1 : Int))) (1 : Int), g_Vs_l20Note_2 r0 (IntKind.wrap IntKind.i64 (g_Vs_l20Rd_odd_2 r0 (valO (g_Ls_l20Disk_0 a2 (0 : Int) [] r0 (g_pick r0 r1 (10 : Int), (0 : Int), [], IntKind.wrap IntKind.i64 (r1 + (1 : Int))))).2.2 a2 + (1 : Int))) (1 : Int), g_Vs_l20Note_3 r0 (IntKind.wrap IntKind.i64 (g_Vs_l20Rd_odd_2 r0 (valO (g_Ls_l20Disk_0 a2 (0 : Int) [] r0 (g_pick r0 r1 (10 : Int), (0 : Int), [], IntKind.wrap IntKind.i64 (r1 + (1 : Int))))).2.2 a2 + (1 : Int))) (1 : Int))]) * nat_lit 64 ≤ nat_lit 140737488355328 ∧ List.length (valO (g_Ls_l20Disk_0 a2 (0 : Int) [] r0 (g_pick r0 r1 (10 : Int), (0 : Int), [], IntKind.wrap IntKind.i64 (r1 + (1 : Int))))).2.1 + List.length [(g_Vs_l20Note_0 r0 (IntKind.wrap IntKind.i64 (g_Vs_l20Rd_odd_2 r0 (valO (g_Ls_l20Disk_0 a2 (0 : Int) [] r0 (g_pick r0 r1 (10 : Int), (0 : Int), [], IntKind.wrap IntKind.i64 (r1 + (1 : Int))))).2.2 a2 + (1 : Int))) (1 : Int), g_Vs_l20Note_1 r0 (IntKind.wrap IntKind.i64 (g_Vs_l20Rd_odd_2 r0 (valO (g_Ls_l20Disk_0 a2 (0 : Int) [] r0 (g_pick r0 r1 (10 : Int), (0 : Int), [], IntKind.wrap IntKind.i64 (r1 + (1 : Int))))).2.2 a2 + (1 : Int))) (1 : Int), g_Vs_l20Note_2 r0 (IntKind.wrap IntKind.i64 (g_Vs_l20Rd_odd_2 r0 (valO (g_Ls_l20Disk_0 a2 (0 : Int) [] r0 (g_pick r0 r1 (10 : Int), (0 : Int), [], IntKind.wrap IntKind.i64 (r1 + (1 : Int))))).2.2 a2 + (1 : Int))) (1 : Int), g_Vs_l20Note_3 r0 (IntKind.wrap IntKind.i64 (g_Vs_l20Rd_odd_2 r0 (valO (g_Ls_l20Disk_0 a2 (0 : Int) [] r0 (g_pick r0 r1 (10 : Int), (0 : Int), [], IntKind.wrap IntKind.i64 (r1 + (1 : Int))))).2.2 a2 + (1 : Int))) (1 : Int))] ≤ nat_lit 9223372036854775807) else okO (g_Ls_l20Disk_3 (0 : Int) [] (valO (g_Ls_l20Disk_0 a2 (0 : Int) [] r0 (g_pick r0 r1 (10 : Int), (0 : Int), [], IntKind.wrap IntKind.i64 (r1 + (1 : Int))))).1 r0 (IntKind.wrap IntKind.i64 (g_Vs_l20Rd_odd_2 r0 (valO (g_Ls_l20Disk_0 a2 (0 : Int) [] r0 (g_pick r0 r1 (10 : Int), (0 : Int), [], IntKind.wrap IntKind.i64 (r1 + (1 : Int))))).2.2 a2 + (1 : Int))) (valO (g_Ls_l20Disk_0 a2 (0 : Int) [] r0 (g_pick r0 r1 (10 : Int), (0 : Int), [], IntKind.wrap IntKind.i64 (r1 + (1 : Int))))).2.1))))
noncomputable def g_Vs_l20Disk_0 (r0 : List Int) (r1 : Int) (a2 : Int) : List ((Int) × ((Int) × ((List (ByteArray)) × (List ((ByteArray) × ((Bool) × (List (Int)))))))) := bif g_Vs_l20Rd_odd_0 r0 (valO (g_Ls_l20Disk_0 a2 (0 : Int) [] r0 (g_pick r0 r1 (10 : Int), (0 : Int), [], IntKind.wrap IntKind.i64 (r1 + (1 : Int))))).2.2 a2 then bif g_pick r0 (g_Vs_l20Rd_odd_2 r0 (valO (g_Ls_l20Disk_0 a2 (0 : Int) [] r0 (g_pick r0 r1 (10 : Int), (0 : Int), [], IntKind.wrap IntKind.i64 (r1 + (1 : Int))))).2.2 a2) (3 : Int) == (0 : Int) then (valO (g_Ls_l20Disk_0 a2 (0 : Int) [] r0 (g_pick r0 r1 (10 : Int), (0 : Int), [], IntKind.wrap IntKind.i64 (r1 + (1 : Int))))).2.1 else bif g_pick r0 (g_Vs_l20Rd_odd_2 r0 (valO (g_Ls_l20Disk_0 a2 (0 : Int) [] r0 (g_pick r0 r1 (10 : Int), (0 : Int), [], IntKind.wrap IntKind.i64 (r1 + (1 : Int))))).2.2 a2) (3 : Int) == (1 : Int) then (valO (g_Ls_l20Disk_0 a2 (0 : Int) [] r0 (g_pick r0 r1 (10 : Int), (0 : Int), [], IntKind.wrap IntKind.i64 (r1 + (1 : Int))))).2.1 ++ [(g_Vs_l20Note_0 r0 (IntKind.wrap IntKind.i64 (g_Vs_l20Rd_odd_2 r0 (valO (g_Ls_l20Disk_0 a2 (0 : Int) [] r0 (g_pick r0 r1 (10 : Int), (0 : Int), [], IntKind.wrap IntKind.i64 (r1 + (1 : Int))))).2.2 a2 + (1 : Int))) (1 : Int), g_Vs_l20Note_1 r0 (IntKind.wrap IntKind.i64 (g_Vs_l20Rd_odd_2 r0 (valO (g_Ls_l20Disk_0 a2 (0 : Int) [] r0 (g_pick r0 r1 (10 : Int), (0 : Int), [], IntKind.wrap IntKind.i64 (r1 + (1 : Int))))).2.2 a2 + (1 : Int))) (1 : Int), g_Vs_l20Note_2 r0 (IntKind.wrap IntKind.i64 (g_Vs_l20Rd_odd_2 r0 (valO (g_Ls_l20Disk_0 a2 (0 : Int) [] r0 (g_pick r0 r1 (10 : Int), (0 : Int), [], IntKind.wrap IntKind.i64 (r1 + (1 : Int))))).2.2 a2 + (1 : Int))) (1 : Int), g_Vs_l20Note_3 r0 (IntKind.wrap IntKind.i64 (g_Vs_l20Rd_odd_2 r0 (valO (g_Ls_l20Disk_0 a2 (0 : Int) [] r0 (g_pick r0 r1 (10 : Int), (0 : Int), [], IntKind.wrap IntKind.i64 (r1 + (1 : Int))))).2.2 a2 + (1 : Int))) (1 : Int))] else valO (g_Ls_l20Disk_3 (0 : Int) [] (valO (g_Ls_l20Disk_0 a2 (0 : Int) [] r0 (g_pick r0 r1 (10 : Int), (0 : Int), [], IntKind.wrap IntKind.i64 (r1 + (1 : Int))))).1 r0 (IntKind.wrap IntKind.i64 (g_Vs_l20Rd_odd_2 r0 (valO (g_Ls_l20Disk_0 a2 (0 : Int) [] r0 (g_pick r0 r1 (10 : Int), (0 : Int), [], IntKind.wrap IntKind.i64 (r1 + (1 : Int))))).2.2 a2 + (1 : Int))) (valO (g_Ls_l20Disk_0 a2 (0 : Int) [] r0 (g_pick r0 r1 (10 : Int), (0 : Int), [], IntKind.wrap IntKind.i64 (r1 + (1 : Int))))).2.1) else (valO (g_Ls_l20Disk_0 a2 (0 : Int) [] r0 (g_pick r0 r1 (10 : Int), (0 : Int), [], IntKind.wrap IntKind.i64 (r1 + (1 : Int))))).2.1
noncomputable def g_Vs_l20Disk_1 (r0 : List Int) (r1 : Int) (a2 : Int) : Int := bif g_Vs_l20Rd_odd_0 r0 (valO (g_Ls_l20Disk_0 a2 (0 : Int) [] r0 (g_pick r0 r1 (10 : Int), (0 : Int), [], IntKind.wrap IntKind.i64 (r1 + (1 : Int))))).2.2 a2 then bif g_pick r0 (g_Vs_l20Rd_odd_2 r0 (valO (g_Ls_l20Disk_0 a2 (0 : Int) [] r0 (g_pick r0 r1 (10 : Int), (0 : Int), [], IntKind.wrap IntKind.i64 (r1 + (1 : Int))))).2.2 a2) (3 : Int) == (0 : Int) then at_ (Ty.int IntKind.i64) [(-1 : Int), IntKind.wrap IntKind.i64 ((↑(List.length (valO (g_Ls_l20Disk_0 a2 (0 : Int) [] r0 (g_pick r0 r1 (10 : Int), (0 : Int), [], IntKind.wrap IntKind.i64 (r1 + (1 : Int))))).2.1) : Int) + (1 : Int))] (Int.toNat (g_pick r0 (IntKind.wrap IntKind.i64 (g_Vs_l20Rd_odd_2 r0 (valO (g_Ls_l20Disk_0 a2 (0 : Int) [] r0 (g_pick r0 r1 (10 : Int), (0 : Int), [], IntKind.wrap IntKind.i64 (r1 + (1 : Int))))).2.2 a2 + (1 : Int))) (2 : Int))) else bif g_pick r0 (g_Vs_l20Rd_odd_2 r0 (valO (g_Ls_l20Disk_0 a2 (0 : Int) [] r0 (g_pick r0 r1 (10 : Int), (0 : Int), [], IntKind.wrap IntKind.i64 (r1 + (1 : Int))))).2.2 a2) (3 : Int) == (1 : Int) then (valO (g_Ls_l20Disk_0 a2 (0 : Int) [] r0 (g_pick r0 r1 (10 : Int), (0 : Int), [], IntKind.wrap IntKind.i64 (r1 + (1 : Int))))).1 else (valO (g_Ls_l20Disk_0 a2 (0 : Int) [] r0 (g_pick r0 r1 (10 : Int), (0 : Int), [], IntKind.wrap IntKind.i64 (r1 + (1 : Int))))).1 else (valO (g_Ls_l20Disk_0 a2 (0 : Int) [] r0 (g_pick r0 r1 (10 : Int), (0 : Int), [], IntKind.wrap IntKind.i64 (r1 + (1 : Int))))).1
noncomputable def g_Vs_l20Disk_2 (r0 : List Int) (r1 : Int) (a2 : Int) : List (Int) := bif g_Vs_l20Rd_odd_0 r0 (valO (g_Ls_l20Disk_0 a2 (0 : Int) [] r0 (g_pick r0 r1 (10 : Int), (0 : Int), [], IntKind.wrap IntKind.i64 (r1 + (1 : Int))))).2.2 a2 then bif g_pick r0 (g_Vs_l20Rd_odd_2 r0 (valO (g_Ls_l20Disk_0 a2 (0 : Int) [] r0 (g_pick r0 r1 (10 : Int), (0 : Int), [], IntKind.wrap IntKind.i64 (r1 + (1 : Int))))).2.2 a2) (3 : Int) == (0 : Int) then r0 else bif g_pick r0 (g_Vs_l20Rd_odd_2 r0 (valO (g_Ls_l20Disk_0 a2 (0 : Int) [] r0 (g_pick r0 r1 (10 : Int), (0 : Int), [], IntKind.wrap IntKind.i64 (r1 + (1 : Int))))).2.2 a2) (3 : Int) == (1 : Int) then r0 else r0 else r0
noncomputable def g_Vs_l20Disk_3 (r0 : List Int) (r1 : Int) (a2 : Int) : Int := bif g_Vs_l20Rd_odd_0 r0 (valO (g_Ls_l20Disk_0 a2 (0 : Int) [] r0 (g_pick r0 r1 (10 : Int), (0 : Int), [], IntKind.wrap IntKind.i64 (r1 + (1 : Int))))).2.2 a2 then bif g_pick r0 (g_Vs_l20Rd_odd_2 r0 (valO (g_Ls_l20Disk_0 a2 (0 : Int) [] r0 (g_pick r0 r1 (10 : Int), (0 : Int), [], IntKind.wrap IntKind.i64 (r1 + (1 : Int))))).2.2 a2) (3 : Int) == (0 : Int) then IntKind.wrap IntKind.i64 (IntKind.wrap IntKind.i64 (g_Vs_l20Rd_odd_2 r0 (valO (g_Ls_l20Disk_0 a2 (0 : Int) [] r0 (g_pick r0 r1 (10 : Int), (0 : Int), [], IntKind.wrap IntKind.i64 (r1 + (1 : Int))))).2.2 a2 + (1 : Int)) + (1 : Int)) else bif g_pick r0 (g_Vs_l20Rd_odd_2 r0 (valO (g_Ls_l20Disk_0 a2 (0 : Int) [] r0 (g_pick r0 r1 (10 : Int), (0 : Int), [], IntKind.wrap IntKind.i64 (r1 + (1 : Int))))).2.2 a2) (3 : Int) == (1 : Int) then g_Vs_l20Note_5 r0 (IntKind.wrap IntKind.i64 (g_Vs_l20Rd_odd_2 r0 (valO (g_Ls_l20Disk_0 a2 (0 : Int) [] r0 (g_pick r0 r1 (10 : Int), (0 : Int), [], IntKind.wrap IntKind.i64 (r1 + (1 : Int))))).2.2 a2 + (1 : Int))) (1 : Int) else IntKind.wrap IntKind.i64 (g_Vs_l20Rd_odd_2 r0 (valO (g_Ls_l20Disk_0 a2 (0 : Int) [] r0 (g_pick r0 r1 (10 : Int), (0 : Int), [], IntKind.wrap IntKind.i64 (r1 + (1 : Int))))).2.2 a2 + (1 : Int)) else g_Vs_l20Rd_odd_2 r0 (valO (g_Ls_l20Disk_0 a2 (0 : Int) [] r0 (g_pick r0 r1 (10 : Int), (0 : Int), [], IntKind.wrap IntKind.i64 (r1 + (1 : Int))))).2.2 a2
noncomputable def Fs_l20Disk : FSem := fun ys => match ys with
  | [.val true [.sl .any 5 (.int .u8) r0, .int .i64 r1], .val false [.int .i64 a2]] => some ((g_As_l20Disk r0 r1 a2), .val true [.own .any false 59 (.pair (.int .i64) (.pair (.int .i64) (.pair (.sl 9 .str) (.sl 83 (.pair .str (.pair .bool (.sl 3 (.int .i64)))))))) (g_Vs_l20Disk_0 r0 r1 a2), .int .i64 (g_Vs_l20Disk_1 r0 r1 a2)], [[.sl .any 5 (.int .u8) (g_Vs_l20Disk_2 r0 r1 a2), .int .i64 (g_Vs_l20Disk_3 r0 r1 a2)]])
  | _ => none
theorem vs_l20Disk (r0 : List Int) (r1 : Int) (a2 : Int) : collapseH .sh Es_l20Disk Os_l20Disk_2 (execFn Es_l20Disk Go.Proofs.Tryd.f71 mss_l20Disk [.val true [.sl .any 5 (.int .u8) r0, .int .i64 r1], .val false [.int .i64 a2]]) = some ((g_As_l20Disk r0 r1 a2), .val true [.own .any false 59 (.pair (.int .i64) (.pair (.int .i64) (.pair (.sl 9 .str) (.sl 83 (.pair .str (.pair .bool (.sl 3 (.int .i64)))))))) (g_Vs_l20Disk_0 r0 r1 a2), .int .i64 (g_Vs_l20Disk_1 r0 r1 a2)], [[.sl .any 5 (.int .u8) (g_Vs_l20Disk_2 r0 r1 a2), .int .i64 (g_Vs_l20Disk_3 r0 r1 a2)]]) := by kernel_rfl
theorem ss_l20Disk : Sound Go.Proofs.Tryd.prog 71 mss_l20Disk Fs_l20Disk := by
  refine fn_gen goods_l20Disk (by kernel_rfl) .sh (fn := Go.Proofs.Tryd.f71) (c := (Go.Proofs.Tryd.f71.body.getD .skip)) (o := Os_l20Disk_2) (k := 2) (by kernel_rfl) (by kernel_rfl) (by kernel_rfl) (by kernel_rfl) (by decide) ks_l20Disk_2 ?_
  intro ys r outs h
  unfold Fs_l20Disk at h
  split at h
  · exact (vs_l20Disk _ _ _).trans h
  · cases h
end Go.Proofs.YtibafhmmnoijkaaDoor.E
end
section
namespace Go.Proofs.YtibafhmmnoijkaaDoor.E
open Go
set_option maxRecDepth 100000
set_option linter.all false
noncomputable def mss_l20DiskR : List PM := mss_l20Disk
theorem sames_l20Disk (r0 : List Int) (r1 : Int) (a2 : Int) : g_Vs_l20Disk_2 r0 r1 a2 = r0 := by
  unfold g_Vs_l20Disk_2
  simp only [Bool.cond_self]
noncomputable def Fs_l20DiskR : FSem := fun ys => match ys with
  | [.val true [.sl .any 5 (.int .u8) r0, .int .i64 r1], .val false [.int .i64 a2]] => some ((g_As_l20Disk r0 r1 a2), .val true [.own .any false 59 (.pair (.int .i64) (.pair (.int .i64) (.pair (.sl 9 .str) (.sl 83 (.pair .str (.pair .bool (.sl 3 (.int .i64)))))))) (g_Vs_l20Disk_0 r0 r1 a2), .int .i64 (g_Vs_l20Disk_1 r0 r1 a2)], [[.sl .any 5 (.int .u8) r0, .int .i64 (g_Vs_l20Disk_3 r0 r1 a2)]])
  | _ => none
theorem ss_l20DiskR : Sound Go.Proofs.Tryd.prog 71 mss_l20DiskR Fs_l20DiskR := by
  refine ⟨ss_l20Disk.fn, fun w S ψ ys vs r outs hF hh hg => ss_l20Disk.calls w S ψ ys vs r outs (Eq.trans ?_ hF) hh hg⟩
  unfold Fs_l20DiskR at hF ⊢
  split at hF
  · rename_i  r0 r1 a2
    show (some ((g_As_l20Disk r0 r1 a2), .val true [.own .any false 59 (.pair (.int .i64) (.pair (.int .i64) (.pair (.sl 9 .str) (.sl 83 (.pair .str (.pair .bool (.sl 3 (.int .i64)))))))) (g_Vs_l20Disk_0 r0 r1 a2), .int .i64 (g_Vs_l20Disk_1 r0 r1 a2)], [[.sl .any 5 (.int .u8) (g_Vs_l20Disk_2 r0 r1 a2), .int .i64 (g_Vs_l20Disk_3 r0 r1 a2)]]) : Option (Bool × RV × List (List Cell))) = _
    rw [sames_l20Disk]
  · cases hF
end Go.Proofs.YtibafhmmnoijkaaDoor.E
end
section
namespace Go.Proofs.YtibafhmmnoijkaaDoor.E
open Go
set_option maxRecDepth 100000
set_option maxHeartbeats 0
set_option linter.all false
noncomputable def Es_l20Open : Env where
  tt := mkTI Go.Proofs.Tryd.prog
  fn := fun _ => none
  bxf := fun _ => none
  mv := []
  keep := fun _ => []
  keepB := fun _ => []
  keepX := fun _ => []
  keepXB := fun _ => []
theorem goodFs_l20Open : ∀ f ms F, Es_l20Open.fn f = some (ms, F) → Sound Go.Proofs.Tryd.prog f ms F := fun f ms F h => by cases h
theorem goodBs_l20Open : ∀ f ms F, Es_l20Open.bxf f = some (ms, F) → SoundB Go.Proofs.Tryd.prog f ms F := fun f ms F h => by cases h
theorem goods_l20Open : Good Go.Proofs.Tryd.prog Es_l20Open := ⟨rfl, goodFs_l20Open, goodBs_l20Open⟩
noncomputable def Os_l20Open_0 : Orc := fun _ _ => none
noncomputable def mss_l20Open : List PM := [.fz]
noncomputable def lss_l20Open : List (Nat × Code) := loopsAll 0 (Go.Proofs.Tryd.f70.body.getD .skip)

theorem ks_l20Open_0 : OrcOk Es_l20Open Os_l20Open_0 lss_l20Open 0 := orcOk_none
noncomputable def g_As_l20Open (a0 : List (Int)) : Bool := Bool.rec (!decide ((↑(List.length a0) : Int) > (2000 : Int)) && true) true (decide ((0 : Int) ≤ (2000 : Int) ∧ (2000 : Int) ≤ (↑(List.length a0) : Int)) && true)
noncomputable def g_Vs_l20Open_0 (a0 : List (Int)) : List (Int) := bif decide ((↑(List.length a0) : Int) > (2000 : Int)) then List.drop (nat_lit 0) (List.take (nat_lit 2000) a0) else a0
noncomputable def g_Vs_l20Open_1 (a0 : List (Int)) : Int := bif decide ((↑(List.length a0) : Int) > (2000 : Int)) then (0 : Int) else (0 : Int)
noncomputable def Fs_l20Open : List RV → Option (Bool × List Cell × List (List Cell)) := fun ys => match ys with
  | [.val false [.sl .any 5 (.int .u8) a0]] => some ((g_As_l20Open a0), [.sl .any 5 (.int .u8) (g_Vs_l20Open_0 a0), .int .i64 (g_Vs_l20Open_1 a0)], [])
  | _ => none
theorem vs_l20Open (a0 : List (Int)) : collapse Es_l20Open Os_l20Open_0 (execFnB Es_l20Open Go.Proofs.Tryd.f70 mss_l20Open 2 [.val false [.sl .any 5 (.int .u8) a0]]) = some ((g_As_l20Open a0), .val true [.sl .any 5 (.int .u8) (g_Vs_l20Open_0 a0), .int .i64 (g_Vs_l20Open_1 a0)], []) := by kernel_rfl
theorem ss_l20Open : SoundB Go.Proofs.Tryd.prog 70 mss_l20Open Fs_l20Open := by
  refine fn_genB goods_l20Open (by kernel_rfl) (fn := Go.Proofs.Tryd.f70) (c := (Go.Proofs.Tryd.f70.body.getD .skip)) (o := Os_l20Open_0) (k := 0) (tr := 2) (by kernel_rfl) (by kernel_rfl) (by kernel_rfl) (by kernel_rfl) (by decide) (by kernel_rfl) (by decide) ks_l20Open_0 ?_
  intro ys r outs h
  unfold Fs_l20Open at h
  split at h
  · simp only [Option.some.injEq, Prod.mk.injEq] at h
    obtain ⟨h1, h2, h3⟩ := h
    refine ⟨h3.symm, (vs_l20Open _).trans ?_⟩
    rw [h1, h2]
  · cases h
end Go.Proofs.YtibafhmmnoijkaaDoor.E
end
section
namespace Go.Proofs.YtibafhmmnoijkaaDoor.E
open Go
set_option maxRecDepth 100000
set_option maxHeartbeats 0
set_option linter.all false
noncomputable def Es_DrawDiskOf : Env where
  tt := mkTI Go.Proofs.Tryd.prog
  fn := fun f => match f with
    | 71 => some (mss_l20DiskR, FSem.wk mss_l20DiskR Fs_l20DiskR)
    | 72 => some (mss_l20Rd_pick, FSem.wk mss_l20Rd_pick Fs_l20Rd_pick)
    | _ => none
  bxf := fun f => match f with
    | 70 => some (mss_l20Open, Fs_l20Open)
    | _ => none
  mv := []
  keep := fun _ => []
  keepB := fun _ => []
  keepX := fun _ => []
  keepXB := fun _ => []
theorem goodFs_DrawDiskOf : ∀ f ms F, Es_DrawDiskOf.fn f = some (ms, F) → Sound Go.Proofs.Tryd.prog f ms F := fun f ms F h => by
  unfold Es_DrawDiskOf at h
  dsimp only at h
  split at h
  · injection h with h; injection h with e1 e2; subst e1 e2; exact Sound.wk ss_l20DiskR
  · injection h with h; injection h with e1 e2; subst e1 e2; exact Sound.wk ss_l20Rd_pick
  · cases h
theorem goodBs_DrawDiskOf : ∀ f ms F, Es_DrawDiskOf.bxf f = some (ms, F) → SoundB Go.Proofs.Tryd.prog f ms F := fun f ms F h => by
  unfold Es_DrawDiskOf at h
  dsimp only at h
  split at h
  · injection h with h; injection h with e1 e2; subst e1 e2; exact ss_l20Open
  · cases h
theorem goods_DrawDiskOf : Good Go.Proofs.Tryd.prog Es_DrawDiskOf := ⟨rfl, goodFs_DrawDiskOf, goodBs_DrawDiskOf⟩
noncomputable def Os_DrawDiskOf_0 : Orc := fun _ _ => none
noncomputable def mss_DrawDiskOf : List PM := [.fz]
noncomputable def lss_DrawDiskOf : List (Nat × Code) := loopsAll 0 (Go.Proofs.Tryd.f28.body.getD .skip)

theorem ks_DrawDiskOf_0 : OrcOk Es_DrawDiskOf Os_DrawDiskOf_0 lss_DrawDiskOf 0 := orcOk_none
noncomputable def g_As_DrawDiskOf (a0 : List (Int)) : Bool := g_As_l20Open a0 && (g_As_l20Disk (g_Vs_l20Open_0 a0) (g_Vs_l20Open_1 a0) (9 : Int) && (g_pickA (g_Vs_l20Open_0 a0) (g_Vs_l20Disk_3 (g_Vs_l20Open_0 a0) (g_Vs_l20Open_1 a0) (9 : Int)) (7 : Int) && true))
noncomputable def g_Vs_DrawDiskOf_0 (a0 : List (Int)) : List ((Int) × ((Int) × ((List (ByteArray)) × (List ((ByteArray) × ((Bool) × (List (Int)))))))) := g_Vs_l20Disk_0 (g_Vs_l20Open_0 a0) (g_Vs_l20Open_1 a0) (9 : Int)
noncomputable def g_Vs_DrawDiskOf_1 (a0 : List (Int)) : Int := g_Vs_l20Disk_1 (g_Vs_l20Open_0 a0) (g_Vs_l20Open_1 a0) (9 : Int)
noncomputable def g_Vs_DrawDiskOf_2 (a0 : List (Int)) : Int := IntKind.wrap IntKind.i64 (g_pick (g_Vs_l20Open_0 a0) (g_Vs_l20Disk_3 (g_Vs_l20Open_0 a0) (g_Vs_l20Open_1 a0) (9 : Int)) (7 : Int) - (1 : Int))
noncomputable def Fs_DrawDiskOf : FSem := fun ys => match ys with
  | [.val false [.sl .any 5 (.int .u8) a0]] => some ((g_As_DrawDiskOf a0), .tup [(true, [.own .any false 59 (.pair (.int .i64) (.pair (.int .i64) (.pair (.sl 9 .str) (.sl 83 (.pair .str (.pair .bool (.sl 3 (.int .i64)))))))) (g_Vs_DrawDiskOf_0 a0), .int .i64 (g_Vs_DrawDiskOf_1 a0)]), (false, [.int .i64 (g_Vs_DrawDiskOf_2 a0)])], [])
  | _ => none
theorem vs_DrawDiskOf (a0 : List (Int)) : collapseH .std Es_DrawDiskOf Os_DrawDiskOf_0 (execFn Es_DrawDiskOf Go.Proofs.Tryd.f28 mss_DrawDiskOf [.val false [.sl .any 5 (.int .u8) a0]]) = some ((g_As_DrawDiskOf a0), .tup [(true, [.own .any false 59 (.pair (.int .i64) (.pair (.int .i64) (.pair (.sl 9 .str) (.sl 83 (.pair .str (.pair .bool (.sl 3 (.int .i64)))))))) (g_Vs_DrawDiskOf_0 a0), .int .i64 (g_Vs_DrawDiskOf_1 a0)]), (false, [.int .i64 (g_Vs_DrawDiskOf_2 a0)])], []) := by kernel_rfl
theorem ss_DrawDiskOf : Sound Go.Proofs.Tryd.prog 28 mss_DrawDiskOf Fs_DrawDiskOf := by
  refine fn_gen goods_DrawDiskOf (by kernel_rfl) .std (fn := Go.Proofs.Tryd.f28) (c := (Go.Proofs.Tryd.f28.body.getD .skip)) (o := Os_DrawDiskOf_0) (k := 0) (by kernel_rfl) (by kernel_rfl) (by kernel_rfl) (by kernel_rfl) (by decide) ks_DrawDiskOf_0 ?_
  intro ys r outs h
  unfold Fs_DrawDiskOf at h
  split at h
  · exact (vs_DrawDiskOf _).trans h
  · cases h
end Go.Proofs.YtibafhmmnoijkaaDoor.E
end
section
namespace Go.Proofs.YtibafhmmnoijkaaDoor.E
open Go
set_option maxRecDepth 100000
set_option maxHeartbeats 0
set_option linter.all false
noncomputable def Ew_jaOk : Env where
  tt := mkTI Go.Proofs.Tryd.prog
  fn := fun f => match f with
    | 75 => some (msi_WrtOk, FSem.wk msi_WrtOk Fi_WrtOk)
    | _ => none
  bxf := fun _ => none
  mv := []
  keep := fun _ => []
  keepB := fun _ => []
  keepX := fun _ => []
  keepXB := fun _ => []
theorem goodFw_jaOk : ∀ f ms F, Ew_jaOk.fn f = some (ms, F) → Sound Go.Proofs.Tryd.prog f ms F := fun f ms F h => by
  unfold Ew_jaOk at h
  dsimp only at h
  split at h
  · injection h with h; injection h with e1 e2; subst e1 e2; exact Sound.wk si_WrtOk
  · cases h
theorem goodBw_jaOk : ∀ f ms F, Ew_jaOk.bxf f = some (ms, F) → SoundB Go.Proofs.Tryd.prog f ms F := fun f ms F h => by cases h
theorem goodw_jaOk : Good Go.Proofs.Tryd.prog Ew_jaOk := ⟨rfl, goodFw_jaOk, goodBw_jaOk⟩
noncomputable def Ow_jaOk_0 : Orc := fun _ _ => none
noncomputable def msw_jaOk : List PM := []
noncomputable def lsw_jaOk : List (Nat × Code) := loopsAll 0 (Go.Proofs.Tryd.f31.body.getD .skip)

theorem kw_jaOk_0 : OrcOk Ew_jaOk Ow_jaOk_0 lsw_jaOk 0 := orcOk_none
noncomputable def g_Aw_jaOk : Bool := g_Ai_WrtOk (lit [(97 : Nat), (49 : Nat)]) false [(1 : Int)]
noncomputable def g_Vw_jaOk_0 : Bool := g_Vi_WrtOk_0 (lit [(97 : Nat), (49 : Nat)]) false [(1 : Int)]
noncomputable def Fw_jaOk : FSem := fun ys => match ys with
  | [] => some (g_Aw_jaOk, .val false [.bool g_Vw_jaOk_0], [])
  | _ => none
theorem vw_jaOk : collapseH .std Ew_jaOk Ow_jaOk_0 (execFn Ew_jaOk Go.Proofs.Tryd.f31 msw_jaOk []) = some (g_Aw_jaOk, .val false [.bool g_Vw_jaOk_0], []) := by kernel_rfl
theorem sw_jaOk : Sound Go.Proofs.Tryd.prog 31 msw_jaOk Fw_jaOk := by
  refine fn_gen goodw_jaOk (by kernel_rfl) .std (fn := Go.Proofs.Tryd.f31) (c := (Go.Proofs.Tryd.f31.body.getD .skip)) (o := Ow_jaOk_0) (k := 0) (by kernel_rfl) (by kernel_rfl) (by kernel_rfl) (by kernel_rfl) (by decide) kw_jaOk_0 ?_
  intro ys r outs h
  unfold Fw_jaOk at h
  split at h
  · exact (vw_jaOk).trans h
  · cases h
end Go.Proofs.YtibafhmmnoijkaaDoor.E
end
section
namespace Go.Proofs.YtibafhmmnoijkaaDoor.E
open Go
set_option maxRecDepth 100000
set_option maxHeartbeats 0
set_option linter.all false
noncomputable def Ew_FnDiskOf : Env where
  tt := mkTI Go.Proofs.Tryd.prog
  fn := fun f => match f with
    | 24 => some (mss_DiskOk, FSem.wk mss_DiskOk Fs_DiskOk)
    | 28 => some (mss_DrawDiskOf, FSem.wk mss_DrawDiskOf Fs_DrawDiskOf)
    | 29 => some (msi_DiskOf, FSem.wk msi_DiskOf Fi_DiskOf)
    | 30 => some (mss_DiskOf, FSem.wk mss_DiskOf Fs_DiskOf)
    | 31 => some (msw_jaOk, FSem.wk msw_jaOk Fw_jaOk)
    | 32 => some (msi_DiskAdd, FSem.wk msi_DiskAdd Fi_DiskAdd)
    | _ => none
  bxf := fun _ => none
  mv := []
  keep := fun _ => []
  keepB := fun _ => []
  keepX := fun _ => []
  keepXB := fun _ => []
theorem goodFw_FnDiskOf : ∀ f ms F, Ew_FnDiskOf.fn f = some (ms, F) → Sound Go.Proofs.Tryd.prog f ms F := fun f ms F h => by
  unfold Ew_FnDiskOf at h
  dsimp only at h
  split at h
  · injection h with h; injection h with e1 e2; subst e1 e2; exact Sound.wk ss_DiskOk
  · injection h with h; injection h with e1 e2; subst e1 e2; exact Sound.wk ss_DrawDiskOf
  · injection h with h; injection h with e1 e2; subst e1 e2; exact Sound.wk si_DiskOf
  · injection h with h; injection h with e1 e2; subst e1 e2; exact Sound.wk ss_DiskOf
  · injection h with h; injection h with e1 e2; subst e1 e2; exact Sound.wk sw_jaOk
  · injection h with h; injection h with e1 e2; subst e1 e2; exact Sound.wk si_DiskAdd
  · cases h
theorem goodBw_FnDiskOf : ∀ f ms F, Ew_FnDiskOf.bxf f = some (ms, F) → SoundB Go.Proofs.Tryd.prog f ms F := fun f ms F h => by cases h
theorem goodw_FnDiskOf : Good Go.Proofs.Tryd.prog Ew_FnDiskOf := ⟨rfl, goodFw_FnDiskOf, goodBw_FnDiskOf⟩
noncomputable def Ow_FnDiskOf_0 : Orc := fun _ _ => none
noncomputable def msw_FnDiskOf : List PM := [.rd]
noncomputable def lsw_FnDiskOf : List (Nat × Code) := loopsAll 0 (Go.Proofs.Tryd.f5.body.getD .skip)

theorem kw_FnDiskOf_0 : OrcOk Ew_FnDiskOf Ow_FnDiskOf_0 lsw_FnDiskOf 0 := orcOk_none
noncomputable def g_Aw_FnDiskOf (a0 : List (Int)) : Bool := decide ((↑(List.length a0) : Int) > (1048576 : Int)) || g_As_DrawDiskOf a0 && (g_Ai_DiskOf (g_Vs_DrawDiskOf_0 a0) (g_Vs_DrawDiskOf_1 a0) (g_Vs_DrawDiskOf_2 a0) && (g_As_DiskOf (g_Vs_DrawDiskOf_0 a0) (g_Vs_DrawDiskOf_1 a0) (g_Vs_DrawDiskOf_2 a0) && (g_Vi_DiskOf_0 (g_Vs_DrawDiskOf_0 a0) (g_Vs_DrawDiskOf_1 a0) (g_Vs_DrawDiskOf_2 a0) != g_Vs_DiskOf_0 (g_Vs_DrawDiskOf_0 a0) (g_Vs_DrawDiskOf_1 a0) (g_Vs_DrawDiskOf_2 a0) || g_As_DiskOk (g_Vs_DrawDiskOf_0 a0) (g_Vs_DrawDiskOf_1 a0) && bif !g_Vs_DiskOk_0 (g_Vs_DrawDiskOf_0 a0) (g_Vs_DrawDiskOf_1 a0) then !g_Vi_DiskOf_0 (g_Vs_DrawDiskOf_0 a0) (g_Vs_DrawDiskOf_1 a0) (g_Vs_DrawDiskOf_2 a0) == (0 : Int) || g_Aw_jaOk else bif decide (g_Vs_DrawDiskOf_2 a0 < (0 : Int)) then !g_Vi_DiskOf_0 (g_Vs_DrawDiskOf_0 a0) (g_Vs_DrawDiskOf_1 a0) (g_Vs_DrawDiskOf_2 a0) == (0 : Int) || g_Aw_jaOk else g_Ai_DiskAdd (g_Vs_DrawDiskOf_0 a0) (g_Vs_DrawDiskOf_1 a0) (3 : Int) (g_Vs_DrawDiskOf_2 a0) [] [] true && (g_Ai_DiskAdd (g_Vs_DrawDiskOf_0 a0) (g_Vs_DrawDiskOf_1 a0) (2 : Int) (IntKind.wrap IntKind.i64 (g_Vs_DrawDiskOf_2 a0 + (1 : Int))) [] [] true && (g_Ai_DiskAdd (g_Vs_DrawDiskOf_0 a0) (g_Vs_DrawDiskOf_1 a0) (4 : Int) (g_Vs_DrawDiskOf_2 a0) [] [] true && bif !g_Vi_DiskAdd_2 (g_Vs_DrawDiskOf_0 a0) (g_Vs_DrawDiskOf_1 a0) (3 : Int) (g_Vs_DrawDiskOf_2 a0) [] [] true then true else bif !g_Vi_DiskAdd_2 (g_Vs_DrawDiskOf_0 a0) (g_Vs_DrawDiskOf_1 a0) (2 : Int) (IntKind.wrap IntKind.i64 (g_Vs_DrawDiskOf_2 a0 + (1 : Int))) [] [] true then true else bif !g_Vi_DiskAdd_2 (g_Vs_DrawDiskOf_0 a0) (g_Vs_DrawDiskOf_1 a0) (4 : Int) (g_Vs_DrawDiskOf_2 a0) [] [] true then true else g_Ai_DiskOf (g_Vi_DiskAdd_0 (g_Vs_DrawDiskOf_0 a0) (g_Vs_DrawDiskOf_1 a0) (3 : Int) (g_Vs_DrawDiskOf_2 a0) [] [] true) (g_Vi_DiskAdd_1 (g_Vs_DrawDiskOf_0 a0) (g_Vs_DrawDiskOf_1 a0) (3 : Int) (g_Vs_DrawDiskOf_2 a0) [] [] true) (g_Vs_DrawDiskOf_2 a0) && (!g_Vi_DiskOf_0 (g_Vi_DiskAdd_0 (g_Vs_DrawDiskOf_0 a0) (g_Vs_DrawDiskOf_1 a0) (3 : Int) (g_Vs_DrawDiskOf_2 a0) [] [] true) (g_Vi_DiskAdd_1 (g_Vs_DrawDiskOf_0 a0) (g_Vs_DrawDiskOf_1 a0) (3 : Int) (g_Vs_DrawDiskOf_2 a0) [] [] true) (g_Vs_DrawDiskOf_2 a0) == (3 : Int) || g_Ai_DiskOf (g_Vi_DiskAdd_0 (g_Vs_DrawDiskOf_0 a0) (g_Vs_DrawDiskOf_1 a0) (2 : Int) (IntKind.wrap IntKind.i64 (g_Vs_DrawDiskOf_2 a0 + (1 : Int))) [] [] true) (g_Vi_DiskAdd_1 (g_Vs_DrawDiskOf_0 a0) (g_Vs_DrawDiskOf_1 a0) (2 : Int) (IntKind.wrap IntKind.i64 (g_Vs_DrawDiskOf_2 a0 + (1 : Int))) [] [] true) (g_Vs_DrawDiskOf_2 a0) && (!g_Vi_DiskOf_0 (g_Vi_DiskAdd_0 (g_Vs_DrawDiskOf_0 a0) (g_Vs_DrawDiskOf_1 a0) (2 : Int) (IntKind.wrap IntKind.i64 (g_Vs_DrawDiskOf_2 a0 + (1 : Int))) [] [] true) (g_Vi_DiskAdd_1 (g_Vs_DrawDiskOf_0 a0) (g_Vs_DrawDiskOf_1 a0) (2 : Int) (IntKind.wrap IntKind.i64 (g_Vs_DrawDiskOf_2 a0 + (1 : Int))) [] [] true) (g_Vs_DrawDiskOf_2 a0) == g_Vi_DiskOf_0 (g_Vs_DrawDiskOf_0 a0) (g_Vs_DrawDiskOf_1 a0) (g_Vs_DrawDiskOf_2 a0) || g_Ai_DiskOf (g_Vi_DiskAdd_0 (g_Vs_DrawDiskOf_0 a0) (g_Vs_DrawDiskOf_1 a0) (4 : Int) (g_Vs_DrawDiskOf_2 a0) [] [] true) (g_Vi_DiskAdd_1 (g_Vs_DrawDiskOf_0 a0) (g_Vs_DrawDiskOf_1 a0) (4 : Int) (g_Vs_DrawDiskOf_2 a0) [] [] true) (g_Vs_DrawDiskOf_2 a0) && true)))))))
noncomputable def g_Vw_FnDiskOf_0 (a0 : List (Int)) : Bool := bif decide ((↑(List.length a0) : Int) > (1048576 : Int)) then true else bif g_Vi_DiskOf_0 (g_Vs_DrawDiskOf_0 a0) (g_Vs_DrawDiskOf_1 a0) (g_Vs_DrawDiskOf_2 a0) != g_Vs_DiskOf_0 (g_Vs_DrawDiskOf_0 a0) (g_Vs_DrawDiskOf_1 a0) (g_Vs_DrawDiskOf_2 a0) then false else bif !g_Vs_DiskOk_0 (g_Vs_DrawDiskOf_0 a0) (g_Vs_DrawDiskOf_1 a0) then bif g_Vi_DiskOf_0 (g_Vs_DrawDiskOf_0 a0) (g_Vs_DrawDiskOf_1 a0) (g_Vs_DrawDiskOf_2 a0) == (0 : Int) then g_Vw_jaOk_0 else false else bif decide (g_Vs_DrawDiskOf_2 a0 < (0 : Int)) then bif g_Vi_DiskOf_0 (g_Vs_DrawDiskOf_0 a0) (g_Vs_DrawDiskOf_1 a0) (g_Vs_DrawDiskOf_2 a0) == (0 : Int) then g_Vw_jaOk_0 else false else bif !g_Vi_DiskAdd_2 (g_Vs_DrawDiskOf_0 a0) (g_Vs_DrawDiskOf_1 a0) (3 : Int) (g_Vs_DrawDiskOf_2 a0) [] [] true then (↑(List.length (g_Vs_DrawDiskOf_0 a0)) : Int) == (120 : Int) else bif !g_Vi_DiskAdd_2 (g_Vs_DrawDiskOf_0 a0) (g_Vs_DrawDiskOf_1 a0) (2 : Int) (IntKind.wrap IntKind.i64 (g_Vs_DrawDiskOf_2 a0 + (1 : Int))) [] [] true then (↑(List.length (g_Vs_DrawDiskOf_0 a0)) : Int) == (120 : Int) else bif !g_Vi_DiskAdd_2 (g_Vs_DrawDiskOf_0 a0) (g_Vs_DrawDiskOf_1 a0) (4 : Int) (g_Vs_DrawDiskOf_2 a0) [] [] true then (↑(List.length (g_Vs_DrawDiskOf_0 a0)) : Int) == (120 : Int) else bif g_Vi_DiskOf_0 (g_Vi_DiskAdd_0 (g_Vs_DrawDiskOf_0 a0) (g_Vs_DrawDiskOf_1 a0) (3 : Int) (g_Vs_DrawDiskOf_2 a0) [] [] true) (g_Vi_DiskAdd_1 (g_Vs_DrawDiskOf_0 a0) (g_Vs_DrawDiskOf_1 a0) (3 : Int) (g_Vs_DrawDiskOf_2 a0) [] [] true) (g_Vs_DrawDiskOf_2 a0) == (3 : Int) then bif g_Vi_DiskOf_0 (g_Vi_DiskAdd_0 (g_Vs_DrawDiskOf_0 a0) (g_Vs_DrawDiskOf_1 a0) (2 : Int) (IntKind.wrap IntKind.i64 (g_Vs_DrawDiskOf_2 a0 + (1 : Int))) [] [] true) (g_Vi_DiskAdd_1 (g_Vs_DrawDiskOf_0 a0) (g_Vs_DrawDiskOf_1 a0) (2 : Int) (IntKind.wrap IntKind.i64 (g_Vs_DrawDiskOf_2 a0 + (1 : Int))) [] [] true) (g_Vs_DrawDiskOf_2 a0) == g_Vi_DiskOf_0 (g_Vs_DrawDiskOf_0 a0) (g_Vs_DrawDiskOf_1 a0) (g_Vs_DrawDiskOf_2 a0) then g_Vi_DiskOf_0 (g_Vi_DiskAdd_0 (g_Vs_DrawDiskOf_0 a0) (g_Vs_DrawDiskOf_1 a0) (4 : Int) (g_Vs_DrawDiskOf_2 a0) [] [] true) (g_Vi_DiskAdd_1 (g_Vs_DrawDiskOf_0 a0) (g_Vs_DrawDiskOf_1 a0) (4 : Int) (g_Vs_DrawDiskOf_2 a0) [] [] true) (g_Vs_DrawDiskOf_2 a0) == g_Vi_DiskOf_0 (g_Vs_DrawDiskOf_0 a0) (g_Vs_DrawDiskOf_1 a0) (g_Vs_DrawDiskOf_2 a0) else false else false
noncomputable def Fw_FnDiskOf : FSem := fun ys => match ys with
  | [.val false [.sl .any 5 (.int .u8) a0]] => some ((g_Aw_FnDiskOf a0), .val false [.bool (g_Vw_FnDiskOf_0 a0)], [])
  | _ => none
theorem vw_FnDiskOf (a0 : List (Int)) : collapseH .std Ew_FnDiskOf Ow_FnDiskOf_0 (execFn Ew_FnDiskOf Go.Proofs.Tryd.f5 msw_FnDiskOf [.val false [.sl .any 5 (.int .u8) a0]]) = some ((g_Aw_FnDiskOf a0), .val false [.bool (g_Vw_FnDiskOf_0 a0)], []) := by kernel_rfl
theorem sw_FnDiskOf : Sound Go.Proofs.Tryd.prog 5 msw_FnDiskOf Fw_FnDiskOf := by
  refine fn_gen goodw_FnDiskOf (by kernel_rfl) .std (fn := Go.Proofs.Tryd.f5) (c := (Go.Proofs.Tryd.f5.body.getD .skip)) (o := Ow_FnDiskOf_0) (k := 0) (by kernel_rfl) (by kernel_rfl) (by kernel_rfl) (by kernel_rfl) (by decide) kw_FnDiskOf_0 ?_
  intro ys r outs h
  unfold Fw_FnDiskOf at h
  split at h
  · exact (vw_FnDiskOf _).trans h
  · cases h
end Go.Proofs.YtibafhmmnoijkaaDoor.E
end
