/- What the functions that are reached do, by the engine: for the proof (laws.FnOpPlaces): part 3. No conditions. -/
import Derived.Test.YtopoiinmhajhmaaDoorGb
import Derived.Test.YtopoiinmhajhmaaDoorProg
import Derived.Test.YtopoiinmhajhmaaDoorShelf
set_option linter.all false
section
namespace Go.Proofs.YtopoiinmhajhmaaDoor.E
open Go
set_option maxRecDepth 100000
set_option maxHeartbeats 0
set_option linter.all false
noncomputable def Es_l20Open : Env where
  tt := mkTI Go.Proofs.Tryd.prog
  fn := fun _ => none
  bxf := fun _ => none
  mv := []
  keep := fun _ => []
  keepB := fun _ => []
  keepX := fun _ => []
  keepXB := fun _ => []
theorem goodFs_l20Open : ∀ f ms F, Es_l20Open.fn f = some (ms, F) → Sound Go.Proofs.Tryd.prog f ms F := fun f ms F h => by cases h
theorem goodBs_l20Open : ∀ f ms F, Es_l20Open.bxf f = some (ms, F) → SoundB Go.Proofs.Tryd.prog f ms F := fun f ms F h => by cases h
theorem goods_l20Open : Good Go.Proofs.Tryd.prog Es_l20Open := ⟨rfl, goodFs_l20Open, goodBs_l20Open⟩
noncomputable def Os_l20Open_0 : Orc := fun _ _ => none
noncomputable def mss_l20Open : List PM := [.fz]
noncomputable def lss_l20Open : List (Nat × Code) := loopsAll 0 (Go.Proofs.Tryd.f58.body.getD .skip)

theorem ks_l20Open_0 : OrcOk Es_l20Open Os_l20Open_0 lss_l20Open 0 := orcOk_none
noncomputable def g_As_l20Open (a0 : List (Int)) : Bool := Bool.rec (!decide ((↑(List.length a0) : Int) > (2000 : Int)) && true) true (decide ((0 : Int) ≤ (2000 : Int) ∧ (2000 : Int) ≤ (↑(List.length a0) : Int)) && true)
noncomputable def g_Vs_l20Open_0 (a0 : List (Int)) : List (Int) := bif decide ((↑(List.length a0) : Int) > (2000 : Int)) then List.drop (nat_lit 0) (List.take (nat_lit 2000) a0) else a0
noncomputable def g_Vs_l20Open_1 (a0 : List (Int)) : Int := bif decide ((↑(List.length a0) : Int) > (2000 : Int)) then (0 : Int) else (0 : Int)
noncomputable def Fs_l20Open : List RV → Option (Bool × List Cell × List (List Cell)) := fun ys => match ys with
  | [.val false [.sl .any 5 (.int .u8) a0]] => some ((g_As_l20Open a0), [.sl .any 5 (.int .u8) (g_Vs_l20Open_0 a0), .int .i64 (g_Vs_l20Open_1 a0)], [])
  | _ => none
theorem vs_l20Open (a0 : List (Int)) : collapse Es_l20Open Os_l20Open_0 (execFnB Es_l20Open Go.Proofs.Tryd.f58 mss_l20Open 2 [.val false [.sl .any 5 (.int .u8) a0]]) = some ((g_As_l20Open a0), .val true [.sl .any 5 (.int .u8) (g_Vs_l20Open_0 a0), .int .i64 (g_Vs_l20Open_1 a0)], []) := by kernel_rfl
theorem ss_l20Open : SoundB Go.Proofs.Tryd.prog 58 mss_l20Open Fs_l20Open := by
  refine fn_genB goods_l20Open (by kernel_rfl) (fn := Go.Proofs.Tryd.f58) (c := (Go.Proofs.Tryd.f58.body.getD .skip)) (o := Os_l20Open_0) (k := 0) (tr := 2) (by kernel_rfl) (by kernel_rfl) (by kernel_rfl) (by kernel_rfl) (by decide) (by kernel_rfl) (by decide) ks_l20Open_0 ?_
  intro ys r outs h
  unfold Fs_l20Open at h
  split at h
  · simp only [Option.some.injEq, Prod.mk.injEq] at h
    obtain ⟨h1, h2, h3⟩ := h
    refine ⟨h3.symm, (vs_l20Open _).trans ?_⟩
    rw [h1, h2]
  · cases h
end Go.Proofs.YtopoiinmhajhmaaDoor.E
end
section
namespace Go.Proofs.YtopoiinmhajhmaaDoor.E
open Go
set_option maxRecDepth 100000
set_option maxHeartbeats 0
set_option linter.all false
noncomputable def Es_DrawOpPlaces : Env where
  tt := mkTI Go.Proofs.Tryd.prog
  fn := fun f => match f with
    | 69 => some (mss_l20Op, FSem.wk mss_l20Op Fs_l20Op)
    | _ => none
  bxf := fun f => match f with
    | 58 => some (mss_l20Open, Fs_l20Open)
    | _ => none
  mv := []
  keep := fun _ => []
  keepB := fun _ => []
  keepX := fun _ => []
  keepXB := fun _ => []
theorem goodFs_DrawOpPlaces : ∀ f ms F, Es_DrawOpPlaces.fn f = some (ms, F) → Sound Go.Proofs.Tryd.prog f ms F := fun f ms F h => by
  unfold Es_DrawOpPlaces at h
  dsimp only at h
  split at h
  · injection h with h; injection h with e1 e2; subst e1 e2; exact Sound.wk ss_l20Op
  · cases h
theorem goodBs_DrawOpPlaces : ∀ f ms F, Es_DrawOpPlaces.bxf f = some (ms, F) → SoundB Go.Proofs.Tryd.prog f ms F := fun f ms F h => by
  unfold Es_DrawOpPlaces at h
  dsimp only at h
  split at h
  · injection h with h; injection h with e1 e2; subst e1 e2; exact ss_l20Open
  · cases h
theorem goods_DrawOpPlaces : Good Go.Proofs.Tryd.prog Es_DrawOpPlaces := ⟨rfl, goodFs_DrawOpPlaces, goodBs_DrawOpPlaces⟩
noncomputable def Os_DrawOpPlaces_0 : Orc := fun _ _ => none
noncomputable def mss_DrawOpPlaces : List PM := [.rd]
noncomputable def lss_DrawOpPlaces : List (Nat × Code) := loopsAll 0 (Go.Proofs.Tryd.f28.body.getD .skip)

theorem ks_DrawOpPlaces_0 : OrcOk Es_DrawOpPlaces Os_DrawOpPlaces_0 lss_DrawOpPlaces 0 := orcOk_none
noncomputable def g_As_DrawOpPlaces (a0 : List (Int)) : Bool := g_As_l20Open a0 && g_As_l20Op (g_Vs_l20Open_0 a0) (g_Vs_l20Open_1 a0) (6 : Int)
noncomputable def g_Vs_DrawOpPlaces_0 (a0 : List (Int)) : Int := g_Vs_l20Op_0 (g_Vs_l20Open_0 a0) (g_Vs_l20Open_1 a0) (6 : Int)
noncomputable def g_Vs_DrawOpPlaces_1 (a0 : List (Int)) : Int := g_Vs_l20Op_1 (g_Vs_l20Open_0 a0) (g_Vs_l20Open_1 a0) (6 : Int)
noncomputable def g_Vs_DrawOpPlaces_2 (a0 : List (Int)) : Int := g_Vs_l20Op_2 (g_Vs_l20Open_0 a0) (g_Vs_l20Open_1 a0) (6 : Int)
noncomputable def g_Vs_DrawOpPlaces_3 (a0 : List (Int)) : Int := g_Vs_l20Op_3 (g_Vs_l20Open_0 a0) (g_Vs_l20Open_1 a0) (6 : Int)
noncomputable def g_Vs_DrawOpPlaces_4 (a0 : List (Int)) : Int := g_Vs_l20Op_4 (g_Vs_l20Open_0 a0) (g_Vs_l20Open_1 a0) (6 : Int)
noncomputable def g_Vs_DrawOpPlaces_5 (a0 : List (Int)) : Int := g_Vs_l20Op_5 (g_Vs_l20Open_0 a0) (g_Vs_l20Open_1 a0) (6 : Int)
noncomputable def g_Vs_DrawOpPlaces_6 (a0 : List (Int)) : Int := g_Vs_l20Op_6 (g_Vs_l20Open_0 a0) (g_Vs_l20Open_1 a0) (6 : Int)
noncomputable def Fs_DrawOpPlaces : FSem := fun ys => match ys with
  | [.val false [.sl .any 5 (.int .u8) a0]] => some ((g_As_DrawOpPlaces a0), .val true [.int .i64 (g_Vs_DrawOpPlaces_0 a0), .int .i64 (g_Vs_DrawOpPlaces_1 a0), .int .i64 (g_Vs_DrawOpPlaces_2 a0), .int .i64 (g_Vs_DrawOpPlaces_3 a0), .int .i64 (g_Vs_DrawOpPlaces_4 a0), .int .i64 (g_Vs_DrawOpPlaces_5 a0), .int .i64 (g_Vs_DrawOpPlaces_6 a0)], [])
  | _ => none
theorem vs_DrawOpPlaces (a0 : List (Int)) : collapseH .std Es_DrawOpPlaces Os_DrawOpPlaces_0 (execFn Es_DrawOpPlaces Go.Proofs.Tryd.f28 mss_DrawOpPlaces [.val false [.sl .any 5 (.int .u8) a0]]) = some ((g_As_DrawOpPlaces a0), .val true [.int .i64 (g_Vs_DrawOpPlaces_0 a0), .int .i64 (g_Vs_DrawOpPlaces_1 a0), .int .i64 (g_Vs_DrawOpPlaces_2 a0), .int .i64 (g_Vs_DrawOpPlaces_3 a0), .int .i64 (g_Vs_DrawOpPlaces_4 a0), .int .i64 (g_Vs_DrawOpPlaces_5 a0), .int .i64 (g_Vs_DrawOpPlaces_6 a0)], []) := by kernel_rfl
theorem ss_DrawOpPlaces : Sound Go.Proofs.Tryd.prog 28 mss_DrawOpPlaces Fs_DrawOpPlaces := by
  refine fn_gen goods_DrawOpPlaces (by kernel_rfl) .std (fn := Go.Proofs.Tryd.f28) (c := (Go.Proofs.Tryd.f28.body.getD .skip)) (o := Os_DrawOpPlaces_0) (k := 0) (by kernel_rfl) (by kernel_rfl) (by kernel_rfl) (by kernel_rfl) (by decide) ks_DrawOpPlaces_0 ?_
  intro ys r outs h
  unfold Fs_DrawOpPlaces at h
  split at h
  · exact (vs_DrawOpPlaces _).trans h
  · cases h
end Go.Proofs.YtopoiinmhajhmaaDoor.E
end
section
namespace Go.Proofs.YtopoiinmhajhmaaDoor.E
open Go
set_option maxRecDepth 100000
set_option maxHeartbeats 0
set_option linter.all false
noncomputable def Es_l1In : Env where
  tt := mkTI Go.Proofs.Tryd.prog
  fn := fun _ => none
  bxf := fun _ => none
  mv := []
  keep := fun _ => []
  keepB := fun _ => []
  keepX := fun _ => []
  keepXB := fun _ => []
theorem goodFs_l1In : ∀ f ms F, Es_l1In.fn f = some (ms, F) → Sound Go.Proofs.Tryd.prog f ms F := fun f ms F h => by cases h
theorem goodBs_l1In : ∀ f ms F, Es_l1In.bxf f = some (ms, F) → SoundB Go.Proofs.Tryd.prog f ms F := fun f ms F h => by cases h
theorem goods_l1In : Good Go.Proofs.Tryd.prog Es_l1In := ⟨rfl, goodFs_l1In, goodBs_l1In⟩
noncomputable def Os_l1In_0 : Orc := fun _ _ => none
noncomputable def mss_l1In : List PM := [.own, .own, .own]
noncomputable def lss_l1In : List (Nat × Code) := loopsAll 0 (Go.Proofs.Tryd.f61.body.getD .skip)

theorem ks_l1In_0 : OrcOk Es_l1In Os_l1In_0 lss_l1In 0 := orcOk_none
noncomputable def g_As_l1In (a0 : Int) (a1 : Int) (a2 : Int) : Bool := !decide (a0 ≥ a1) || true
noncomputable def g_Vs_l1In_0 (a0 : Int) (a1 : Int) (a2 : Int) : Bool := bif decide (a0 ≥ a1) then decide (a0 ≤ a2) else false
noncomputable def Fs_l1In : FSem := fun ys => match ys with
  | [.val false [.int .i64 a0], .val false [.int .i64 a1], .val false [.int .i64 a2]] => some ((g_As_l1In a0 a1 a2), .val false [.bool (g_Vs_l1In_0 a0 a1 a2)], [])
  | _ => none
theorem vs_l1In (a0 : Int) (a1 : Int) (a2 : Int) : collapseH .std Es_l1In Os_l1In_0 (execFn Es_l1In Go.Proofs.Tryd.f61 mss_l1In [.val false [.int .i64 a0], .val false [.int .i64 a1], .val false [.int .i64 a2]]) = some ((g_As_l1In a0 a1 a2), .val false [.bool (g_Vs_l1In_0 a0 a1 a2)], []) := by kernel_rfl
theorem ss_l1In : Sound Go.Proofs.Tryd.prog 61 mss_l1In Fs_l1In := by
  refine fn_gen goods_l1In (by kernel_rfl) .std (fn := Go.Proofs.Tryd.f61) (c := (Go.Proofs.Tryd.f61.body.getD .skip)) (o := Os_l1In_0) (k := 0) (by kernel_rfl) (by kernel_rfl) (by kernel_rfl) (by kernel_rfl) (by decide) ks_l1In_0 ?_
  intro ys r outs h
  unfold Fs_l1In at h
  split at h
  · exact (vs_l1In _ _ _).trans h
  · cases h
end Go.Proofs.YtopoiinmhajhmaaDoor.E
end
section
namespace Go.Proofs.YtopoiinmhajhmaaDoor.E
open Go
set_option maxRecDepth 100000
set_option maxHeartbeats 0
set_option linter.all false
noncomputable def Es_OpOk : Env where
  tt := mkTI Go.Proofs.Tryd.prog
  fn := fun f => match f with
    | 61 => some (mss_l1In, FSem.wk mss_l1In Fs_l1In)
    | _ => none
  bxf := fun _ => none
  mv := []
  keep := fun _ => []
  keepB := fun _ => []
  keepX := fun _ => []
  keepXB := fun _ => []
theorem goodFs_OpOk : ∀ f ms F, Es_OpOk.fn f = some (ms, F) → Sound Go.Proofs.Tryd.prog f ms F := fun f ms F h => by
  unfold Es_OpOk at h
  dsimp only at h
  split at h
  · injection h with h; injection h with e1 e2; subst e1 e2; exact Sound.wk ss_l1In
  · cases h
theorem goodBs_OpOk : ∀ f ms F, Es_OpOk.bxf f = some (ms, F) → SoundB Go.Proofs.Tryd.prog f ms F := fun f ms F h => by cases h
theorem goods_OpOk : Good Go.Proofs.Tryd.prog Es_OpOk := ⟨rfl, goodFs_OpOk, goodBs_OpOk⟩
noncomputable def Os_OpOk_0 : Orc := fun _ _ => none
noncomputable def mss_OpOk : List PM := [.own]
noncomputable def lss_OpOk : List (Nat × Code) := loopsAll 0 (Go.Proofs.Tryd.f26.body.getD .skip)

theorem ks_OpOk_0 : OrcOk Es_OpOk Os_OpOk_0 lss_OpOk 0 := orcOk_none
noncomputable def g_As_OpOk (a0 : Int) (a1 : Int) (a2 : Int) (a3 : Int) (a4 : Int) (a5 : Int) (a6 : Int) : Bool := g_As_l1In a1 (0 : Int) (9 : Int) && (!g_Vs_l1In_0 a1 (0 : Int) (9 : Int) || g_As_l1In a2 (0 : Int) (9 : Int) && (!g_Vs_l1In_0 a2 (0 : Int) (9 : Int) || g_As_l1In a3 (0 : Int) (9 : Int) && (!g_Vs_l1In_0 a3 (0 : Int) (9 : Int) || g_As_l1In a4 (0 : Int) (99 : Int) && (!g_Vs_l1In_0 a4 (0 : Int) (99 : Int) || g_As_l1In a5 (0 : Int) (9 : Int) && (!g_Vs_l1In_0 a5 (0 : Int) (9 : Int) || g_As_l1In a6 (0 : Int) (99 : Int) && (!g_Vs_l1In_0 a6 (0 : Int) (99 : Int) || bif a0 == (1 : Int) then bif a0 == (1 : Int) then !a3 == (0 : Int) || (!a4 == (0 : Int) || (!a5 == (0 : Int) || true)) else bif a0 == (2 : Int) then !a5 == (0 : Int) || true else bif a0 == (3 : Int) then !a1 == (0 : Int) || (!a2 == (0 : Int) || true) else !a0 == (4 : Int) || (!a1 == (0 : Int) || (!a2 == (0 : Int) || (!a3 == (0 : Int) || true))) else bif a0 == (5 : Int) then !a3 == (0 : Int) || (!a4 == (0 : Int) || (!a5 == (0 : Int) || true)) else bif a0 == (2 : Int) then !a5 == (0 : Int) || true else bif a0 == (3 : Int) then !a1 == (0 : Int) || (!a2 == (0 : Int) || true) else !a0 == (4 : Int) || (!a1 == (0 : Int) || (!a2 == (0 : Int) || (!a3 == (0 : Int) || true)))))))))
noncomputable def g_Vs_OpOk_0 (a0 : Int) (a1 : Int) (a2 : Int) (a3 : Int) (a4 : Int) (a5 : Int) (a6 : Int) : Bool := bif !g_Vs_l1In_0 a1 (0 : Int) (9 : Int) then false else bif !g_Vs_l1In_0 a2 (0 : Int) (9 : Int) then false else bif !g_Vs_l1In_0 a3 (0 : Int) (9 : Int) then false else bif !g_Vs_l1In_0 a4 (0 : Int) (99 : Int) then false else bif !g_Vs_l1In_0 a5 (0 : Int) (9 : Int) then false else bif !g_Vs_l1In_0 a6 (0 : Int) (99 : Int) then false else bif a0 == (1 : Int) then bif a0 == (1 : Int) then bif a3 == (0 : Int) then bif a4 == (0 : Int) then bif a5 == (0 : Int) then a6 == (0 : Int) else false else false else false else bif a0 == (2 : Int) then bif a5 == (0 : Int) then a6 == (0 : Int) else false else bif a0 == (3 : Int) then bif a1 == (0 : Int) then bif a2 == (0 : Int) then a6 == (0 : Int) else false else false else bif a0 == (4 : Int) then bif a1 == (0 : Int) then bif a2 == (0 : Int) then bif a3 == (0 : Int) then a4 == (0 : Int) else false else false else false else false else bif a0 == (5 : Int) then bif a3 == (0 : Int) then bif a4 == (0 : Int) then bif a5 == (0 : Int) then a6 == (0 : Int) else false else false else false else bif a0 == (2 : Int) then bif a5 == (0 : Int) then a6 == (0 : Int) else false else bif a0 == (3 : Int) then bif a1 == (0 : Int) then bif a2 == (0 : Int) then a6 == (0 : Int) else false else false else bif a0 == (4 : Int) then bif a1 == (0 : Int) then bif a2 == (0 : Int) then bif a3 == (0 : Int) then a4 == (0 : Int) else false else false else false else false
noncomputable def Fs_OpOk : FSem := fun ys => match ys with
  | [.val true [.int .i64 a0, .int .i64 a1, .int .i64 a2, .int .i64 a3, .int .i64 a4, .int .i64 a5, .int .i64 a6]] => some ((g_As_OpOk a0 a1 a2 a3 a4 a5 a6), .val false [.bool (g_Vs_OpOk_0 a0 a1 a2 a3 a4 a5 a6)], [])
  | _ => none
theorem vs_OpOk (a0 : Int) (a1 : Int) (a2 : Int) (a3 : Int) (a4 : Int) (a5 : Int) (a6 : Int) : collapseH .std Es_OpOk Os_OpOk_0 (execFn Es_OpOk Go.Proofs.Tryd.f26 mss_OpOk [.val true [.int .i64 a0, .int .i64 a1, .int .i64 a2, .int .i64 a3, .int .i64 a4, .int .i64 a5, .int .i64 a6]]) = some ((g_As_OpOk a0 a1 a2 a3 a4 a5 a6), .val false [.bool (g_Vs_OpOk_0 a0 a1 a2 a3 a4 a5 a6)], []) := by kernel_rfl
theorem ss_OpOk : Sound Go.Proofs.Tryd.prog 26 mss_OpOk Fs_OpOk := by
  refine fn_gen goods_OpOk (by kernel_rfl) .std (fn := Go.Proofs.Tryd.f26) (c := (Go.Proofs.Tryd.f26.body.getD .skip)) (o := Os_OpOk_0) (k := 0) (by kernel_rfl) (by kernel_rfl) (by kernel_rfl) (by kernel_rfl) (by decide) ks_OpOk_0 ?_
  intro ys r outs h
  unfold Fs_OpOk at h
  split at h
  · exact (vs_OpOk _ _ _ _ _ _ _).trans h
  · cases h
end Go.Proofs.YtopoiinmhajhmaaDoor.E
end
section
namespace Go.Proofs.YtopoiinmhajhmaaDoor.E
open Go
set_option maxRecDepth 100000
set_option maxHeartbeats 0
set_option linter.all false
noncomputable def Es_OpPlaces : Env where
  tt := mkTI Go.Proofs.Tryd.prog
  fn := fun f => match f with
    | 26 => some (mss_OpOk, FSem.wk mss_OpOk Fs_OpOk)
    | _ => none
  bxf := fun _ => none
  mv := []
  keep := fun _ => []
  keepB := fun _ => []
  keepX := fun _ => []
  keepXB := fun _ => []
theorem goodFs_OpPlaces : ∀ f ms F, Es_OpPlaces.fn f = some (ms, F) → Sound Go.Proofs.Tryd.prog f ms F := fun f ms F h => by
  unfold Es_OpPlaces at h
  dsimp only at h
  split at h
  · injection h with h; injection h with e1 e2; subst e1 e2; exact Sound.wk ss_OpOk
  · cases h
theorem goodBs_OpPlaces : ∀ f ms F, Es_OpPlaces.bxf f = some (ms, F) → SoundB Go.Proofs.Tryd.prog f ms F := fun f ms F h => by cases h
theorem goods_OpPlaces : Good Go.Proofs.Tryd.prog Es_OpPlaces := ⟨rfl, goodFs_OpPlaces, goodBs_OpPlaces⟩
noncomputable def Os_OpPlaces_0 : Orc := fun _ _ => none
noncomputable def mss_OpPlaces : List PM := [.own]
noncomputable def lss_OpPlaces : List (Nat × Code) := loopsAll 0 (Go.Proofs.Tryd.f31.body.getD .skip)

theorem ks_OpPlaces_0 : OrcOk Es_OpPlaces Os_OpPlaces_0 lss_OpPlaces 0 := orcOk_none
noncomputable def g_As_OpPlaces (a0 : Int) (a1 : Int) (a2 : Int) (a3 : Int) (a4 : Int) (a5 : Int) (a6 : Int) : Bool := g_As_OpOk a0 a1 a2 a3 a4 a5 a6 && (!g_Vs_OpOk_0 a0 a1 a2 a3 a4 a5 a6 || (a0 == (1 : Int) || (a0 == (2 : Int) || true)))
noncomputable def g_Vs_OpPlaces_0 (a0 : Int) (a1 : Int) (a2 : Int) (a3 : Int) (a4 : Int) (a5 : Int) (a6 : Int) : List (Int) := bif !g_Vs_OpOk_0 a0 a1 a2 a3 a4 a5 a6 then [] else bif a0 == (1 : Int) then [(1 : Int), (3 : Int)] else bif a0 == (2 : Int) then bif a0 == (2 : Int) then [(1 : Int), (2 : Int), (3 : Int)] else [(2 : Int), (3 : Int)] else bif a0 == (5 : Int) then [(1 : Int), (2 : Int), (3 : Int)] else [(2 : Int), (3 : Int)]
noncomputable def Fs_OpPlaces : FSem := fun ys => match ys with
  | [.val true [.int .i64 a0, .int .i64 a1, .int .i64 a2, .int .i64 a3, .int .i64 a4, .int .i64 a5, .int .i64 a6]] => some ((g_As_OpPlaces a0 a1 a2 a3 a4 a5 a6), .val false [.own .any true 3 (.int .i64) (g_Vs_OpPlaces_0 a0 a1 a2 a3 a4 a5 a6)], [])
  | _ => none
theorem vs_OpPlaces (a0 : Int) (a1 : Int) (a2 : Int) (a3 : Int) (a4 : Int) (a5 : Int) (a6 : Int) : collapseH .std Es_OpPlaces Os_OpPlaces_0 (execFn Es_OpPlaces Go.Proofs.Tryd.f31 mss_OpPlaces [.val true [.int .i64 a0, .int .i64 a1, .int .i64 a2, .int .i64 a3, .int .i64 a4, .int .i64 a5, .int .i64 a6]]) = some ((g_As_OpPlaces a0 a1 a2 a3 a4 a5 a6), .val false [.own .any true 3 (.int .i64) (g_Vs_OpPlaces_0 a0 a1 a2 a3 a4 a5 a6)], []) := by kernel_rfl
theorem ss_OpPlaces : Sound Go.Proofs.Tryd.prog 31 mss_OpPlaces Fs_OpPlaces := by
  refine fn_gen goods_OpPlaces (by kernel_rfl) .std (fn := Go.Proofs.Tryd.f31) (c := (Go.Proofs.Tryd.f31.body.getD .skip)) (o := Os_OpPlaces_0) (k := 0) (by kernel_rfl) (by kernel_rfl) (by kernel_rfl) (by kernel_rfl) (by decide) ks_OpPlaces_0 ?_
  intro ys r outs h
  unfold Fs_OpPlaces at h
  split at h
  · exact (vs_OpPlaces _ _ _ _ _ _ _).trans h
  · cases h
end Go.Proofs.YtopoiinmhajhmaaDoor.E
end
section
namespace Go.Proofs.YtopoiinmhajhmaaDoor.E
open Go
set_option maxRecDepth 100000
set_option maxHeartbeats 0
set_option linter.all false
noncomputable def Ew_jaIn : Env where
  tt := mkTI Go.Proofs.Tryd.prog
  fn := fun _ => none
  bxf := fun _ => none
  mv := []
  keep := fun b => match b with
    | 0 => [(0, false), (1, false), (5, false)]
    | _ => []
  keepB := fun b => match b with
    | 0 => []
    | _ => []
  keepX := fun b => match b with
    | 0 => [(4, false)]
    | _ => []
  keepXB := fun b => match b with
    | 0 => []
    | _ => []
theorem goodFw_jaIn : ∀ f ms F, Ew_jaIn.fn f = some (ms, F) → Sound Go.Proofs.Tryd.prog f ms F := fun f ms F h => by cases h
theorem goodBw_jaIn : ∀ f ms F, Ew_jaIn.bxf f = some (ms, F) → SoundB Go.Proofs.Tryd.prog f ms F := fun f ms F h => by cases h
theorem goodw_jaIn : Good Go.Proofs.Tryd.prog Ew_jaIn := ⟨rfl, goodFw_jaIn, goodBw_jaIn⟩
noncomputable def Ow_jaIn_0 : Orc := fun _ _ => none
noncomputable def msw_jaIn : List PM := [.rd, .own]
noncomputable def lsw_jaIn : List (Nat × Code) := loopsAll 0 (Go.Proofs.Tryd.f32.body.getD .skip)
noncomputable def cw_jaIn_0 : Code := (loopOf 0 (Go.Proofs.Tryd.f32.body.getD .skip)).getD .skip
theorem lseqw_jaIn : lsw_jaIn = [(0, cw_jaIn_0)] := by kernel_rfl
theorem mw_jaIn_0 : ∀ p, p ∈ lsw_jaIn → p.1 = 0 → p.2 = cw_jaIn_0 := by
  intro p hp
  rw [lseqw_jaIn] at hp
  simp only [List.mem_cons, List.not_mem_nil, or_false] at hp
  subst hp; simp
theorem kw_jaIn_0 : OrcOk Ew_jaIn Ow_jaIn_0 lsw_jaIn 0 := orcOk_none
noncomputable def hw_jaIn_0 (y0 : List (Int)) (y1 : Int) (y2 : Int) : List (Pl × LV) := [(.T 0, .t (.val false [.sl .any 3 (.int .i64) y0])), (.T 1, .t (.val false [.int .i64 y1])), (.T 5, .t (.val false [.int .i64 y2]))]
noncomputable def g_Sw_jaIn_0 (y0 : List (Int)) (y1 : Int) : ((Int)) → RT ((Int)) (((Bool)) ⊕ (Unit))
  | y2 => .br (true) (.br (decide (y2 < (↑(List.length y0) : Int))) (.br (decide ((0 : Int) ≤ y2 ∧ y2 < (↑(List.length y0) : Int))) (.br (true) (.br (at_ (Ty.int IntKind.i64) y0 (Int.toNat y2) == y1) (.out (.inl true)) (.br (true) (.go (IntKind.wrap IntKind.i64 (y2 + (1 : Int)))) (.bad))) (.bad)) (.bad)) (.out (.inr (())))) (.bad)
noncomputable def g_Lw_jaIn_0 (y0 : List (Int)) (y1 : Int) (x : (Int)) : Option (((Bool)) ⊕ (Unit)) := loopO (g_Sw_jaIn_0 y0 y1) x
noncomputable def xw_jaIn_0 (y0 : List (Int)) (y1 : Int) : (((Bool)) ⊕ (Unit)) → Ex × List (Pl × LV) := fun
  | .inl r => (.ret, [(.T 4, .t (.val false [.bool r]))])
  | .inr (r) => (.exit 0, [(.T 4, .t (.val false [.undef]))])
noncomputable def Ow_jaIn_1 : Orc := fun b h => match b, h with
  | 0, [(.T 0, .t (.val false [.sl .any 3 (.int .i64) y0])), (.T 1, .t (.val false [.int .i64 y1])), (.T 5, .t (.val false [.int .i64 y2]))] => some (okO (g_Lw_jaIn_0 y0 y1 y2), (.br (isL (valO (g_Lw_jaIn_0 y0 y1 y2))) (.leaf .ret [(.T 4, .t (.val false [.bool (getL (valO (g_Lw_jaIn_0 y0 y1 y2)))]))]) (.leaf (.exit 0) [(.T 4, .t (.val false [.undef]))])))
  | b, h => Ow_jaIn_0 b h
theorem bw_jaIn_0 (y0 : List (Int)) (y1 : Int) (y2 : Int) : Tr.bt Ew_jaIn Ow_jaIn_0 (exec Ew_jaIn 0 cw_jaIn_0 (St.of (hw_jaIn_0 y0 y1 y2)) (leafRd Ew_jaIn 0)) = (g_Sw_jaIn_0 y0 y1 y2).bt (fun (y2 : (Int)) => (hw_jaIn_0 y0 y1 y2)) (xw_jaIn_0 y0 y1) := by kernel_rfl
theorem kw_jaIn_1 : OrcOk Ew_jaIn Ow_jaIn_1 lsw_jaIn 1 := orc_add kw_jaIn_0 (fun n p hp h ex h' ho => by
  obtain ⟨b, c⟩ := p
  obtain ⟨xt, h1, h2⟩ := ho
  have h1 : Ow_jaIn_1 b h = some (true, xt) := h1
  unfold Ow_jaIn_1 at h1
  split at h1
  · injection h1 with h1
    injection h1 with e1 e2
    subst e2
    have hc : c = cw_jaIn_0 := mw_jaIn_0 _ hp rfl
    subst hc
    right
    rename_i y0 y1 y2
    have key := LT_step kw_jaIn_0 hp (fun q hq => loopsAll_in _ _ _ _ hp hq) (fun (y2 : (Int)) => (hw_jaIn_0 y0 y1 y2)) (xw_jaIn_0 y0 y1) (g_Sw_jaIn_0 y0 y1) (fun x => by first | exact bw_jaIn_0 y0 y1 x) n (x := y2) (okO_some e1)
    have hx : ∀ r, XT.sel (.br (isL r) (.leaf .ret [(.T 4, .t (.val false [.bool (getL r)]))]) (.leaf (.exit 0) [(.T 4, .t (.val false [.undef]))])) = xw_jaIn_0 y0 y1 r := fun r => by first | rfl | (rcases r with r | r <;> rfl) | (rcases r with r | r | r <;> rfl) | (rcases r with r | r | r | r <;> rfl)
    have h3 := (hx (valO (g_Lw_jaIn_0 y0 y1 y2))).symm.trans h2
    have e3 := congrArg Prod.fst h3
    have e4 := congrArg Prod.snd h3
    simp only at e3 e4
    rw [← e3, ← e4]
    exact key
  · exact .inl ⟨xt, h1, h2⟩)
noncomputable def g_Aw_jaIn (a0 : List (Int)) (a1 : Int) : Bool := okO (g_Lw_jaIn_0 a0 a1 (0 : Int))
noncomputable def g_Vw_jaIn_0 (a0 : List (Int)) (a1 : Int) : Bool := bif isL (valO (g_Lw_jaIn_0 a0 a1 (0 : Int))) then getL (valO (g_Lw_jaIn_0 a0 a1 (0 : Int))) else false
noncomputable def Fw_jaIn : FSem := fun ys => match ys with
  | [.val false [.sl .any 3 (.int .i64) a0], .val false [.int .i64 a1]] => some ((g_Aw_jaIn a0 a1), .val false [.bool (g_Vw_jaIn_0 a0 a1)], [])
  | _ => none
theorem vw_jaIn (a0 : List (Int)) (a1 : Int) : collapseH .std Ew_jaIn Ow_jaIn_1 (execFn Ew_jaIn Go.Proofs.Tryd.f32 msw_jaIn [.val false [.sl .any 3 (.int .i64) a0], .val false [.int .i64 a1]]) = some ((g_Aw_jaIn a0 a1), .val false [.bool (g_Vw_jaIn_0 a0 a1)], []) := by kernel_rfl
theorem sw_jaIn : Sound Go.Proofs.Tryd.prog 32 msw_jaIn Fw_jaIn := by
  refine fn_gen goodw_jaIn (by kernel_rfl) .std (fn := Go.Proofs.Tryd.f32) (c := (Go.Proofs.Tryd.f32.body.getD .skip)) (o := Ow_jaIn_1) (k := 1) (by kernel_rfl) (by kernel_rfl) (by kernel_rfl) (by kernel_rfl) (by decide) kw_jaIn_1 ?_
  intro ys r outs h
  unfold Fw_jaIn at h
  split at h
  · exact (vw_jaIn _ _).trans h
  · cases h
end Go.Proofs.YtopoiinmhajhmaaDoor.E
end
section
namespace Go.Proofs.YtopoiinmhajhmaaDoor.E
open Go
set_option maxRecDepth 100000
set_option maxHeartbeats 0
set_option linter.all false
noncomputable def Ew_jaInts : Env where
  tt := mkTI Go.Proofs.Tryd.prog
  fn := fun _ => none
  bxf := fun _ => none
  mv := []
  keep := fun b => match b with
    | 0 => [(0, false), (1, false), (5, false)]
    | _ => []
  keepB := fun b => match b with
    | 0 => []
    | _ => []
  keepX := fun b => match b with
    | 0 => [(4, false)]
    | _ => []
  keepXB := fun b => match b with
    | 0 => []
    | _ => []
theorem goodFw_jaInts : ∀ f ms F, Ew_jaInts.fn f = some (ms, F) → Sound Go.Proofs.Tryd.prog f ms F := fun f ms F h => by cases h
theorem goodBw_jaInts : ∀ f ms F, Ew_jaInts.bxf f = some (ms, F) → SoundB Go.Proofs.Tryd.prog f ms F := fun f ms F h => by cases h
theorem goodw_jaInts : Good Go.Proofs.Tryd.prog Ew_jaInts := ⟨rfl, goodFw_jaInts, goodBw_jaInts⟩
noncomputable def Ow_jaInts_0 : Orc := fun _ _ => none
noncomputable def msw_jaInts : List PM := [.rd, .rd]
noncomputable def lsw_jaInts : List (Nat × Code) := loopsAll 0 (Go.Proofs.Tryd.f30.body.getD .skip)
noncomputable def cw_jaInts_0 : Code := (loopOf 0 (Go.Proofs.Tryd.f30.body.getD .skip)).getD .skip
theorem lseqw_jaInts : lsw_jaInts = [(0, cw_jaInts_0)] := by kernel_rfl
theorem mw_jaInts_0 : ∀ p, p ∈ lsw_jaInts → p.1 = 0 → p.2 = cw_jaInts_0 := by
  intro p hp
  rw [lseqw_jaInts] at hp
  simp only [List.mem_cons, List.not_mem_nil, or_false] at hp
  subst hp; simp
theorem kw_jaInts_0 : OrcOk Ew_jaInts Ow_jaInts_0 lsw_jaInts 0 := orcOk_none
noncomputable def hw_jaInts_0 (y0 : List (Int)) (y1 : List (Int)) (y2 : Int) : List (Pl × LV) := [(.T 0, .t (.val false [.sl .any 3 (.int .i64) y0])), (.T 1, .t (.val false [.sl .any 3 (.int .i64) y1])), (.T 5, .t (.val false [.int .i64 y2]))]
noncomputable def g_Sw_jaInts_0 (y0 : List (Int)) (y1 : List (Int)) : ((Int)) → RT ((Int)) (((Bool)) ⊕ (Unit))
  | y2 => .br (true) (.br (decide (y2 < (↑(List.length y0) : Int))) (.br (decide ((0 : Int) ≤ y2 ∧ y2 < (↑(List.length y0) : Int))) (.br (decide ((0 : Int) ≤ y2 ∧ y2 < (↑(List.length y1) : Int))) (.br (true) (.br (at_ (Ty.int IntKind.i64) y0 (Int.toNat y2) != at_ (Ty.int IntKind.i64) y1 (Int.toNat y2)) (.out (.inl false)) (.br (true) (.go (IntKind.wrap IntKind.i64 (y2 + (1 : Int)))) (.bad))) (.bad)) (.bad)) (.bad)) (.out (.inr (())))) (.bad)
noncomputable def g_Lw_jaInts_0 (y0 : List (Int)) (y1 : List (Int)) (x : (Int)) : Option (((Bool)) ⊕ (Unit)) := loopO (g_Sw_jaInts_0 y0 y1) x
noncomputable def xw_jaInts_0 (y0 : List (Int)) (y1 : List (Int)) : (((Bool)) ⊕ (Unit)) → Ex × List (Pl × LV) := fun
  | .inl r => (.ret, [(.T 4, .t (.val false [.bool r]))])
  | .inr (r) => (.exit 0, [(.T 4, .t (.val false [.undef]))])
noncomputable def Ow_jaInts_1 : Orc := fun b h => match b, h with
  | 0, [(.T 0, .t (.val false [.sl .any 3 (.int .i64) y0])), (.T 1, .t (.val false [.sl .any 3 (.int .i64) y1])), (.T 5, .t (.val false [.int .i64 y2]))] => some (okO (g_Lw_jaInts_0 y0 y1 y2), (.br (isL (valO (g_Lw_jaInts_0 y0 y1 y2))) (.leaf .ret [(.T 4, .t (.val false [.bool (getL (valO (g_Lw_jaInts_0 y0 y1 y2)))]))]) (.leaf (.exit 0) [(.T 4, .t (.val false [.undef]))])))
  | b, h => Ow_jaInts_0 b h
theorem bw_jaInts_0 (y0 : List (Int)) (y1 : List (Int)) (y2 : Int) : Tr.bt Ew_jaInts Ow_jaInts_0 (exec Ew_jaInts 0 cw_jaInts_0 (St.of (hw_jaInts_0 y0 y1 y2)) (leafRd Ew_jaInts 0)) = (g_Sw_jaInts_0 y0 y1 y2).bt (fun (y2 : (Int)) => (hw_jaInts_0 y0 y1 y2)) (xw_jaInts_0 y0 y1) := by kernel_rfl
theorem kw_jaInts_1 : OrcOk Ew_jaInts Ow_jaInts_1 lsw_jaInts 1 := orc_add kw_jaInts_0 (fun n p hp h ex h' ho => by
  obtain ⟨b, c⟩ := p
  obtain ⟨xt, h1, h2⟩ := ho
  have h1 : Ow_jaInts_1 b h = some (true, xt) := h1
  unfold Ow_jaInts_1 at h1
  split at h1
  · injection h1 with h1
    injection h1 with e1 e2
    subst e2
    have hc : c = cw_jaInts_0 := mw_jaInts_0 _ hp rfl
    subst hc
    right
    rename_i y0 y1 y2
    have key := LT_step kw_jaInts_0 hp (fun q hq => loopsAll_in _ _ _ _ hp hq) (fun (y2 : (Int)) => (hw_jaInts_0 y0 y1 y2)) (xw_jaInts_0 y0 y1) (g_Sw_jaInts_0 y0 y1) (fun x => by first | exact bw_jaInts_0 y0 y1 x) n (x := y2) (okO_some e1)
    have hx : ∀ r, XT.sel (.br (isL r) (.leaf .ret [(.T 4, .t (.val false [.bool (getL r)]))]) (.leaf (.exit 0) [(.T 4, .t (.val false [.undef]))])) = xw_jaInts_0 y0 y1 r := fun r => by first | rfl | (rcases r with r | r <;> rfl) | (rcases r with r | r | r <;> rfl) | (rcases r with r | r | r | r <;> rfl)
    have h3 := (hx (valO (g_Lw_jaInts_0 y0 y1 y2))).symm.trans h2
    have e3 := congrArg Prod.fst h3
    have e4 := congrArg Prod.snd h3
    simp only at e3 e4
    rw [← e3, ← e4]
    exact key
  · exact .inl ⟨xt, h1, h2⟩)
noncomputable def g_Aw_jaInts (a0 : List (Int)) (a1 : List (Int)) : Bool := (↑(List.length a0) : Int) != (↑(List.length a1) : Int) || okO (g_Lw_jaInts_0 a0 a1 (0 : Int))
noncomputable def g_Vw_jaInts_0 (a0 : List (Int)) (a1 : List (Int)) : Bool := bif (↑(List.length a0) : Int) != (↑(List.length a1) : Int) then false else bif isL (valO (g_Lw_jaInts_0 a0 a1 (0 : Int))) then getL (valO (g_Lw_jaInts_0 a0 a1 (0 : Int))) else true
noncomputable def Fw_jaInts : FSem := fun ys => match ys with
  | [.val false [.sl .any 3 (.int .i64) a0], .val false [.sl .any 3 (.int .i64) a1]] => some ((g_Aw_jaInts a0 a1), .val false [.bool (g_Vw_jaInts_0 a0 a1)], [])
  | _ => none
theorem vw_jaInts (a0 : List (Int)) (a1 : List (Int)) : collapseH .std Ew_jaInts Ow_jaInts_1 (execFn Ew_jaInts Go.Proofs.Tryd.f30 msw_jaInts [.val false [.sl .any 3 (.int .i64) a0], .val false [.sl .any 3 (.int .i64) a1]]) = some ((g_Aw_jaInts a0 a1), .val false [.bool (g_Vw_jaInts_0 a0 a1)], []) := by kernel_rfl
theorem sw_jaInts : Sound Go.Proofs.Tryd.prog 30 msw_jaInts Fw_jaInts := by
  refine fn_gen goodw_jaInts (by kernel_rfl) .std (fn := Go.Proofs.Tryd.f30) (c := (Go.Proofs.Tryd.f30.body.getD .skip)) (o := Ow_jaInts_1) (k := 1) (by kernel_rfl) (by kernel_rfl) (by kernel_rfl) (by kernel_rfl) (by decide) kw_jaInts_1 ?_
  intro ys r outs h
  unfold Fw_jaInts at h
  split at h
  · exact (vw_jaInts _ _).trans h
  · cases h
end Go.Proofs.YtopoiinmhajhmaaDoor.E
end
section
namespace Go.Proofs.YtopoiinmhajhmaaDoor.E
open Go
set_option maxRecDepth 100000
set_option linter.all false
def msstrings_Trim : List PM := [.own, .own]
def g_trim (s c : ByteArray) : ByteArray := ⟨(Lib.trimS s.data.toList c.data.toList).toArray⟩
def g_ascii (c : ByteArray) : Bool := c.data.toList.all fun b => decide (b.toNat < 128)
def Fstrings_Trim : FSem := fun ys => match ys with
  | [.val false [.str s], .val false [.str c]] => some (decide (s.size ≤ 9223372036854775807) && (decide (c.size < 4294967281) && g_ascii c), .val false [.str (g_trim s c)], [])
  | _ => none
theorem sstrings_Trim : Sound Go.Proofs.Tryd.prog 100 msstrings_Trim Fstrings_Trim := by
  refine sound_plain (by simp [msstrings_Trim]) ⟨_, Tryd.func100, by kernel_rfl, by kernel_rfl⟩ (fun w ys r outs h => ?_)
  unfold Fstrings_Trim at h
  split at h
  · rename_i s c
    simp only [Option.some.injEq, Prod.mk.injEq, Bool.and_eq_true, decide_eq_true_eq] at h
    obtain ⟨⟨h1, h2, h3⟩, rfl, rfl⟩ := h
    refine ⟨rfl, [.string s, .string c], .string (g_trim s c), rfl, rfl, ?_⟩
    exact Tryd.strings_Trim_laid s c w h1 h2 (fun j b hb => by
      have := List.all_eq_true.1 h3 b (List.mem_of_getElem? hb)
      simpa using this)
  · cases h
end Go.Proofs.YtopoiinmhajhmaaDoor.E
end
section
namespace Go.Proofs.YtopoiinmhajhmaaDoor.E
open Go
set_option maxRecDepth 100000
set_option maxHeartbeats 0
set_option linter.all false
noncomputable def Ei_keyOk : Env where
  tt := mkTI Go.Proofs.Tryd.prog
  fn := fun f => match f with
    | 60 => some (msi_in, FSem.wk msi_in Fi_in)
    | 100 => some (msstrings_Trim, FSem.wk msstrings_Trim Fstrings_Trim)
    | _ => none
  bxf := fun _ => none
  mv := []
  keep := fun _ => []
  keepB := fun _ => []
  keepX := fun _ => []
  keepXB := fun _ => []
theorem goodFi_keyOk : ∀ f ms F, Ei_keyOk.fn f = some (ms, F) → Sound Go.Proofs.Tryd.prog f ms F := fun f ms F h => by
  unfold Ei_keyOk at h
  dsimp only at h
  split at h
  · injection h with h; injection h with e1 e2; subst e1 e2; exact Sound.wk si_in
  · injection h with h; injection h with e1 e2; subst e1 e2; exact Sound.wk sstrings_Trim
  · cases h
theorem goodBi_keyOk : ∀ f ms F, Ei_keyOk.bxf f = some (ms, F) → SoundB Go.Proofs.Tryd.prog f ms F := fun f ms F h => by cases h
theorem goodi_keyOk : Good Go.Proofs.Tryd.prog Ei_keyOk := ⟨rfl, goodFi_keyOk, goodBi_keyOk⟩
noncomputable def Oi_keyOk_0 : Orc := fun _ _ => none
noncomputable def msi_keyOk : List PM := [.own]
noncomputable def lsi_keyOk : List (Nat × Code) := loopsAll 0 (Go.Proofs.Tryd.f66.body.getD .skip)

theorem ki_keyOk_0 : OrcOk Ei_keyOk Oi_keyOk_0 lsi_keyOk 0 := orcOk_none
noncomputable def g_Ai_keyOk (a0 : ByteArray) : Bool := g_Ai_in (↑(ByteArray.size a0) : Int) (2 : Int) (3 : Int) && (!g_Vi_in_0 (↑(ByteArray.size a0) : Int) (2 : Int) (3 : Int) || decide ((0 : Int) ≤ (0 : Int) ∧ (0 : Int) < (↑(ByteArray.size a0) : Int)) && (g_Ai_in (IntKind.wrap IntKind.i64 (byteAt a0 (nat_lit 0))) (97 : Int) (122 : Int) && (!g_Vi_in_0 (IntKind.wrap IntKind.i64 (byteAt a0 (nat_lit 0))) (97 : Int) (122 : Int) || decide ((0 : Int) ≤ (1 : Int) ∧ (1 : Int) ≤ (↑(ByteArray.size a0) : Int)) && (decide (ByteArray.size (ByteArray.extract a0 (nat_lit 1) (ByteArray.size a0)) ≤ nat_lit 9223372036854775807) && g_ascii (lit [(48 : Nat), (49 : Nat), (50 : Nat), (51 : Nat), (52 : Nat), (53 : Nat), (54 : Nat), (55 : Nat), (56 : Nat), (57 : Nat)]) && true))))
noncomputable def g_Vi_keyOk_0 (a0 : ByteArray) : Bool := bif g_Vi_in_0 (↑(ByteArray.size a0) : Int) (2 : Int) (3 : Int) then bif g_Vi_in_0 (IntKind.wrap IntKind.i64 (byteAt a0 (nat_lit 0))) (97 : Int) (122 : Int) then ByteArray.toList (g_trim (ByteArray.extract a0 (nat_lit 1) (ByteArray.size a0)) (lit [(48 : Nat), (49 : Nat), (50 : Nat), (51 : Nat), (52 : Nat), (53 : Nat), (54 : Nat), (55 : Nat), (56 : Nat), (57 : Nat)])) == [] else false else false
noncomputable def Fi_keyOk : FSem := fun ys => match ys with
  | [.val false [.str a0]] => some ((g_Ai_keyOk a0), .val false [.bool (g_Vi_keyOk_0 a0)], [])
  | _ => none
theorem vi_keyOk (a0 : ByteArray) : collapseH .std Ei_keyOk Oi_keyOk_0 (execFn Ei_keyOk Go.Proofs.Tryd.f66 msi_keyOk [.val false [.str a0]]) = some ((g_Ai_keyOk a0), .val false [.bool (g_Vi_keyOk_0 a0)], []) := by kernel_rfl
theorem si_keyOk : Sound Go.Proofs.Tryd.prog 66 msi_keyOk Fi_keyOk := by
  refine fn_gen goodi_keyOk (by kernel_rfl) .std (fn := Go.Proofs.Tryd.f66) (c := (Go.Proofs.Tryd.f66.body.getD .skip)) (o := Oi_keyOk_0) (k := 0) (by kernel_rfl) (by kernel_rfl) (by kernel_rfl) (by kernel_rfl) (by decide) ki_keyOk_0 ?_
  intro ys r outs h
  unfold Fi_keyOk at h
  split at h
  · exact (vi_keyOk _).trans h
  · cases h
end Go.Proofs.YtopoiinmhajhmaaDoor.E
end
section
namespace Go.Proofs.YtopoiinmhajhmaaDoor.E
open Go
set_option maxRecDepth 100000
set_option maxHeartbeats 0
set_option linter.all false
noncomputable def Ei_valOk_1 : Env where
  tt := mkTI Go.Proofs.Tryd.prog
  fn := fun f => match f with
    | 60 => some (msi_in, FSem.wk msi_in Fi_in)
    | _ => none
  bxf := fun _ => none
  mv := []
  keep := fun _ => []
  keepB := fun _ => []
  keepX := fun _ => []
  keepXB := fun _ => []
theorem goodFi_valOk_1 : ∀ f ms F, Ei_valOk_1.fn f = some (ms, F) → Sound Go.Proofs.Tryd.prog f ms F := fun f ms F h => by
  unfold Ei_valOk_1 at h
  dsimp only at h
  split at h
  · injection h with h; injection h with e1 e2; subst e1 e2; exact Sound.wk si_in
  · cases h
theorem goodBi_valOk_1 : ∀ f ms F, Ei_valOk_1.bxf f = some (ms, F) → SoundB Go.Proofs.Tryd.prog f ms F := fun f ms F h => by cases h
theorem goodi_valOk_1 : Good Go.Proofs.Tryd.prog Ei_valOk_1 := ⟨rfl, goodFi_valOk_1, goodBi_valOk_1⟩
noncomputable def Oi_valOk_1_0 : Orc := fun _ _ => none
noncomputable def msi_valOk_1 : List PM := [.own]
noncomputable def lsi_valOk_1 : List (Nat × Code) := loopsAll 0 (Go.Proofs.Tryd.f102.body.getD .skip)

theorem ki_valOk_1_0 : OrcOk Ei_valOk_1 Oi_valOk_1_0 lsi_valOk_1 0 := orcOk_none
noncomputable def g_Ai_valOk_1 (a0 : Int) : Bool := g_Ai_in a0 (0 : Int) (9999 : Int)
noncomputable def g_Vi_valOk_1_0 (a0 : Int) : Bool := !g_Vi_in_0 a0 (0 : Int) (9999 : Int)
noncomputable def Fi_valOk_1 : FSem := fun ys => match ys with
  | [.val false [.int .i64 a0]] => some ((g_Ai_valOk_1 a0), .val false [.bool (g_Vi_valOk_1_0 a0)], [])
  | _ => none
theorem vi_valOk_1 (a0 : Int) : collapseH .std Ei_valOk_1 Oi_valOk_1_0 (execFn Ei_valOk_1 Go.Proofs.Tryd.f102 msi_valOk_1 [.val false [.int .i64 a0]]) = some ((g_Ai_valOk_1 a0), .val false [.bool (g_Vi_valOk_1_0 a0)], []) := by kernel_rfl
theorem si_valOk_1 : Sound Go.Proofs.Tryd.prog 102 msi_valOk_1 Fi_valOk_1 := by
  refine fn_gen goodi_valOk_1 (by kernel_rfl) .std (fn := Go.Proofs.Tryd.f102) (c := (Go.Proofs.Tryd.f102.body.getD .skip)) (o := Oi_valOk_1_0) (k := 0) (by kernel_rfl) (by kernel_rfl) (by kernel_rfl) (by kernel_rfl) (by decide) ki_valOk_1_0 ?_
  intro ys r outs h
  unfold Fi_valOk_1 at h
  split at h
  · exact (vi_valOk_1 _).trans h
  · cases h
end Go.Proofs.YtopoiinmhajhmaaDoor.E
end
section
namespace Go.Proofs.YtopoiinmhajhmaaDoor.E
open Go
set_option maxRecDepth 100000
set_option maxHeartbeats 0
set_option linter.all false
noncomputable def Eslices_IndexFunc_int_int__i_valOk_1 : Env where
  tt := mkTI Go.Proofs.Tryd.prog
  fn := fun f => match f with
    | 102 => some (msi_valOk_1, FSem.wk msi_valOk_1 Fi_valOk_1)
    | _ => none
  bxf := fun _ => none
  mv := []
  keep := fun b => match b with
    | 0 => [(0, false), (1, false), (7, false), (8, false)]
    | _ => []
  keepB := fun b => match b with
    | 0 => []
    | _ => []
  keepX := fun b => match b with
    | 0 => [(4, false)]
    | _ => []
  keepXB := fun b => match b with
    | 0 => []
    | _ => []
theorem goodFslices_IndexFunc_int_int__i_valOk_1 : ∀ f ms F, Eslices_IndexFunc_int_int__i_valOk_1.fn f = some (ms, F) → Sound Go.Proofs.Tryd.prog f ms F := fun f ms F h => by
  unfold Eslices_IndexFunc_int_int__i_valOk_1 at h
  dsimp only at h
  split at h
  · injection h with h; injection h with e1 e2; subst e1 e2; exact Sound.wk si_valOk_1
  · cases h
theorem goodBslices_IndexFunc_int_int__i_valOk_1 : ∀ f ms F, Eslices_IndexFunc_int_int__i_valOk_1.bxf f = some (ms, F) → SoundB Go.Proofs.Tryd.prog f ms F := fun f ms F h => by cases h
theorem goodslices_IndexFunc_int_int__i_valOk_1 : Good Go.Proofs.Tryd.prog Eslices_IndexFunc_int_int__i_valOk_1 := ⟨rfl, goodFslices_IndexFunc_int_int__i_valOk_1, goodBslices_IndexFunc_int_int__i_valOk_1⟩
noncomputable def Oslices_IndexFunc_int_int__i_valOk_1_0 : Orc := fun _ _ => none
noncomputable def msslices_IndexFunc_int_int__i_valOk_1 : List PM := [.rd, .rd]
noncomputable def lsslices_IndexFunc_int_int__i_valOk_1 : List (Nat × Code) := loopsAll 0 (Go.Proofs.Tryd.f124.body.getD .skip)
noncomputable def cslices_IndexFunc_int_int__i_valOk_1_0 : Code := (loopOf 0 (Go.Proofs.Tryd.f124.body.getD .skip)).getD .skip
theorem lseqslices_IndexFunc_int_int__i_valOk_1 : lsslices_IndexFunc_int_int__i_valOk_1 = [(0, cslices_IndexFunc_int_int__i_valOk_1_0)] := by kernel_rfl
theorem mslices_IndexFunc_int_int__i_valOk_1_0 : ∀ p, p ∈ lsslices_IndexFunc_int_int__i_valOk_1 → p.1 = 0 → p.2 = cslices_IndexFunc_int_int__i_valOk_1_0 := by
  intro p hp
  rw [lseqslices_IndexFunc_int_int__i_valOk_1] at hp
  simp only [List.mem_cons, List.not_mem_nil, or_false] at hp
  subst hp; simp
theorem kslices_IndexFunc_int_int__i_valOk_1_0 : OrcOk Eslices_IndexFunc_int_int__i_valOk_1 Oslices_IndexFunc_int_int__i_valOk_1_0 lsslices_IndexFunc_int_int__i_valOk_1 0 := orcOk_none
noncomputable def hslices_IndexFunc_int_int__i_valOk_1_0 (y0 : List (Int)) (y1 : Int) (y2 : Int) : List (Pl × LV) := [(.T 0, .t (.val false [.sl .any 3 (.int .i64) y0])), (.T 1, .t (.val false [.fn 102 []])), (.T 7, .t (.val false [.int .i64 y1])), (.T 8, .t (.val false [.int .i64 y2]))]
noncomputable def g_Sslices_IndexFunc_int_int__i_valOk_1_0 (y0 : List (Int)) (y1 : Int) : ((Int)) → RT ((Int)) (((Int)) ⊕ (Unit))
  | y2 => .br (true) (.br (decide (y2 < y1)) (.br (decide ((0 : Int) ≤ y2 ∧ y2 < (↑(List.length y0) : Int))) (.br (g_Ai_valOk_1 (at_ (Ty.int IntKind.i64) y0 (Int.toNat y2))) (.br (g_Vi_valOk_1_0 (at_ (Ty.int IntKind.i64) y0 (Int.toNat y2))) (.out (.inl y2)) (.br (true) (.go (IntKind.wrap IntKind.i64 (y2 + (1 : Int)))) (.bad))) (.bad)) (.bad)) (.out (.inr (())))) (.bad)
noncomputable def g_Lslices_IndexFunc_int_int__i_valOk_1_0 (y0 : List (Int)) (y1 : Int) (x : (Int)) : Option (((Int)) ⊕ (Unit)) := loopO (g_Sslices_IndexFunc_int_int__i_valOk_1_0 y0 y1) x
noncomputable def xslices_IndexFunc_int_int__i_valOk_1_0 (y0 : List (Int)) (y1 : Int) : (((Int)) ⊕ (Unit)) → Ex × List (Pl × LV) := fun
  | .inl r => (.ret, [(.T 4, .t (.val false [.int .i64 r]))])
  | .inr (r) => (.exit 0, [(.T 4, .t (.val false [.undef]))])
noncomputable def Oslices_IndexFunc_int_int__i_valOk_1_1 : Orc := fun b h => match b, h with
  | 0, [(.T 0, .t (.val false [.sl .any 3 (.int .i64) y0])), (.T 1, .t (.val false [.fn 102 []])), (.T 7, .t (.val false [.int .i64 y1])), (.T 8, .t (.val false [.int .i64 y2]))] => some (okO (g_Lslices_IndexFunc_int_int__i_valOk_1_0 y0 y1 y2), (.br (isL (valO (g_Lslices_IndexFunc_int_int__i_valOk_1_0 y0 y1 y2))) (.leaf .ret [(.T 4, .t (.val false [.int .i64 (getL (valO (g_Lslices_IndexFunc_int_int__i_valOk_1_0 y0 y1 y2)))]))]) (.leaf (.exit 0) [(.T 4, .t (.val false [.undef]))])))
  | b, h => Oslices_IndexFunc_int_int__i_valOk_1_0 b h
theorem bslices_IndexFunc_int_int__i_valOk_1_0 (y0 : List (Int)) (y1 : Int) (y2 : Int) : Tr.bt Eslices_IndexFunc_int_int__i_valOk_1 Oslices_IndexFunc_int_int__i_valOk_1_0 (exec Eslices_IndexFunc_int_int__i_valOk_1 0 cslices_IndexFunc_int_int__i_valOk_1_0 (St.of (hslices_IndexFunc_int_int__i_valOk_1_0 y0 y1 y2)) (leafRd Eslices_IndexFunc_int_int__i_valOk_1 0)) = (g_Sslices_IndexFunc_int_int__i_valOk_1_0 y0 y1 y2).bt (fun (y2 : (Int)) => (hslices_IndexFunc_int_int__i_valOk_1_0 y0 y1 y2)) (xslices_IndexFunc_int_int__i_valOk_1_0 y0 y1) := by kernel_rfl
theorem kslices_IndexFunc_int_int__i_valOk_1_1 : OrcOk Eslices_IndexFunc_int_int__i_valOk_1 Oslices_IndexFunc_int_int__i_valOk_1_1 lsslices_IndexFunc_int_int__i_valOk_1 1 := orc_add kslices_IndexFunc_int_int__i_valOk_1_0 (fun n p hp h ex h' ho => by
  obtain ⟨b, c⟩ := p
  obtain ⟨xt, h1, h2⟩ := ho
  have h1 : Oslices_IndexFunc_int_int__i_valOk_1_1 b h = some (true, xt) := h1
  unfold Oslices_IndexFunc_int_int__i_valOk_1_1 at h1
  split at h1
  · injection h1 with h1
    injection h1 with e1 e2
    subst e2
    have hc : c = cslices_IndexFunc_int_int__i_valOk_1_0 := mslices_IndexFunc_int_int__i_valOk_1_0 _ hp rfl
    subst hc
    right
    rename_i y0 y1 y2
    have key := LT_step kslices_IndexFunc_int_int__i_valOk_1_0 hp (fun q hq => loopsAll_in _ _ _ _ hp hq) (fun (y2 : (Int)) => (hslices_IndexFunc_int_int__i_valOk_1_0 y0 y1 y2)) (xslices_IndexFunc_int_int__i_valOk_1_0 y0 y1) (g_Sslices_IndexFunc_int_int__i_valOk_1_0 y0 y1) (fun x => by first | exact bslices_IndexFunc_int_int__i_valOk_1_0 y0 y1 x) n (x := y2) (okO_some e1)
    have hx : ∀ r, XT.sel (.br (isL r) (.leaf .ret [(.T 4, .t (.val false [.int .i64 (getL r)]))]) (.leaf (.exit 0) [(.T 4, .t (.val false [.undef]))])) = xslices_IndexFunc_int_int__i_valOk_1_0 y0 y1 r := fun r => by first | rfl | (rcases r with r | r <;> rfl) | (rcases r with r | r | r <;> rfl) | (rcases r with r | r | r | r <;> rfl)
    have h3 := (hx (valO (g_Lslices_IndexFunc_int_int__i_valOk_1_0 y0 y1 y2))).symm.trans h2
    have e3 := congrArg Prod.fst h3
    have e4 := congrArg Prod.snd h3
    simp only at e3 e4
    rw [← e3, ← e4]
    exact key
  · exact .inl ⟨xt, h1, h2⟩)
noncomputable def g_Aslices_IndexFunc_int_int__i_valOk_1 (a0 : List (Int)) : Bool := okO (g_Lslices_IndexFunc_int_int__i_valOk_1_0 a0 (↑(List.length a0) : Int) (0 : Int))
noncomputable def g_Vslices_IndexFunc_int_int__i_valOk_1_0 (a0 : List (Int)) : Int := bif isL (valO (g_Lslices_IndexFunc_int_int__i_valOk_1_0 a0 (↑(List.length a0) : Int) (0 : Int))) then getL (valO (g_Lslices_IndexFunc_int_int__i_valOk_1_0 a0 (↑(List.length a0) : Int) (0 : Int))) else (-1 : Int)
noncomputable def Fslices_IndexFunc_int_int__i_valOk_1 : FSem := fun ys => match ys with
  | [.val false [.sl .any 3 (.int .i64) a0], .val false [.fn 102 []]] => some ((g_Aslices_IndexFunc_int_int__i_valOk_1 a0), .val false [.int .i64 (g_Vslices_IndexFunc_int_int__i_valOk_1_0 a0)], [])
  | _ => none
theorem vslices_IndexFunc_int_int__i_valOk_1 (a0 : List (Int)) : collapseH .std Eslices_IndexFunc_int_int__i_valOk_1 Oslices_IndexFunc_int_int__i_valOk_1_1 (execFn Eslices_IndexFunc_int_int__i_valOk_1 Go.Proofs.Tryd.f124 msslices_IndexFunc_int_int__i_valOk_1 [.val false [.sl .any 3 (.int .i64) a0], .val false [.fn 102 []]]) = some ((g_Aslices_IndexFunc_int_int__i_valOk_1 a0), .val false [.int .i64 (g_Vslices_IndexFunc_int_int__i_valOk_1_0 a0)], []) := by kernel_rfl
theorem sslices_IndexFunc_int_int__i_valOk_1 : Sound Go.Proofs.Tryd.prog 124 msslices_IndexFunc_int_int__i_valOk_1 Fslices_IndexFunc_int_int__i_valOk_1 := by
  refine fn_gen goodslices_IndexFunc_int_int__i_valOk_1 (by kernel_rfl) .std (fn := Go.Proofs.Tryd.f124) (c := (Go.Proofs.Tryd.f124.body.getD .skip)) (o := Oslices_IndexFunc_int_int__i_valOk_1_1) (k := 1) (by kernel_rfl) (by kernel_rfl) (by kernel_rfl) (by kernel_rfl) (by decide) kslices_IndexFunc_int_int__i_valOk_1_1 ?_
  intro ys r outs h
  unfold Fslices_IndexFunc_int_int__i_valOk_1 at h
  split at h
  · exact (vslices_IndexFunc_int_int__i_valOk_1 _).trans h
  · cases h
end Go.Proofs.YtopoiinmhajhmaaDoor.E
end
section
namespace Go.Proofs.YtopoiinmhajhmaaDoor.E
open Go
set_option maxRecDepth 100000
set_option maxHeartbeats 0
set_option linter.all false
noncomputable def Eslices_ContainsFunc_int_int__i_valOk_1 : Env where
  tt := mkTI Go.Proofs.Tryd.prog
  fn := fun f => match f with
    | 102 => some (msi_valOk_1, FSem.wk msi_valOk_1 Fi_valOk_1)
    | 124 => some (msslices_IndexFunc_int_int__i_valOk_1, FSem.wk msslices_IndexFunc_int_int__i_valOk_1 Fslices_IndexFunc_int_int__i_valOk_1)
    | _ => none
  bxf := fun _ => none
  mv := []
  keep := fun _ => []
  keepB := fun _ => []
  keepX := fun _ => []
  keepXB := fun _ => []
theorem goodFslices_ContainsFunc_int_int__i_valOk_1 : ∀ f ms F, Eslices_ContainsFunc_int_int__i_valOk_1.fn f = some (ms, F) → Sound Go.Proofs.Tryd.prog f ms F := fun f ms F h => by
  unfold Eslices_ContainsFunc_int_int__i_valOk_1 at h
  dsimp only at h
  split at h
  · injection h with h; injection h with e1 e2; subst e1 e2; exact Sound.wk si_valOk_1
  · injection h with h; injection h with e1 e2; subst e1 e2; exact Sound.wk sslices_IndexFunc_int_int__i_valOk_1
  · cases h
theorem goodBslices_ContainsFunc_int_int__i_valOk_1 : ∀ f ms F, Eslices_ContainsFunc_int_int__i_valOk_1.bxf f = some (ms, F) → SoundB Go.Proofs.Tryd.prog f ms F := fun f ms F h => by cases h
theorem goodslices_ContainsFunc_int_int__i_valOk_1 : Good Go.Proofs.Tryd.prog Eslices_ContainsFunc_int_int__i_valOk_1 := ⟨rfl, goodFslices_ContainsFunc_int_int__i_valOk_1, goodBslices_ContainsFunc_int_int__i_valOk_1⟩
noncomputable def Oslices_ContainsFunc_int_int__i_valOk_1_0 : Orc := fun _ _ => none
noncomputable def msslices_ContainsFunc_int_int__i_valOk_1 : List PM := [.rd, .rd]
noncomputable def lsslices_ContainsFunc_int_int__i_valOk_1 : List (Nat × Code) := loopsAll 0 (Go.Proofs.Tryd.f101.body.getD .skip)

theorem kslices_ContainsFunc_int_int__i_valOk_1_0 : OrcOk Eslices_ContainsFunc_int_int__i_valOk_1 Oslices_ContainsFunc_int_int__i_valOk_1_0 lsslices_ContainsFunc_int_int__i_valOk_1 0 := orcOk_none
noncomputable def g_Aslices_ContainsFunc_int_int__i_valOk_1 (a0 : List (Int)) : Bool := g_Aslices_IndexFunc_int_int__i_valOk_1 a0 && true
noncomputable def g_Vslices_ContainsFunc_int_int__i_valOk_1_0 (a0 : List (Int)) : Bool := decide (g_Vslices_IndexFunc_int_int__i_valOk_1_0 a0 ≥ (0 : Int))
noncomputable def Fslices_ContainsFunc_int_int__i_valOk_1 : FSem := fun ys => match ys with
  | [.val false [.sl .any 3 (.int .i64) a0], .val false [.fn 102 []]] => some ((g_Aslices_ContainsFunc_int_int__i_valOk_1 a0), .val false [.bool (g_Vslices_ContainsFunc_int_int__i_valOk_1_0 a0)], [])
  | _ => none
theorem vslices_ContainsFunc_int_int__i_valOk_1 (a0 : List (Int)) : collapseH .std Eslices_ContainsFunc_int_int__i_valOk_1 Oslices_ContainsFunc_int_int__i_valOk_1_0 (execFn Eslices_ContainsFunc_int_int__i_valOk_1 Go.Proofs.Tryd.f101 msslices_ContainsFunc_int_int__i_valOk_1 [.val false [.sl .any 3 (.int .i64) a0], .val false [.fn 102 []]]) = some ((g_Aslices_ContainsFunc_int_int__i_valOk_1 a0), .val false [.bool (g_Vslices_ContainsFunc_int_int__i_valOk_1_0 a0)], []) := by kernel_rfl
theorem sslices_ContainsFunc_int_int__i_valOk_1 : Sound Go.Proofs.Tryd.prog 101 msslices_ContainsFunc_int_int__i_valOk_1 Fslices_ContainsFunc_int_int__i_valOk_1 := by
  refine fn_gen goodslices_ContainsFunc_int_int__i_valOk_1 (by kernel_rfl) .std (fn := Go.Proofs.Tryd.f101) (c := (Go.Proofs.Tryd.f101.body.getD .skip)) (o := Oslices_ContainsFunc_int_int__i_valOk_1_0) (k := 0) (by kernel_rfl) (by kernel_rfl) (by kernel_rfl) (by kernel_rfl) (by decide) kslices_ContainsFunc_int_int__i_valOk_1_0 ?_
  intro ys r outs h
  unfold Fslices_ContainsFunc_int_int__i_valOk_1 at h
  split at h
  · exact (vslices_ContainsFunc_int_int__i_valOk_1 _).trans h
  · cases h
end Go.Proofs.YtopoiinmhajhmaaDoor.E
end
section
namespace Go.Proofs.YtopoiinmhajhmaaDoor.E
open Go
set_option maxRecDepth 100000
set_option maxHeartbeats 0
set_option linter.all false
noncomputable def Ei_valOk : Env where
  tt := mkTI Go.Proofs.Tryd.prog
  fn := fun f => match f with
    | 60 => some (msi_in, FSem.wk msi_in Fi_in)
    | 101 => some (msslices_ContainsFunc_int_int__i_valOk_1, FSem.wk msslices_ContainsFunc_int_int__i_valOk_1 Fslices_ContainsFunc_int_int__i_valOk_1)
    | _ => none
  bxf := fun _ => none
  mv := []
  keep := fun _ => []
  keepB := fun _ => []
  keepX := fun _ => []
  keepXB := fun _ => []
theorem goodFi_valOk : ∀ f ms F, Ei_valOk.fn f = some (ms, F) → Sound Go.Proofs.Tryd.prog f ms F := fun f ms F h => by
  unfold Ei_valOk at h
  dsimp only at h
  split at h
  · injection h with h; injection h with e1 e2; subst e1 e2; exact Sound.wk si_in
  · injection h with h; injection h with e1 e2; subst e1 e2; exact Sound.wk sslices_ContainsFunc_int_int__i_valOk_1
  · cases h
theorem goodBi_valOk : ∀ f ms F, Ei_valOk.bxf f = some (ms, F) → SoundB Go.Proofs.Tryd.prog f ms F := fun f ms F h => by cases h
theorem goodi_valOk : Good Go.Proofs.Tryd.prog Ei_valOk := ⟨rfl, goodFi_valOk, goodBi_valOk⟩
noncomputable def Oi_valOk_0 : Orc := fun _ _ => none
noncomputable def msi_valOk : List PM := [.rd]
noncomputable def lsi_valOk : List (Nat × Code) := loopsAll 0 (Go.Proofs.Tryd.f67.body.getD .skip)

theorem ki_valOk_0 : OrcOk Ei_valOk Oi_valOk_0 lsi_valOk 0 := orcOk_none
noncomputable def g_Ai_valOk (a0 : List (Int)) : Bool := g_Ai_in (↑(List.length a0) : Int) (1 : Int) (3 : Int) && (!g_Vi_in_0 (↑(List.length a0) : Int) (1 : Int) (3 : Int) || g_Aslices_ContainsFunc_int_int__i_valOk_1 a0)
noncomputable def g_Vi_valOk_0 (a0 : List (Int)) : Bool := bif g_Vi_in_0 (↑(List.length a0) : Int) (1 : Int) (3 : Int) then !g_Vslices_ContainsFunc_int_int__i_valOk_1_0 a0 else false
noncomputable def Fi_valOk : FSem := fun ys => match ys with
  | [.val false [.sl .any 3 (.int .i64) a0]] => some ((g_Ai_valOk a0), .val false [.bool (g_Vi_valOk_0 a0)], [])
  | _ => none
theorem vi_valOk (a0 : List (Int)) : collapseH .std Ei_valOk Oi_valOk_0 (execFn Ei_valOk Go.Proofs.Tryd.f67 msi_valOk [.val false [.sl .any 3 (.int .i64) a0]]) = some ((g_Ai_valOk a0), .val false [.bool (g_Vi_valOk_0 a0)], []) := by kernel_rfl
theorem si_valOk : Sound Go.Proofs.Tryd.prog 67 msi_valOk Fi_valOk := by
  refine fn_gen goodi_valOk (by kernel_rfl) .std (fn := Go.Proofs.Tryd.f67) (c := (Go.Proofs.Tryd.f67.body.getD .skip)) (o := Oi_valOk_0) (k := 0) (by kernel_rfl) (by kernel_rfl) (by kernel_rfl) (by kernel_rfl) (by decide) ki_valOk_0 ?_
  intro ys r outs h
  unfold Fi_valOk at h
  split at h
  · exact (vi_valOk _).trans h
  · cases h
end Go.Proofs.YtopoiinmhajhmaaDoor.E
end
section
namespace Go.Proofs.YtopoiinmhajhmaaDoor.E
open Go
set_option maxRecDepth 100000
set_option maxHeartbeats 0
set_option linter.all false
noncomputable def Ei_WrtOk : Env where
  tt := mkTI Go.Proofs.Tryd.prog
  fn := fun f => match f with
    | 66 => some (msi_keyOk, FSem.wk msi_keyOk Fi_keyOk)
    | 67 => some (msi_valOk, FSem.wk msi_valOk Fi_valOk)
    | _ => none
  bxf := fun _ => none
  mv := []
  keep := fun _ => []
  keepB := fun _ => []
  keepX := fun _ => []
  keepXB := fun _ => []
theorem goodFi_WrtOk : ∀ f ms F, Ei_WrtOk.fn f = some (ms, F) → Sound Go.Proofs.Tryd.prog f ms F := fun f ms F h => by
  unfold Ei_WrtOk at h
  dsimp only at h
  split at h
  · injection h with h; injection h with e1 e2; subst e1 e2; exact Sound.wk si_keyOk
  · injection h with h; injection h with e1 e2; subst e1 e2; exact Sound.wk si_valOk
  · cases h
theorem goodBi_WrtOk : ∀ f ms F, Ei_WrtOk.bxf f = some (ms, F) → SoundB Go.Proofs.Tryd.prog f ms F := fun f ms F h => by cases h
theorem goodi_WrtOk : Good Go.Proofs.Tryd.prog Ei_WrtOk := ⟨rfl, goodFi_WrtOk, goodBi_WrtOk⟩
noncomputable def Oi_WrtOk_0 : Orc := fun _ _ => none
noncomputable def msi_WrtOk : List PM := [.rd]
noncomputable def lsi_WrtOk : List (Nat × Code) := loopsAll 0 (Go.Proofs.Tryd.f22.body.getD .skip)

theorem ki_WrtOk_0 : OrcOk Ei_WrtOk Oi_WrtOk_0 lsi_WrtOk 0 := orcOk_none
noncomputable def g_Ai_WrtOk (a0 : ByteArray) (a1 : Bool) (a2 : List (Int)) : Bool := bif a1 then g_Ai_keyOk a0 && (!g_Vi_keyOk_0 a0 || true) else g_Ai_keyOk a0 && (!g_Vi_keyOk_0 a0 || g_Ai_valOk a2)
noncomputable def g_Vi_WrtOk_0 (a0 : ByteArray) (a1 : Bool) (a2 : List (Int)) : Bool := bif a1 then bif g_Vi_keyOk_0 a0 then (↑(List.length a2) : Int) == (0 : Int) else false else bif g_Vi_keyOk_0 a0 then g_Vi_valOk_0 a2 else false
noncomputable def Fi_WrtOk : FSem := fun ys => match ys with
  | [.val true [.str a0, .bool a1, .sl .any 3 (.int .i64) a2]] => some ((g_Ai_WrtOk a0 a1 a2), .val false [.bool (g_Vi_WrtOk_0 a0 a1 a2)], [])
  | _ => none
theorem vi_WrtOk (a0 : ByteArray) (a1 : Bool) (a2 : List (Int)) : collapseH .std Ei_WrtOk Oi_WrtOk_0 (execFn Ei_WrtOk Go.Proofs.Tryd.f22 msi_WrtOk [.val true [.str a0, .bool a1, .sl .any 3 (.int .i64) a2]]) = some ((g_Ai_WrtOk a0 a1 a2), .val false [.bool (g_Vi_WrtOk_0 a0 a1 a2)], []) := by kernel_rfl
theorem si_WrtOk : Sound Go.Proofs.Tryd.prog 22 msi_WrtOk Fi_WrtOk := by
  refine fn_gen goodi_WrtOk (by kernel_rfl) .std (fn := Go.Proofs.Tryd.f22) (c := (Go.Proofs.Tryd.f22.body.getD .skip)) (o := Oi_WrtOk_0) (k := 0) (by kernel_rfl) (by kernel_rfl) (by kernel_rfl) (by kernel_rfl) (by decide) ki_WrtOk_0 ?_
  intro ys r outs h
  unfold Fi_WrtOk at h
  split at h
  · exact (vi_WrtOk _ _ _).trans h
  · cases h
end Go.Proofs.YtopoiinmhajhmaaDoor.E
end
section
namespace Go.Proofs.YtopoiinmhajhmaaDoor.E
open Go
set_option maxRecDepth 100000
set_option maxHeartbeats 0
set_option linter.all false
noncomputable def Ew_jaOk : Env where
  tt := mkTI Go.Proofs.Tryd.prog
  fn := fun f => match f with
    | 22 => some (msi_WrtOk, FSem.wk msi_WrtOk Fi_WrtOk)
    | _ => none
  bxf := fun _ => none
  mv := []
  keep := fun _ => []
  keepB := fun _ => []
  keepX := fun _ => []
  keepXB := fun _ => []
theorem goodFw_jaOk : ∀ f ms F, Ew_jaOk.fn f = some (ms, F) → Sound Go.Proofs.Tryd.prog f ms F := fun f ms F h => by
  unfold Ew_jaOk at h
  dsimp only at h
  split at h
  · injection h with h; injection h with e1 e2; subst e1 e2; exact Sound.wk si_WrtOk
  · cases h
theorem goodBw_jaOk : ∀ f ms F, Ew_jaOk.bxf f = some (ms, F) → SoundB Go.Proofs.Tryd.prog f ms F := fun f ms F h => by cases h
theorem goodw_jaOk : Good Go.Proofs.Tryd.prog Ew_jaOk := ⟨rfl, goodFw_jaOk, goodBw_jaOk⟩
noncomputable def Ow_jaOk_0 : Orc := fun _ _ => none
noncomputable def msw_jaOk : List PM := []
noncomputable def lsw_jaOk : List (Nat × Code) := loopsAll 0 (Go.Proofs.Tryd.f18.body.getD .skip)

theorem kw_jaOk_0 : OrcOk Ew_jaOk Ow_jaOk_0 lsw_jaOk 0 := orcOk_none
noncomputable def g_Aw_jaOk : Bool := g_Ai_WrtOk (lit [(97 : Nat), (49 : Nat)]) false [(1 : Int)]
noncomputable def g_Vw_jaOk_0 : Bool := g_Vi_WrtOk_0 (lit [(97 : Nat), (49 : Nat)]) false [(1 : Int)]
noncomputable def Fw_jaOk : FSem := fun ys => match ys with
  | [] => some (g_Aw_jaOk, .val false [.bool g_Vw_jaOk_0], [])
  | _ => none
theorem vw_jaOk : collapseH .std Ew_jaOk Ow_jaOk_0 (execFn Ew_jaOk Go.Proofs.Tryd.f18 msw_jaOk []) = some (g_Aw_jaOk, .val false [.bool g_Vw_jaOk_0], []) := by kernel_rfl
theorem sw_jaOk : Sound Go.Proofs.Tryd.prog 18 msw_jaOk Fw_jaOk := by
  refine fn_gen goodw_jaOk (by kernel_rfl) .std (fn := Go.Proofs.Tryd.f18) (c := (Go.Proofs.Tryd.f18.body.getD .skip)) (o := Ow_jaOk_0) (k := 0) (by kernel_rfl) (by kernel_rfl) (by kernel_rfl) (by kernel_rfl) (by decide) kw_jaOk_0 ?_
  intro ys r outs h
  unfold Fw_jaOk at h
  split at h
  · exact (vw_jaOk).trans h
  · cases h
end Go.Proofs.YtopoiinmhajhmaaDoor.E
end
section
namespace Go.Proofs.YtopoiinmhajhmaaDoor.E
open Go
set_option maxRecDepth 100000
set_option maxHeartbeats 0
set_option linter.all false
noncomputable def Ew_FnOpPlaces : Env where
  tt := mkTI Go.Proofs.Tryd.prog
  fn := fun f => match f with
    | 18 => some (msw_jaOk, FSem.wk msw_jaOk Fw_jaOk)
    | 26 => some (mss_OpOk, FSem.wk mss_OpOk Fs_OpOk)
    | 28 => some (mss_DrawOpPlaces, FSem.wk mss_DrawOpPlaces Fs_DrawOpPlaces)
    | 29 => some (msi_OpPlaces, FSem.wk msi_OpPlaces Fi_OpPlaces)
    | 30 => some (msw_jaInts, FSem.wk msw_jaInts Fw_jaInts)
    | 31 => some (mss_OpPlaces, FSem.wk mss_OpPlaces Fs_OpPlaces)
    | 32 => some (msw_jaIn, FSem.wk msw_jaIn Fw_jaIn)
    | _ => none
  bxf := fun _ => none
  mv := []
  keep := fun b => match b with
    | 0 => [(3, false), (4, false), (5, false)]
    | _ => []
  keepB := fun b => match b with
    | 0 => [(3, false)]
    | _ => []
  keepX := fun b => match b with
    | 0 => [(2, false), (3, false), (4, false)]
    | _ => []
  keepXB := fun b => match b with
    | 0 => [(3, false)]
    | _ => []
theorem goodFw_FnOpPlaces : ∀ f ms F, Ew_FnOpPlaces.fn f = some (ms, F) → Sound Go.Proofs.Tryd.prog f ms F := fun f ms F h => by
  unfold Ew_FnOpPlaces at h
  dsimp only at h
  split at h
  · injection h with h; injection h with e1 e2; subst e1 e2; exact Sound.wk sw_jaOk
  · injection h with h; injection h with e1 e2; subst e1 e2; exact Sound.wk ss_OpOk
  · injection h with h; injection h with e1 e2; subst e1 e2; exact Sound.wk ss_DrawOpPlaces
  · injection h with h; injection h with e1 e2; subst e1 e2; exact Sound.wk si_OpPlaces
  · injection h with h; injection h with e1 e2; subst e1 e2; exact Sound.wk sw_jaInts
  · injection h with h; injection h with e1 e2; subst e1 e2; exact Sound.wk ss_OpPlaces
  · injection h with h; injection h with e1 e2; subst e1 e2; exact Sound.wk sw_jaIn
  · cases h
theorem goodBw_FnOpPlaces : ∀ f ms F, Ew_FnOpPlaces.bxf f = some (ms, F) → SoundB Go.Proofs.Tryd.prog f ms F := fun f ms F h => by cases h
theorem goodw_FnOpPlaces : Good Go.Proofs.Tryd.prog Ew_FnOpPlaces := ⟨rfl, goodFw_FnOpPlaces, goodBw_FnOpPlaces⟩
noncomputable def Ow_FnOpPlaces_0 : Orc := fun _ _ => none
noncomputable def msw_FnOpPlaces : List PM := [.rd]
noncomputable def lsw_FnOpPlaces : List (Nat × Code) := loopsAll 0 (Go.Proofs.Tryd.f7.body.getD .skip)
noncomputable def cw_FnOpPlaces_0 : Code := (loopOf 0 (Go.Proofs.Tryd.f7.body.getD .skip)).getD .skip
theorem lseqw_FnOpPlaces : lsw_FnOpPlaces = [(0, cw_FnOpPlaces_0)] := by kernel_rfl
theorem mw_FnOpPlaces_0 : ∀ p, p ∈ lsw_FnOpPlaces → p.1 = 0 → p.2 = cw_FnOpPlaces_0 := by
  intro p hp
  rw [lseqw_FnOpPlaces] at hp
  simp only [List.mem_cons, List.not_mem_nil, or_false] at hp
  subst hp; simp
theorem kw_FnOpPlaces_0 : OrcOk Ew_FnOpPlaces Ow_FnOpPlaces_0 lsw_FnOpPlaces 0 := orcOk_none
noncomputable def hw_FnOpPlaces_0 (y0 : List (Int)) (y1 : Int) (y2 : Int) (y3 : Int) (y4 : Int) (y5 : Int) (y6 : Int) (y7 : Int) (y8 : Int) : List (Pl × LV) := [(.T 3, .t (.val false [.ptr 3 0 0])), (.T 4, .t (.val false [.row 4 0 0])), (.R 4 0, .r 0 (some ⟨false, .any, true, 3, (.int .i64), y0⟩)), (.T 5, .t (.val false [.int .i64 y1])), (.B 3, .b 0 false [.int .i64 y2, .int .i64 y3, .int .i64 y4, .int .i64 y5, .int .i64 y6, .int .i64 y7, .int .i64 y8])]
noncomputable def g_Sw_FnOpPlaces_0 (y0 : List (Int)) (y2 : Int) (y3 : Int) (y4 : Int) (y5 : Int) (y6 : Int) (y7 : Int) (y8 : Int) : ((Int)) → RT ((Int)) (((Bool)) ⊕ (Unit))
  | y1 => .br (true) (.br (decide (y1 < (↑(List.length y0) : Int))) (.br (true) (.br (decide ((0 : Int) ≤ IntKind.wrap IntKind.i64 (y1 - (1 : Int)) ∧ IntKind.wrap IntKind.i64 (y1 - (1 : Int)) < (↑(List.length y0) : Int))) (.br (decide (Int.toNat (IntKind.wrap IntKind.i64 (y1 - (1 : Int))) < List.length y0)) (.br (decide ((0 : Int) ≤ y1 ∧ y1 < (↑(List.length y0) : Int))) (.br (decide (Int.toNat y1 < List.length y0)) (.br (true) (.br (decide (at_ (Ty.int IntKind.i64) y0 (Int.toNat (IntKind.wrap IntKind.i64 (y1 - (1 : Int)))) ≥ at_ (Ty.int IntKind.i64) y0 (Int.toNat y1))) (.out (.inl false)) (.br (true) (.go (IntKind.wrap IntKind.i64 (y1 + (1 : Int)))) (.bad))) (.bad)) (.bad)) (.bad)) (.bad)) (.bad)) (.bad)) (.out (.inr (())))) (.bad)
noncomputable def g_Lw_FnOpPlaces_0 (y0 : List (Int)) (y2 : Int) (y3 : Int) (y4 : Int) (y5 : Int) (y6 : Int) (y7 : Int) (y8 : Int) (x : (Int)) : Option (((Bool)) ⊕ (Unit)) := loopO (g_Sw_FnOpPlaces_0 y0 y2 y3 y4 y5 y6 y7 y8) x
noncomputable def xw_FnOpPlaces_0 (y0 : List (Int)) (y2 : Int) (y3 : Int) (y4 : Int) (y5 : Int) (y6 : Int) (y7 : Int) (y8 : Int) : (((Bool)) ⊕ (Unit)) → Ex × List (Pl × LV) := fun
  | .inl r => (.ret, [(.T 2, .t (.val false [.bool r])), (.T 3, .t (.val false [.ptr 3 0 0])), (.T 4, .t (.val false [.row 4 0 0])), (.R 4 0, .r 0 (some ⟨false, .any, true, 3, (.int .i64), y0⟩)), (.B 3, .b 0 false [.int .i64 y2, .int .i64 y3, .int .i64 y4, .int .i64 y5, .int .i64 y6, .int .i64 y7, .int .i64 y8])])
  | .inr (r) => (.exit 0, [(.T 2, .t (.val false [.undef])), (.T 3, .t (.val false [.ptr 3 0 0])), (.T 4, .t (.val false [.row 4 0 0])), (.R 4 0, .r 0 (some ⟨false, .any, true, 3, (.int .i64), y0⟩)), (.B 3, .b 0 false [.int .i64 y2, .int .i64 y3, .int .i64 y4, .int .i64 y5, .int .i64 y6, .int .i64 y7, .int .i64 y8])])
noncomputable def Ow_FnOpPlaces_1 : Orc := fun b h => match b, h with
  | 0, [(.T 3, .t (.val false [.ptr 3 0 0])), (.T 4, .t (.val false [.row 4 0 0])), (.R 4 0, .r 0 (some ⟨false, .any, true, 3, (.int .i64), y0⟩)), (.T 5, .t (.val false [.int .i64 y1])), (.B 3, .b 0 false [.int .i64 y2, .int .i64 y3, .int .i64 y4, .int .i64 y5, .int .i64 y6, .int .i64 y7, .int .i64 y8])] => some (okO (g_Lw_FnOpPlaces_0 y0 y2 y3 y4 y5 y6 y7 y8 y1), (.br (isL (valO (g_Lw_FnOpPlaces_0 y0 y2 y3 y4 y5 y6 y7 y8 y1))) (.leaf .ret [(.T 2, .t (.val false [.bool (getL (valO (g_Lw_FnOpPlaces_0 y0 y2 y3 y4 y5 y6 y7 y8 y1)))])), (.T 3, .t (.val false [.ptr 3 0 0])), (.T 4, .t (.val false [.row 4 0 0])), (.R 4 0, .r 0 (some ⟨false, .any, true, 3, (.int .i64), y0⟩)), (.B 3, .b 0 false [.int .i64 y2, .int .i64 y3, .int .i64 y4, .int .i64 y5, .int .i64 y6, .int .i64 y7, .int .i64 y8])]) (.leaf (.exit 0) [(.T 2, .t (.val false [.undef])), (.T 3, .t (.val false [.ptr 3 0 0])), (.T 4, .t (.val false [.row 4 0 0])), (.R 4 0, .r 0 (some ⟨false, .any, true, 3, (.int .i64), y0⟩)), (.B 3, .b 0 false [.int .i64 y2, .int .i64 y3, .int .i64 y4, .int .i64 y5, .int .i64 y6, .int .i64 y7, .int .i64 y8])])))
  | b, h => Ow_FnOpPlaces_0 b h
theorem bw_FnOpPlaces_0 (y0 : List (Int)) (y1 : Int) (y2 : Int) (y3 : Int) (y4 : Int) (y5 : Int) (y6 : Int) (y7 : Int) (y8 : Int) : Tr.bt Ew_FnOpPlaces Ow_FnOpPlaces_0 (exec Ew_FnOpPlaces 0 cw_FnOpPlaces_0 (St.of (hw_FnOpPlaces_0 y0 y1 y2 y3 y4 y5 y6 y7 y8)) (leafRd Ew_FnOpPlaces 0)) = (g_Sw_FnOpPlaces_0 y0 y2 y3 y4 y5 y6 y7 y8 y1).bt (fun (y1 : (Int)) => (hw_FnOpPlaces_0 y0 y1 y2 y3 y4 y5 y6 y7 y8)) (xw_FnOpPlaces_0 y0 y2 y3 y4 y5 y6 y7 y8) := by kernel_rfl
theorem kw_FnOpPlaces_1 : OrcOk Ew_FnOpPlaces Ow_FnOpPlaces_1 lsw_FnOpPlaces 1 := orc_add kw_FnOpPlaces_0 (fun n p hp h ex h' ho => by
  obtain ⟨b, c⟩ := p
  obtain ⟨xt, h1, h2⟩ := ho
  have h1 : Ow_FnOpPlaces_1 b h = some (true, xt) := h1
  unfold Ow_FnOpPlaces_1 at h1
  split at h1
  · injection h1 with h1
    injection h1 with e1 e2
    subst e2
    have hc : c = cw_FnOpPlaces_0 := mw_FnOpPlaces_0 _ hp rfl
    subst hc
    right
    rename_i y0 y1 y2 y3 y4 y5 y6 y7 y8
    have key := LT_step kw_FnOpPlaces_0 hp (fun q hq => loopsAll_in _ _ _ _ hp hq) (fun (y1 : (Int)) => (hw_FnOpPlaces_0 y0 y1 y2 y3 y4 y5 y6 y7 y8)) (xw_FnOpPlaces_0 y0 y2 y3 y4 y5 y6 y7 y8) (g_Sw_FnOpPlaces_0 y0 y2 y3 y4 y5 y6 y7 y8) (fun x => by first | exact bw_FnOpPlaces_0 y0 x y2 y3 y4 y5 y6 y7 y8) n (x := y1) (okO_some e1)
    have hx : ∀ r, XT.sel (.br (isL r) (.leaf .ret [(.T 2, .t (.val false [.bool (getL r)])), (.T 3, .t (.val false [.ptr 3 0 0])), (.T 4, .t (.val false [.row 4 0 0])), (.R 4 0, .r 0 (some ⟨false, .any, true, 3, (.int .i64), y0⟩)), (.B 3, .b 0 false [.int .i64 y2, .int .i64 y3, .int .i64 y4, .int .i64 y5, .int .i64 y6, .int .i64 y7, .int .i64 y8])]) (.leaf (.exit 0) [(.T 2, .t (.val false [.undef])), (.T 3, .t (.val false [.ptr 3 0 0])), (.T 4, .t (.val false [.row 4 0 0])), (.R 4 0, .r 0 (some ⟨false, .any, true, 3, (.int .i64), y0⟩)), (.B 3, .b 0 false [.int .i64 y2, .int .i64 y3, .int .i64 y4, .int .i64 y5, .int .i64 y6, .int .i64 y7, .int .i64 y8])])) = xw_FnOpPlaces_0 y0 y2 y3 y4 y5 y6 y7 y8 r := fun r => by first | rfl | (rcases r with r | r <;> rfl) | (rcases r with r | r | r <;> rfl) | (rcases r with r | r | r | r <;> rfl)
    have h3 := (hx (valO (g_Lw_FnOpPlaces_0 y0 y2 y3 y4 y5 y6 y7 y8 y1))).symm.trans h2
    have e3 := congrArg Prod.fst h3
    have e4 := congrArg Prod.snd h3
    simp only at e3 e4
    rw [← e3, ← e4]
    exact key
  · exact .inl ⟨xt, h1, h2⟩)
noncomputable def g_Aw_FnOpPlaces (a0 : List (Int)) : Bool := decide ((↑(List.length a0) : Int) > (1048576 : Int)) || g_As_DrawOpPlaces a0 && (g_Ai_OpPlaces (g_Vs_DrawOpPlaces_0 a0) (g_Vs_DrawOpPlaces_1 a0) (g_Vs_DrawOpPlaces_2 a0) (g_Vs_DrawOpPlaces_3 a0) (g_Vs_DrawOpPlaces_4 a0) (g_Vs_DrawOpPlaces_5 a0) (g_Vs_DrawOpPlaces_6 a0) && (g_As_OpPlaces (g_Vs_DrawOpPlaces_0 a0) (g_Vs_DrawOpPlaces_1 a0) (g_Vs_DrawOpPlaces_2 a0) (g_Vs_DrawOpPlaces_3 a0) (g_Vs_DrawOpPlaces_4 a0) (g_Vs_DrawOpPlaces_5 a0) (g_Vs_DrawOpPlaces_6 a0) && (g_Aw_jaInts (g_Vi_OpPlaces_0 (g_Vs_DrawOpPlaces_0 a0) (g_Vs_DrawOpPlaces_1 a0) (g_Vs_DrawOpPlaces_2 a0) (g_Vs_DrawOpPlaces_3 a0) (g_Vs_DrawOpPlaces_4 a0) (g_Vs_DrawOpPlaces_5 a0) (g_Vs_DrawOpPlaces_6 a0)) (g_Vs_OpPlaces_0 (g_Vs_DrawOpPlaces_0 a0) (g_Vs_DrawOpPlaces_1 a0) (g_Vs_DrawOpPlaces_2 a0) (g_Vs_DrawOpPlaces_3 a0) (g_Vs_DrawOpPlaces_4 a0) (g_Vs_DrawOpPlaces_5 a0) (g_Vs_DrawOpPlaces_6 a0)) && (!g_Vw_jaInts_0 (g_Vi_OpPlaces_0 (g_Vs_DrawOpPlaces_0 a0) (g_Vs_DrawOpPlaces_1 a0) (g_Vs_DrawOpPlaces_2 a0) (g_Vs_DrawOpPlaces_3 a0) (g_Vs_DrawOpPlaces_4 a0) (g_Vs_DrawOpPlaces_5 a0) (g_Vs_DrawOpPlaces_6 a0)) (g_Vs_OpPlaces_0 (g_Vs_DrawOpPlaces_0 a0) (g_Vs_DrawOpPlaces_1 a0) (g_Vs_DrawOpPlaces_2 a0) (g_Vs_DrawOpPlaces_3 a0) (g_Vs_DrawOpPlaces_4 a0) (g_Vs_DrawOpPlaces_5 a0) (g_Vs_DrawOpPlaces_6 a0)) || g_As_OpOk (g_Vs_DrawOpPlaces_0 a0) (g_Vs_DrawOpPlaces_1 a0) (g_Vs_DrawOpPlaces_2 a0) (g_Vs_DrawOpPlaces_3 a0) (g_Vs_DrawOpPlaces_4 a0) (g_Vs_DrawOpPlaces_5 a0) (g_Vs_DrawOpPlaces_6 a0) && bif !g_Vs_OpOk_0 (g_Vs_DrawOpPlaces_0 a0) (g_Vs_DrawOpPlaces_1 a0) (g_Vs_DrawOpPlaces_2 a0) (g_Vs_DrawOpPlaces_3 a0) (g_Vs_DrawOpPlaces_4 a0) (g_Vs_DrawOpPlaces_5 a0) (g_Vs_DrawOpPlaces_6 a0) then !(↑(List.length (g_Vi_OpPlaces_0 (g_Vs_DrawOpPlaces_0 a0) (g_Vs_DrawOpPlaces_1 a0) (g_Vs_DrawOpPlaces_2 a0) (g_Vs_DrawOpPlaces_3 a0) (g_Vs_DrawOpPlaces_4 a0) (g_Vs_DrawOpPlaces_5 a0) (g_Vs_DrawOpPlaces_6 a0))) : Int) == (0 : Int) || g_Aw_jaOk else okO (g_Lw_FnOpPlaces_0 (g_Vi_OpPlaces_0 (g_Vs_DrawOpPlaces_0 a0) (g_Vs_DrawOpPlaces_1 a0) (g_Vs_DrawOpPlaces_2 a0) (g_Vs_DrawOpPlaces_3 a0) (g_Vs_DrawOpPlaces_4 a0) (g_Vs_DrawOpPlaces_5 a0) (g_Vs_DrawOpPlaces_6 a0)) (g_Vs_DrawOpPlaces_0 a0) (g_Vs_DrawOpPlaces_1 a0) (g_Vs_DrawOpPlaces_2 a0) (g_Vs_DrawOpPlaces_3 a0) (g_Vs_DrawOpPlaces_4 a0) (g_Vs_DrawOpPlaces_5 a0) (g_Vs_DrawOpPlaces_6 a0) (1 : Int)) && (isL (valO (g_Lw_FnOpPlaces_0 (g_Vi_OpPlaces_0 (g_Vs_DrawOpPlaces_0 a0) (g_Vs_DrawOpPlaces_1 a0) (g_Vs_DrawOpPlaces_2 a0) (g_Vs_DrawOpPlaces_3 a0) (g_Vs_DrawOpPlaces_4 a0) (g_Vs_DrawOpPlaces_5 a0) (g_Vs_DrawOpPlaces_6 a0)) (g_Vs_DrawOpPlaces_0 a0) (g_Vs_DrawOpPlaces_1 a0) (g_Vs_DrawOpPlaces_2 a0) (g_Vs_DrawOpPlaces_3 a0) (g_Vs_DrawOpPlaces_4 a0) (g_Vs_DrawOpPlaces_5 a0) (g_Vs_DrawOpPlaces_6 a0) (1 : Int))) || (!decide ((↑(List.length (g_Vi_OpPlaces_0 (g_Vs_DrawOpPlaces_0 a0) (g_Vs_DrawOpPlaces_1 a0) (g_Vs_DrawOpPlaces_2 a0) (g_Vs_DrawOpPlaces_3 a0) (g_Vs_DrawOpPlaces_4 a0) (g_Vs_DrawOpPlaces_5 a0) (g_Vs_DrawOpPlaces_6 a0))) : Int) ≥ (2 : Int)) || decide ((0 : Int) ≤ IntKind.wrap IntKind.i64 ((↑(List.length (g_Vi_OpPlaces_0 (g_Vs_DrawOpPlaces_0 a0) (g_Vs_DrawOpPlaces_1 a0) (g_Vs_DrawOpPlaces_2 a0) (g_Vs_DrawOpPlaces_3 a0) (g_Vs_DrawOpPlaces_4 a0) (g_Vs_DrawOpPlaces_5 a0) (g_Vs_DrawOpPlaces_6 a0))) : Int) - (1 : Int)) ∧ IntKind.wrap IntKind.i64 ((↑(List.length (g_Vi_OpPlaces_0 (g_Vs_DrawOpPlaces_0 a0) (g_Vs_DrawOpPlaces_1 a0) (g_Vs_DrawOpPlaces_2 a0) (g_Vs_DrawOpPlaces_3 a0) (g_Vs_DrawOpPlaces_4 a0) (g_Vs_DrawOpPlaces_5 a0) (g_Vs_DrawOpPlaces_6 a0))) : Int) - (1 : Int)) < (↑(List.length (g_Vi_OpPlaces_0 (g_Vs_DrawOpPlaces_0 a0) (g_Vs_DrawOpPlaces_1 a0) (g_Vs_DrawOpPlaces_2 a0) (g_Vs_DrawOpPlaces_3 a0) (g_Vs_DrawOpPlaces_4 a0) (g_Vs_DrawOpPlaces_5 a0) (g_Vs_DrawOpPlaces_6 a0))) : Int)) && (decide (Int.toNat (IntKind.wrap IntKind.i64 ((↑(List.length (g_Vi_OpPlaces_0 (g_Vs_DrawOpPlaces_0 a0) (g_Vs_DrawOpPlaces_1 a0) (g_Vs_DrawOpPlaces_2 a0) (g_Vs_DrawOpPlaces_3 a0) (g_Vs_DrawOpPlaces_4 a0) (g_Vs_DrawOpPlaces_5 a0) (g_Vs_DrawOpPlaces_6 a0))) : Int) - (1 : Int))) < List.length (g_Vi_OpPlaces_0 (g_Vs_DrawOpPlaces_0 a0) (g_Vs_DrawOpPlaces_1 a0) (g_Vs_DrawOpPlaces_2 a0) (g_Vs_DrawOpPlaces_3 a0) (g_Vs_DrawOpPlaces_4 a0) (g_Vs_DrawOpPlaces_5 a0) (g_Vs_DrawOpPlaces_6 a0))) && (!at_ (Ty.int IntKind.i64) (g_Vi_OpPlaces_0 (g_Vs_DrawOpPlaces_0 a0) (g_Vs_DrawOpPlaces_1 a0) (g_Vs_DrawOpPlaces_2 a0) (g_Vs_DrawOpPlaces_3 a0) (g_Vs_DrawOpPlaces_4 a0) (g_Vs_DrawOpPlaces_5 a0) (g_Vs_DrawOpPlaces_6 a0)) (Int.toNat (IntKind.wrap IntKind.i64 ((↑(List.length (g_Vi_OpPlaces_0 (g_Vs_DrawOpPlaces_0 a0) (g_Vs_DrawOpPlaces_1 a0) (g_Vs_DrawOpPlaces_2 a0) (g_Vs_DrawOpPlaces_3 a0) (g_Vs_DrawOpPlaces_4 a0) (g_Vs_DrawOpPlaces_5 a0) (g_Vs_DrawOpPlaces_6 a0))) : Int) - (1 : Int)))) == (3 : Int) || g_Aw_jaIn (g_Vi_OpPlaces_0 (g_Vs_DrawOpPlaces_0 a0) (g_Vs_DrawOpPlaces_1 a0) (g_Vs_DrawOpPlaces_2 a0) (g_Vs_DrawOpPlaces_3 a0) (g_Vs_DrawOpPlaces_4 a0) (g_Vs_DrawOpPlaces_5 a0) (g_Vs_DrawOpPlaces_6 a0)) (1 : Int) && (g_Vs_DrawOpPlaces_0 a0 == (1 : Int) || (g_Vs_DrawOpPlaces_0 a0 == (2 : Int) || true))))))))))
noncomputable def g_Vw_FnOpPlaces_0 (a0 : List (Int)) : Bool := bif decide ((↑(List.length a0) : Int) > (1048576 : Int)) then true else bif !g_Vw_jaInts_0 (g_Vi_OpPlaces_0 (g_Vs_DrawOpPlaces_0 a0) (g_Vs_DrawOpPlaces_1 a0) (g_Vs_DrawOpPlaces_2 a0) (g_Vs_DrawOpPlaces_3 a0) (g_Vs_DrawOpPlaces_4 a0) (g_Vs_DrawOpPlaces_5 a0) (g_Vs_DrawOpPlaces_6 a0)) (g_Vs_OpPlaces_0 (g_Vs_DrawOpPlaces_0 a0) (g_Vs_DrawOpPlaces_1 a0) (g_Vs_DrawOpPlaces_2 a0) (g_Vs_DrawOpPlaces_3 a0) (g_Vs_DrawOpPlaces_4 a0) (g_Vs_DrawOpPlaces_5 a0) (g_Vs_DrawOpPlaces_6 a0)) then false else bif !g_Vs_OpOk_0 (g_Vs_DrawOpPlaces_0 a0) (g_Vs_DrawOpPlaces_1 a0) (g_Vs_DrawOpPlaces_2 a0) (g_Vs_DrawOpPlaces_3 a0) (g_Vs_DrawOpPlaces_4 a0) (g_Vs_DrawOpPlaces_5 a0) (g_Vs_DrawOpPlaces_6 a0) then bif (↑(List.length (g_Vi_OpPlaces_0 (g_Vs_DrawOpPlaces_0 a0) (g_Vs_DrawOpPlaces_1 a0) (g_Vs_DrawOpPlaces_2 a0) (g_Vs_DrawOpPlaces_3 a0) (g_Vs_DrawOpPlaces_4 a0) (g_Vs_DrawOpPlaces_5 a0) (g_Vs_DrawOpPlaces_6 a0))) : Int) == (0 : Int) then g_Vw_jaOk_0 else false else bif isL (valO (g_Lw_FnOpPlaces_0 (g_Vi_OpPlaces_0 (g_Vs_DrawOpPlaces_0 a0) (g_Vs_DrawOpPlaces_1 a0) (g_Vs_DrawOpPlaces_2 a0) (g_Vs_DrawOpPlaces_3 a0) (g_Vs_DrawOpPlaces_4 a0) (g_Vs_DrawOpPlaces_5 a0) (g_Vs_DrawOpPlaces_6 a0)) (g_Vs_DrawOpPlaces_0 a0) (g_Vs_DrawOpPlaces_1 a0) (g_Vs_DrawOpPlaces_2 a0) (g_Vs_DrawOpPlaces_3 a0) (g_Vs_DrawOpPlaces_4 a0) (g_Vs_DrawOpPlaces_5 a0) (g_Vs_DrawOpPlaces_6 a0) (1 : Int))) then getL (valO (g_Lw_FnOpPlaces_0 (g_Vi_OpPlaces_0 (g_Vs_DrawOpPlaces_0 a0) (g_Vs_DrawOpPlaces_1 a0) (g_Vs_DrawOpPlaces_2 a0) (g_Vs_DrawOpPlaces_3 a0) (g_Vs_DrawOpPlaces_4 a0) (g_Vs_DrawOpPlaces_5 a0) (g_Vs_DrawOpPlaces_6 a0)) (g_Vs_DrawOpPlaces_0 a0) (g_Vs_DrawOpPlaces_1 a0) (g_Vs_DrawOpPlaces_2 a0) (g_Vs_DrawOpPlaces_3 a0) (g_Vs_DrawOpPlaces_4 a0) (g_Vs_DrawOpPlaces_5 a0) (g_Vs_DrawOpPlaces_6 a0) (1 : Int))) else bif decide ((↑(List.length (g_Vi_OpPlaces_0 (g_Vs_DrawOpPlaces_0 a0) (g_Vs_DrawOpPlaces_1 a0) (g_Vs_DrawOpPlaces_2 a0) (g_Vs_DrawOpPlaces_3 a0) (g_Vs_DrawOpPlaces_4 a0) (g_Vs_DrawOpPlaces_5 a0) (g_Vs_DrawOpPlaces_6 a0))) : Int) ≥ (2 : Int)) then bif at_ (Ty.int IntKind.i64) (g_Vi_OpPlaces_0 (g_Vs_DrawOpPlaces_0 a0) (g_Vs_DrawOpPlaces_1 a0) (g_Vs_DrawOpPlaces_2 a0) (g_Vs_DrawOpPlaces_3 a0) (g_Vs_DrawOpPlaces_4 a0) (g_Vs_DrawOpPlaces_5 a0) (g_Vs_DrawOpPlaces_6 a0)) (Int.toNat (IntKind.wrap IntKind.i64 ((↑(List.length (g_Vi_OpPlaces_0 (g_Vs_DrawOpPlaces_0 a0) (g_Vs_DrawOpPlaces_1 a0) (g_Vs_DrawOpPlaces_2 a0) (g_Vs_DrawOpPlaces_3 a0) (g_Vs_DrawOpPlaces_4 a0) (g_Vs_DrawOpPlaces_5 a0) (g_Vs_DrawOpPlaces_6 a0))) : Int) - (1 : Int)))) == (3 : Int) then bif g_Vs_DrawOpPlaces_0 a0 == (1 : Int) then g_Vw_jaIn_0 (g_Vi_OpPlaces_0 (g_Vs_DrawOpPlaces_0 a0) (g_Vs_DrawOpPlaces_1 a0) (g_Vs_DrawOpPlaces_2 a0) (g_Vs_DrawOpPlaces_3 a0) (g_Vs_DrawOpPlaces_4 a0) (g_Vs_DrawOpPlaces_5 a0) (g_Vs_DrawOpPlaces_6 a0)) (1 : Int) == true else bif g_Vs_DrawOpPlaces_0 a0 == (2 : Int) then g_Vw_jaIn_0 (g_Vi_OpPlaces_0 (g_Vs_DrawOpPlaces_0 a0) (g_Vs_DrawOpPlaces_1 a0) (g_Vs_DrawOpPlaces_2 a0) (g_Vs_DrawOpPlaces_3 a0) (g_Vs_DrawOpPlaces_4 a0) (g_Vs_DrawOpPlaces_5 a0) (g_Vs_DrawOpPlaces_6 a0)) (1 : Int) == true else g_Vw_jaIn_0 (g_Vi_OpPlaces_0 (g_Vs_DrawOpPlaces_0 a0) (g_Vs_DrawOpPlaces_1 a0) (g_Vs_DrawOpPlaces_2 a0) (g_Vs_DrawOpPlaces_3 a0) (g_Vs_DrawOpPlaces_4 a0) (g_Vs_DrawOpPlaces_5 a0) (g_Vs_DrawOpPlaces_6 a0)) (1 : Int) == (g_Vs_DrawOpPlaces_0 a0 == (5 : Int)) else false else false
noncomputable def Fw_FnOpPlaces : FSem := fun ys => match ys with
  | [.val false [.sl .any 5 (.int .u8) a0]] => some ((g_Aw_FnOpPlaces a0), .val false [.bool (g_Vw_FnOpPlaces_0 a0)], [])
  | _ => none
theorem vw_FnOpPlaces (a0 : List (Int)) : collapseH .std Ew_FnOpPlaces Ow_FnOpPlaces_1 (execFn Ew_FnOpPlaces Go.Proofs.Tryd.f7 msw_FnOpPlaces [.val false [.sl .any 5 (.int .u8) a0]]) = some ((g_Aw_FnOpPlaces a0), .val false [.bool (g_Vw_FnOpPlaces_0 a0)], []) := by kernel_rfl
theorem sw_FnOpPlaces : Sound Go.Proofs.Tryd.prog 7 msw_FnOpPlaces Fw_FnOpPlaces := by
  refine fn_gen goodw_FnOpPlaces (by kernel_rfl) .std (fn := Go.Proofs.Tryd.f7) (c := (Go.Proofs.Tryd.f7.body.getD .skip)) (o := Ow_FnOpPlaces_1) (k := 1) (by kernel_rfl) (by kernel_rfl) (by kernel_rfl) (by kernel_rfl) (by decide) kw_FnOpPlaces_1 ?_
  intro ys r outs h
  unfold Fw_FnOpPlaces at h
  split at h
  · exact (vw_FnOpPlaces _).trans h
  · cases h
end Go.Proofs.YtopoiinmhajhmaaDoor.E
end
section
namespace Go.Proofs.YtopoiinmhajhmaaDoor.E
open Go
set_option maxRecDepth 100000
set_option maxHeartbeats 0
set_option linter.all false
noncomputable def Es_l1Key : Env where
  tt := mkTI Go.Proofs.Tryd.prog
  fn := fun f => match f with
    | 61 => some (mss_l1In, FSem.wk mss_l1In Fs_l1In)
    | _ => none
  bxf := fun _ => none
  mv := []
  keep := fun b => match b with
    | 0 => [(0, false), (3, false)]
    | _ => []
  keepB := fun b => match b with
    | 0 => []
    | _ => []
  keepX := fun b => match b with
    | 0 => [(2, false)]
    | _ => []
  keepXB := fun b => match b with
    | 0 => []
    | _ => []
theorem goodFs_l1Key : ∀ f ms F, Es_l1Key.fn f = some (ms, F) → Sound Go.Proofs.Tryd.prog f ms F := fun f ms F h => by
  unfold Es_l1Key at h
  dsimp only at h
  split at h
  · injection h with h; injection h with e1 e2; subst e1 e2; exact Sound.wk ss_l1In
  · cases h
theorem goodBs_l1Key : ∀ f ms F, Es_l1Key.bxf f = some (ms, F) → SoundB Go.Proofs.Tryd.prog f ms F := fun f ms F h => by cases h
theorem goods_l1Key : Good Go.Proofs.Tryd.prog Es_l1Key := ⟨rfl, goodFs_l1Key, goodBs_l1Key⟩
noncomputable def Os_l1Key_0 : Orc := fun _ _ => none
noncomputable def mss_l1Key : List PM := [.own]
noncomputable def lss_l1Key : List (Nat × Code) := loopsAll 0 (Go.Proofs.Tryd.f63.body.getD .skip)
noncomputable def cs_l1Key_0 : Code := (loopOf 0 (Go.Proofs.Tryd.f63.body.getD .skip)).getD .skip
theorem lseqs_l1Key : lss_l1Key = [(0, cs_l1Key_0)] := by kernel_rfl
theorem ms_l1Key_0 : ∀ p, p ∈ lss_l1Key → p.1 = 0 → p.2 = cs_l1Key_0 := by
  intro p hp
  rw [lseqs_l1Key] at hp
  simp only [List.mem_cons, List.not_mem_nil, or_false] at hp
  subst hp; simp
theorem ks_l1Key_0 : OrcOk Es_l1Key Os_l1Key_0 lss_l1Key 0 := orcOk_none
noncomputable def hs_l1Key_0 (y0 : ByteArray) (y1 : Int) : List (Pl × LV) := [(.T 0, .t (.val false [.str y0])), (.T 3, .t (.val false [.int .i64 y1]))]
noncomputable def g_Ss_l1Key_0 (y0 : ByteArray) : ((Int)) → RT ((Int)) (((Bool)) ⊕ (Unit))
  | y1 => .br (true) (.br (decide (y1 < (↑(ByteArray.size y0) : Int))) (.br (decide ((0 : Int) ≤ y1 ∧ y1 < (↑(ByteArray.size y0) : Int))) (.br (true) (.br (decide (byteAt y0 (Int.toNat y1) < (48 : Int))) (.out (.inl false)) (.br (decide ((0 : Int) ≤ y1 ∧ y1 < (↑(ByteArray.size y0) : Int))) (.br (true) (.br (decide (byteAt y0 (Int.toNat y1) > (57 : Int))) (.out (.inl false)) (.br (true) (.go (IntKind.wrap IntKind.i64 (y1 + (1 : Int)))) (.bad))) (.bad)) (.bad))) (.bad)) (.bad)) (.out (.inr (())))) (.bad)
noncomputable def g_Ls_l1Key_0 (y0 : ByteArray) (x : (Int)) : Option (((Bool)) ⊕ (Unit)) := loopO (g_Ss_l1Key_0 y0) x
noncomputable def xs_l1Key_0 (y0 : ByteArray) : (((Bool)) ⊕ (Unit)) → Ex × List (Pl × LV) := fun
  | .inl r => (.ret, [(.T 2, .t (.val false [.bool r]))])
  | .inr (r) => (.exit 0, [(.T 2, .t (.val false [.undef]))])
noncomputable def Os_l1Key_1 : Orc := fun b h => match b, h with
  | 0, [(.T 0, .t (.val false [.str y0])), (.T 3, .t (.val false [.int .i64 y1]))] => some (okO (g_Ls_l1Key_0 y0 y1), (.br (isL (valO (g_Ls_l1Key_0 y0 y1))) (.leaf .ret [(.T 2, .t (.val false [.bool (getL (valO (g_Ls_l1Key_0 y0 y1)))]))]) (.leaf (.exit 0) [(.T 2, .t (.val false [.undef]))])))
  | b, h => Os_l1Key_0 b h
theorem bs_l1Key_0 (y0 : ByteArray) (y1 : Int) : Tr.bt Es_l1Key Os_l1Key_0 (exec Es_l1Key 0 cs_l1Key_0 (St.of (hs_l1Key_0 y0 y1)) (leafRd Es_l1Key 0)) = (g_Ss_l1Key_0 y0 y1).bt (fun (y1 : (Int)) => (hs_l1Key_0 y0 y1)) (xs_l1Key_0 y0) := by kernel_rfl
theorem ks_l1Key_1 : OrcOk Es_l1Key Os_l1Key_1 lss_l1Key 1 := orc_add ks_l1Key_0 (fun n p hp h ex h' ho => by
  obtain ⟨b, c⟩ := p
  obtain ⟨xt, h1, h2⟩ := ho
  have h1 : Os_l1Key_1 b h = some (true, xt) := h1
  unfold Os_l1Key_1 at h1
  split at h1
  · injection h1 with h1
    injection h1 with e1 e2
    subst e2
    have hc : c = cs_l1Key_0 := ms_l1Key_0 _ hp rfl
    subst hc
    right
    rename_i y0 y1
    have key := LT_step ks_l1Key_0 hp (fun q hq => loopsAll_in _ _ _ _ hp hq) (fun (y1 : (Int)) => (hs_l1Key_0 y0 y1)) (xs_l1Key_0 y0) (g_Ss_l1Key_0 y0) (fun x => by first | exact bs_l1Key_0 y0 x) n (x := y1) (okO_some e1)
    have hx : ∀ r, XT.sel (.br (isL r) (.leaf .ret [(.T 2, .t (.val false [.bool (getL r)]))]) (.leaf (.exit 0) [(.T 2, .t (.val false [.undef]))])) = xs_l1Key_0 y0 r := fun r => by first | rfl | (rcases r with r | r <;> rfl) | (rcases r with r | r | r <;> rfl) | (rcases r with r | r | r | r <;> rfl)
    have h3 := (hx (valO (g_Ls_l1Key_0 y0 y1))).symm.trans h2
    have e3 := congrArg Prod.fst h3
    have e4 := congrArg Prod.snd h3
    simp only at e3 e4
    rw [← e3, ← e4]
    exact key
  · exact .inl ⟨xt, h1, h2⟩)
noncomputable def g_As_l1Key (a0 : ByteArray) : Bool := g_As_l1In (↑(ByteArray.size a0) : Int) (2 : Int) (3 : Int) && (!g_Vs_l1In_0 (↑(ByteArray.size a0) : Int) (2 : Int) (3 : Int) || decide ((0 : Int) ≤ (0 : Int) ∧ (0 : Int) < (↑(ByteArray.size a0) : Int)) && (decide (byteAt a0 (nat_lit 0) < (97 : Int)) || decide ((0 : Int) ≤ (0 : Int) ∧ (0 : Int) < (↑(ByteArray.size a0) : Int)) && (decide (byteAt a0 (nat_lit 0) > (122 : Int)) || okO (g_Ls_l1Key_0 a0 (1 : Int)))))
noncomputable def g_Vs_l1Key_0 (a0 : ByteArray) : Bool := bif !g_Vs_l1In_0 (↑(ByteArray.size a0) : Int) (2 : Int) (3 : Int) then false else bif decide (byteAt a0 (nat_lit 0) < (97 : Int)) then false else bif decide (byteAt a0 (nat_lit 0) > (122 : Int)) then false else bif isL (valO (g_Ls_l1Key_0 a0 (1 : Int))) then getL (valO (g_Ls_l1Key_0 a0 (1 : Int))) else true
noncomputable def Fs_l1Key : FSem := fun ys => match ys with
  | [.val false [.str a0]] => some ((g_As_l1Key a0), .val false [.bool (g_Vs_l1Key_0 a0)], [])
  | _ => none
theorem vs_l1Key (a0 : ByteArray) : collapseH .std Es_l1Key Os_l1Key_1 (execFn Es_l1Key Go.Proofs.Tryd.f63 mss_l1Key [.val false [.str a0]]) = some ((g_As_l1Key a0), .val false [.bool (g_Vs_l1Key_0 a0)], []) := by kernel_rfl
theorem ss_l1Key : Sound Go.Proofs.Tryd.prog 63 mss_l1Key Fs_l1Key := by
  refine fn_gen goods_l1Key (by kernel_rfl) .std (fn := Go.Proofs.Tryd.f63) (c := (Go.Proofs.Tryd.f63.body.getD .skip)) (o := Os_l1Key_1) (k := 1) (by kernel_rfl) (by kernel_rfl) (by kernel_rfl) (by kernel_rfl) (by decide) ks_l1Key_1 ?_
  intro ys r outs h
  unfold Fs_l1Key at h
  split at h
  · exact (vs_l1Key _).trans h
  · cases h
end Go.Proofs.YtopoiinmhajhmaaDoor.E
end
section
namespace Go.Proofs.YtopoiinmhajhmaaDoor.E
open Go
set_option maxRecDepth 100000
set_option maxHeartbeats 0
set_option linter.all false
noncomputable def Es_l1Val : Env where
  tt := mkTI Go.Proofs.Tryd.prog
  fn := fun f => match f with
    | 61 => some (mss_l1In, FSem.wk mss_l1In Fs_l1In)
    | _ => none
  bxf := fun _ => none
  mv := []
  keep := fun b => match b with
    | 0 => [(0, false), (3, false)]
    | _ => []
  keepB := fun b => match b with
    | 0 => []
    | _ => []
  keepX := fun b => match b with
    | 0 => [(0, false), (2, false)]
    | _ => []
  keepXB := fun b => match b with
    | 0 => []
    | _ => []
theorem goodFs_l1Val : ∀ f ms F, Es_l1Val.fn f = some (ms, F) → Sound Go.Proofs.Tryd.prog f ms F := fun f ms F h => by
  unfold Es_l1Val at h
  dsimp only at h
  split at h
  · injection h with h; injection h with e1 e2; subst e1 e2; exact Sound.wk ss_l1In
  · cases h
theorem goodBs_l1Val : ∀ f ms F, Es_l1Val.bxf f = some (ms, F) → SoundB Go.Proofs.Tryd.prog f ms F := fun f ms F h => by cases h
theorem goods_l1Val : Good Go.Proofs.Tryd.prog Es_l1Val := ⟨rfl, goodFs_l1Val, goodBs_l1Val⟩
noncomputable def Os_l1Val_0 : Orc := fun _ _ => none
noncomputable def mss_l1Val : List PM := [.rd]
noncomputable def lss_l1Val : List (Nat × Code) := loopsAll 0 (Go.Proofs.Tryd.f64.body.getD .skip)
noncomputable def cs_l1Val_0 : Code := (loopOf 0 (Go.Proofs.Tryd.f64.body.getD .skip)).getD .skip
theorem lseqs_l1Val : lss_l1Val = [(0, cs_l1Val_0)] := by kernel_rfl
theorem ms_l1Val_0 : ∀ p, p ∈ lss_l1Val → p.1 = 0 → p.2 = cs_l1Val_0 := by
  intro p hp
  rw [lseqs_l1Val] at hp
  simp only [List.mem_cons, List.not_mem_nil, or_false] at hp
  subst hp; simp
theorem ks_l1Val_0 : OrcOk Es_l1Val Os_l1Val_0 lss_l1Val 0 := orcOk_none
noncomputable def hs_l1Val_0 (y0 : List (Int)) (y1 : Int) : List (Pl × LV) := [(.T 0, .t (.val false [.sl .any 3 (.int .i64) y0])), (.T 3, .t (.val false [.int .i64 y1]))]
noncomputable def g_Ss_l1Val_0 (y0 : List (Int)) : ((Int)) → RT ((Int)) (((Bool)) ⊕ (Unit))
  | y1 => .br (true) (.br (decide (y1 < (↑(List.length y0) : Int))) (.br (decide ((0 : Int) ≤ y1 ∧ y1 < (↑(List.length y0) : Int))) (.br (g_As_l1In (at_ (Ty.int IntKind.i64) y0 (Int.toNat y1)) (0 : Int) (9999 : Int)) (.br (!g_Vs_l1In_0 (at_ (Ty.int IntKind.i64) y0 (Int.toNat y1)) (0 : Int) (9999 : Int)) (.out (.inl false)) (.br (true) (.go (IntKind.wrap IntKind.i64 (y1 + (1 : Int)))) (.bad))) (.bad)) (.bad)) (.out (.inr (())))) (.bad)
noncomputable def g_Ls_l1Val_0 (y0 : List (Int)) (x : (Int)) : Option (((Bool)) ⊕ (Unit)) := loopO (g_Ss_l1Val_0 y0) x
noncomputable def xs_l1Val_0 (y0 : List (Int)) : (((Bool)) ⊕ (Unit)) → Ex × List (Pl × LV) := fun
  | .inl r => (.ret, [(.T 0, .t (.val false [.sl .any 3 (.int .i64) y0])), (.T 2, .t (.val false [.bool r]))])
  | .inr (r) => (.exit 0, [(.T 0, .t (.val false [.sl .any 3 (.int .i64) y0])), (.T 2, .t (.val false [.undef]))])
noncomputable def Os_l1Val_1 : Orc := fun b h => match b, h with
  | 0, [(.T 0, .t (.val false [.sl .any 3 (.int .i64) y0])), (.T 3, .t (.val false [.int .i64 y1]))] => some (okO (g_Ls_l1Val_0 y0 y1), (.br (isL (valO (g_Ls_l1Val_0 y0 y1))) (.leaf .ret [(.T 0, .t (.val false [.sl .any 3 (.int .i64) y0])), (.T 2, .t (.val false [.bool (getL (valO (g_Ls_l1Val_0 y0 y1)))]))]) (.leaf (.exit 0) [(.T 0, .t (.val false [.sl .any 3 (.int .i64) y0])), (.T 2, .t (.val false [.undef]))])))
  | b, h => Os_l1Val_0 b h
theorem bs_l1Val_0 (y0 : List (Int)) (y1 : Int) : Tr.bt Es_l1Val Os_l1Val_0 (exec Es_l1Val 0 cs_l1Val_0 (St.of (hs_l1Val_0 y0 y1)) (leafRd Es_l1Val 0)) = (g_Ss_l1Val_0 y0 y1).bt (fun (y1 : (Int)) => (hs_l1Val_0 y0 y1)) (xs_l1Val_0 y0) := by kernel_rfl
theorem ks_l1Val_1 : OrcOk Es_l1Val Os_l1Val_1 lss_l1Val 1 := orc_add ks_l1Val_0 (fun n p hp h ex h' ho => by
  obtain ⟨b, c⟩ := p
  obtain ⟨xt, h1, h2⟩ := ho
  have h1 : Os_l1Val_1 b h = some (true, xt) := h1
  unfold Os_l1Val_1 at h1
  split at h1
  · injection h1 with h1
    injection h1 with e1 e2
    subst e2
    have hc : c = cs_l1Val_0 := ms_l1Val_0 _ hp rfl
    subst hc
    right
    rename_i y0 y1
    have key := LT_step ks_l1Val_0 hp (fun q hq => loopsAll_in _ _ _ _ hp hq) (fun (y1 : (Int)) => (hs_l1Val_0 y0 y1)) (xs_l1Val_0 y0) (g_Ss_l1Val_0 y0) (fun x => by first | exact bs_l1Val_0 y0 x) n (x := y1) (okO_some e1)
    have hx : ∀ r, XT.sel (.br (isL r) (.leaf .ret [(.T 0, .t (.val false [.sl .any 3 (.int .i64) y0])), (.T 2, .t (.val false [.bool (getL r)]))]) (.leaf (.exit 0) [(.T 0, .t (.val false [.sl .any 3 (.int .i64) y0])), (.T 2, .t (.val false [.undef]))])) = xs_l1Val_0 y0 r := fun r => by first | rfl | (rcases r with r | r <;> rfl) | (rcases r with r | r | r <;> rfl) | (rcases r with r | r | r | r <;> rfl)
    have h3 := (hx (valO (g_Ls_l1Val_0 y0 y1))).symm.trans h2
    have e3 := congrArg Prod.fst h3
    have e4 := congrArg Prod.snd h3
    simp only at e3 e4
    rw [← e3, ← e4]
    exact key
  · exact .inl ⟨xt, h1, h2⟩)
noncomputable def g_As_l1Val (a0 : List (Int)) : Bool := okO (g_Ls_l1Val_0 a0 (0 : Int)) && (isL (valO (g_Ls_l1Val_0 a0 (0 : Int))) || g_As_l1In (↑(List.length a0) : Int) (1 : Int) (3 : Int))
noncomputable def g_Vs_l1Val_0 (a0 : List (Int)) : Bool := bif isL (valO (g_Ls_l1Val_0 a0 (0 : Int))) then getL (valO (g_Ls_l1Val_0 a0 (0 : Int))) else g_Vs_l1In_0 (↑(List.length a0) : Int) (1 : Int) (3 : Int)
noncomputable def Fs_l1Val : FSem := fun ys => match ys with
  | [.val false [.sl .any 3 (.int .i64) a0]] => some ((g_As_l1Val a0), .val false [.bool (g_Vs_l1Val_0 a0)], [])
  | _ => none
theorem vs_l1Val (a0 : List (Int)) : collapseH .std Es_l1Val Os_l1Val_1 (execFn Es_l1Val Go.Proofs.Tryd.f64 mss_l1Val [.val false [.sl .any 3 (.int .i64) a0]]) = some ((g_As_l1Val a0), .val false [.bool (g_Vs_l1Val_0 a0)], []) := by kernel_rfl
theorem ss_l1Val : Sound Go.Proofs.Tryd.prog 64 mss_l1Val Fs_l1Val := by
  refine fn_gen goods_l1Val (by kernel_rfl) .std (fn := Go.Proofs.Tryd.f64) (c := (Go.Proofs.Tryd.f64.body.getD .skip)) (o := Os_l1Val_1) (k := 1) (by kernel_rfl) (by kernel_rfl) (by kernel_rfl) (by kernel_rfl) (by decide) ks_l1Val_1 ?_
  intro ys r outs h
  unfold Fs_l1Val at h
  split at h
  · exact (vs_l1Val _).trans h
  · cases h
end Go.Proofs.YtopoiinmhajhmaaDoor.E
end
section
namespace Go.Proofs.YtopoiinmhajhmaaDoor.E
open Go
set_option maxRecDepth 100000
set_option maxHeartbeats 0
set_option linter.all false
noncomputable def Es_WrtOk : Env where
  tt := mkTI Go.Proofs.Tryd.prog
  fn := fun f => match f with
    | 63 => some (mss_l1Key, FSem.wk mss_l1Key Fs_l1Key)
    | 64 => some (mss_l1Val, FSem.wk mss_l1Val Fs_l1Val)
    | _ => none
  bxf := fun _ => none
  mv := []
  keep := fun _ => []
  keepB := fun _ => []
  keepX := fun _ => []
  keepXB := fun _ => []
theorem goodFs_WrtOk : ∀ f ms F, Es_WrtOk.fn f = some (ms, F) → Sound Go.Proofs.Tryd.prog f ms F := fun f ms F h => by
  unfold Es_WrtOk at h
  dsimp only at h
  split at h
  · injection h with h; injection h with e1 e2; subst e1 e2; exact Sound.wk ss_l1Key
  · injection h with h; injection h with e1 e2; subst e1 e2; exact Sound.wk ss_l1Val
  · cases h
theorem goodBs_WrtOk : ∀ f ms F, Es_WrtOk.bxf f = some (ms, F) → SoundB Go.Proofs.Tryd.prog f ms F := fun f ms F h => by cases h
theorem goods_WrtOk : Good Go.Proofs.Tryd.prog Es_WrtOk := ⟨rfl, goodFs_WrtOk, goodBs_WrtOk⟩
noncomputable def Os_WrtOk_0 : Orc := fun _ _ => none
noncomputable def mss_WrtOk : List PM := [.rd]
noncomputable def lss_WrtOk : List (Nat × Code) := loopsAll 0 (Go.Proofs.Tryd.f20.body.getD .skip)

theorem ks_WrtOk_0 : OrcOk Es_WrtOk Os_WrtOk_0 lss_WrtOk 0 := orcOk_none
noncomputable def g_As_WrtOk (a0 : ByteArray) (a1 : Bool) (a2 : List (Int)) : Bool := bif a1 then g_As_l1Key a0 && (!g_Vs_l1Key_0 a0 || true) else g_As_l1Key a0 && (!g_Vs_l1Key_0 a0 || g_As_l1Val a2)
noncomputable def g_Vs_WrtOk_0 (a0 : ByteArray) (a1 : Bool) (a2 : List (Int)) : Bool := bif a1 then bif g_Vs_l1Key_0 a0 then (↑(List.length a2) : Int) == (0 : Int) else false else bif g_Vs_l1Key_0 a0 then g_Vs_l1Val_0 a2 else false
noncomputable def Fs_WrtOk : FSem := fun ys => match ys with
  | [.val true [.str a0, .bool a1, .sl .any 3 (.int .i64) a2]] => some ((g_As_WrtOk a0 a1 a2), .val false [.bool (g_Vs_WrtOk_0 a0 a1 a2)], [])
  | _ => none
theorem vs_WrtOk (a0 : ByteArray) (a1 : Bool) (a2 : List (Int)) : collapseH .std Es_WrtOk Os_WrtOk_0 (execFn Es_WrtOk Go.Proofs.Tryd.f20 mss_WrtOk [.val true [.str a0, .bool a1, .sl .any 3 (.int .i64) a2]]) = some ((g_As_WrtOk a0 a1 a2), .val false [.bool (g_Vs_WrtOk_0 a0 a1 a2)], []) := by kernel_rfl
theorem ss_WrtOk : Sound Go.Proofs.Tryd.prog 20 mss_WrtOk Fs_WrtOk := by
  refine fn_gen goods_WrtOk (by kernel_rfl) .std (fn := Go.Proofs.Tryd.f20) (c := (Go.Proofs.Tryd.f20.body.getD .skip)) (o := Os_WrtOk_0) (k := 0) (by kernel_rfl) (by kernel_rfl) (by kernel_rfl) (by kernel_rfl) (by decide) ks_WrtOk_0 ?_
  intro ys r outs h
  unfold Fs_WrtOk at h
  split at h
  · exact (vs_WrtOk _ _ _).trans h
  · cases h
end Go.Proofs.YtopoiinmhajhmaaDoor.E
end
