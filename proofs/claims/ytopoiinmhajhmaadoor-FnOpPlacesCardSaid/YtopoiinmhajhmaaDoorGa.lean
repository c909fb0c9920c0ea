/- What the functions that are reached do, by the engine: for the proof (laws.FnOpPlaces): part 1. No conditions. -/
import Derived.Test.YtopoiinmhajhmaaDoorEc
import Derived.Test.YtopoiinmhajhmaaDoorProg
import Derived.Test.YtopoiinmhajhmaaDoorShelf
set_option linter.all false
section
namespace Go.Proofs.YtopoiinmhajhmaaDoor.E
open Go
set_option maxRecDepth 100000
set_option maxHeartbeats 0
set_option linter.all false
noncomputable def Ei_in : Env where
  tt := mkTI Go.Proofs.Tryd.prog
  fn := fun _ => none
  bxf := fun _ => none
  mv := []
  keep := fun _ => []
  keepB := fun _ => []
  keepX := fun _ => []
  keepXB := fun _ => []
theorem goodFi_in : ∀ f ms F, Ei_in.fn f = some (ms, F) → Sound Go.Proofs.Tryd.prog f ms F := fun f ms F h => by cases h
theorem goodBi_in : ∀ f ms F, Ei_in.bxf f = some (ms, F) → SoundB Go.Proofs.Tryd.prog f ms F := fun f ms F h => by cases h
theorem goodi_in : Good Go.Proofs.Tryd.prog Ei_in := ⟨rfl, goodFi_in, goodBi_in⟩
noncomputable def Oi_in_0 : Orc := fun _ _ => none
noncomputable def msi_in : List PM := [.own, .own, .own]
noncomputable def lsi_in : List (Nat × Code) := loopsAll 0 (Go.Proofs.Tryd.f60.body.getD .skip)

theorem ki_in_0 : OrcOk Ei_in Oi_in_0 lsi_in 0 := orcOk_none
noncomputable def g_Ai_in (a0 : Int) (a1 : Int) (a2 : Int) : Bool := !decide (a0 ≥ a1) || true
noncomputable def g_Vi_in_0 (a0 : Int) (a1 : Int) (a2 : Int) : Bool := bif decide (a0 ≥ a1) then decide (a0 ≤ a2) else false
noncomputable def Fi_in : FSem := fun ys => match ys with
  | [.val false [.int .i64 a0], .val false [.int .i64 a1], .val false [.int .i64 a2]] => some ((g_Ai_in a0 a1 a2), .val false [.bool (g_Vi_in_0 a0 a1 a2)], [])
  | _ => none
theorem vi_in (a0 : Int) (a1 : Int) (a2 : Int) : collapseH .std Ei_in Oi_in_0 (execFn Ei_in Go.Proofs.Tryd.f60 msi_in [.val false [.int .i64 a0], .val false [.int .i64 a1], .val false [.int .i64 a2]]) = some ((g_Ai_in a0 a1 a2), .val false [.bool (g_Vi_in_0 a0 a1 a2)], []) := by kernel_rfl
theorem si_in : Sound Go.Proofs.Tryd.prog 60 msi_in Fi_in := by
  refine fn_gen goodi_in (by kernel_rfl) .std (fn := Go.Proofs.Tryd.f60) (c := (Go.Proofs.Tryd.f60.body.getD .skip)) (o := Oi_in_0) (k := 0) (by kernel_rfl) (by kernel_rfl) (by kernel_rfl) (by kernel_rfl) (by decide) ki_in_0 ?_
  intro ys r outs h
  unfold Fi_in at h
  split at h
  · exact (vi_in _ _ _).trans h
  · cases h
end Go.Proofs.YtopoiinmhajhmaaDoor.E
end
section
namespace Go.Proofs.YtopoiinmhajhmaaDoor.E
open Go
set_option maxRecDepth 100000
set_option maxHeartbeats 0
set_option linter.all false
noncomputable def Ei_OpOk_1 : Env where
  tt := mkTI Go.Proofs.Tryd.prog
  fn := fun f => match f with
    | 60 => some (msi_in, FSem.wk msi_in Fi_in)
    | _ => none
  bxf := fun _ => none
  mv := []
  keep := fun _ => []
  keepB := fun _ => []
  keepX := fun _ => []
  keepXB := fun _ => []
theorem goodFi_OpOk_1 : ∀ f ms F, Ei_OpOk_1.fn f = some (ms, F) → Sound Go.Proofs.Tryd.prog f ms F := fun f ms F h => by
  unfold Ei_OpOk_1 at h
  dsimp only at h
  split at h
  · injection h with h; injection h with e1 e2; subst e1 e2; exact Sound.wk si_in
  · cases h
theorem goodBi_OpOk_1 : ∀ f ms F, Ei_OpOk_1.bxf f = some (ms, F) → SoundB Go.Proofs.Tryd.prog f ms F := fun f ms F h => by cases h
theorem goodi_OpOk_1 : Good Go.Proofs.Tryd.prog Ei_OpOk_1 := ⟨rfl, goodFi_OpOk_1, goodBi_OpOk_1⟩
noncomputable def Oi_OpOk_1_0 : Orc := fun _ _ => none
noncomputable def msi_OpOk_1 : List PM := [.own]
noncomputable def lsi_OpOk_1 : List (Nat × Code) := loopsAll 0 (Go.Proofs.Tryd.f70.body.getD .skip)

theorem ki_OpOk_1_0 : OrcOk Ei_OpOk_1 Oi_OpOk_1_0 lsi_OpOk_1 0 := orcOk_none
noncomputable def g_Ai_OpOk_1 (a0 : Int) : Bool := g_Ai_in a0 (0 : Int) (9 : Int)
noncomputable def g_Vi_OpOk_1_0 (a0 : Int) : Bool := g_Vi_in_0 a0 (0 : Int) (9 : Int)
noncomputable def Fi_OpOk_1 : FSem := fun ys => match ys with
  | [.val false [.int .i64 a0]] => some ((g_Ai_OpOk_1 a0), .val false [.bool (g_Vi_OpOk_1_0 a0)], [])
  | _ => none
theorem vi_OpOk_1 (a0 : Int) : collapseH .std Ei_OpOk_1 Oi_OpOk_1_0 (execFn Ei_OpOk_1 Go.Proofs.Tryd.f70 msi_OpOk_1 [.val false [.int .i64 a0]]) = some ((g_Ai_OpOk_1 a0), .val false [.bool (g_Vi_OpOk_1_0 a0)], []) := by kernel_rfl
theorem si_OpOk_1 : Sound Go.Proofs.Tryd.prog 70 msi_OpOk_1 Fi_OpOk_1 := by
  refine fn_gen goodi_OpOk_1 (by kernel_rfl) .std (fn := Go.Proofs.Tryd.f70) (c := (Go.Proofs.Tryd.f70.body.getD .skip)) (o := Oi_OpOk_1_0) (k := 0) (by kernel_rfl) (by kernel_rfl) (by kernel_rfl) (by kernel_rfl) (by decide) ki_OpOk_1_0 ?_
  intro ys r outs h
  unfold Fi_OpOk_1 at h
  split at h
  · exact (vi_OpOk_1 _).trans h
  · cases h
end Go.Proofs.YtopoiinmhajhmaaDoor.E
end
section
namespace Go.Proofs.YtopoiinmhajhmaaDoor.E
open Go
set_option maxRecDepth 100000
set_option maxHeartbeats 0
set_option linter.all false
noncomputable def Ei_OpOk_2 : Env where
  tt := mkTI Go.Proofs.Tryd.prog
  fn := fun f => match f with
    | 60 => some (msi_in, FSem.wk msi_in Fi_in)
    | _ => none
  bxf := fun _ => none
  mv := []
  keep := fun _ => []
  keepB := fun _ => []
  keepX := fun _ => []
  keepXB := fun _ => []
theorem goodFi_OpOk_2 : ∀ f ms F, Ei_OpOk_2.fn f = some (ms, F) → Sound Go.Proofs.Tryd.prog f ms F := fun f ms F h => by
  unfold Ei_OpOk_2 at h
  dsimp only at h
  split at h
  · injection h with h; injection h with e1 e2; subst e1 e2; exact Sound.wk si_in
  · cases h
theorem goodBi_OpOk_2 : ∀ f ms F, Ei_OpOk_2.bxf f = some (ms, F) → SoundB Go.Proofs.Tryd.prog f ms F := fun f ms F h => by cases h
theorem goodi_OpOk_2 : Good Go.Proofs.Tryd.prog Ei_OpOk_2 := ⟨rfl, goodFi_OpOk_2, goodBi_OpOk_2⟩
noncomputable def Oi_OpOk_2_0 : Orc := fun _ _ => none
noncomputable def msi_OpOk_2 : List PM := [.own]
noncomputable def lsi_OpOk_2 : List (Nat × Code) := loopsAll 0 (Go.Proofs.Tryd.f71.body.getD .skip)

theorem ki_OpOk_2_0 : OrcOk Ei_OpOk_2 Oi_OpOk_2_0 lsi_OpOk_2 0 := orcOk_none
noncomputable def g_Ai_OpOk_2 (a0 : Int) : Bool := g_Ai_in a0 (0 : Int) (99 : Int)
noncomputable def g_Vi_OpOk_2_0 (a0 : Int) : Bool := g_Vi_in_0 a0 (0 : Int) (99 : Int)
noncomputable def Fi_OpOk_2 : FSem := fun ys => match ys with
  | [.val false [.int .i64 a0]] => some ((g_Ai_OpOk_2 a0), .val false [.bool (g_Vi_OpOk_2_0 a0)], [])
  | _ => none
theorem vi_OpOk_2 (a0 : Int) : collapseH .std Ei_OpOk_2 Oi_OpOk_2_0 (execFn Ei_OpOk_2 Go.Proofs.Tryd.f71 msi_OpOk_2 [.val false [.int .i64 a0]]) = some ((g_Ai_OpOk_2 a0), .val false [.bool (g_Vi_OpOk_2_0 a0)], []) := by kernel_rfl
theorem si_OpOk_2 : Sound Go.Proofs.Tryd.prog 71 msi_OpOk_2 Fi_OpOk_2 := by
  refine fn_gen goodi_OpOk_2 (by kernel_rfl) .std (fn := Go.Proofs.Tryd.f71) (c := (Go.Proofs.Tryd.f71.body.getD .skip)) (o := Oi_OpOk_2_0) (k := 0) (by kernel_rfl) (by kernel_rfl) (by kernel_rfl) (by kernel_rfl) (by decide) ki_OpOk_2_0 ?_
  intro ys r outs h
  unfold Fi_OpOk_2 at h
  split at h
  · exact (vi_OpOk_2 _).trans h
  · cases h
end Go.Proofs.YtopoiinmhajhmaaDoor.E
end
section
namespace Go.Proofs.YtopoiinmhajhmaaDoor.E
open Go
set_option maxRecDepth 100000
set_option maxHeartbeats 0
set_option linter.all false
noncomputable def Ei_OpOk : Env where
  tt := mkTI Go.Proofs.Tryd.prog
  fn := fun f => match f with
    | 70 => some (msi_OpOk_1, FSem.wk msi_OpOk_1 Fi_OpOk_1)
    | 71 => some (msi_OpOk_2, FSem.wk msi_OpOk_2 Fi_OpOk_2)
    | _ => none
  bxf := fun _ => none
  mv := []
  keep := fun _ => []
  keepB := fun _ => []
  keepX := fun _ => []
  keepXB := fun _ => []
theorem goodFi_OpOk : ∀ f ms F, Ei_OpOk.fn f = some (ms, F) → Sound Go.Proofs.Tryd.prog f ms F := fun f ms F h => by
  unfold Ei_OpOk at h
  dsimp only at h
  split at h
  · injection h with h; injection h with e1 e2; subst e1 e2; exact Sound.wk si_OpOk_1
  · injection h with h; injection h with e1 e2; subst e1 e2; exact Sound.wk si_OpOk_2
  · cases h
theorem goodBi_OpOk : ∀ f ms F, Ei_OpOk.bxf f = some (ms, F) → SoundB Go.Proofs.Tryd.prog f ms F := fun f ms F h => by cases h
theorem goodi_OpOk : Good Go.Proofs.Tryd.prog Ei_OpOk := ⟨rfl, goodFi_OpOk, goodBi_OpOk⟩
noncomputable def Oi_OpOk_0 : Orc := fun _ _ => none
noncomputable def msi_OpOk : List PM := [.own]
noncomputable def lsi_OpOk : List (Nat × Code) := loopsAll 0 (Go.Proofs.Tryd.f25.body.getD .skip)

theorem ki_OpOk_0 : OrcOk Ei_OpOk Oi_OpOk_0 lsi_OpOk 0 := orcOk_none
noncomputable def g_Ai_OpOk (a0 : Int) (a1 : Int) (a2 : Int) (a3 : Int) (a4 : Int) (a5 : Int) (a6 : Int) : Bool := g_Ai_OpOk_1 a1 && (!g_Vi_OpOk_1_0 a1 || g_Ai_OpOk_1 a2 && (!g_Vi_OpOk_1_0 a2 || g_Ai_OpOk_1 a3 && (!g_Vi_OpOk_1_0 a3 || g_Ai_OpOk_1 a5 && (!g_Vi_OpOk_1_0 a5 || g_Ai_OpOk_2 a4 && (!g_Vi_OpOk_2_0 a4 || g_Ai_OpOk_2 a6 && (!g_Vi_OpOk_2_0 a6 || bif a0 == (1 : Int) then a0 == (1 : Int) || (a0 == (2 : Int) || (a0 == (3 : Int) || true)) else a0 == (5 : Int) || (a0 == (2 : Int) || (a0 == (3 : Int) || true))))))))
noncomputable def g_Vi_OpOk_0 (a0 : Int) (a1 : Int) (a2 : Int) (a3 : Int) (a4 : Int) (a5 : Int) (a6 : Int) : Bool := bif !g_Vi_OpOk_1_0 a1 then false else bif !g_Vi_OpOk_1_0 a2 then false else bif !g_Vi_OpOk_1_0 a3 then false else bif !g_Vi_OpOk_1_0 a5 then false else bif !g_Vi_OpOk_2_0 a4 then false else bif !g_Vi_OpOk_2_0 a6 then false else bif a0 == (1 : Int) then bif a0 == (1 : Int) then a0 == a0 && (a1 == a1 && (a2 == a2 && (a3 == (0 : Int) && (a4 == (0 : Int) && (a5 == (0 : Int) && (a6 == (0 : Int) && true)))))) else bif a0 == (2 : Int) then a0 == a0 && (a1 == a1 && (a2 == a2 && (a3 == a3 && (a4 == a4 && (a5 == (0 : Int) && (a6 == (0 : Int) && true)))))) else bif a0 == (3 : Int) then a0 == a0 && (a1 == (0 : Int) && (a2 == (0 : Int) && (a3 == a3 && (a4 == a4 && (a5 == a5 && (a6 == (0 : Int) && true)))))) else bif a0 == (4 : Int) then a0 == a0 && (a1 == (0 : Int) && (a2 == (0 : Int) && (a3 == (0 : Int) && (a4 == (0 : Int) && (a5 == a5 && (a6 == a6 && true)))))) else false else bif a0 == (5 : Int) then a0 == a0 && (a1 == a1 && (a2 == a2 && (a3 == (0 : Int) && (a4 == (0 : Int) && (a5 == (0 : Int) && (a6 == (0 : Int) && true)))))) else bif a0 == (2 : Int) then a0 == a0 && (a1 == a1 && (a2 == a2 && (a3 == a3 && (a4 == a4 && (a5 == (0 : Int) && (a6 == (0 : Int) && true)))))) else bif a0 == (3 : Int) then a0 == a0 && (a1 == (0 : Int) && (a2 == (0 : Int) && (a3 == a3 && (a4 == a4 && (a5 == a5 && (a6 == (0 : Int) && true)))))) else bif a0 == (4 : Int) then a0 == a0 && (a1 == (0 : Int) && (a2 == (0 : Int) && (a3 == (0 : Int) && (a4 == (0 : Int) && (a5 == a5 && (a6 == a6 && true)))))) else false
noncomputable def Fi_OpOk : FSem := fun ys => match ys with
  | [.val true [.int .i64 a0, .int .i64 a1, .int .i64 a2, .int .i64 a3, .int .i64 a4, .int .i64 a5, .int .i64 a6]] => some ((g_Ai_OpOk a0 a1 a2 a3 a4 a5 a6), .val false [.bool (g_Vi_OpOk_0 a0 a1 a2 a3 a4 a5 a6)], [])
  | _ => none
theorem vi_OpOk (a0 : Int) (a1 : Int) (a2 : Int) (a3 : Int) (a4 : Int) (a5 : Int) (a6 : Int) : collapseH .std Ei_OpOk Oi_OpOk_0 (execFn Ei_OpOk Go.Proofs.Tryd.f25 msi_OpOk [.val true [.int .i64 a0, .int .i64 a1, .int .i64 a2, .int .i64 a3, .int .i64 a4, .int .i64 a5, .int .i64 a6]]) = some ((g_Ai_OpOk a0 a1 a2 a3 a4 a5 a6), .val false [.bool (g_Vi_OpOk_0 a0 a1 a2 a3 a4 a5 a6)], []) := by kernel_rfl
theorem si_OpOk : Sound Go.Proofs.Tryd.prog 25 msi_OpOk Fi_OpOk := by
  refine fn_gen goodi_OpOk (by kernel_rfl) .std (fn := Go.Proofs.Tryd.f25) (c := (Go.Proofs.Tryd.f25.body.getD .skip)) (o := Oi_OpOk_0) (k := 0) (by kernel_rfl) (by kernel_rfl) (by kernel_rfl) (by kernel_rfl) (by decide) ki_OpOk_0 ?_
  intro ys r outs h
  unfold Fi_OpOk at h
  split at h
  · exact (vi_OpOk _ _ _ _ _ _ _).trans h
  · cases h
end Go.Proofs.YtopoiinmhajhmaaDoor.E
end
section
namespace Go.Proofs.YtopoiinmhajhmaaDoor.E
open Go
set_option maxRecDepth 100000
set_option maxHeartbeats 0
set_option linter.all false
noncomputable def Ei_OpPlaces : Env where
  tt := mkTI Go.Proofs.Tryd.prog
  fn := fun f => match f with
    | 25 => some (msi_OpOk, FSem.wk msi_OpOk Fi_OpOk)
    | _ => none
  bxf := fun _ => none
  mv := []
  keep := fun _ => []
  keepB := fun _ => []
  keepX := fun _ => []
  keepXB := fun _ => []
theorem goodFi_OpPlaces : ∀ f ms F, Ei_OpPlaces.fn f = some (ms, F) → Sound Go.Proofs.Tryd.prog f ms F := fun f ms F h => by
  unfold Ei_OpPlaces at h
  dsimp only at h
  split at h
  · injection h with h; injection h with e1 e2; subst e1 e2; exact Sound.wk si_OpOk
  · cases h
theorem goodBi_OpPlaces : ∀ f ms F, Ei_OpPlaces.bxf f = some (ms, F) → SoundB Go.Proofs.Tryd.prog f ms F := fun f ms F h => by cases h
theorem goodi_OpPlaces : Good Go.Proofs.Tryd.prog Ei_OpPlaces := ⟨rfl, goodFi_OpPlaces, goodBi_OpPlaces⟩
noncomputable def Oi_OpPlaces_0 : Orc := fun _ _ => none
noncomputable def msi_OpPlaces : List PM := [.own]
noncomputable def lsi_OpPlaces : List (Nat × Code) := loopsAll 0 (Go.Proofs.Tryd.f29.body.getD .skip)

theorem ki_OpPlaces_0 : OrcOk Ei_OpPlaces Oi_OpPlaces_0 lsi_OpPlaces 0 := orcOk_none
noncomputable def g_Ai_OpPlaces (a0 : Int) (a1 : Int) (a2 : Int) (a3 : Int) (a4 : Int) (a5 : Int) (a6 : Int) : Bool := g_Ai_OpOk a0 a1 a2 a3 a4 a5 a6 && (!g_Vi_OpOk_0 a0 a1 a2 a3 a4 a5 a6 || (a0 == (1 : Int) || (a0 == (2 : Int) || true)))
noncomputable def g_Vi_OpPlaces_0 (a0 : Int) (a1 : Int) (a2 : Int) (a3 : Int) (a4 : Int) (a5 : Int) (a6 : Int) : List (Int) := bif !g_Vi_OpOk_0 a0 a1 a2 a3 a4 a5 a6 then [] else bif a0 == (1 : Int) then [(1 : Int), (3 : Int)] else bif a0 == (2 : Int) then [(1 : Int), (2 : Int), (3 : Int)] else bif a0 == (5 : Int) then [(1 : Int), (2 : Int), (3 : Int)] else [(2 : Int), (3 : Int)]
noncomputable def Fi_OpPlaces : FSem := fun ys => match ys with
  | [.val true [.int .i64 a0, .int .i64 a1, .int .i64 a2, .int .i64 a3, .int .i64 a4, .int .i64 a5, .int .i64 a6]] => some ((g_Ai_OpPlaces a0 a1 a2 a3 a4 a5 a6), .val false [.own .any true 3 (.int .i64) (g_Vi_OpPlaces_0 a0 a1 a2 a3 a4 a5 a6)], [])
  | _ => none
theorem vi_OpPlaces (a0 : Int) (a1 : Int) (a2 : Int) (a3 : Int) (a4 : Int) (a5 : Int) (a6 : Int) : collapseH .std Ei_OpPlaces Oi_OpPlaces_0 (execFn Ei_OpPlaces Go.Proofs.Tryd.f29 msi_OpPlaces [.val true [.int .i64 a0, .int .i64 a1, .int .i64 a2, .int .i64 a3, .int .i64 a4, .int .i64 a5, .int .i64 a6]]) = some ((g_Ai_OpPlaces a0 a1 a2 a3 a4 a5 a6), .val false [.own .any true 3 (.int .i64) (g_Vi_OpPlaces_0 a0 a1 a2 a3 a4 a5 a6)], []) := by kernel_rfl
theorem si_OpPlaces : Sound Go.Proofs.Tryd.prog 29 msi_OpPlaces Fi_OpPlaces := by
  refine fn_gen goodi_OpPlaces (by kernel_rfl) .std (fn := Go.Proofs.Tryd.f29) (c := (Go.Proofs.Tryd.f29.body.getD .skip)) (o := Oi_OpPlaces_0) (k := 0) (by kernel_rfl) (by kernel_rfl) (by kernel_rfl) (by kernel_rfl) (by decide) ki_OpPlaces_0 ?_
  intro ys r outs h
  unfold Fi_OpPlaces at h
  split at h
  · exact (vi_OpPlaces _ _ _ _ _ _ _).trans h
  · cases h
end Go.Proofs.YtopoiinmhajhmaaDoor.E
end
section
namespace Go.Proofs.YtopoiinmhajhmaaDoor.E
open Go
set_option maxRecDepth 100000
set_option maxHeartbeats 0
set_option linter.all false
noncomputable def Es_l20Rd_pick0 : Env where
  tt := mkTI Go.Proofs.Tryd.prog
  fn := fun _ => none
  bxf := fun _ => none
  mv := []
  keep := fun _ => []
  keepB := fun _ => []
  keepX := fun _ => []
  keepXB := fun _ => []
theorem goodFs_l20Rd_pick0 : ∀ f ms F, Es_l20Rd_pick0.fn f = some (ms, F) → Sound Go.Proofs.Tryd.prog f ms F := fun f ms F h => by cases h
theorem goodBs_l20Rd_pick0 : ∀ f ms F, Es_l20Rd_pick0.bxf f = some (ms, F) → SoundB Go.Proofs.Tryd.prog f ms F := fun f ms F h => by cases h
theorem goods_l20Rd_pick0 : Good Go.Proofs.Tryd.prog Es_l20Rd_pick0 := ⟨rfl, goodFs_l20Rd_pick0, goodBs_l20Rd_pick0⟩
noncomputable def Os_l20Rd_pick0_0 : Orc := fun _ _ => none
noncomputable def mss_l20Rd_pick0 : List PM := [.bx, .own]
noncomputable def lss_l20Rd_pick0 : List (Nat × Code) := loopsAll 0 (Go.Proofs.Tryd.f59.body.getD .skip)

theorem ks_l20Rd_pick0_0 : OrcOk Es_l20Rd_pick0 Os_l20Rd_pick0_0 lss_l20Rd_pick0 0 := orcOk_none
noncomputable def g_As_l20Rd_pick0 (r0 : List Int) (r1 : Int) (a2 : Int) : Bool := decide (a2 < (1 : Int)) || ((↑(List.length r0) : Int) == (0 : Int) || bif decide (IntKind.wrap IntKind.i64 (IntKind.wrap IntKind.i64 (r1 + (1 : Int)) - (1 : Int)) < (↑(List.length r0) : Int)) then decide ((0 : Int) ≤ IntKind.wrap IntKind.i64 (IntKind.wrap IntKind.i64 (r1 + (1 : Int)) - (1 : Int)) ∧ IntKind.wrap IntKind.i64 (IntKind.wrap IntKind.i64 (r1 + (1 : Int)) - (1 : Int)) < (↑(List.length r0) : Int)) && !a2 == (0 : Int) else !(↑(List.length r0) : Int) == (0 : Int) && (decide ((0 : Int) ≤ Int.tmod (IntKind.wrap IntKind.i64 (IntKind.wrap IntKind.i64 (r1 + (1 : Int)) - (1 : Int))) (↑(List.length r0) : Int) ∧ Int.tmod (IntKind.wrap IntKind.i64 (IntKind.wrap IntKind.i64 (r1 + (1 : Int)) - (1 : Int))) (↑(List.length r0) : Int) < (↑(List.length r0) : Int)) && (!(↑(List.length r0) : Int) == (0 : Int) && (decide ((0 : Int) ≤ Int.tmod (IntKind.wrap IntKind.i64 (IntKind.wrap IntKind.i64 (IntKind.wrap IntKind.i64 (IntKind.wrap IntKind.i64 (r1 + (1 : Int)) - (1 : Int)) * (7 : Int)) + (3 : Int))) (↑(List.length r0) : Int) ∧ Int.tmod (IntKind.wrap IntKind.i64 (IntKind.wrap IntKind.i64 (IntKind.wrap IntKind.i64 (IntKind.wrap IntKind.i64 (r1 + (1 : Int)) - (1 : Int)) * (7 : Int)) + (3 : Int))) (↑(List.length r0) : Int) < (↑(List.length r0) : Int)) && (!(↑(List.length r0) : Int) == (0 : Int) && !a2 == (0 : Int))))))
noncomputable def g_Vs_l20Rd_pick0_0 (r0 : List Int) (r1 : Int) (a2 : Int) : Int := bif decide (a2 < (1 : Int)) then (0 : Int) else bif (↑(List.length r0) : Int) == (0 : Int) then (0 : Int) else bif decide (IntKind.wrap IntKind.i64 (IntKind.wrap IntKind.i64 (r1 + (1 : Int)) - (1 : Int)) < (↑(List.length r0) : Int)) then Int.tmod (IntKind.wrap IntKind.i64 (at_ (Ty.int IntKind.u8) r0 (Int.toNat (IntKind.wrap IntKind.i64 (IntKind.wrap IntKind.i64 (r1 + (1 : Int)) - (1 : Int)))))) a2 else Int.tmod (IntKind.wrap IntKind.i64 (↑(BitVec.toNat (BitVec.ofInt (nat_lit 64) (IntKind.wrap IntKind.i64 (IntKind.wrap IntKind.i64 (IntKind.wrap IntKind.i64 (IntKind.wrap IntKind.i64 (IntKind.wrap IntKind.i64 (at_ (Ty.int IntKind.u8) r0 (Int.toNat (Int.tmod (IntKind.wrap IntKind.i64 (IntKind.wrap IntKind.i64 (r1 + (1 : Int)) - (1 : Int))) (↑(List.length r0) : Int)))) * (131 : Int)) + IntKind.wrap IntKind.i64 (IntKind.wrap IntKind.i64 (at_ (Ty.int IntKind.u8) r0 (Int.toNat (Int.tmod (IntKind.wrap IntKind.i64 (IntKind.wrap IntKind.i64 (IntKind.wrap IntKind.i64 (IntKind.wrap IntKind.i64 (r1 + (1 : Int)) - (1 : Int)) * (7 : Int)) + (3 : Int))) (↑(List.length r0) : Int)))) * (1117 : Int))) + IntKind.wrap IntKind.i64 (IntKind.wrap IntKind.i64 (IntKind.wrap IntKind.i64 (r1 + (1 : Int)) - (1 : Int)) * (29 : Int))) + IntKind.wrap IntKind.i64 (IntKind.wrap IntKind.i64 (Int.tdiv (IntKind.wrap IntKind.i64 (IntKind.wrap IntKind.i64 (r1 + (1 : Int)) - (1 : Int))) (↑(List.length r0) : Int)) * (53 : Int)))) ^^^ BitVec.ofInt (nat_lit 64) (IntKind.wrap IntKind.i64 (Int.tdiv (IntKind.wrap IntKind.i64 (IntKind.wrap IntKind.i64 (IntKind.wrap IntKind.i64 (IntKind.wrap IntKind.i64 (IntKind.wrap IntKind.i64 (at_ (Ty.int IntKind.u8) r0 (Int.toNat (Int.tmod (IntKind.wrap IntKind.i64 (IntKind.wrap IntKind.i64 (r1 + (1 : Int)) - (1 : Int))) (↑(List.length r0) : Int)))) * (131 : Int)) + IntKind.wrap IntKind.i64 (IntKind.wrap IntKind.i64 (at_ (Ty.int IntKind.u8) r0 (Int.toNat (Int.tmod (IntKind.wrap IntKind.i64 (IntKind.wrap IntKind.i64 (IntKind.wrap IntKind.i64 (IntKind.wrap IntKind.i64 (r1 + (1 : Int)) - (1 : Int)) * (7 : Int)) + (3 : Int))) (↑(List.length r0) : Int)))) * (1117 : Int))) + IntKind.wrap IntKind.i64 (IntKind.wrap IntKind.i64 (IntKind.wrap IntKind.i64 (r1 + (1 : Int)) - (1 : Int)) * (29 : Int))) + IntKind.wrap IntKind.i64 (IntKind.wrap IntKind.i64 (Int.tdiv (IntKind.wrap IntKind.i64 (IntKind.wrap IntKind.i64 (r1 + (1 : Int)) - (1 : Int))) (↑(List.length r0) : Int)) * (53 : Int)))) (64 : Int))))) : Int)) a2
noncomputable def g_Vs_l20Rd_pick0_1 (r0 : List Int) (r1 : Int) (a2 : Int) : List (Int) := bif decide (a2 < (1 : Int)) then r0 else bif (↑(List.length r0) : Int) == (0 : Int) then r0 else bif decide (IntKind.wrap IntKind.i64 (IntKind.wrap IntKind.i64 (r1 + (1 : Int)) - (1 : Int)) < (↑(List.length r0) : Int)) then r0 else r0
noncomputable def g_Vs_l20Rd_pick0_2 (r0 : List Int) (r1 : Int) (a2 : Int) : Int := bif decide (a2 < (1 : Int)) then IntKind.wrap IntKind.i64 (r1 + (1 : Int)) else bif (↑(List.length r0) : Int) == (0 : Int) then IntKind.wrap IntKind.i64 (r1 + (1 : Int)) else bif decide (IntKind.wrap IntKind.i64 (IntKind.wrap IntKind.i64 (r1 + (1 : Int)) - (1 : Int)) < (↑(List.length r0) : Int)) then IntKind.wrap IntKind.i64 (r1 + (1 : Int)) else IntKind.wrap IntKind.i64 (r1 + (1 : Int))
noncomputable def Fs_l20Rd_pick0 : FSem := fun ys => match ys with
  | [.val true [.sl .any 5 (.int .u8) r0, .int .i64 r1], .val false [.int .i64 a2]] => some ((g_As_l20Rd_pick0 r0 r1 a2), .val false [.int .i64 (g_Vs_l20Rd_pick0_0 r0 r1 a2)], [[.sl .any 5 (.int .u8) (g_Vs_l20Rd_pick0_1 r0 r1 a2), .int .i64 (g_Vs_l20Rd_pick0_2 r0 r1 a2)]])
  | _ => none
theorem vs_l20Rd_pick0 (r0 : List Int) (r1 : Int) (a2 : Int) : collapseH .std Es_l20Rd_pick0 Os_l20Rd_pick0_0 (execFn Es_l20Rd_pick0 Go.Proofs.Tryd.f59 mss_l20Rd_pick0 [.val true [.sl .any 5 (.int .u8) r0, .int .i64 r1], .val false [.int .i64 a2]]) = some ((g_As_l20Rd_pick0 r0 r1 a2), .val false [.int .i64 (g_Vs_l20Rd_pick0_0 r0 r1 a2)], [[.sl .any 5 (.int .u8) (g_Vs_l20Rd_pick0_1 r0 r1 a2), .int .i64 (g_Vs_l20Rd_pick0_2 r0 r1 a2)]]) := by kernel_rfl
theorem ss_l20Rd_pick0 : Sound Go.Proofs.Tryd.prog 59 mss_l20Rd_pick0 Fs_l20Rd_pick0 := by
  refine fn_gen goods_l20Rd_pick0 (by kernel_rfl) .std (fn := Go.Proofs.Tryd.f59) (c := (Go.Proofs.Tryd.f59.body.getD .skip)) (o := Os_l20Rd_pick0_0) (k := 0) (by kernel_rfl) (by kernel_rfl) (by kernel_rfl) (by kernel_rfl) (by decide) ks_l20Rd_pick0_0 ?_
  intro ys r outs h
  unfold Fs_l20Rd_pick0 at h
  split at h
  · exact (vs_l20Rd_pick0 _ _ _).trans h
  · cases h
end Go.Proofs.YtopoiinmhajhmaaDoor.E
end
section
namespace Go.Proofs.YtopoiinmhajhmaaDoor.E
open Go
set_option maxRecDepth 100000
set_option linter.all false
noncomputable def mss_l20Rd_pick : List PM := mss_l20Rd_pick0
/-- A number from 0 on, below n. -/
noncomputable def g_pick (r0 : List Int) (r1 : Int) (n : Int) : Int := g_Vs_l20Rd_pick0_0 r0 r1 n
noncomputable def g_pickA (r0 : List Int) (r1 : Int) (n : Int) : Bool := g_As_l20Rd_pick0 r0 r1 n
noncomputable def Fs_l20Rd_pick : FSem := fun ys => match ys with
  | [.val true [.sl .any 5 (.int .u8) r0, .int .i64 r1], .val false [.int .i64 a2]] => some (g_pickA r0 r1 a2, .val false [.int .i64 (g_pick r0 r1 a2)], [[.sl .any 5 (.int .u8) r0, .int .i64 (IntKind.wrap .i64 (r1 + 1))]])
  | _ => none
theorem ss_l20Rd_pick : Sound Go.Proofs.Tryd.prog 59 mss_l20Rd_pick Fs_l20Rd_pick := by
  refine ⟨ss_l20Rd_pick0.fn, fun w S ψ ys vs r outs hF hh hg => ss_l20Rd_pick0.calls w S ψ ys vs r outs (Eq.trans ?_ hF) hh hg⟩
  unfold Fs_l20Rd_pick at hF ⊢
  split at hF
  · rename_i r0 r1 a2
    have e1 : g_Vs_l20Rd_pick0_1 r0 r1 a2 = r0 := by unfold g_Vs_l20Rd_pick0_1; generalize decide (a2 < (1 : Int)) = p; generalize ((r0.length : Int) == (0 : Int)) = q; cases p <;> cases q <;> simp
    have e2 : g_Vs_l20Rd_pick0_2 r0 r1 a2 = IntKind.wrap .i64 (r1 + 1) := by unfold g_Vs_l20Rd_pick0_2; generalize decide (a2 < (1 : Int)) = p; generalize ((r0.length : Int) == (0 : Int)) = q; cases p <;> cases q <;> simp
    show some (g_As_l20Rd_pick0 r0 r1 a2, RV.val false [Cell.int .i64 (g_Vs_l20Rd_pick0_0 r0 r1 a2)], [[Cell.sl .any 5 (.int .u8) (g_Vs_l20Rd_pick0_1 r0 r1 a2), Cell.int .i64 (g_Vs_l20Rd_pick0_2 r0 r1 a2)]]) = _
    rw [e1, e2]
    rfl
  · cases hF
end Go.Proofs.YtopoiinmhajhmaaDoor.E
end
section
namespace Go.Proofs.YtopoiinmhajhmaaDoor.E
open Go
set_option maxRecDepth 100000
set_option maxHeartbeats 0
set_option linter.all false
noncomputable def Es_l20Rd_odd : Env where
  tt := mkTI Go.Proofs.Tryd.prog
  fn := fun f => match f with
    | 59 => some (mss_l20Rd_pick, FSem.wk mss_l20Rd_pick Fs_l20Rd_pick)
    | _ => none
  bxf := fun _ => none
  mv := []
  keep := fun _ => []
  keepB := fun _ => []
  keepX := fun _ => []
  keepXB := fun _ => []
theorem goodFs_l20Rd_odd : ∀ f ms F, Es_l20Rd_odd.fn f = some (ms, F) → Sound Go.Proofs.Tryd.prog f ms F := fun f ms F h => by
  unfold Es_l20Rd_odd at h
  dsimp only at h
  split at h
  · injection h with h; injection h with e1 e2; subst e1 e2; exact Sound.wk ss_l20Rd_pick
  · cases h
theorem goodBs_l20Rd_odd : ∀ f ms F, Es_l20Rd_odd.bxf f = some (ms, F) → SoundB Go.Proofs.Tryd.prog f ms F := fun f ms F h => by cases h
theorem goods_l20Rd_odd : Good Go.Proofs.Tryd.prog Es_l20Rd_odd := ⟨rfl, goodFs_l20Rd_odd, goodBs_l20Rd_odd⟩
noncomputable def Os_l20Rd_odd_0 : Orc := fun _ _ => none
noncomputable def mss_l20Rd_odd : List PM := [.bx, .own]
noncomputable def lss_l20Rd_odd : List (Nat × Code) := loopsAll 0 (Go.Proofs.Tryd.f103.body.getD .skip)

theorem ks_l20Rd_odd_0 : OrcOk Es_l20Rd_odd Os_l20Rd_odd_0 lss_l20Rd_odd 0 := orcOk_none
noncomputable def g_As_l20Rd_odd (r0 : List Int) (r1 : Int) (a2 : Int) : Bool := !decide (a2 > (0 : Int)) || g_pickA r0 r1 a2 && true
noncomputable def g_Vs_l20Rd_odd_0 (r0 : List Int) (r1 : Int) (a2 : Int) : Bool := bif decide (a2 > (0 : Int)) then g_pick r0 r1 a2 == IntKind.wrap IntKind.i64 (a2 - (1 : Int)) else false
noncomputable def g_Vs_l20Rd_odd_1 (r0 : List Int) (r1 : Int) (a2 : Int) : List (Int) := bif decide (a2 > (0 : Int)) then r0 else r0
noncomputable def g_Vs_l20Rd_odd_2 (r0 : List Int) (r1 : Int) (a2 : Int) : Int := bif decide (a2 > (0 : Int)) then IntKind.wrap IntKind.i64 (r1 + (1 : Int)) else r1
noncomputable def Fs_l20Rd_odd : FSem := fun ys => match ys with
  | [.val true [.sl .any 5 (.int .u8) r0, .int .i64 r1], .val false [.int .i64 a2]] => some ((g_As_l20Rd_odd r0 r1 a2), .val false [.bool (g_Vs_l20Rd_odd_0 r0 r1 a2)], [[.sl .any 5 (.int .u8) (g_Vs_l20Rd_odd_1 r0 r1 a2), .int .i64 (g_Vs_l20Rd_odd_2 r0 r1 a2)]])
  | _ => none
theorem vs_l20Rd_odd (r0 : List Int) (r1 : Int) (a2 : Int) : collapseH .std Es_l20Rd_odd Os_l20Rd_odd_0 (execFn Es_l20Rd_odd Go.Proofs.Tryd.f103 mss_l20Rd_odd [.val true [.sl .any 5 (.int .u8) r0, .int .i64 r1], .val false [.int .i64 a2]]) = some ((g_As_l20Rd_odd r0 r1 a2), .val false [.bool (g_Vs_l20Rd_odd_0 r0 r1 a2)], [[.sl .any 5 (.int .u8) (g_Vs_l20Rd_odd_1 r0 r1 a2), .int .i64 (g_Vs_l20Rd_odd_2 r0 r1 a2)]]) := by kernel_rfl
theorem ss_l20Rd_odd : Sound Go.Proofs.Tryd.prog 103 mss_l20Rd_odd Fs_l20Rd_odd := by
  refine fn_gen goods_l20Rd_odd (by kernel_rfl) .std (fn := Go.Proofs.Tryd.f103) (c := (Go.Proofs.Tryd.f103.body.getD .skip)) (o := Os_l20Rd_odd_0) (k := 0) (by kernel_rfl) (by kernel_rfl) (by kernel_rfl) (by kernel_rfl) (by decide) ks_l20Rd_odd_0 ?_
  intro ys r outs h
  unfold Fs_l20Rd_odd at h
  split at h
  · exact (vs_l20Rd_odd _ _ _).trans h
  · cases h
end Go.Proofs.YtopoiinmhajhmaaDoor.E
end
