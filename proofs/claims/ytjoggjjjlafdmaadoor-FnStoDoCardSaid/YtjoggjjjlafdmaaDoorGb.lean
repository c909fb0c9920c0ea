/- What the functions that are reached do, by the engine: for the proof (laws.FnStoDo): part 2. No conditions. -/
import Derived.Test.YtjoggjjjlafdmaaDoorGa
import Derived.Test.YtjoggjjjlafdmaaDoorProg
set_option linter.all false
section
namespace Go.Proofs.YtjoggjjjlafdmaaDoor.E
open Go
set_option maxRecDepth 100000
set_option maxHeartbeats 0
set_option linter.all false
noncomputable def Es_l20Key : Env where
  tt := mkTI Go.Proofs.Tryd.prog
  fn := fun f => match f with
    | 34 => some (mss_l20Rd_oddR, FSem.wk mss_l20Rd_oddR Fs_l20Rd_oddR)
    | 35 => some (mss_l3Plain, FSem.wk mss_l3Plain Fs_l3Plain)
    | 64 => some (mss_l20Rd_pick, FSem.wk mss_l20Rd_pick Fs_l20Rd_pick)
    | _ => none
  bxf := fun _ => none
  mv := []
  keep := fun _ => []
  keepB := fun _ => []
  keepX := fun _ => []
  keepXB := fun _ => []
theorem goodFs_l20Key : ∀ f ms F, Es_l20Key.fn f = some (ms, F) → Sound Go.Proofs.Tryd.prog f ms F := fun f ms F h => by
  unfold Es_l20Key at h
  dsimp only at h
  split at h
  · injection h with h; injection h with e1 e2; subst e1 e2; exact Sound.wk ss_l20Rd_oddR
  · injection h with h; injection h with e1 e2; subst e1 e2; exact Sound.wk ss_l3Plain
  · injection h with h; injection h with e1 e2; subst e1 e2; exact Sound.wk ss_l20Rd_pick
  · cases h
theorem goodBs_l20Key : ∀ f ms F, Es_l20Key.bxf f = some (ms, F) → SoundB Go.Proofs.Tryd.prog f ms F := fun f ms F h => by cases h
theorem goods_l20Key : Good Go.Proofs.Tryd.prog Es_l20Key := ⟨rfl, goodFs_l20Key, goodBs_l20Key⟩
noncomputable def Os_l20Key_0 : Orc := fun _ _ => none
noncomputable def mss_l20Key : List PM := [.bx, .own]
noncomputable def lss_l20Key : List (Nat × Code) := loopsAll 0 (Go.Proofs.Tryd.f91.body.getD .skip)

theorem ks_l20Key_0 : OrcOk Es_l20Key Os_l20Key_0 lss_l20Key 0 := orcOk_none
noncomputable def g_As_l20Key (r0 : List Int) (r1 : Int) (a2 : Int) : Bool := g_pickA r0 r1 (5 : Int) && (decide ((0 : Int) ≤ g_pick r0 r1 (5 : Int) ∧ g_pick r0 r1 (5 : Int) < (5 : Int)) && (decide (Int.toNat (g_pick r0 r1 (5 : Int)) < nat_lit 5) && (g_pickA r0 (IntKind.wrap IntKind.i64 (r1 + (1 : Int))) (4 : Int) && (g_pickA r0 (IntKind.wrap IntKind.i64 (IntKind.wrap IntKind.i64 (r1 + (1 : Int)) + (1 : Int))) (30 : Int) && (g_pickA r0 (IntKind.wrap IntKind.i64 (IntKind.wrap IntKind.i64 (IntKind.wrap IntKind.i64 (r1 + (1 : Int)) + (1 : Int)) + (1 : Int))) (2 : Int) && (decide ((0 : Int) ≤ g_pick r0 (IntKind.wrap IntKind.i64 (IntKind.wrap IntKind.i64 (IntKind.wrap IntKind.i64 (r1 + (1 : Int)) + (1 : Int)) + (1 : Int))) (2 : Int) ∧ g_pick r0 (IntKind.wrap IntKind.i64 (IntKind.wrap IntKind.i64 (IntKind.wrap IntKind.i64 (r1 + (1 : Int)) + (1 : Int)) + (1 : Int))) (2 : Int) < (↑(List.length [g_pick r0 (IntKind.wrap IntKind.i64 (r1 + (1 : Int))) (4 : Int), g_pick r0 (IntKind.wrap IntKind.i64 (IntKind.wrap IntKind.i64 (r1 + (1 : Int)) + (1 : Int))) (30 : Int)]) : Int)) && (decide (Int.toNat (g_pick r0 (IntKind.wrap IntKind.i64 (IntKind.wrap IntKind.i64 (IntKind.wrap IntKind.i64 (r1 + (1 : Int)) + (1 : Int)) + (1 : Int))) (2 : Int)) < List.length [g_pick r0 (IntKind.wrap IntKind.i64 (r1 + (1 : Int))) (4 : Int), g_pick r0 (IntKind.wrap IntKind.i64 (IntKind.wrap IntKind.i64 (r1 + (1 : Int)) + (1 : Int))) (30 : Int)]) && (g_As_l3Plain (at_ (Ty.int IntKind.i64) [g_pick r0 (IntKind.wrap IntKind.i64 (r1 + (1 : Int))) (4 : Int), g_pick r0 (IntKind.wrap IntKind.i64 (IntKind.wrap IntKind.i64 (r1 + (1 : Int)) + (1 : Int))) (30 : Int)] (Int.toNat (g_pick r0 (IntKind.wrap IntKind.i64 (IntKind.wrap IntKind.i64 (IntKind.wrap IntKind.i64 (r1 + (1 : Int)) + (1 : Int)) + (1 : Int))) (2 : Int)))) && (decide (ByteArray.size (at_ Ty.str [lit [(115 : Nat)], lit [(99 : Nat)], lit [(102 : Nat)], lit [(117 : Nat)], lit [(97 : Nat)]] (Int.toNat (g_pick r0 r1 (5 : Int)))) + ByteArray.size (g_Vs_l3Plain_0 (at_ (Ty.int IntKind.i64) [g_pick r0 (IntKind.wrap IntKind.i64 (r1 + (1 : Int))) (4 : Int), g_pick r0 (IntKind.wrap IntKind.i64 (IntKind.wrap IntKind.i64 (r1 + (1 : Int)) + (1 : Int))) (30 : Int)] (Int.toNat (g_pick r0 (IntKind.wrap IntKind.i64 (IntKind.wrap IntKind.i64 (IntKind.wrap IntKind.i64 (r1 + (1 : Int)) + (1 : Int)) + (1 : Int))) (2 : Int))))) ≤ nat_lit 9223372036854775807) && (g_As_l20Rd_odd r0 (IntKind.wrap IntKind.i64 (IntKind.wrap IntKind.i64 (IntKind.wrap IntKind.i64 (IntKind.wrap IntKind.i64 (r1 + (1 : Int)) + (1 : Int)) + (1 : Int)) + (1 : Int))) a2 && (!g_Vs_l20Rd_odd_0 r0 (IntKind.wrap IntKind.i64 (IntKind.wrap IntKind.i64 (IntKind.wrap IntKind.i64 (IntKind.wrap IntKind.i64 (r1 + (1 : Int)) + (1 : Int)) + (1 : Int)) + (1 : Int))) a2 || g_pickA r0 (g_Vs_l20Rd_odd_2 r0 (IntKind.wrap IntKind.i64 (IntKind.wrap IntKind.i64 (IntKind.wrap IntKind.i64 (IntKind.wrap IntKind.i64 (r1 + (1 : Int)) + (1 : Int)) + (1 : Int)) + (1 : Int))) a2) (6 : Int) && (decide ((0 : Int) ≤ g_pick r0 (g_Vs_l20Rd_odd_2 r0 (IntKind.wrap IntKind.i64 (IntKind.wrap IntKind.i64 (IntKind.wrap IntKind.i64 (IntKind.wrap IntKind.i64 (r1 + (1 : Int)) + (1 : Int)) + (1 : Int)) + (1 : Int))) a2) (6 : Int) ∧ g_pick r0 (g_Vs_l20Rd_odd_2 r0 (IntKind.wrap IntKind.i64 (IntKind.wrap IntKind.i64 (IntKind.wrap IntKind.i64 (IntKind.wrap IntKind.i64 (r1 + (1 : Int)) + (1 : Int)) + (1 : Int)) + (1 : Int))) a2) (6 : Int) < (6 : Int)) && decide (Int.toNat (g_pick r0 (g_Vs_l20Rd_odd_2 r0 (IntKind.wrap IntKind.i64 (IntKind.wrap IntKind.i64 (IntKind.wrap IntKind.i64 (IntKind.wrap IntKind.i64 (r1 + (1 : Int)) + (1 : Int)) + (1 : Int)) + (1 : Int))) a2) (6 : Int)) < nat_lit 6)))))))))))))
noncomputable def g_Vs_l20Key_0 (r0 : List Int) (r1 : Int) (a2 : Int) : ByteArray := bif g_Vs_l20Rd_odd_0 r0 (IntKind.wrap IntKind.i64 (IntKind.wrap IntKind.i64 (IntKind.wrap IntKind.i64 (IntKind.wrap IntKind.i64 (r1 + (1 : Int)) + (1 : Int)) + (1 : Int)) + (1 : Int))) a2 then at_ Ty.str [lit [], lit [(115 : Nat)], lit [(83 : Nat), (49 : Nat)], lit [(115 : Nat), (49 : Nat), (50 : Nat), (51 : Nat)], lit [(49 : Nat), (115 : Nat)], lit [(115 : Nat), (97 : Nat)]] (Int.toNat (g_pick r0 (g_Vs_l20Rd_odd_2 r0 (IntKind.wrap IntKind.i64 (IntKind.wrap IntKind.i64 (IntKind.wrap IntKind.i64 (IntKind.wrap IntKind.i64 (r1 + (1 : Int)) + (1 : Int)) + (1 : Int)) + (1 : Int))) a2) (6 : Int))) else at_ Ty.str [lit [(115 : Nat)], lit [(99 : Nat)], lit [(102 : Nat)], lit [(117 : Nat)], lit [(97 : Nat)]] (Int.toNat (g_pick r0 r1 (5 : Int))) ++ g_Vs_l3Plain_0 (at_ (Ty.int IntKind.i64) [g_pick r0 (IntKind.wrap IntKind.i64 (r1 + (1 : Int))) (4 : Int), g_pick r0 (IntKind.wrap IntKind.i64 (IntKind.wrap IntKind.i64 (r1 + (1 : Int)) + (1 : Int))) (30 : Int)] (Int.toNat (g_pick r0 (IntKind.wrap IntKind.i64 (IntKind.wrap IntKind.i64 (IntKind.wrap IntKind.i64 (r1 + (1 : Int)) + (1 : Int)) + (1 : Int))) (2 : Int))))
noncomputable def g_Vs_l20Key_1 (r0 : List Int) (r1 : Int) (a2 : Int) : List (Int) := bif g_Vs_l20Rd_odd_0 r0 (IntKind.wrap IntKind.i64 (IntKind.wrap IntKind.i64 (IntKind.wrap IntKind.i64 (IntKind.wrap IntKind.i64 (r1 + (1 : Int)) + (1 : Int)) + (1 : Int)) + (1 : Int))) a2 then r0 else r0
noncomputable def g_Vs_l20Key_2 (r0 : List Int) (r1 : Int) (a2 : Int) : Int := bif g_Vs_l20Rd_odd_0 r0 (IntKind.wrap IntKind.i64 (IntKind.wrap IntKind.i64 (IntKind.wrap IntKind.i64 (IntKind.wrap IntKind.i64 (r1 + (1 : Int)) + (1 : Int)) + (1 : Int)) + (1 : Int))) a2 then IntKind.wrap IntKind.i64 (g_Vs_l20Rd_odd_2 r0 (IntKind.wrap IntKind.i64 (IntKind.wrap IntKind.i64 (IntKind.wrap IntKind.i64 (IntKind.wrap IntKind.i64 (r1 + (1 : Int)) + (1 : Int)) + (1 : Int)) + (1 : Int))) a2 + (1 : Int)) else g_Vs_l20Rd_odd_2 r0 (IntKind.wrap IntKind.i64 (IntKind.wrap IntKind.i64 (IntKind.wrap IntKind.i64 (IntKind.wrap IntKind.i64 (r1 + (1 : Int)) + (1 : Int)) + (1 : Int)) + (1 : Int))) a2
noncomputable def Fs_l20Key : FSem := fun ys => match ys with
  | [.val true [.sl .any 5 (.int .u8) r0, .int .i64 r1], .val false [.int .i64 a2]] => some ((g_As_l20Key r0 r1 a2), .val false [.str (g_Vs_l20Key_0 r0 r1 a2)], [[.sl .any 5 (.int .u8) (g_Vs_l20Key_1 r0 r1 a2), .int .i64 (g_Vs_l20Key_2 r0 r1 a2)]])
  | _ => none
theorem vs_l20Key (r0 : List Int) (r1 : Int) (a2 : Int) : collapseH .std Es_l20Key Os_l20Key_0 (execFn Es_l20Key Go.Proofs.Tryd.f91 mss_l20Key [.val true [.sl .any 5 (.int .u8) r0, .int .i64 r1], .val false [.int .i64 a2]]) = some ((g_As_l20Key r0 r1 a2), .val false [.str (g_Vs_l20Key_0 r0 r1 a2)], [[.sl .any 5 (.int .u8) (g_Vs_l20Key_1 r0 r1 a2), .int .i64 (g_Vs_l20Key_2 r0 r1 a2)]]) := by kernel_rfl
theorem ss_l20Key : Sound Go.Proofs.Tryd.prog 91 mss_l20Key Fs_l20Key := by
  refine fn_gen goods_l20Key (by kernel_rfl) .std (fn := Go.Proofs.Tryd.f91) (c := (Go.Proofs.Tryd.f91.body.getD .skip)) (o := Os_l20Key_0) (k := 0) (by kernel_rfl) (by kernel_rfl) (by kernel_rfl) (by kernel_rfl) (by decide) ks_l20Key_0 ?_
  intro ys r outs h
  unfold Fs_l20Key at h
  split at h
  · exact (vs_l20Key _ _ _).trans h
  · cases h
end Go.Proofs.YtjoggjjjlafdmaaDoor.E
end
section
namespace Go.Proofs.YtjoggjjjlafdmaaDoor.E
open Go
set_option maxRecDepth 100000
set_option linter.all false
noncomputable def mss_l20KeyR : List PM := mss_l20Key
theorem sames_l20Key (r0 : List Int) (r1 : Int) (a2 : Int) : g_Vs_l20Key_1 r0 r1 a2 = r0 := by
  unfold g_Vs_l20Key_1
  simp only [Bool.cond_self]
noncomputable def Fs_l20KeyR : FSem := fun ys => match ys with
  | [.val true [.sl .any 5 (.int .u8) r0, .int .i64 r1], .val false [.int .i64 a2]] => some ((g_As_l20Key r0 r1 a2), .val false [.str (g_Vs_l20Key_0 r0 r1 a2)], [[.sl .any 5 (.int .u8) r0, .int .i64 (g_Vs_l20Key_2 r0 r1 a2)]])
  | _ => none
theorem ss_l20KeyR : Sound Go.Proofs.Tryd.prog 91 mss_l20KeyR Fs_l20KeyR := by
  refine ⟨ss_l20Key.fn, fun w S ψ ys vs r outs hF hh hg => ss_l20Key.calls w S ψ ys vs r outs (Eq.trans ?_ hF) hh hg⟩
  unfold Fs_l20KeyR at hF ⊢
  split at hF
  · rename_i  r0 r1 a2
    show (some ((g_As_l20Key r0 r1 a2), .val false [.str (g_Vs_l20Key_0 r0 r1 a2)], [[.sl .any 5 (.int .u8) (g_Vs_l20Key_1 r0 r1 a2), .int .i64 (g_Vs_l20Key_2 r0 r1 a2)]]) : Option (Bool × RV × List (List Cell))) = _
    rw [sames_l20Key]
  · cases hF
end Go.Proofs.YtjoggjjjlafdmaaDoor.E
end
section
namespace Go.Proofs.YtjoggjjjlafdmaaDoor.E
open Go
set_option maxRecDepth 100000
set_option maxHeartbeats 0
set_option linter.all false
noncomputable def Es_l20Write : Env where
  tt := mkTI Go.Proofs.Tryd.prog
  fn := fun f => match f with
    | 34 => some (mss_l20Rd_oddR, FSem.wk mss_l20Rd_oddR Fs_l20Rd_oddR)
    | 64 => some (mss_l20Rd_pick, FSem.wk mss_l20Rd_pick Fs_l20Rd_pick)
    | 65 => some (mss_l20ValR, FSem.wk mss_l20ValR Fs_l20ValR)
    | 91 => some (mss_l20KeyR, FSem.wk mss_l20KeyR Fs_l20KeyR)
    | _ => none
  bxf := fun _ => none
  mv := []
  keep := fun _ => []
  keepB := fun _ => []
  keepX := fun _ => []
  keepXB := fun _ => []
theorem goodFs_l20Write : ∀ f ms F, Es_l20Write.fn f = some (ms, F) → Sound Go.Proofs.Tryd.prog f ms F := fun f ms F h => by
  unfold Es_l20Write at h
  dsimp only at h
  split at h
  · injection h with h; injection h with e1 e2; subst e1 e2; exact Sound.wk ss_l20Rd_oddR
  · injection h with h; injection h with e1 e2; subst e1 e2; exact Sound.wk ss_l20Rd_pick
  · injection h with h; injection h with e1 e2; subst e1 e2; exact Sound.wk ss_l20ValR
  · injection h with h; injection h with e1 e2; subst e1 e2; exact Sound.wk ss_l20KeyR
  · cases h
theorem goodBs_l20Write : ∀ f ms F, Es_l20Write.bxf f = some (ms, F) → SoundB Go.Proofs.Tryd.prog f ms F := fun f ms F h => by cases h
theorem goods_l20Write : Good Go.Proofs.Tryd.prog Es_l20Write := ⟨rfl, goodFs_l20Write, goodBs_l20Write⟩
noncomputable def Os_l20Write_0 : Orc := fun _ _ => none
noncomputable def mss_l20Write : List PM := [.bx, .own]
noncomputable def lss_l20Write : List (Nat × Code) := loopsAll 0 (Go.Proofs.Tryd.f66.body.getD .skip)

theorem ks_l20Write_0 : OrcOk Es_l20Write Os_l20Write_0 lss_l20Write 0 := orcOk_none
noncomputable def g_As_l20Write (r0 : List Int) (r1 : Int) (a2 : Int) : Bool := g_As_l20Key r0 r1 a2 && (g_pickA r0 (g_Vs_l20Key_2 r0 r1 a2) (3 : Int) && bif g_pick r0 (g_Vs_l20Key_2 r0 r1 a2) (3 : Int) == (0 : Int) then g_As_l20Rd_odd r0 (IntKind.wrap IntKind.i64 (g_Vs_l20Key_2 r0 r1 a2 + (1 : Int))) a2 else g_As_l20Val r0 (IntKind.wrap IntKind.i64 (g_Vs_l20Key_2 r0 r1 a2 + (1 : Int))) a2)
noncomputable def g_Vs_l20Write_0 (r0 : List Int) (r1 : Int) (a2 : Int) : ByteArray := bif g_pick r0 (g_Vs_l20Key_2 r0 r1 a2) (3 : Int) == (0 : Int) then bif g_Vs_l20Rd_odd_0 r0 (IntKind.wrap IntKind.i64 (g_Vs_l20Key_2 r0 r1 a2 + (1 : Int))) a2 then g_Vs_l20Key_0 r0 r1 a2 else g_Vs_l20Key_0 r0 r1 a2 else g_Vs_l20Key_0 r0 r1 a2
noncomputable def g_Vs_l20Write_1 (r0 : List Int) (r1 : Int) (a2 : Int) : Bool := bif g_pick r0 (g_Vs_l20Key_2 r0 r1 a2) (3 : Int) == (0 : Int) then bif g_Vs_l20Rd_odd_0 r0 (IntKind.wrap IntKind.i64 (g_Vs_l20Key_2 r0 r1 a2 + (1 : Int))) a2 then true else true else false
noncomputable def g_Vs_l20Write_2 (r0 : List Int) (r1 : Int) (a2 : Int) : List (Int) := bif g_pick r0 (g_Vs_l20Key_2 r0 r1 a2) (3 : Int) == (0 : Int) then bif g_Vs_l20Rd_odd_0 r0 (IntKind.wrap IntKind.i64 (g_Vs_l20Key_2 r0 r1 a2 + (1 : Int))) a2 then [(1 : Int)] else [] else g_Vs_l20Val_0 r0 (IntKind.wrap IntKind.i64 (g_Vs_l20Key_2 r0 r1 a2 + (1 : Int))) a2
noncomputable def g_Vs_l20Write_3 (r0 : List Int) (r1 : Int) (a2 : Int) : List (Int) := bif g_pick r0 (g_Vs_l20Key_2 r0 r1 a2) (3 : Int) == (0 : Int) then bif g_Vs_l20Rd_odd_0 r0 (IntKind.wrap IntKind.i64 (g_Vs_l20Key_2 r0 r1 a2 + (1 : Int))) a2 then r0 else r0 else r0
noncomputable def g_Vs_l20Write_4 (r0 : List Int) (r1 : Int) (a2 : Int) : Int := bif g_pick r0 (g_Vs_l20Key_2 r0 r1 a2) (3 : Int) == (0 : Int) then bif g_Vs_l20Rd_odd_0 r0 (IntKind.wrap IntKind.i64 (g_Vs_l20Key_2 r0 r1 a2 + (1 : Int))) a2 then g_Vs_l20Rd_odd_2 r0 (IntKind.wrap IntKind.i64 (g_Vs_l20Key_2 r0 r1 a2 + (1 : Int))) a2 else g_Vs_l20Rd_odd_2 r0 (IntKind.wrap IntKind.i64 (g_Vs_l20Key_2 r0 r1 a2 + (1 : Int))) a2 else g_Vs_l20Val_2 r0 (IntKind.wrap IntKind.i64 (g_Vs_l20Key_2 r0 r1 a2 + (1 : Int))) a2
noncomputable def Fs_l20Write : FSem := fun ys => match ys with
  | [.val true [.sl .any 5 (.int .u8) r0, .int .i64 r1], .val false [.int .i64 a2]] => some ((g_As_l20Write r0 r1 a2), .val true [.str (g_Vs_l20Write_0 r0 r1 a2), .bool (g_Vs_l20Write_1 r0 r1 a2), .sl .any 3 (.int .i64) (g_Vs_l20Write_2 r0 r1 a2)], [[.sl .any 5 (.int .u8) (g_Vs_l20Write_3 r0 r1 a2), .int .i64 (g_Vs_l20Write_4 r0 r1 a2)]])
  | _ => none
theorem vs_l20Write (r0 : List Int) (r1 : Int) (a2 : Int) : collapseH .fr Es_l20Write Os_l20Write_0 (execFn Es_l20Write Go.Proofs.Tryd.f66 mss_l20Write [.val true [.sl .any 5 (.int .u8) r0, .int .i64 r1], .val false [.int .i64 a2]]) = some ((g_As_l20Write r0 r1 a2), .val true [.str (g_Vs_l20Write_0 r0 r1 a2), .bool (g_Vs_l20Write_1 r0 r1 a2), .sl .any 3 (.int .i64) (g_Vs_l20Write_2 r0 r1 a2)], [[.sl .any 5 (.int .u8) (g_Vs_l20Write_3 r0 r1 a2), .int .i64 (g_Vs_l20Write_4 r0 r1 a2)]]) := by kernel_rfl
theorem ss_l20Write : Sound Go.Proofs.Tryd.prog 66 mss_l20Write Fs_l20Write := by
  refine fn_gen goods_l20Write (by kernel_rfl) .fr (fn := Go.Proofs.Tryd.f66) (c := (Go.Proofs.Tryd.f66.body.getD .skip)) (o := Os_l20Write_0) (k := 0) (by kernel_rfl) (by kernel_rfl) (by kernel_rfl) (by kernel_rfl) (by decide) ks_l20Write_0 ?_
  intro ys r outs h
  unfold Fs_l20Write at h
  split at h
  · exact (vs_l20Write _ _ _).trans h
  · cases h
end Go.Proofs.YtjoggjjjlafdmaaDoor.E
end
section
namespace Go.Proofs.YtjoggjjjlafdmaaDoor.E
open Go
set_option maxRecDepth 100000
set_option linter.all false
noncomputable def mss_l20WriteR : List PM := mss_l20Write
theorem sames_l20Write (r0 : List Int) (r1 : Int) (a2 : Int) : g_Vs_l20Write_3 r0 r1 a2 = r0 := by
  unfold g_Vs_l20Write_3
  simp only [Bool.cond_self]
noncomputable def Fs_l20WriteR : FSem := fun ys => match ys with
  | [.val true [.sl .any 5 (.int .u8) r0, .int .i64 r1], .val false [.int .i64 a2]] => some ((g_As_l20Write r0 r1 a2), .val true [.str (g_Vs_l20Write_0 r0 r1 a2), .bool (g_Vs_l20Write_1 r0 r1 a2), .sl .any 3 (.int .i64) (g_Vs_l20Write_2 r0 r1 a2)], [[.sl .any 5 (.int .u8) r0, .int .i64 (g_Vs_l20Write_4 r0 r1 a2)]])
  | _ => none
theorem ss_l20WriteR : Sound Go.Proofs.Tryd.prog 66 mss_l20WriteR Fs_l20WriteR := by
  refine ⟨ss_l20Write.fn, fun w S ψ ys vs r outs hF hh hg => ss_l20Write.calls w S ψ ys vs r outs (Eq.trans ?_ hF) hh hg⟩
  unfold Fs_l20WriteR at hF ⊢
  split at hF
  · rename_i  r0 r1 a2
    show (some ((g_As_l20Write r0 r1 a2), .val true [.str (g_Vs_l20Write_0 r0 r1 a2), .bool (g_Vs_l20Write_1 r0 r1 a2), .sl .any 3 (.int .i64) (g_Vs_l20Write_2 r0 r1 a2)], [[.sl .any 5 (.int .u8) (g_Vs_l20Write_3 r0 r1 a2), .int .i64 (g_Vs_l20Write_4 r0 r1 a2)]]) : Option (Bool × RV × List (List Cell))) = _
    rw [sames_l20Write]
  · cases hF
end Go.Proofs.YtjoggjjjlafdmaaDoor.E
end
section
namespace Go.Proofs.YtjoggjjjlafdmaaDoor.E
open Go
set_option maxRecDepth 100000
set_option maxHeartbeats 0
set_option linter.all false
noncomputable def Es_l20Writes : Env where
  tt := mkTI Go.Proofs.Tryd.prog
  fn := fun f => match f with
    | 34 => some (mss_l20Rd_oddR, FSem.wk mss_l20Rd_oddR Fs_l20Rd_oddR)
    | 64 => some (mss_l20Rd_pick, FSem.wk mss_l20Rd_pick Fs_l20Rd_pick)
    | 66 => some (mss_l20WriteR, FSem.wk mss_l20WriteR Fs_l20WriteR)
    | _ => none
  bxf := fun _ => none
  mv := []
  keep := fun b => match b with
    | 0 => [(0, false), (1, false), (5, true), (6, false)]
    | _ => []
  keepB := fun b => match b with
    | 0 => [(0, false)]
    | _ => []
  keepX := fun b => match b with
    | 0 => [(0, false), (1, false), (5, true)]
    | _ => []
  keepXB := fun b => match b with
    | 0 => [(0, false)]
    | _ => []
theorem goodFs_l20Writes : ∀ f ms F, Es_l20Writes.fn f = some (ms, F) → Sound Go.Proofs.Tryd.prog f ms F := fun f ms F h => by
  unfold Es_l20Writes at h
  dsimp only at h
  split at h
  · injection h with h; injection h with e1 e2; subst e1 e2; exact Sound.wk ss_l20Rd_oddR
  · injection h with h; injection h with e1 e2; subst e1 e2; exact Sound.wk ss_l20Rd_pick
  · injection h with h; injection h with e1 e2; subst e1 e2; exact Sound.wk ss_l20WriteR
  · cases h
theorem goodBs_l20Writes : ∀ f ms F, Es_l20Writes.bxf f = some (ms, F) → SoundB Go.Proofs.Tryd.prog f ms F := fun f ms F h => by cases h
theorem goods_l20Writes : Good Go.Proofs.Tryd.prog Es_l20Writes := ⟨rfl, goodFs_l20Writes, goodBs_l20Writes⟩
noncomputable def Os_l20Writes_0 : Orc := fun _ _ => none
noncomputable def mss_l20Writes : List PM := [.bx, .own]
noncomputable def lss_l20Writes : List (Nat × Code) := loopsAll 0 (Go.Proofs.Tryd.f33.body.getD .skip)
noncomputable def cs_l20Writes_0 : Code := (loopOf 0 (Go.Proofs.Tryd.f33.body.getD .skip)).getD .skip
theorem lseqs_l20Writes : lss_l20Writes = [(0, cs_l20Writes_0)] := by kernel_rfl
theorem ms_l20Writes_0 : ∀ p, p ∈ lss_l20Writes → p.1 = 0 → p.2 = cs_l20Writes_0 := by
  intro p hp
  rw [lseqs_l20Writes] at hp
  simp only [List.mem_cons, List.not_mem_nil, or_false] at hp
  subst hp; simp
theorem ks_l20Writes_0 : OrcOk Es_l20Writes Os_l20Writes_0 lss_l20Writes 0 := orcOk_none
noncomputable def hs_l20Writes_0 (y0 : Int) (y1 : List ((ByteArray) × ((Bool) × (List (Int))))) (y2 : Int) (y3 : List (Int)) (y4 : Int) : List (Pl × LV) := [(.T 0, .t (.val false [.ptr 0 0 0])), (.T 1, .t (.val false [.int .i64 y0])), (.T 5, .t (.val false [.row 5 0 0])), (.R 5 0, .r 0 (some ⟨false, .non, false, 36, (.pair .str (.pair .bool (.sl 3 (.int .i64)))), y1⟩)), (.T 6, .t (.val false [.int .i64 y2])), (.B 0, .b 0 false [.sl .any 5 (.int .u8) y3, .int .i64 y4])]
noncomputable def g_Ss_l20Writes_0 (y0 : Int) (y3 : List (Int)) : ((List ((ByteArray) × ((Bool) × (List (Int))))) × (Int) × (Int)) → RT ((List ((ByteArray) × ((Bool) × (List (Int))))) × (Int) × (Int)) (((List ((ByteArray) × ((Bool) × (List (Int))))) × (Int)))
  | (y1, y2, y4) => .br (true) (.br (decide (y2 > (0 : Int))) (.br (g_As_l20Write y3 y4 (0 : Int)) (.br (decide ((List.length y1 + List.length [(g_Vs_l20Write_0 y3 y4 (0 : Int), g_Vs_l20Write_1 y3 y4 (0 : Int), g_Vs_l20Write_2 y3 y4 (0 : Int))]) * nat_lit 48 ≤ nat_lit 140737488355328 ∧ List.length y1 + List.length [(g_Vs_l20Write_0 y3 y4 (0 : Int), g_Vs_l20Write_1 y3 y4 (0 : Int), g_Vs_l20Write_2 y3 y4 (0 : Int))] ≤ nat_lit 9223372036854775807)) (.br (true) (.go ((y1 ++ [(g_Vs_l20Write_0 y3 y4 (0 : Int), g_Vs_l20Write_1 y3 y4 (0 : Int), g_Vs_l20Write_2 y3 y4 (0 : Int))], IntKind.wrap IntKind.i64 (y2 - (1 : Int)), g_Vs_l20Write_4 y3 y4 (0 : Int)))) (.bad)) (.bad)) (.bad)) (.out ((y1, y4)))) (.bad)
noncomputable def g_Ls_l20Writes_0 (y0 : Int) (y3 : List (Int)) (x : (List ((ByteArray) × ((Bool) × (List (Int))))) × (Int) × (Int)) : Option (((List ((ByteArray) × ((Bool) × (List (Int))))) × (Int))) := loopO (g_Ss_l20Writes_0 y0 y3) x
noncomputable def xs_l20Writes_0 (y0 : Int) (y3 : List (Int)) : (((List ((ByteArray) × ((Bool) × (List (Int))))) × (Int))) → Ex × List (Pl × LV) := fun r => (.exit 0, [(.T 0, .t (.val false [.ptr 0 0 0])), (.T 1, .t (.val false [.int .i64 y0])), (.T 5, .t (.val false [.row 5 0 0])), (.R 5 0, .r 0 (some ⟨false, .non, false, 36, (.pair .str (.pair .bool (.sl 3 (.int .i64)))), r.1⟩)), (.B 0, .b 0 false [.sl .any 5 (.int .u8) y3, .int .i64 r.2])])
noncomputable def Os_l20Writes_1 : Orc := fun b h => match b, h with
  | 0, [(.T 0, .t (.val false [.ptr 0 0 0])), (.T 1, .t (.val false [.int .i64 y0])), (.T 5, .t (.val false [.row 5 0 0])), (.R 5 0, .r 0 (some ⟨false, .non, false, 36, (.pair .str (.pair .bool (.sl 3 (.int .i64)))), y1⟩)), (.T 6, .t (.val false [.int .i64 y2])), (.B 0, .b 0 false [.sl .any 5 (.int .u8) y3, .int .i64 y4])] => some (okO (g_Ls_l20Writes_0 y0 y3 (y1, y2, y4)), (.leaf (.exit 0) [(.T 0, .t (.val false [.ptr 0 0 0])), (.T 1, .t (.val false [.int .i64 y0])), (.T 5, .t (.val false [.row 5 0 0])), (.R 5 0, .r 0 (some ⟨false, .non, false, 36, (.pair .str (.pair .bool (.sl 3 (.int .i64)))), (valO (g_Ls_l20Writes_0 y0 y3 (y1, y2, y4))).1⟩)), (.B 0, .b 0 false [.sl .any 5 (.int .u8) y3, .int .i64 (valO (g_Ls_l20Writes_0 y0 y3 (y1, y2, y4))).2])]))
  | b, h => Os_l20Writes_0 b h
theorem bs_l20Writes_0 (y0 : Int) (y1 : List ((ByteArray) × ((Bool) × (List (Int))))) (y2 : Int) (y3 : List (Int)) (y4 : Int) : Tr.bt Es_l20Writes Os_l20Writes_0 (exec Es_l20Writes 0 cs_l20Writes_0 (St.of (hs_l20Writes_0 y0 y1 y2 y3 y4)) (leafRd Es_l20Writes 0)) = (g_Ss_l20Writes_0 y0 y3 (y1, y2, y4)).bt (fun ((y1, y2, y4) : (List ((ByteArray) × ((Bool) × (List (Int))))) × (Int) × (Int)) => (hs_l20Writes_0 y0 y1 y2 y3 y4)) (xs_l20Writes_0 y0 y3) := by kernel_rfl
theorem ks_l20Writes_1 : OrcOk Es_l20Writes Os_l20Writes_1 lss_l20Writes 1 := orc_add ks_l20Writes_0 (fun n p hp h ex h' ho => by
  obtain ⟨b, c⟩ := p
  obtain ⟨xt, h1, h2⟩ := ho
  have h1 : Os_l20Writes_1 b h = some (true, xt) := h1
  unfold Os_l20Writes_1 at h1
  split at h1
  · injection h1 with h1
    injection h1 with e1 e2
    subst e2
    have hc : c = cs_l20Writes_0 := ms_l20Writes_0 _ hp rfl
    subst hc
    right
    rename_i y0 y1 y2 y3 y4
    have key := LT_step ks_l20Writes_0 hp (fun q hq => loopsAll_in _ _ _ _ hp hq) (fun ((y1, y2, y4) : (List ((ByteArray) × ((Bool) × (List (Int))))) × (Int) × (Int)) => (hs_l20Writes_0 y0 y1 y2 y3 y4)) (xs_l20Writes_0 y0 y3) (g_Ss_l20Writes_0 y0 y3) (fun x => by first | exact bs_l20Writes_0 y0 x.1 x.2.1 y3 x.2.2) n (x := (y1, y2, y4)) (okO_some e1)
    have hx : ∀ r, XT.sel (.leaf (.exit 0) [(.T 0, .t (.val false [.ptr 0 0 0])), (.T 1, .t (.val false [.int .i64 y0])), (.T 5, .t (.val false [.row 5 0 0])), (.R 5 0, .r 0 (some ⟨false, .non, false, 36, (.pair .str (.pair .bool (.sl 3 (.int .i64)))), r.1⟩)), (.B 0, .b 0 false [.sl .any 5 (.int .u8) y3, .int .i64 r.2])]) = xs_l20Writes_0 y0 y3 r := fun r => by first | rfl | (rcases r with r | r <;> rfl) | (rcases r with r | r | r <;> rfl) | (rcases r with r | r | r | r <;> rfl)
    have h3 := (hx (valO (g_Ls_l20Writes_0 y0 y3 (y1, y2, y4)))).symm.trans h2
    have e3 := congrArg Prod.fst h3
    have e4 := congrArg Prod.snd h3
    simp only at e3 e4
    rw [← e3, ← e4]
    exact key
  · exact .inl ⟨xt, h1, h2⟩)
noncomputable def g_As_l20Writes (r0 : List Int) (r1 : Int) (a2 : Int) : Bool := g_pickA r0 r1 (6 : Int) && (okO (g_Ls_l20Writes_0 a2 r0 ([], g_pick r0 r1 (6 : Int), IntKind.wrap IntKind.i64 (r1 + (1 : Int)))) && (g_As_l20Rd_odd r0 (valO (g_Ls_l20Writes_0 a2 r0 ([], g_pick r0 r1 (6 : Int), IntKind.wrap IntKind.i64 (r1 + (1 : Int))))).2 a2 && (!g_Vs_l20Rd_odd_0 r0 (valO (g_Ls_l20Writes_0 a2 r0 ([], g_pick r0 r1 (6 : Int), IntKind.wrap IntKind.i64 (r1 + (1 : Int))))).2 a2 || g_As_l20Write r0 (g_Vs_l20Rd_odd_2 r0 (valO (g_Ls_l20Writes_0 a2 r0 ([], g_pick r0 r1 (6 : Int), IntKind.wrap IntKind.i64 (r1 + (1 : Int))))).2 a2) (2 : Int) && decide ((List.length (valO (g_Ls_l20Writes_0 a2 r0 ([], g_pick r0 r1 (6 : Int), IntKind.wrap IntKind.i64 (r1 + (1 : Int))))).1 + List.length [(g_Vs_l20Write_0 r0 (g_Vs_l20Rd_odd_2 r0 (valO (g_Ls_l20Writes_0 a2 r0 ([], g_pick r0 r1 (6 : Int), IntKind.wrap IntKind.i64 (r1 + (1 : Int))))).2 a2) (2 : Int), g_Vs_l20Write_1 r0 (g_Vs_l20Rd_odd_2 r0 (valO (g_Ls_l20Writes_0 a2 r0 ([], g_pick r0 r1 (6 : Int), IntKind.wrap IntKind.i64 (r1 + (1 : Int))))).2 a2) (2 : Int), g_Vs_l20Write_2 r0 (g_Vs_l20Rd_odd_2 r0 (valO (g_Ls_l20Writes_0 a2 r0 ([], g_pick r0 r1 (6 : Int), IntKind.wrap IntKind.i64 (r1 + (1 : Int))))).2 a2) (2 : Int))]) * nat_lit 48 ≤ nat_lit 140737488355328 ∧ List.length (valO (g_Ls_l20Writes_0 a2 r0 ([], g_pick r0 r1 (6 : Int), IntKind.wrap IntKind.i64 (r1 + (1 : Int))))).1 + List.length [(g_Vs_l20Write_0 r0 (g_Vs_l20Rd_odd_2 r0 (valO (g_Ls_l20Writes_0 a2 r0 ([], g_pick r0 r1 (6 : Int), IntKind.wrap IntKind.i64 (r1 + (1 : Int))))).2 a2) (2 : Int), g_Vs_l20Write_1 r0 (g_Vs_l20Rd_odd_2 r0 (valO (g_Ls_l20Writes_0 a2 r0 ([], g_pick r0 r1 (6 : Int), IntKind.wrap IntKind.i64 (r1 + (1 : Int))))).2 a2) (2 : Int), g_Vs_l20Write_2 r0 (g_Vs_l20Rd_odd_2 r0 (valO (g_Ls_l20Writes_0 a2 r0 ([], g_pick r0 r1 (6 : Int), IntKind.wrap IntKind.i64 (r1 + (1 : Int))))).2 a2) (2 : Int))] ≤ nat_lit 9223372036854775807))))
noncomputable def g_Vs_l20Writes_0 (r0 : List Int) (r1 : Int) (a2 : Int) : List ((ByteArray) × ((Bool) × (List (Int)))) := bif g_Vs_l20Rd_odd_0 r0 (valO (g_Ls_l20Writes_0 a2 r0 ([], g_pick r0 r1 (6 : Int), IntKind.wrap IntKind.i64 (r1 + (1 : Int))))).2 a2 then (valO (g_Ls_l20Writes_0 a2 r0 ([], g_pick r0 r1 (6 : Int), IntKind.wrap IntKind.i64 (r1 + (1 : Int))))).1 ++ [(g_Vs_l20Write_0 r0 (g_Vs_l20Rd_odd_2 r0 (valO (g_Ls_l20Writes_0 a2 r0 ([], g_pick r0 r1 (6 : Int), IntKind.wrap IntKind.i64 (r1 + (1 : Int))))).2 a2) (2 : Int), g_Vs_l20Write_1 r0 (g_Vs_l20Rd_odd_2 r0 (valO (g_Ls_l20Writes_0 a2 r0 ([], g_pick r0 r1 (6 : Int), IntKind.wrap IntKind.i64 (r1 + (1 : Int))))).2 a2) (2 : Int), g_Vs_l20Write_2 r0 (g_Vs_l20Rd_odd_2 r0 (valO (g_Ls_l20Writes_0 a2 r0 ([], g_pick r0 r1 (6 : Int), IntKind.wrap IntKind.i64 (r1 + (1 : Int))))).2 a2) (2 : Int))] else (valO (g_Ls_l20Writes_0 a2 r0 ([], g_pick r0 r1 (6 : Int), IntKind.wrap IntKind.i64 (r1 + (1 : Int))))).1
noncomputable def g_Vs_l20Writes_1 (r0 : List Int) (r1 : Int) (a2 : Int) : List (Int) := bif g_Vs_l20Rd_odd_0 r0 (valO (g_Ls_l20Writes_0 a2 r0 ([], g_pick r0 r1 (6 : Int), IntKind.wrap IntKind.i64 (r1 + (1 : Int))))).2 a2 then r0 else r0
noncomputable def g_Vs_l20Writes_2 (r0 : List Int) (r1 : Int) (a2 : Int) : Int := bif g_Vs_l20Rd_odd_0 r0 (valO (g_Ls_l20Writes_0 a2 r0 ([], g_pick r0 r1 (6 : Int), IntKind.wrap IntKind.i64 (r1 + (1 : Int))))).2 a2 then g_Vs_l20Write_4 r0 (g_Vs_l20Rd_odd_2 r0 (valO (g_Ls_l20Writes_0 a2 r0 ([], g_pick r0 r1 (6 : Int), IntKind.wrap IntKind.i64 (r1 + (1 : Int))))).2 a2) (2 : Int) else g_Vs_l20Rd_odd_2 r0 (valO (g_Ls_l20Writes_0 a2 r0 ([], g_pick r0 r1 (6 : Int), IntKind.wrap IntKind.i64 (r1 + (1 : Int))))).2 a2
noncomputable def Fs_l20Writes : FSem := fun ys => match ys with
  | [.val true [.sl .any 5 (.int .u8) r0, .int .i64 r1], .val false [.int .i64 a2]] => some ((g_As_l20Writes r0 r1 a2), .val false [.own .any false 36 (.pair .str (.pair .bool (.sl 3 (.int .i64)))) (g_Vs_l20Writes_0 r0 r1 a2)], [[.sl .any 5 (.int .u8) (g_Vs_l20Writes_1 r0 r1 a2), .int .i64 (g_Vs_l20Writes_2 r0 r1 a2)]])
  | _ => none
theorem vs_l20Writes (r0 : List Int) (r1 : Int) (a2 : Int) : collapseH .std Es_l20Writes Os_l20Writes_1 (execFn Es_l20Writes Go.Proofs.Tryd.f33 mss_l20Writes [.val true [.sl .any 5 (.int .u8) r0, .int .i64 r1], .val false [.int .i64 a2]]) = some ((g_As_l20Writes r0 r1 a2), .val false [.own .any false 36 (.pair .str (.pair .bool (.sl 3 (.int .i64)))) (g_Vs_l20Writes_0 r0 r1 a2)], [[.sl .any 5 (.int .u8) (g_Vs_l20Writes_1 r0 r1 a2), .int .i64 (g_Vs_l20Writes_2 r0 r1 a2)]]) := by kernel_rfl
theorem ss_l20Writes : Sound Go.Proofs.Tryd.prog 33 mss_l20Writes Fs_l20Writes := by
  refine fn_gen goods_l20Writes (by kernel_rfl) .std (fn := Go.Proofs.Tryd.f33) (c := (Go.Proofs.Tryd.f33.body.getD .skip)) (o := Os_l20Writes_1) (k := 1) (by kernel_rfl) (by kernel_rfl) (by kernel_rfl) (by kernel_rfl) (by decide) ks_l20Writes_1 ?_
  intro ys r outs h
  unfold Fs_l20Writes at h
  split at h
  · exact (vs_l20Writes _ _ _).trans h
  · cases h
end Go.Proofs.YtjoggjjjlafdmaaDoor.E
end
section
namespace Go.Proofs.YtjoggjjjlafdmaaDoor.E
open Go
set_option maxRecDepth 100000
set_option linter.all false
noncomputable def mss_l20WritesR : List PM := mss_l20Writes
theorem sames_l20Writes (r0 : List Int) (r1 : Int) (a2 : Int) : g_Vs_l20Writes_1 r0 r1 a2 = r0 := by
  unfold g_Vs_l20Writes_1
  simp only [Bool.cond_self]
noncomputable def Fs_l20WritesR : FSem := fun ys => match ys with
  | [.val true [.sl .any 5 (.int .u8) r0, .int .i64 r1], .val false [.int .i64 a2]] => some ((g_As_l20Writes r0 r1 a2), .val false [.own .any false 36 (.pair .str (.pair .bool (.sl 3 (.int .i64)))) (g_Vs_l20Writes_0 r0 r1 a2)], [[.sl .any 5 (.int .u8) r0, .int .i64 (g_Vs_l20Writes_2 r0 r1 a2)]])
  | _ => none
theorem ss_l20WritesR : Sound Go.Proofs.Tryd.prog 33 mss_l20WritesR Fs_l20WritesR := by
  refine ⟨ss_l20Writes.fn, fun w S ψ ys vs r outs hF hh hg => ss_l20Writes.calls w S ψ ys vs r outs (Eq.trans ?_ hF) hh hg⟩
  unfold Fs_l20WritesR at hF ⊢
  split at hF
  · rename_i  r0 r1 a2
    show (some ((g_As_l20Writes r0 r1 a2), .val false [.own .any false 36 (.pair .str (.pair .bool (.sl 3 (.int .i64)))) (g_Vs_l20Writes_0 r0 r1 a2)], [[.sl .any 5 (.int .u8) (g_Vs_l20Writes_1 r0 r1 a2), .int .i64 (g_Vs_l20Writes_2 r0 r1 a2)]]) : Option (Bool × RV × List (List Cell))) = _
    rw [sames_l20Writes]
  · cases hF
end Go.Proofs.YtjoggjjjlafdmaaDoor.E
end
section
namespace Go.Proofs.YtjoggjjjlafdmaaDoor.E
open Go
set_option maxRecDepth 100000
set_option maxHeartbeats 0
set_option linter.all false
noncomputable def Es_l20Sto : Env where
  tt := mkTI Go.Proofs.Tryd.prog
  fn := fun f => match f with
    | 11 => some (mss_StoDo, FSem.wk mss_StoDo Fs_StoDo)
    | 33 => some (mss_l20WritesR, FSem.wk mss_l20WritesR Fs_l20WritesR)
    | 34 => some (mss_l20Rd_oddR, FSem.wk mss_l20Rd_oddR Fs_l20Rd_oddR)
    | 64 => some (mss_l20Rd_pick, FSem.wk mss_l20Rd_pick Fs_l20Rd_pick)
    | 65 => some (mss_l20ValR, FSem.wk mss_l20ValR Fs_l20ValR)
    | _ => none
  bxf := fun _ => none
  mv := []
  keep := fun b => match b with
    | 1 => [(0, false), (4, false), (5, false)]
    | _ => []
  keepB := fun b => match b with
    | 1 => [(4, false), (5, false), (0, false)]
    | _ => []
  keepX := fun b => match b with
    | 1 => [(0, false), (4, false), (5, false)]
    | _ => []
  keepXB := fun b => match b with
    | 1 => [(4, false), (5, false), (0, false)]
    | _ => []
theorem goodFs_l20Sto : ∀ f ms F, Es_l20Sto.fn f = some (ms, F) → Sound Go.Proofs.Tryd.prog f ms F := fun f ms F h => by
  unfold Es_l20Sto at h
  dsimp only at h
  split at h
  · injection h with h; injection h with e1 e2; subst e1 e2; exact Sound.wk ss_StoDo
  · injection h with h; injection h with e1 e2; subst e1 e2; exact Sound.wk ss_l20WritesR
  · injection h with h; injection h with e1 e2; subst e1 e2; exact Sound.wk ss_l20Rd_oddR
  · injection h with h; injection h with e1 e2; subst e1 e2; exact Sound.wk ss_l20Rd_pick
  · injection h with h; injection h with e1 e2; subst e1 e2; exact Sound.wk ss_l20ValR
  · cases h
theorem goodBs_l20Sto : ∀ f ms F, Es_l20Sto.bxf f = some (ms, F) → SoundB Go.Proofs.Tryd.prog f ms F := fun f ms F h => by cases h
theorem goods_l20Sto : Good Go.Proofs.Tryd.prog Es_l20Sto := ⟨rfl, goodFs_l20Sto, goodBs_l20Sto⟩
noncomputable def Os_l20Sto_0 : Orc := fun _ _ => none
noncomputable def mss_l20Sto : List PM := [.bx, .own]
noncomputable def lss_l20Sto : List (Nat × Code) := loopsAll 0 (Go.Proofs.Tryd.f32.body.getD .skip)
noncomputable def cs_l20Sto_1 : Code := (loopOf 1 (Go.Proofs.Tryd.f32.body.getD .skip)).getD .skip
theorem lseqs_l20Sto : lss_l20Sto = [(1, cs_l20Sto_1)] := by kernel_rfl
theorem ms_l20Sto_1 : ∀ p, p ∈ lss_l20Sto → p.1 = 1 → p.2 = cs_l20Sto_1 := by
  intro p hp
  rw [lseqs_l20Sto] at hp
  simp only [List.mem_cons, List.not_mem_nil, or_false] at hp
  subst hp; simp
theorem ks_l20Sto_0 : OrcOk Es_l20Sto Os_l20Sto_0 lss_l20Sto 0 := orcOk_none
noncomputable def hs_l20Sto_1 (y0 : List ((ByteArray) × (List (Int)))) (y1 : List ((ByteArray) × (List (Int)))) (y2 : List (Int)) (y3 : Int) : List (Pl × LV) := [(.T 0, .t (.val false [.ptr 0 0 0])), (.T 4, .t (.val false [.ptr 4 0 0])), (.T 5, .t (.val false [.ptr 5 0 0])), (.B 4, .b 0 false [.row 4 1 0]), (.R 4 1, .r 0 (some ⟨false, .any, true, 41, (.pair .str (.sl 3 (.int .i64))), y0⟩)), (.B 5, .b 0 false [.row 5 1 0]), (.R 5 1, .r 0 (some ⟨false, .any, true, 41, (.pair .str (.sl 3 (.int .i64))), y1⟩)), (.B 0, .b 0 false [.sl .any 5 (.int .u8) y2, .int .i64 y3])]
noncomputable def g_Ss_l20Sto_1 (y0 : List ((ByteArray) × (List (Int)))) (y2 : List (Int)) (y3 : Int) : ((List ((ByteArray) × (List (Int))))) → RT ((List ((ByteArray) × (List (Int))))) (((List ((ByteArray) × (List (Int))))))
  | y1 => .br (true) (.br (decide ((↑(List.length y1) : Int) ≤ (40 : Int))) (.br (decide ((List.length y1 + nat_lit 1) * nat_lit 40 ≤ nat_lit 140737488355328 ∧ List.length y1 + nat_lit 1 ≤ nat_lit 9223372036854775807)) (.go (y1 ++ [(lit [(122 : Nat), (57 : Nat)], [(1 : Int)])])) (.bad)) (.out (y1))) (.bad)
noncomputable def g_Ls_l20Sto_1 (y0 : List ((ByteArray) × (List (Int)))) (y2 : List (Int)) (y3 : Int) (x : (List ((ByteArray) × (List (Int))))) : Option (((List ((ByteArray) × (List (Int)))))) := loopO (g_Ss_l20Sto_1 y0 y2 y3) x
noncomputable def xs_l20Sto_1 (y0 : List ((ByteArray) × (List (Int)))) (y2 : List (Int)) (y3 : Int) : (((List ((ByteArray) × (List (Int)))))) → Ex × List (Pl × LV) := fun r => (.exit 1, [(.T 0, .t (.val false [.ptr 0 0 0])), (.T 4, .t (.val false [.ptr 4 0 0])), (.T 5, .t (.val false [.ptr 5 0 0])), (.B 4, .b 0 false [.row 4 1 0]), (.R 4 1, .r 0 (some ⟨false, .any, true, 41, (.pair .str (.sl 3 (.int .i64))), y0⟩)), (.B 5, .b 0 false [.row 5 1 0]), (.R 5 1, .r 0 (some ⟨false, .any, true, 41, (.pair .str (.sl 3 (.int .i64))), r⟩)), (.B 0, .b 0 false [.sl .any 5 (.int .u8) y2, .int .i64 y3])])
noncomputable def Os_l20Sto_1 : Orc := fun b h => match b, h with
  | 1, [(.T 0, .t (.val false [.ptr 0 0 0])), (.T 4, .t (.val false [.ptr 4 0 0])), (.T 5, .t (.val false [.ptr 5 0 0])), (.B 4, .b 0 false [.row 4 1 0]), (.R 4 1, .r 0 (some ⟨false, .any, true, 41, (.pair .str (.sl 3 (.int .i64))), y0⟩)), (.B 5, .b 0 false [.row 5 1 0]), (.R 5 1, .r 0 (some ⟨false, .any, true, 41, (.pair .str (.sl 3 (.int .i64))), y1⟩)), (.B 0, .b 0 false [.sl .any 5 (.int .u8) y2, .int .i64 y3])] => some (okO (g_Ls_l20Sto_1 y0 y2 y3 y1), (.leaf (.exit 1) [(.T 0, .t (.val false [.ptr 0 0 0])), (.T 4, .t (.val false [.ptr 4 0 0])), (.T 5, .t (.val false [.ptr 5 0 0])), (.B 4, .b 0 false [.row 4 1 0]), (.R 4 1, .r 0 (some ⟨false, .any, true, 41, (.pair .str (.sl 3 (.int .i64))), y0⟩)), (.B 5, .b 0 false [.row 5 1 0]), (.R 5 1, .r 0 (some ⟨false, .any, true, 41, (.pair .str (.sl 3 (.int .i64))), (valO (g_Ls_l20Sto_1 y0 y2 y3 y1))⟩)), (.B 0, .b 0 false [.sl .any 5 (.int .u8) y2, .int .i64 y3])]))
  | b, h => Os_l20Sto_0 b h
theorem bs_l20Sto_1 (y0 : List ((ByteArray) × (List (Int)))) (y1 : List ((ByteArray) × (List (Int)))) (y2 : List (Int)) (y3 : Int) : Tr.bt Es_l20Sto Os_l20Sto_0 (exec Es_l20Sto 1 cs_l20Sto_1 (St.of (hs_l20Sto_1 y0 y1 y2 y3)) (leafRd Es_l20Sto 1)) = (g_Ss_l20Sto_1 y0 y2 y3 y1).bt (fun (y1 : (List ((ByteArray) × (List (Int))))) => (hs_l20Sto_1 y0 y1 y2 y3)) (xs_l20Sto_1 y0 y2 y3) := by kernel_rfl
theorem ks_l20Sto_1 : OrcOk Es_l20Sto Os_l20Sto_1 lss_l20Sto 1 := orc_add ks_l20Sto_0 (fun n p hp h ex h' ho => by
  obtain ⟨b, c⟩ := p
  obtain ⟨xt, h1, h2⟩ := ho
  have h1 : Os_l20Sto_1 b h = some (true, xt) := h1
  unfold Os_l20Sto_1 at h1
  split at h1
  · injection h1 with h1
    injection h1 with e1 e2
    subst e2
    have hc : c = cs_l20Sto_1 := ms_l20Sto_1 _ hp rfl
    subst hc
    right
    rename_i y0 y1 y2 y3
    have key := LT_step ks_l20Sto_0 hp (fun q hq => loopsAll_in _ _ _ _ hp hq) (fun (y1 : (List ((ByteArray) × (List (Int))))) => (hs_l20Sto_1 y0 y1 y2 y3)) (xs_l20Sto_1 y0 y2 y3) (g_Ss_l20Sto_1 y0 y2 y3) (fun x => by first | exact bs_l20Sto_1 y0 x y2 y3) n (x := y1) (okO_some e1)
    have hx : ∀ r, XT.sel (.leaf (.exit 1) [(.T 0, .t (.val false [.ptr 0 0 0])), (.T 4, .t (.val false [.ptr 4 0 0])), (.T 5, .t (.val false [.ptr 5 0 0])), (.B 4, .b 0 false [.row 4 1 0]), (.R 4 1, .r 0 (some ⟨false, .any, true, 41, (.pair .str (.sl 3 (.int .i64))), y0⟩)), (.B 5, .b 0 false [.row 5 1 0]), (.R 5 1, .r 0 (some ⟨false, .any, true, 41, (.pair .str (.sl 3 (.int .i64))), r⟩)), (.B 0, .b 0 false [.sl .any 5 (.int .u8) y2, .int .i64 y3])]) = xs_l20Sto_1 y0 y2 y3 r := fun r => by first | rfl | (rcases r with r | r <;> rfl) | (rcases r with r | r | r <;> rfl) | (rcases r with r | r | r | r <;> rfl)
    have h3 := (hx (valO (g_Ls_l20Sto_1 y0 y2 y3 y1))).symm.trans h2
    have e3 := congrArg Prod.fst h3
    have e4 := congrArg Prod.snd h3
    simp only at e3 e4
    rw [← e3, ← e4]
    exact key
  · exact .inl ⟨xt, h1, h2⟩)
noncomputable def g_As_l20Sto (r0 : List Int) (r1 : Int) (a2 : Int) : Bool := g_As_l20Writes r0 r1 (0 : Int) && (g_As_l20Writes r0 (g_Vs_l20Writes_2 r0 r1 (0 : Int)) (0 : Int) && (decide ((List.length (g_Vs_l20Writes_0 r0 r1 (0 : Int)) + List.length (g_Vs_l20Writes_0 r0 (g_Vs_l20Writes_2 r0 r1 (0 : Int)) (0 : Int))) * nat_lit 48 ≤ nat_lit 140737488355328 ∧ List.length (g_Vs_l20Writes_0 r0 r1 (0 : Int)) + List.length (g_Vs_l20Writes_0 r0 (g_Vs_l20Writes_2 r0 r1 (0 : Int)) (0 : Int)) ≤ nat_lit 9223372036854775807) && (g_As_StoDo [] (g_Vs_l20Writes_0 r0 r1 (0 : Int) ++ g_Vs_l20Writes_0 r0 (g_Vs_l20Writes_2 r0 r1 (0 : Int)) (0 : Int)) && (g_As_l20Rd_odd r0 (g_Vs_l20Writes_2 r0 (g_Vs_l20Writes_2 r0 r1 (0 : Int)) (0 : Int)) a2 && (!g_Vs_l20Rd_odd_0 r0 (g_Vs_l20Writes_2 r0 (g_Vs_l20Writes_2 r0 r1 (0 : Int)) (0 : Int)) a2 || g_pickA r0 (g_Vs_l20Rd_odd_2 r0 (g_Vs_l20Writes_2 r0 (g_Vs_l20Writes_2 r0 r1 (0 : Int)) (0 : Int)) a2) (3 : Int) && bif g_pick r0 (g_Vs_l20Rd_odd_2 r0 (g_Vs_l20Writes_2 r0 (g_Vs_l20Writes_2 r0 r1 (0 : Int)) (0 : Int)) a2) (3 : Int) == (0 : Int) then decide ((List.length (g_Vs_StoDo_0 [] (g_Vs_l20Writes_0 r0 r1 (0 : Int) ++ g_Vs_l20Writes_0 r0 (g_Vs_l20Writes_2 r0 r1 (0 : Int)) (0 : Int))) + nat_lit 1) * nat_lit 40 ≤ nat_lit 140737488355328 ∧ List.length (g_Vs_StoDo_0 [] (g_Vs_l20Writes_0 r0 r1 (0 : Int) ++ g_Vs_l20Writes_0 r0 (g_Vs_l20Writes_2 r0 r1 (0 : Int)) (0 : Int))) + nat_lit 1 ≤ nat_lit 9223372036854775807) else bif g_pick r0 (g_Vs_l20Rd_odd_2 r0 (g_Vs_l20Writes_2 r0 (g_Vs_l20Writes_2 r0 r1 (0 : Int)) (0 : Int)) a2) (3 : Int) == (1 : Int) then g_As_l20Val r0 (IntKind.wrap IntKind.i64 (g_Vs_l20Rd_odd_2 r0 (g_Vs_l20Writes_2 r0 (g_Vs_l20Writes_2 r0 r1 (0 : Int)) (0 : Int)) a2 + (1 : Int))) (1 : Int) && decide ((List.length (g_Vs_StoDo_0 [] (g_Vs_l20Writes_0 r0 r1 (0 : Int) ++ g_Vs_l20Writes_0 r0 (g_Vs_l20Writes_2 r0 r1 (0 : Int)) (0 : Int))) + List.length [(lit [(122 : Nat), (57 : Nat)], g_Vs_l20Val_0 r0 (IntKind.wrap IntKind.i64 (g_Vs_l20Rd_odd_2 r0 (g_Vs_l20Writes_2 r0 (g_Vs_l20Writes_2 r0 r1 (0 : Int)) (0 : Int)) a2 + (1 : Int))) (1 : Int))]) * nat_lit 40 ≤ nat_lit 140737488355328 ∧ List.length (g_Vs_StoDo_0 [] (g_Vs_l20Writes_0 r0 r1 (0 : Int) ++ g_Vs_l20Writes_0 r0 (g_Vs_l20Writes_2 r0 r1 (0 : Int)) (0 : Int))) + List.length [(lit [(122 : Nat), (57 : Nat)], g_Vs_l20Val_0 r0 (IntKind.wrap IntKind.i64 (g_Vs_l20Rd_odd_2 r0 (g_Vs_l20Writes_2 r0 (g_Vs_l20Writes_2 r0 r1 (0 : Int)) (0 : Int)) a2 + (1 : Int))) (1 : Int))] ≤ nat_lit 9223372036854775807) else okO (g_Ls_l20Sto_1 [] r0 (IntKind.wrap IntKind.i64 (g_Vs_l20Rd_odd_2 r0 (g_Vs_l20Writes_2 r0 (g_Vs_l20Writes_2 r0 r1 (0 : Int)) (0 : Int)) a2 + (1 : Int))) (g_Vs_StoDo_0 [] (g_Vs_l20Writes_0 r0 r1 (0 : Int) ++ g_Vs_l20Writes_0 r0 (g_Vs_l20Writes_2 r0 r1 (0 : Int)) (0 : Int)))))))))
noncomputable def g_Vs_l20Sto_0 (r0 : List Int) (r1 : Int) (a2 : Int) : List ((ByteArray) × (List (Int))) := bif g_Vs_l20Rd_odd_0 r0 (g_Vs_l20Writes_2 r0 (g_Vs_l20Writes_2 r0 r1 (0 : Int)) (0 : Int)) a2 then bif g_pick r0 (g_Vs_l20Rd_odd_2 r0 (g_Vs_l20Writes_2 r0 (g_Vs_l20Writes_2 r0 r1 (0 : Int)) (0 : Int)) a2) (3 : Int) == (0 : Int) then g_Vs_StoDo_0 [] (g_Vs_l20Writes_0 r0 r1 (0 : Int) ++ g_Vs_l20Writes_0 r0 (g_Vs_l20Writes_2 r0 r1 (0 : Int)) (0 : Int)) ++ [(lit [(97 : Nat), (48 : Nat)], [(1 : Int)])] else bif g_pick r0 (g_Vs_l20Rd_odd_2 r0 (g_Vs_l20Writes_2 r0 (g_Vs_l20Writes_2 r0 r1 (0 : Int)) (0 : Int)) a2) (3 : Int) == (1 : Int) then g_Vs_StoDo_0 [] (g_Vs_l20Writes_0 r0 r1 (0 : Int) ++ g_Vs_l20Writes_0 r0 (g_Vs_l20Writes_2 r0 r1 (0 : Int)) (0 : Int)) ++ [(lit [(122 : Nat), (57 : Nat)], g_Vs_l20Val_0 r0 (IntKind.wrap IntKind.i64 (g_Vs_l20Rd_odd_2 r0 (g_Vs_l20Writes_2 r0 (g_Vs_l20Writes_2 r0 r1 (0 : Int)) (0 : Int)) a2 + (1 : Int))) (1 : Int))] else valO (g_Ls_l20Sto_1 [] r0 (IntKind.wrap IntKind.i64 (g_Vs_l20Rd_odd_2 r0 (g_Vs_l20Writes_2 r0 (g_Vs_l20Writes_2 r0 r1 (0 : Int)) (0 : Int)) a2 + (1 : Int))) (g_Vs_StoDo_0 [] (g_Vs_l20Writes_0 r0 r1 (0 : Int) ++ g_Vs_l20Writes_0 r0 (g_Vs_l20Writes_2 r0 r1 (0 : Int)) (0 : Int)))) else g_Vs_StoDo_0 [] (g_Vs_l20Writes_0 r0 r1 (0 : Int) ++ g_Vs_l20Writes_0 r0 (g_Vs_l20Writes_2 r0 r1 (0 : Int)) (0 : Int))
noncomputable def g_Vs_l20Sto_1 (r0 : List Int) (r1 : Int) (a2 : Int) : List (Int) := bif g_Vs_l20Rd_odd_0 r0 (g_Vs_l20Writes_2 r0 (g_Vs_l20Writes_2 r0 r1 (0 : Int)) (0 : Int)) a2 then bif g_pick r0 (g_Vs_l20Rd_odd_2 r0 (g_Vs_l20Writes_2 r0 (g_Vs_l20Writes_2 r0 r1 (0 : Int)) (0 : Int)) a2) (3 : Int) == (0 : Int) then r0 else bif g_pick r0 (g_Vs_l20Rd_odd_2 r0 (g_Vs_l20Writes_2 r0 (g_Vs_l20Writes_2 r0 r1 (0 : Int)) (0 : Int)) a2) (3 : Int) == (1 : Int) then r0 else r0 else r0
noncomputable def g_Vs_l20Sto_2 (r0 : List Int) (r1 : Int) (a2 : Int) : Int := bif g_Vs_l20Rd_odd_0 r0 (g_Vs_l20Writes_2 r0 (g_Vs_l20Writes_2 r0 r1 (0 : Int)) (0 : Int)) a2 then bif g_pick r0 (g_Vs_l20Rd_odd_2 r0 (g_Vs_l20Writes_2 r0 (g_Vs_l20Writes_2 r0 r1 (0 : Int)) (0 : Int)) a2) (3 : Int) == (0 : Int) then IntKind.wrap IntKind.i64 (g_Vs_l20Rd_odd_2 r0 (g_Vs_l20Writes_2 r0 (g_Vs_l20Writes_2 r0 r1 (0 : Int)) (0 : Int)) a2 + (1 : Int)) else bif g_pick r0 (g_Vs_l20Rd_odd_2 r0 (g_Vs_l20Writes_2 r0 (g_Vs_l20Writes_2 r0 r1 (0 : Int)) (0 : Int)) a2) (3 : Int) == (1 : Int) then g_Vs_l20Val_2 r0 (IntKind.wrap IntKind.i64 (g_Vs_l20Rd_odd_2 r0 (g_Vs_l20Writes_2 r0 (g_Vs_l20Writes_2 r0 r1 (0 : Int)) (0 : Int)) a2 + (1 : Int))) (1 : Int) else IntKind.wrap IntKind.i64 (g_Vs_l20Rd_odd_2 r0 (g_Vs_l20Writes_2 r0 (g_Vs_l20Writes_2 r0 r1 (0 : Int)) (0 : Int)) a2 + (1 : Int)) else g_Vs_l20Rd_odd_2 r0 (g_Vs_l20Writes_2 r0 (g_Vs_l20Writes_2 r0 r1 (0 : Int)) (0 : Int)) a2
noncomputable def Fs_l20Sto : FSem := fun ys => match ys with
  | [.val true [.sl .any 5 (.int .u8) r0, .int .i64 r1], .val false [.int .i64 a2]] => some ((g_As_l20Sto r0 r1 a2), .val true [.sl .any 41 (.pair .str (.sl 3 (.int .i64))) (g_Vs_l20Sto_0 r0 r1 a2)], [[.sl .any 5 (.int .u8) (g_Vs_l20Sto_1 r0 r1 a2), .int .i64 (g_Vs_l20Sto_2 r0 r1 a2)]])
  | _ => none
theorem vs_l20Sto (r0 : List Int) (r1 : Int) (a2 : Int) : collapseH .fr Es_l20Sto Os_l20Sto_1 (execFn Es_l20Sto Go.Proofs.Tryd.f32 mss_l20Sto [.val true [.sl .any 5 (.int .u8) r0, .int .i64 r1], .val false [.int .i64 a2]]) = some ((g_As_l20Sto r0 r1 a2), .val true [.sl .any 41 (.pair .str (.sl 3 (.int .i64))) (g_Vs_l20Sto_0 r0 r1 a2)], [[.sl .any 5 (.int .u8) (g_Vs_l20Sto_1 r0 r1 a2), .int .i64 (g_Vs_l20Sto_2 r0 r1 a2)]]) := by kernel_rfl
theorem ss_l20Sto : Sound Go.Proofs.Tryd.prog 32 mss_l20Sto Fs_l20Sto := by
  refine fn_gen goods_l20Sto (by kernel_rfl) .fr (fn := Go.Proofs.Tryd.f32) (c := (Go.Proofs.Tryd.f32.body.getD .skip)) (o := Os_l20Sto_1) (k := 1) (by kernel_rfl) (by kernel_rfl) (by kernel_rfl) (by kernel_rfl) (by decide) ks_l20Sto_1 ?_
  intro ys r outs h
  unfold Fs_l20Sto at h
  split at h
  · exact (vs_l20Sto _ _ _).trans h
  · cases h
end Go.Proofs.YtjoggjjjlafdmaaDoor.E
end
section
namespace Go.Proofs.YtjoggjjjlafdmaaDoor.E
open Go
set_option maxRecDepth 100000
set_option linter.all false
noncomputable def mss_l20StoR : List PM := mss_l20Sto
theorem sames_l20Sto (r0 : List Int) (r1 : Int) (a2 : Int) : g_Vs_l20Sto_1 r0 r1 a2 = r0 := by
  unfold g_Vs_l20Sto_1
  simp only [Bool.cond_self]
noncomputable def Fs_l20StoR : FSem := fun ys => match ys with
  | [.val true [.sl .any 5 (.int .u8) r0, .int .i64 r1], .val false [.int .i64 a2]] => some ((g_As_l20Sto r0 r1 a2), .val true [.sl .any 41 (.pair .str (.sl 3 (.int .i64))) (g_Vs_l20Sto_0 r0 r1 a2)], [[.sl .any 5 (.int .u8) r0, .int .i64 (g_Vs_l20Sto_2 r0 r1 a2)]])
  | _ => none
theorem ss_l20StoR : Sound Go.Proofs.Tryd.prog 32 mss_l20StoR Fs_l20StoR := by
  refine ⟨ss_l20Sto.fn, fun w S ψ ys vs r outs hF hh hg => ss_l20Sto.calls w S ψ ys vs r outs (Eq.trans ?_ hF) hh hg⟩
  unfold Fs_l20StoR at hF ⊢
  split at hF
  · rename_i  r0 r1 a2
    show (some ((g_As_l20Sto r0 r1 a2), .val true [.sl .any 41 (.pair .str (.sl 3 (.int .i64))) (g_Vs_l20Sto_0 r0 r1 a2)], [[.sl .any 5 (.int .u8) (g_Vs_l20Sto_1 r0 r1 a2), .int .i64 (g_Vs_l20Sto_2 r0 r1 a2)]]) : Option (Bool × RV × List (List Cell))) = _
    rw [sames_l20Sto]
  · cases hF
end Go.Proofs.YtjoggjjjlafdmaaDoor.E
end
section
namespace Go.Proofs.YtjoggjjjlafdmaaDoor.E
open Go
set_option maxRecDepth 100000
set_option maxHeartbeats 0
set_option linter.all false
noncomputable def Es_DrawStoDo : Env where
  tt := mkTI Go.Proofs.Tryd.prog
  fn := fun f => match f with
    | 32 => some (mss_l20StoR, FSem.wk mss_l20StoR Fs_l20StoR)
    | 33 => some (mss_l20WritesR, FSem.wk mss_l20WritesR Fs_l20WritesR)
    | 34 => some (mss_l20Rd_oddR, FSem.wk mss_l20Rd_oddR Fs_l20Rd_oddR)
    | 35 => some (mss_l3Plain, FSem.wk mss_l3Plain Fs_l3Plain)
    | _ => none
  bxf := fun f => match f with
    | 31 => some (mss_l20Open, Fs_l20Open)
    | _ => none
  mv := []
  keep := fun b => match b with
    | 0 => [(2, false), (5, false), (6, false), (7, false)]
    | _ => []
  keepB := fun b => match b with
    | 0 => [(2, false), (5, false), (9, false)]
    | _ => []
  keepX := fun b => match b with
    | 0 => [(2, false), (5, false), (6, false)]
    | _ => []
  keepXB := fun b => match b with
    | 0 => [(2, false), (5, false), (9, false)]
    | _ => []
theorem goodFs_DrawStoDo : ∀ f ms F, Es_DrawStoDo.fn f = some (ms, F) → Sound Go.Proofs.Tryd.prog f ms F := fun f ms F h => by
  unfold Es_DrawStoDo at h
  dsimp only at h
  split at h
  · injection h with h; injection h with e1 e2; subst e1 e2; exact Sound.wk ss_l20StoR
  · injection h with h; injection h with e1 e2; subst e1 e2; exact Sound.wk ss_l20WritesR
  · injection h with h; injection h with e1 e2; subst e1 e2; exact Sound.wk ss_l20Rd_oddR
  · injection h with h; injection h with e1 e2; subst e1 e2; exact Sound.wk ss_l3Plain
  · cases h
theorem goodBs_DrawStoDo : ∀ f ms F, Es_DrawStoDo.bxf f = some (ms, F) → SoundB Go.Proofs.Tryd.prog f ms F := fun f ms F h => by
  unfold Es_DrawStoDo at h
  dsimp only at h
  split at h
  · injection h with h; injection h with e1 e2; subst e1 e2; exact ss_l20Open
  · cases h
theorem goods_DrawStoDo : Good Go.Proofs.Tryd.prog Es_DrawStoDo := ⟨rfl, goodFs_DrawStoDo, goodBs_DrawStoDo⟩
noncomputable def Os_DrawStoDo_0 : Orc := fun _ _ => none
noncomputable def mss_DrawStoDo : List PM := [.fz]
noncomputable def lss_DrawStoDo : List (Nat × Code) := loopsAll 0 (Go.Proofs.Tryd.f8.body.getD .skip)
noncomputable def cs_DrawStoDo_0 : Code := (loopOf 0 (Go.Proofs.Tryd.f8.body.getD .skip)).getD .skip
theorem lseqs_DrawStoDo : lss_DrawStoDo = [(0, cs_DrawStoDo_0)] := by kernel_rfl
theorem ms_DrawStoDo_0 : ∀ p, p ∈ lss_DrawStoDo → p.1 = 0 → p.2 = cs_DrawStoDo_0 := by
  intro p hp
  rw [lseqs_DrawStoDo] at hp
  simp only [List.mem_cons, List.not_mem_nil, or_false] at hp
  subst hp; simp
theorem ks_DrawStoDo_0 : OrcOk Es_DrawStoDo Os_DrawStoDo_0 lss_DrawStoDo 0 := orcOk_none
noncomputable def hs_DrawStoDo_0 (y0 : List ((ByteArray) × ((Bool) × (List (Int))))) (y1 : Int) (y2 : List ((ByteArray) × (List (Int)))) (y3 : List ((ByteArray) × (List (Int)))) (y4 : List (Int)) (y5 : Int) : List (Pl × LV) := [(.T 2, .t (.val false [.ptr 2 0 0])), (.T 5, .t (.val false [.ptr 5 0 0])), (.T 6, .t (.val false [.row 6 0 0])), (.R 6 0, .r 0 (some ⟨false, .any, false, 36, (.pair .str (.pair .bool (.sl 3 (.int .i64)))), y0⟩)), (.T 7, .t (.val false [.int .i64 y1])), (.B 2, .b 0 false [.row 2 1 0]), (.R 2 1, .r 0 (some ⟨false, .any, true, 41, (.pair .str (.sl 3 (.int .i64))), y2⟩)), (.B 5, .b 0 false [.sl .any 41 (.pair .str (.sl 3 (.int .i64))) y3]), (.B 9, .b 0 false [.sl .any 5 (.int .u8) y4, .int .i64 y5])]
noncomputable def g_Ss_DrawStoDo_0 (y2 : List ((ByteArray) × (List (Int)))) (y3 : List ((ByteArray) × (List (Int)))) (y4 : List (Int)) (y5 : Int) : ((List ((ByteArray) × ((Bool) × (List (Int))))) × (Int)) → RT ((List ((ByteArray) × ((Bool) × (List (Int))))) × (Int)) (((List ((ByteArray) × ((Bool) × (List (Int)))))))
  | (y0, y1) => .br (true) (.br (decide (y1 ≤ (40 : Int))) (.br (g_As_l3Plain y1) (.br (decide (nat_lit 1 + ByteArray.size (g_Vs_l3Plain_0 y1) ≤ nat_lit 9223372036854775807)) (.br (decide ((List.length y0 + List.length [(lit [(122 : Nat)] ++ g_Vs_l3Plain_0 y1, false, [(1 : Int)])]) * nat_lit 48 ≤ nat_lit 140737488355328 ∧ List.length y0 + List.length [(lit [(122 : Nat)] ++ g_Vs_l3Plain_0 y1, false, [(1 : Int)])] ≤ nat_lit 9223372036854775807)) (.br (true) (.go ((y0 ++ [(lit [(122 : Nat)] ++ g_Vs_l3Plain_0 y1, false, [(1 : Int)])], IntKind.wrap IntKind.i64 (y1 + (1 : Int))))) (.bad)) (.bad)) (.bad)) (.bad)) (.out (y0))) (.bad)
noncomputable def g_Ls_DrawStoDo_0 (y2 : List ((ByteArray) × (List (Int)))) (y3 : List ((ByteArray) × (List (Int)))) (y4 : List (Int)) (y5 : Int) (x : (List ((ByteArray) × ((Bool) × (List (Int))))) × (Int)) : Option (((List ((ByteArray) × ((Bool) × (List (Int))))))) := loopO (g_Ss_DrawStoDo_0 y2 y3 y4 y5) x
noncomputable def xs_DrawStoDo_0 (y2 : List ((ByteArray) × (List (Int)))) (y3 : List ((ByteArray) × (List (Int)))) (y4 : List (Int)) (y5 : Int) : (((List ((ByteArray) × ((Bool) × (List (Int))))))) → Ex × List (Pl × LV) := fun r => (.exit 0, [(.T 2, .t (.val false [.ptr 2 0 0])), (.T 5, .t (.val false [.ptr 5 0 0])), (.T 6, .t (.val false [.row 6 0 0])), (.R 6 0, .r 0 (some ⟨false, .any, false, 36, (.pair .str (.pair .bool (.sl 3 (.int .i64)))), r⟩)), (.B 2, .b 0 false [.row 2 1 0]), (.R 2 1, .r 0 (some ⟨false, .any, true, 41, (.pair .str (.sl 3 (.int .i64))), y2⟩)), (.B 5, .b 0 false [.sl .any 41 (.pair .str (.sl 3 (.int .i64))) y3]), (.B 9, .b 0 false [.sl .any 5 (.int .u8) y4, .int .i64 y5])])
noncomputable def Os_DrawStoDo_1 : Orc := fun b h => match b, h with
  | 0, [(.T 2, .t (.val false [.ptr 2 0 0])), (.T 5, .t (.val false [.ptr 5 0 0])), (.T 6, .t (.val false [.row 6 0 0])), (.R 6 0, .r 0 (some ⟨false, .any, false, 36, (.pair .str (.pair .bool (.sl 3 (.int .i64)))), y0⟩)), (.T 7, .t (.val false [.int .i64 y1])), (.B 2, .b 0 false [.row 2 1 0]), (.R 2 1, .r 0 (some ⟨false, .any, true, 41, (.pair .str (.sl 3 (.int .i64))), y2⟩)), (.B 5, .b 0 false [.sl .any 41 (.pair .str (.sl 3 (.int .i64))) y3]), (.B 9, .b 0 false [.sl .any 5 (.int .u8) y4, .int .i64 y5])] => some (okO (g_Ls_DrawStoDo_0 y2 y3 y4 y5 (y0, y1)), (.leaf (.exit 0) [(.T 2, .t (.val false [.ptr 2 0 0])), (.T 5, .t (.val false [.ptr 5 0 0])), (.T 6, .t (.val false [.row 6 0 0])), (.R 6 0, .r 0 (some ⟨false, .any, false, 36, (.pair .str (.pair .bool (.sl 3 (.int .i64)))), (valO (g_Ls_DrawStoDo_0 y2 y3 y4 y5 (y0, y1)))⟩)), (.B 2, .b 0 false [.row 2 1 0]), (.R 2 1, .r 0 (some ⟨false, .any, true, 41, (.pair .str (.sl 3 (.int .i64))), y2⟩)), (.B 5, .b 0 false [.sl .any 41 (.pair .str (.sl 3 (.int .i64))) y3]), (.B 9, .b 0 false [.sl .any 5 (.int .u8) y4, .int .i64 y5])]))
  | b, h => Os_DrawStoDo_0 b h
theorem bs_DrawStoDo_0 (y0 : List ((ByteArray) × ((Bool) × (List (Int))))) (y1 : Int) (y2 : List ((ByteArray) × (List (Int)))) (y3 : List ((ByteArray) × (List (Int)))) (y4 : List (Int)) (y5 : Int) : Tr.bt Es_DrawStoDo Os_DrawStoDo_0 (exec Es_DrawStoDo 0 cs_DrawStoDo_0 (St.of (hs_DrawStoDo_0 y0 y1 y2 y3 y4 y5)) (leafRd Es_DrawStoDo 0)) = (g_Ss_DrawStoDo_0 y2 y3 y4 y5 (y0, y1)).bt (fun ((y0, y1) : (List ((ByteArray) × ((Bool) × (List (Int))))) × (Int)) => (hs_DrawStoDo_0 y0 y1 y2 y3 y4 y5)) (xs_DrawStoDo_0 y2 y3 y4 y5) := by kernel_rfl
theorem ks_DrawStoDo_1 : OrcOk Es_DrawStoDo Os_DrawStoDo_1 lss_DrawStoDo 1 := orc_add ks_DrawStoDo_0 (fun n p hp h ex h' ho => by
  obtain ⟨b, c⟩ := p
  obtain ⟨xt, h1, h2⟩ := ho
  have h1 : Os_DrawStoDo_1 b h = some (true, xt) := h1
  unfold Os_DrawStoDo_1 at h1
  split at h1
  · injection h1 with h1
    injection h1 with e1 e2
    subst e2
    have hc : c = cs_DrawStoDo_0 := ms_DrawStoDo_0 _ hp rfl
    subst hc
    right
    rename_i y0 y1 y2 y3 y4 y5
    have key := LT_step ks_DrawStoDo_0 hp (fun q hq => loopsAll_in _ _ _ _ hp hq) (fun ((y0, y1) : (List ((ByteArray) × ((Bool) × (List (Int))))) × (Int)) => (hs_DrawStoDo_0 y0 y1 y2 y3 y4 y5)) (xs_DrawStoDo_0 y2 y3 y4 y5) (g_Ss_DrawStoDo_0 y2 y3 y4 y5) (fun x => by first | exact bs_DrawStoDo_0 x.1 x.2 y2 y3 y4 y5) n (x := (y0, y1)) (okO_some e1)
    have hx : ∀ r, XT.sel (.leaf (.exit 0) [(.T 2, .t (.val false [.ptr 2 0 0])), (.T 5, .t (.val false [.ptr 5 0 0])), (.T 6, .t (.val false [.row 6 0 0])), (.R 6 0, .r 0 (some ⟨false, .any, false, 36, (.pair .str (.pair .bool (.sl 3 (.int .i64)))), r⟩)), (.B 2, .b 0 false [.row 2 1 0]), (.R 2 1, .r 0 (some ⟨false, .any, true, 41, (.pair .str (.sl 3 (.int .i64))), y2⟩)), (.B 5, .b 0 false [.sl .any 41 (.pair .str (.sl 3 (.int .i64))) y3]), (.B 9, .b 0 false [.sl .any 5 (.int .u8) y4, .int .i64 y5])]) = xs_DrawStoDo_0 y2 y3 y4 y5 r := fun r => by first | rfl | (rcases r with r | r <;> rfl) | (rcases r with r | r | r <;> rfl) | (rcases r with r | r | r | r <;> rfl)
    have h3 := (hx (valO (g_Ls_DrawStoDo_0 y2 y3 y4 y5 (y0, y1)))).symm.trans h2
    have e3 := congrArg Prod.fst h3
    have e4 := congrArg Prod.snd h3
    simp only at e3 e4
    rw [← e3, ← e4]
    exact key
  · exact .inl ⟨xt, h1, h2⟩)
noncomputable def g_As_DrawStoDo (a0 : List (Int)) : Bool := g_As_l20Open a0 && (g_As_l20Sto (g_Vs_l20Open_0 a0) (g_Vs_l20Open_1 a0) (16 : Int) && (g_As_l20Writes (g_Vs_l20Open_0 a0) (g_Vs_l20Sto_2 (g_Vs_l20Open_0 a0) (g_Vs_l20Open_1 a0) (16 : Int)) (9 : Int) && (g_As_l20Rd_odd (g_Vs_l20Open_0 a0) (g_Vs_l20Writes_2 (g_Vs_l20Open_0 a0) (g_Vs_l20Sto_2 (g_Vs_l20Open_0 a0) (g_Vs_l20Open_1 a0) (16 : Int)) (9 : Int)) (30 : Int) && (!g_Vs_l20Rd_odd_0 (g_Vs_l20Open_0 a0) (g_Vs_l20Writes_2 (g_Vs_l20Open_0 a0) (g_Vs_l20Sto_2 (g_Vs_l20Open_0 a0) (g_Vs_l20Open_1 a0) (16 : Int)) (9 : Int)) (30 : Int) || okO (g_Ls_DrawStoDo_0 [] (g_Vs_l20Sto_0 (g_Vs_l20Open_0 a0) (g_Vs_l20Open_1 a0) (16 : Int)) (g_Vs_l20Open_0 a0) (g_Vs_l20Rd_odd_2 (g_Vs_l20Open_0 a0) (g_Vs_l20Writes_2 (g_Vs_l20Open_0 a0) (g_Vs_l20Sto_2 (g_Vs_l20Open_0 a0) (g_Vs_l20Open_1 a0) (16 : Int)) (9 : Int)) (30 : Int)) (g_Vs_l20Writes_0 (g_Vs_l20Open_0 a0) (g_Vs_l20Sto_2 (g_Vs_l20Open_0 a0) (g_Vs_l20Open_1 a0) (16 : Int)) (9 : Int), (0 : Int)))))))
noncomputable def g_Vs_DrawStoDo_0 (a0 : List (Int)) : List ((ByteArray) × (List (Int))) := bif g_Vs_l20Rd_odd_0 (g_Vs_l20Open_0 a0) (g_Vs_l20Writes_2 (g_Vs_l20Open_0 a0) (g_Vs_l20Sto_2 (g_Vs_l20Open_0 a0) (g_Vs_l20Open_1 a0) (16 : Int)) (9 : Int)) (30 : Int) then g_Vs_l20Sto_0 (g_Vs_l20Open_0 a0) (g_Vs_l20Open_1 a0) (16 : Int) else g_Vs_l20Sto_0 (g_Vs_l20Open_0 a0) (g_Vs_l20Open_1 a0) (16 : Int)
noncomputable def g_Vs_DrawStoDo_1 (a0 : List (Int)) : List ((ByteArray) × ((Bool) × (List (Int)))) := bif g_Vs_l20Rd_odd_0 (g_Vs_l20Open_0 a0) (g_Vs_l20Writes_2 (g_Vs_l20Open_0 a0) (g_Vs_l20Sto_2 (g_Vs_l20Open_0 a0) (g_Vs_l20Open_1 a0) (16 : Int)) (9 : Int)) (30 : Int) then valO (g_Ls_DrawStoDo_0 [] (g_Vs_l20Sto_0 (g_Vs_l20Open_0 a0) (g_Vs_l20Open_1 a0) (16 : Int)) (g_Vs_l20Open_0 a0) (g_Vs_l20Rd_odd_2 (g_Vs_l20Open_0 a0) (g_Vs_l20Writes_2 (g_Vs_l20Open_0 a0) (g_Vs_l20Sto_2 (g_Vs_l20Open_0 a0) (g_Vs_l20Open_1 a0) (16 : Int)) (9 : Int)) (30 : Int)) (g_Vs_l20Writes_0 (g_Vs_l20Open_0 a0) (g_Vs_l20Sto_2 (g_Vs_l20Open_0 a0) (g_Vs_l20Open_1 a0) (16 : Int)) (9 : Int), (0 : Int))) else g_Vs_l20Writes_0 (g_Vs_l20Open_0 a0) (g_Vs_l20Sto_2 (g_Vs_l20Open_0 a0) (g_Vs_l20Open_1 a0) (16 : Int)) (9 : Int)
noncomputable def Fs_DrawStoDo : FSem := fun ys => match ys with
  | [.val false [.sl .any 5 (.int .u8) a0]] => some ((g_As_DrawStoDo a0), .tup [(true, [.sl .any 41 (.pair .str (.sl 3 (.int .i64))) (g_Vs_DrawStoDo_0 a0)]), (false, [.sl .any 36 (.pair .str (.pair .bool (.sl 3 (.int .i64)))) (g_Vs_DrawStoDo_1 a0)])], [])
  | _ => none
theorem vs_DrawStoDo (a0 : List (Int)) : collapseH .fr Es_DrawStoDo Os_DrawStoDo_1 (execFn Es_DrawStoDo Go.Proofs.Tryd.f8 mss_DrawStoDo [.val false [.sl .any 5 (.int .u8) a0]]) = some ((g_As_DrawStoDo a0), .tup [(true, [.sl .any 41 (.pair .str (.sl 3 (.int .i64))) (g_Vs_DrawStoDo_0 a0)]), (false, [.sl .any 36 (.pair .str (.pair .bool (.sl 3 (.int .i64)))) (g_Vs_DrawStoDo_1 a0)])], []) := by kernel_rfl
theorem ss_DrawStoDo : Sound Go.Proofs.Tryd.prog 8 mss_DrawStoDo Fs_DrawStoDo := by
  refine fn_gen goods_DrawStoDo (by kernel_rfl) .fr (fn := Go.Proofs.Tryd.f8) (c := (Go.Proofs.Tryd.f8.body.getD .skip)) (o := Os_DrawStoDo_1) (k := 1) (by kernel_rfl) (by kernel_rfl) (by kernel_rfl) (by kernel_rfl) (by decide) ks_DrawStoDo_1 ?_
  intro ys r outs h
  unfold Fs_DrawStoDo at h
  split at h
  · exact (vs_DrawStoDo _).trans h
  · cases h
end Go.Proofs.YtjoggjjjlafdmaaDoor.E
end
section
namespace Go.Proofs.YtjoggjjjlafdmaaDoor.E
open Go
set_option maxRecDepth 100000
set_option maxHeartbeats 0
set_option linter.all false
noncomputable def Ew_jaInts : Env where
  tt := mkTI Go.Proofs.Tryd.prog
  fn := fun _ => none
  bxf := fun _ => none
  mv := []
  keep := fun b => match b with
    | 0 => [(0, false), (1, false), (5, false)]
    | _ => []
  keepB := fun b => match b with
    | 0 => []
    | _ => []
  keepX := fun b => match b with
    | 0 => [(4, false)]
    | _ => []
  keepXB := fun b => match b with
    | 0 => []
    | _ => []
theorem goodFw_jaInts : ∀ f ms F, Ew_jaInts.fn f = some (ms, F) → Sound Go.Proofs.Tryd.prog f ms F := fun f ms F h => by cases h
theorem goodBw_jaInts : ∀ f ms F, Ew_jaInts.bxf f = some (ms, F) → SoundB Go.Proofs.Tryd.prog f ms F := fun f ms F h => by cases h
theorem goodw_jaInts : Good Go.Proofs.Tryd.prog Ew_jaInts := ⟨rfl, goodFw_jaInts, goodBw_jaInts⟩
noncomputable def Ow_jaInts_0 : Orc := fun _ _ => none
noncomputable def msw_jaInts : List PM := [.rd, .rd]
noncomputable def lsw_jaInts : List (Nat × Code) := loopsAll 0 (Go.Proofs.Tryd.f17.body.getD .skip)
noncomputable def cw_jaInts_0 : Code := (loopOf 0 (Go.Proofs.Tryd.f17.body.getD .skip)).getD .skip
theorem lseqw_jaInts : lsw_jaInts = [(0, cw_jaInts_0)] := by kernel_rfl
theorem mw_jaInts_0 : ∀ p, p ∈ lsw_jaInts → p.1 = 0 → p.2 = cw_jaInts_0 := by
  intro p hp
  rw [lseqw_jaInts] at hp
  simp only [List.mem_cons, List.not_mem_nil, or_false] at hp
  subst hp; simp
theorem kw_jaInts_0 : OrcOk Ew_jaInts Ow_jaInts_0 lsw_jaInts 0 := orcOk_none
noncomputable def hw_jaInts_0 (y0 : List (Int)) (y1 : List (Int)) (y2 : Int) : List (Pl × LV) := [(.T 0, .t (.val false [.sl .any 3 (.int .i64) y0])), (.T 1, .t (.val false [.sl .any 3 (.int .i64) y1])), (.T 5, .t (.val false [.int .i64 y2]))]
noncomputable def g_Sw_jaInts_0 (y0 : List (Int)) (y1 : List (Int)) : ((Int)) → RT ((Int)) (((Bool)) ⊕ (Unit))
  | y2 => .br (true) (.br (decide (y2 < (↑(List.length y0) : Int))) (.br (decide ((0 : Int) ≤ y2 ∧ y2 < (↑(List.length y0) : Int))) (.br (decide ((0 : Int) ≤ y2 ∧ y2 < (↑(List.length y1) : Int))) (.br (true) (.br (at_ (Ty.int IntKind.i64) y0 (Int.toNat y2) != at_ (Ty.int IntKind.i64) y1 (Int.toNat y2)) (.out (.inl false)) (.br (true) (.go (IntKind.wrap IntKind.i64 (y2 + (1 : Int)))) (.bad))) (.bad)) (.bad)) (.bad)) (.out (.inr (())))) (.bad)
noncomputable def g_Lw_jaInts_0 (y0 : List (Int)) (y1 : List (Int)) (x : (Int)) : Option (((Bool)) ⊕ (Unit)) := loopO (g_Sw_jaInts_0 y0 y1) x
noncomputable def xw_jaInts_0 (y0 : List (Int)) (y1 : List (Int)) : (((Bool)) ⊕ (Unit)) → Ex × List (Pl × LV) := fun
  | .inl r => (.ret, [(.T 4, .t (.val false [.bool r]))])
  | .inr (r) => (.exit 0, [(.T 4, .t (.val false [.undef]))])
noncomputable def Ow_jaInts_1 : Orc := fun b h => match b, h with
  | 0, [(.T 0, .t (.val false [.sl .any 3 (.int .i64) y0])), (.T 1, .t (.val false [.sl .any 3 (.int .i64) y1])), (.T 5, .t (.val false [.int .i64 y2]))] => some (okO (g_Lw_jaInts_0 y0 y1 y2), (.br (isL (valO (g_Lw_jaInts_0 y0 y1 y2))) (.leaf .ret [(.T 4, .t (.val false [.bool (getL (valO (g_Lw_jaInts_0 y0 y1 y2)))]))]) (.leaf (.exit 0) [(.T 4, .t (.val false [.undef]))])))
  | b, h => Ow_jaInts_0 b h
theorem bw_jaInts_0 (y0 : List (Int)) (y1 : List (Int)) (y2 : Int) : Tr.bt Ew_jaInts Ow_jaInts_0 (exec Ew_jaInts 0 cw_jaInts_0 (St.of (hw_jaInts_0 y0 y1 y2)) (leafRd Ew_jaInts 0)) = (g_Sw_jaInts_0 y0 y1 y2).bt (fun (y2 : (Int)) => (hw_jaInts_0 y0 y1 y2)) (xw_jaInts_0 y0 y1) := by kernel_rfl
theorem kw_jaInts_1 : OrcOk Ew_jaInts Ow_jaInts_1 lsw_jaInts 1 := orc_add kw_jaInts_0 (fun n p hp h ex h' ho => by
  obtain ⟨b, c⟩ := p
  obtain ⟨xt, h1, h2⟩ := ho
  have h1 : Ow_jaInts_1 b h = some (true, xt) := h1
  unfold Ow_jaInts_1 at h1
  split at h1
  · injection h1 with h1
    injection h1 with e1 e2
    subst e2
    have hc : c = cw_jaInts_0 := mw_jaInts_0 _ hp rfl
    subst hc
    right
    rename_i y0 y1 y2
    have key := LT_step kw_jaInts_0 hp (fun q hq => loopsAll_in _ _ _ _ hp hq) (fun (y2 : (Int)) => (hw_jaInts_0 y0 y1 y2)) (xw_jaInts_0 y0 y1) (g_Sw_jaInts_0 y0 y1) (fun x => by first | exact bw_jaInts_0 y0 y1 x) n (x := y2) (okO_some e1)
    have hx : ∀ r, XT.sel (.br (isL r) (.leaf .ret [(.T 4, .t (.val false [.bool (getL r)]))]) (.leaf (.exit 0) [(.T 4, .t (.val false [.undef]))])) = xw_jaInts_0 y0 y1 r := fun r => by first | rfl | (rcases r with r | r <;> rfl) | (rcases r with r | r | r <;> rfl) | (rcases r with r | r | r | r <;> rfl)
    have h3 := (hx (valO (g_Lw_jaInts_0 y0 y1 y2))).symm.trans h2
    have e3 := congrArg Prod.fst h3
    have e4 := congrArg Prod.snd h3
    simp only at e3 e4
    rw [← e3, ← e4]
    exact key
  · exact .inl ⟨xt, h1, h2⟩)
noncomputable def g_Aw_jaInts (a0 : List (Int)) (a1 : List (Int)) : Bool := (↑(List.length a0) : Int) != (↑(List.length a1) : Int) || okO (g_Lw_jaInts_0 a0 a1 (0 : Int))
noncomputable def g_Vw_jaInts_0 (a0 : List (Int)) (a1 : List (Int)) : Bool := bif (↑(List.length a0) : Int) != (↑(List.length a1) : Int) then false else bif isL (valO (g_Lw_jaInts_0 a0 a1 (0 : Int))) then getL (valO (g_Lw_jaInts_0 a0 a1 (0 : Int))) else true
noncomputable def Fw_jaInts : FSem := fun ys => match ys with
  | [.val false [.sl .any 3 (.int .i64) a0], .val false [.sl .any 3 (.int .i64) a1]] => some ((g_Aw_jaInts a0 a1), .val false [.bool (g_Vw_jaInts_0 a0 a1)], [])
  | _ => none
theorem vw_jaInts (a0 : List (Int)) (a1 : List (Int)) : collapseH .std Ew_jaInts Ow_jaInts_1 (execFn Ew_jaInts Go.Proofs.Tryd.f17 msw_jaInts [.val false [.sl .any 3 (.int .i64) a0], .val false [.sl .any 3 (.int .i64) a1]]) = some ((g_Aw_jaInts a0 a1), .val false [.bool (g_Vw_jaInts_0 a0 a1)], []) := by kernel_rfl
theorem sw_jaInts : Sound Go.Proofs.Tryd.prog 17 msw_jaInts Fw_jaInts := by
  refine fn_gen goodw_jaInts (by kernel_rfl) .std (fn := Go.Proofs.Tryd.f17) (c := (Go.Proofs.Tryd.f17.body.getD .skip)) (o := Ow_jaInts_1) (k := 1) (by kernel_rfl) (by kernel_rfl) (by kernel_rfl) (by kernel_rfl) (by decide) kw_jaInts_1 ?_
  intro ys r outs h
  unfold Fw_jaInts at h
  split at h
  · exact (vw_jaInts _ _).trans h
  · cases h
end Go.Proofs.YtjoggjjjlafdmaaDoor.E
end
section
namespace Go.Proofs.YtjoggjjjlafdmaaDoor.E
open Go
set_option maxRecDepth 100000
set_option maxHeartbeats 0
set_option linter.all false
noncomputable def Ew_jaOk : Env where
  tt := mkTI Go.Proofs.Tryd.prog
  fn := fun f => match f with
    | 38 => some (msi_WrtOk, FSem.wk msi_WrtOk Fi_WrtOk)
    | _ => none
  bxf := fun _ => none
  mv := []
  keep := fun _ => []
  keepB := fun _ => []
  keepX := fun _ => []
  keepXB := fun _ => []
theorem goodFw_jaOk : ∀ f ms F, Ew_jaOk.fn f = some (ms, F) → Sound Go.Proofs.Tryd.prog f ms F := fun f ms F h => by
  unfold Ew_jaOk at h
  dsimp only at h
  split at h
  · injection h with h; injection h with e1 e2; subst e1 e2; exact Sound.wk si_WrtOk
  · cases h
theorem goodBw_jaOk : ∀ f ms F, Ew_jaOk.bxf f = some (ms, F) → SoundB Go.Proofs.Tryd.prog f ms F := fun f ms F h => by cases h
theorem goodw_jaOk : Good Go.Proofs.Tryd.prog Ew_jaOk := ⟨rfl, goodFw_jaOk, goodBw_jaOk⟩
noncomputable def Ow_jaOk_0 : Orc := fun _ _ => none
noncomputable def msw_jaOk : List PM := []
noncomputable def lsw_jaOk : List (Nat × Code) := loopsAll 0 (Go.Proofs.Tryd.f13.body.getD .skip)

theorem kw_jaOk_0 : OrcOk Ew_jaOk Ow_jaOk_0 lsw_jaOk 0 := orcOk_none
noncomputable def g_Aw_jaOk : Bool := g_Ai_WrtOk (lit [(97 : Nat), (49 : Nat)]) false [(1 : Int)]
noncomputable def g_Vw_jaOk_0 : Bool := g_Vi_WrtOk_0 (lit [(97 : Nat), (49 : Nat)]) false [(1 : Int)]
noncomputable def Fw_jaOk : FSem := fun ys => match ys with
  | [] => some (g_Aw_jaOk, .val false [.bool g_Vw_jaOk_0], [])
  | _ => none
theorem vw_jaOk : collapseH .std Ew_jaOk Ow_jaOk_0 (execFn Ew_jaOk Go.Proofs.Tryd.f13 msw_jaOk []) = some (g_Aw_jaOk, .val false [.bool g_Vw_jaOk_0], []) := by kernel_rfl
theorem sw_jaOk : Sound Go.Proofs.Tryd.prog 13 msw_jaOk Fw_jaOk := by
  refine fn_gen goodw_jaOk (by kernel_rfl) .std (fn := Go.Proofs.Tryd.f13) (c := (Go.Proofs.Tryd.f13.body.getD .skip)) (o := Ow_jaOk_0) (k := 0) (by kernel_rfl) (by kernel_rfl) (by kernel_rfl) (by kernel_rfl) (by decide) kw_jaOk_0 ?_
  intro ys r outs h
  unfold Fw_jaOk at h
  split at h
  · exact (vw_jaOk).trans h
  · cases h
end Go.Proofs.YtjoggjjjlafdmaaDoor.E
end
section
namespace Go.Proofs.YtjoggjjjlafdmaaDoor.E
open Go
set_option maxRecDepth 100000
set_option maxHeartbeats 0
set_option linter.all false
noncomputable def Ew_jaSto : Env where
  tt := mkTI Go.Proofs.Tryd.prog
  fn := fun f => match f with
    | 17 => some (msw_jaInts, FSem.wk msw_jaInts Fw_jaInts)
    | _ => none
  bxf := fun _ => none
  mv := []
  keep := fun b => match b with
    | 0 => [(2, false), (3, false), (5, false)]
    | _ => []
  keepB := fun b => match b with
    | 0 => [(2, false), (3, false)]
    | _ => []
  keepX := fun b => match b with
    | 0 => [(4, false)]
    | _ => []
  keepXB := fun b => match b with
    | 0 => []
    | _ => []
theorem goodFw_jaSto : ∀ f ms F, Ew_jaSto.fn f = some (ms, F) → Sound Go.Proofs.Tryd.prog f ms F := fun f ms F h => by
  unfold Ew_jaSto at h
  dsimp only at h
  split at h
  · injection h with h; injection h with e1 e2; subst e1 e2; exact Sound.wk sw_jaInts
  · cases h
theorem goodBw_jaSto : ∀ f ms F, Ew_jaSto.bxf f = some (ms, F) → SoundB Go.Proofs.Tryd.prog f ms F := fun f ms F h => by cases h
theorem goodw_jaSto : Good Go.Proofs.Tryd.prog Ew_jaSto := ⟨rfl, goodFw_jaSto, goodBw_jaSto⟩
noncomputable def Ow_jaSto_0 : Orc := fun _ _ => none
noncomputable def msw_jaSto : List PM := [.rd, .rd]
noncomputable def lsw_jaSto : List (Nat × Code) := loopsAll 0 (Go.Proofs.Tryd.f10.body.getD .skip)
noncomputable def cw_jaSto_0 : Code := (loopOf 0 (Go.Proofs.Tryd.f10.body.getD .skip)).getD .skip
theorem lseqw_jaSto : lsw_jaSto = [(0, cw_jaSto_0)] := by kernel_rfl
theorem mw_jaSto_0 : ∀ p, p ∈ lsw_jaSto → p.1 = 0 → p.2 = cw_jaSto_0 := by
  intro p hp
  rw [lseqw_jaSto] at hp
  simp only [List.mem_cons, List.not_mem_nil, or_false] at hp
  subst hp; simp
theorem kw_jaSto_0 : OrcOk Ew_jaSto Ow_jaSto_0 lsw_jaSto 0 := orcOk_none
noncomputable def hw_jaSto_0 (y0 : Int) (y1 : List ((ByteArray) × (List (Int)))) (y2 : List ((ByteArray) × (List (Int)))) : List (Pl × LV) := [(.T 2, .t (.val false [.ptr 2 0 0])), (.T 3, .t (.val false [.ptr 3 0 0])), (.T 5, .t (.val false [.int .i64 y0])), (.B 2, .b 0 false [.sl .any 41 (.pair .str (.sl 3 (.int .i64))) y1]), (.B 3, .b 0 false [.sl .any 41 (.pair .str (.sl 3 (.int .i64))) y2])]
noncomputable def g_Sw_jaSto_0 (y1 : List ((ByteArray) × (List (Int)))) (y2 : List ((ByteArray) × (List (Int)))) : ((Int)) → RT ((Int)) (((Bool)) ⊕ (Unit))
  | y0 => .br (true) (.br (decide (y0 < (↑(List.length y1) : Int))) (.br (decide ((0 : Int) ≤ y0 ∧ y0 < (↑(List.length y1) : Int))) (.br (decide ((0 : Int) ≤ y0 ∧ y0 < (↑(List.length y2) : Int))) (.br (true) (.br (!ByteArray.toList (at_ (Ty.pair Ty.str (Ty.sl (nat_lit 3) (Ty.int IntKind.i64))) y1 (Int.toNat y0)).1 == ByteArray.toList (at_ (Ty.pair Ty.str (Ty.sl (nat_lit 3) (Ty.int IntKind.i64))) y2 (Int.toNat y0)).1) (.out (.inl false)) (.br (decide ((0 : Int) ≤ y0 ∧ y0 < (↑(List.length y1) : Int))) (.br (decide ((0 : Int) ≤ y0 ∧ y0 < (↑(List.length y2) : Int))) (.br (g_Aw_jaInts (at_ (Ty.pair Ty.str (Ty.sl (nat_lit 3) (Ty.int IntKind.i64))) y1 (Int.toNat y0)).2 (at_ (Ty.pair Ty.str (Ty.sl (nat_lit 3) (Ty.int IntKind.i64))) y2 (Int.toNat y0)).2) (.br (!g_Vw_jaInts_0 (at_ (Ty.pair Ty.str (Ty.sl (nat_lit 3) (Ty.int IntKind.i64))) y1 (Int.toNat y0)).2 (at_ (Ty.pair Ty.str (Ty.sl (nat_lit 3) (Ty.int IntKind.i64))) y2 (Int.toNat y0)).2) (.out (.inl false)) (.br (true) (.go (IntKind.wrap IntKind.i64 (y0 + (1 : Int)))) (.bad))) (.bad)) (.bad)) (.bad))) (.bad)) (.bad)) (.bad)) (.out (.inr (())))) (.bad)
noncomputable def g_Lw_jaSto_0 (y1 : List ((ByteArray) × (List (Int)))) (y2 : List ((ByteArray) × (List (Int)))) (x : (Int)) : Option (((Bool)) ⊕ (Unit)) := loopO (g_Sw_jaSto_0 y1 y2) x
noncomputable def xw_jaSto_0 (y1 : List ((ByteArray) × (List (Int)))) (y2 : List ((ByteArray) × (List (Int)))) : (((Bool)) ⊕ (Unit)) → Ex × List (Pl × LV) := fun
  | .inl r => (.ret, [(.T 4, .t (.val false [.bool r]))])
  | .inr (r) => (.exit 0, [(.T 4, .t (.val false [.undef]))])
noncomputable def Ow_jaSto_1 : Orc := fun b h => match b, h with
  | 0, [(.T 2, .t (.val false [.ptr 2 0 0])), (.T 3, .t (.val false [.ptr 3 0 0])), (.T 5, .t (.val false [.int .i64 y0])), (.B 2, .b 0 false [.sl .any 41 (.pair .str (.sl 3 (.int .i64))) y1]), (.B 3, .b 0 false [.sl .any 41 (.pair .str (.sl 3 (.int .i64))) y2])] => some (okO (g_Lw_jaSto_0 y1 y2 y0), (.br (isL (valO (g_Lw_jaSto_0 y1 y2 y0))) (.leaf .ret [(.T 4, .t (.val false [.bool (getL (valO (g_Lw_jaSto_0 y1 y2 y0)))]))]) (.leaf (.exit 0) [(.T 4, .t (.val false [.undef]))])))
  | b, h => Ow_jaSto_0 b h
theorem bw_jaSto_0 (y0 : Int) (y1 : List ((ByteArray) × (List (Int)))) (y2 : List ((ByteArray) × (List (Int)))) : Tr.bt Ew_jaSto Ow_jaSto_0 (exec Ew_jaSto 0 cw_jaSto_0 (St.of (hw_jaSto_0 y0 y1 y2)) (leafRd Ew_jaSto 0)) = (g_Sw_jaSto_0 y1 y2 y0).bt (fun (y0 : (Int)) => (hw_jaSto_0 y0 y1 y2)) (xw_jaSto_0 y1 y2) := by kernel_rfl
theorem kw_jaSto_1 : OrcOk Ew_jaSto Ow_jaSto_1 lsw_jaSto 1 := orc_add kw_jaSto_0 (fun n p hp h ex h' ho => by
  obtain ⟨b, c⟩ := p
  obtain ⟨xt, h1, h2⟩ := ho
  have h1 : Ow_jaSto_1 b h = some (true, xt) := h1
  unfold Ow_jaSto_1 at h1
  split at h1
  · injection h1 with h1
    injection h1 with e1 e2
    subst e2
    have hc : c = cw_jaSto_0 := mw_jaSto_0 _ hp rfl
    subst hc
    right
    rename_i y0 y1 y2
    have key := LT_step kw_jaSto_0 hp (fun q hq => loopsAll_in _ _ _ _ hp hq) (fun (y0 : (Int)) => (hw_jaSto_0 y0 y1 y2)) (xw_jaSto_0 y1 y2) (g_Sw_jaSto_0 y1 y2) (fun x => by first | exact bw_jaSto_0 x y1 y2) n (x := y0) (okO_some e1)
    have hx : ∀ r, XT.sel (.br (isL r) (.leaf .ret [(.T 4, .t (.val false [.bool (getL r)]))]) (.leaf (.exit 0) [(.T 4, .t (.val false [.undef]))])) = xw_jaSto_0 y1 y2 r := fun r => by first | rfl | (rcases r with r | r <;> rfl) | (rcases r with r | r | r <;> rfl) | (rcases r with r | r | r | r <;> rfl)
    have h3 := (hx (valO (g_Lw_jaSto_0 y1 y2 y0))).symm.trans h2
    have e3 := congrArg Prod.fst h3
    have e4 := congrArg Prod.snd h3
    simp only at e3 e4
    rw [← e3, ← e4]
    exact key
  · exact .inl ⟨xt, h1, h2⟩)
noncomputable def g_Aw_jaSto (a0 : List ((ByteArray) × (List (Int)))) (a1 : List ((ByteArray) × (List (Int)))) : Bool := (↑(List.length a0) : Int) != (↑(List.length a1) : Int) || okO (g_Lw_jaSto_0 a0 a1 (0 : Int))
noncomputable def g_Vw_jaSto_0 (a0 : List ((ByteArray) × (List (Int)))) (a1 : List ((ByteArray) × (List (Int)))) : Bool := bif (↑(List.length a0) : Int) != (↑(List.length a1) : Int) then false else bif isL (valO (g_Lw_jaSto_0 a0 a1 (0 : Int))) then getL (valO (g_Lw_jaSto_0 a0 a1 (0 : Int))) else true
noncomputable def Fw_jaSto : FSem := fun ys => match ys with
  | [.val true [.sl .any 41 (.pair .str (.sl 3 (.int .i64))) a0], .val true [.sl .any 41 (.pair .str (.sl 3 (.int .i64))) a1]] => some ((g_Aw_jaSto a0 a1), .val false [.bool (g_Vw_jaSto_0 a0 a1)], [])
  | _ => none
theorem vw_jaSto (a0 : List ((ByteArray) × (List (Int)))) (a1 : List ((ByteArray) × (List (Int)))) : collapseH .std Ew_jaSto Ow_jaSto_1 (execFn Ew_jaSto Go.Proofs.Tryd.f10 msw_jaSto [.val true [.sl .any 41 (.pair .str (.sl 3 (.int .i64))) a0], .val true [.sl .any 41 (.pair .str (.sl 3 (.int .i64))) a1]]) = some ((g_Aw_jaSto a0 a1), .val false [.bool (g_Vw_jaSto_0 a0 a1)], []) := by kernel_rfl
theorem sw_jaSto : Sound Go.Proofs.Tryd.prog 10 msw_jaSto Fw_jaSto := by
  refine fn_gen goodw_jaSto (by kernel_rfl) .std (fn := Go.Proofs.Tryd.f10) (c := (Go.Proofs.Tryd.f10.body.getD .skip)) (o := Ow_jaSto_1) (k := 1) (by kernel_rfl) (by kernel_rfl) (by kernel_rfl) (by kernel_rfl) (by decide) kw_jaSto_1 ?_
  intro ys r outs h
  unfold Fw_jaSto at h
  split at h
  · exact (vw_jaSto _ _).trans h
  · cases h
end Go.Proofs.YtjoggjjjlafdmaaDoor.E
end
section
namespace Go.Proofs.YtjoggjjjlafdmaaDoor.E
open Go
set_option maxRecDepth 100000
set_option maxHeartbeats 0
set_option linter.all false
noncomputable def Ew_FnStoDo : Env where
  tt := mkTI Go.Proofs.Tryd.prog
  fn := fun f => match f with
    | 8 => some (mss_DrawStoDo, FSem.wk mss_DrawStoDo Fs_DrawStoDo)
    | 9 => some (msi_StoDo, FSem.wk msi_StoDo Fi_StoDo)
    | 10 => some (msw_jaSto, FSem.wk msw_jaSto Fw_jaSto)
    | 11 => some (mss_StoDo, FSem.wk mss_StoDo Fs_StoDo)
    | 12 => some (mss_StoOk, FSem.wk mss_StoOk Fs_StoOk)
    | 13 => some (msw_jaOk, FSem.wk msw_jaOk Fw_jaOk)
    | 14 => some (mss_WrtOk, FSem.wk mss_WrtOk Fs_WrtOk)
    | 15 => some (msi_StoOk, FSem.wk msi_StoOk Fi_StoOk)
    | 16 => some (msi_StoGet, FSem.wk msi_StoGet Fi_StoGet)
    | 17 => some (msw_jaInts, FSem.wk msw_jaInts Fw_jaInts)
    | _ => none
  bxf := fun _ => none
  mv := []
  keep := fun b => match b with
    | 0 => [(3, false), (4, false), (5, false), (6, false)]
    | 2 => [(3, false), (4, false), (5, false), (7, false)]
    | 4 => [(3, false), (4, false), (5, false), (7, false), (8, false), (9, false)]
    | 6 => [(3, false), (4, false), (5, false), (12, false)]
    | 8 => [(3, false), (4, false), (5, false), (12, false), (13, false), (14, false)]
    | _ => []
  keepB := fun b => match b with
    | 0 => [(3, false), (5, false)]
    | 2 => [(3, false), (5, false)]
    | 4 => [(3, false), (5, false)]
    | 6 => [(3, false), (5, false)]
    | 8 => [(3, false), (5, false)]
    | _ => []
  keepX := fun b => match b with
    | 0 => [(2, false), (3, false), (4, false), (5, false)]
    | 2 => [(2, false), (3, false), (4, false), (5, false)]
    | 4 => [(3, false), (4, false), (5, false), (7, false), (8, false)]
    | 6 => [(2, false), (5, false)]
    | 8 => [(3, false), (4, false), (5, false), (12, false), (13, false)]
    | _ => []
  keepXB := fun b => match b with
    | 0 => [(3, false), (5, false)]
    | 2 => [(3, false), (5, false)]
    | 4 => [(3, false), (5, false)]
    | 6 => [(5, false)]
    | 8 => [(3, false), (5, false)]
    | _ => []
theorem goodFw_FnStoDo : ∀ f ms F, Ew_FnStoDo.fn f = some (ms, F) → Sound Go.Proofs.Tryd.prog f ms F := fun f ms F h => by
  unfold Ew_FnStoDo at h
  dsimp only at h
  split at h
  · injection h with h; injection h with e1 e2; subst e1 e2; exact Sound.wk ss_DrawStoDo
  · injection h with h; injection h with e1 e2; subst e1 e2; exact Sound.wk si_StoDo
  · injection h with h; injection h with e1 e2; subst e1 e2; exact Sound.wk sw_jaSto
  · injection h with h; injection h with e1 e2; subst e1 e2; exact Sound.wk ss_StoDo
  · injection h with h; injection h with e1 e2; subst e1 e2; exact Sound.wk ss_StoOk
  · injection h with h; injection h with e1 e2; subst e1 e2; exact Sound.wk sw_jaOk
  · injection h with h; injection h with e1 e2; subst e1 e2; exact Sound.wk ss_WrtOk
  · injection h with h; injection h with e1 e2; subst e1 e2; exact Sound.wk si_StoOk
  · injection h with h; injection h with e1 e2; subst e1 e2; exact Sound.wk si_StoGet
  · injection h with h; injection h with e1 e2; subst e1 e2; exact Sound.wk sw_jaInts
  · cases h
theorem goodBw_FnStoDo : ∀ f ms F, Ew_FnStoDo.bxf f = some (ms, F) → SoundB Go.Proofs.Tryd.prog f ms F := fun f ms F h => by cases h
theorem goodw_FnStoDo : Good Go.Proofs.Tryd.prog Ew_FnStoDo := ⟨rfl, goodFw_FnStoDo, goodBw_FnStoDo⟩
noncomputable def Ow_FnStoDo_0 : Orc := fun _ _ => none
noncomputable def msw_FnStoDo : List PM := [.rd]
noncomputable def lsw_FnStoDo : List (Nat × Code) := loopsAll 0 (Go.Proofs.Tryd.f3.body.getD .skip)
noncomputable def cw_FnStoDo_0 : Code := (loopOf 0 (Go.Proofs.Tryd.f3.body.getD .skip)).getD .skip
noncomputable def cw_FnStoDo_2 : Code := (loopOf 2 (Go.Proofs.Tryd.f3.body.getD .skip)).getD .skip
noncomputable def cw_FnStoDo_4 : Code := (loopOf 4 (Go.Proofs.Tryd.f3.body.getD .skip)).getD .skip
noncomputable def cw_FnStoDo_6 : Code := (loopOf 6 (Go.Proofs.Tryd.f3.body.getD .skip)).getD .skip
noncomputable def cw_FnStoDo_8 : Code := (loopOf 8 (Go.Proofs.Tryd.f3.body.getD .skip)).getD .skip
theorem lseqw_FnStoDo : lsw_FnStoDo = [(0, cw_FnStoDo_0), (2, cw_FnStoDo_2), (4, cw_FnStoDo_4), (6, cw_FnStoDo_6), (8, cw_FnStoDo_8)] := by kernel_rfl
theorem mw_FnStoDo_0 : ∀ p, p ∈ lsw_FnStoDo → p.1 = 0 → p.2 = cw_FnStoDo_0 := by
  intro p hp
  rw [lseqw_FnStoDo] at hp
  simp only [List.mem_cons, List.not_mem_nil, or_false] at hp
  rcases hp with rfl | rfl | rfl | rfl | rfl <;> simp
theorem mw_FnStoDo_2 : ∀ p, p ∈ lsw_FnStoDo → p.1 = 2 → p.2 = cw_FnStoDo_2 := by
  intro p hp
  rw [lseqw_FnStoDo] at hp
  simp only [List.mem_cons, List.not_mem_nil, or_false] at hp
  rcases hp with rfl | rfl | rfl | rfl | rfl <;> simp
theorem mw_FnStoDo_4 : ∀ p, p ∈ lsw_FnStoDo → p.1 = 4 → p.2 = cw_FnStoDo_4 := by
  intro p hp
  rw [lseqw_FnStoDo] at hp
  simp only [List.mem_cons, List.not_mem_nil, or_false] at hp
  rcases hp with rfl | rfl | rfl | rfl | rfl <;> simp
theorem mw_FnStoDo_6 : ∀ p, p ∈ lsw_FnStoDo → p.1 = 6 → p.2 = cw_FnStoDo_6 := by
  intro p hp
  rw [lseqw_FnStoDo] at hp
  simp only [List.mem_cons, List.not_mem_nil, or_false] at hp
  rcases hp with rfl | rfl | rfl | rfl | rfl <;> simp
theorem mw_FnStoDo_8 : ∀ p, p ∈ lsw_FnStoDo → p.1 = 8 → p.2 = cw_FnStoDo_8 := by
  intro p hp
  rw [lseqw_FnStoDo] at hp
  simp only [List.mem_cons, List.not_mem_nil, or_false] at hp
  rcases hp with rfl | rfl | rfl | rfl | rfl <;> simp
theorem kw_FnStoDo_0 : OrcOk Ew_FnStoDo Ow_FnStoDo_0 lsw_FnStoDo 0 := orcOk_none
noncomputable def hw_FnStoDo_0 (y0 : List ((ByteArray) × ((Bool) × (List (Int))))) (y1 : Int) (y2 : List ((ByteArray) × (List (Int)))) (y3 : List ((ByteArray) × (List (Int)))) : List (Pl × LV) := [(.T 3, .t (.val false [.ptr 3 0 0])), (.T 4, .t (.val false [.sl .any 36 (.pair .str (.pair .bool (.sl 3 (.int .i64)))) y0])), (.T 5, .t (.val false [.ptr 5 0 0])), (.T 6, .t (.val false [.int .i64 y1])), (.B 3, .b 0 false [.sl .any 41 (.pair .str (.sl 3 (.int .i64))) y2]), (.B 5, .b 0 false [.row 5 1 0]), (.R 5 1, .r 0 (some ⟨false, .any, true, 41, (.pair .str (.sl 3 (.int .i64))), y3⟩))]
noncomputable def g_Sw_FnStoDo_0 (y0 : List ((ByteArray) × ((Bool) × (List (Int))))) (y2 : List ((ByteArray) × (List (Int)))) (y3 : List ((ByteArray) × (List (Int)))) : ((Int)) → RT ((Int)) (((Bool)) ⊕ (Unit))
  | y1 => .br (true) (.br (decide (y1 < (↑(List.length y0) : Int))) (.br (decide ((0 : Int) ≤ y1 ∧ y1 < (↑(List.length y0) : Int))) (.br (g_As_WrtOk (at_ (Ty.pair Ty.str (Ty.pair Ty.bool (Ty.sl (nat_lit 3) (Ty.int IntKind.i64)))) y0 (Int.toNat y1)).1 (at_ (Ty.pair Ty.str (Ty.pair Ty.bool (Ty.sl (nat_lit 3) (Ty.int IntKind.i64)))) y0 (Int.toNat y1)).2.1 (at_ (Ty.pair Ty.str (Ty.pair Ty.bool (Ty.sl (nat_lit 3) (Ty.int IntKind.i64)))) y0 (Int.toNat y1)).2.2) (.br (!g_Vs_WrtOk_0 (at_ (Ty.pair Ty.str (Ty.pair Ty.bool (Ty.sl (nat_lit 3) (Ty.int IntKind.i64)))) y0 (Int.toNat y1)).1 (at_ (Ty.pair Ty.str (Ty.pair Ty.bool (Ty.sl (nat_lit 3) (Ty.int IntKind.i64)))) y0 (Int.toNat y1)).2.1 (at_ (Ty.pair Ty.str (Ty.pair Ty.bool (Ty.sl (nat_lit 3) (Ty.int IntKind.i64)))) y0 (Int.toNat y1)).2.2) (.br (true) (.br ((↑(List.length y3) : Int) == (0 : Int)) (.br (g_Aw_jaOk) (.out (.inl g_Vw_jaOk_0)) (.bad)) (.out (.inl false))) (.bad)) (.br (true) (.go (IntKind.wrap IntKind.i64 (y1 + (1 : Int)))) (.bad))) (.bad)) (.bad)) (.out (.inr (())))) (.bad)
noncomputable def g_Lw_FnStoDo_0 (y0 : List ((ByteArray) × ((Bool) × (List (Int))))) (y2 : List ((ByteArray) × (List (Int)))) (y3 : List ((ByteArray) × (List (Int)))) (x : (Int)) : Option (((Bool)) ⊕ (Unit)) := loopO (g_Sw_FnStoDo_0 y0 y2 y3) x
noncomputable def xw_FnStoDo_0 (y0 : List ((ByteArray) × ((Bool) × (List (Int))))) (y2 : List ((ByteArray) × (List (Int)))) (y3 : List ((ByteArray) × (List (Int)))) : (((Bool)) ⊕ (Unit)) → Ex × List (Pl × LV) := fun
  | .inl r => (.ret, [(.T 2, .t (.val false [.bool r])), (.T 3, .t (.val false [.ptr 3 0 0])), (.T 4, .t (.val false [.sl .any 36 (.pair .str (.pair .bool (.sl 3 (.int .i64)))) y0])), (.T 5, .t (.val false [.ptr 5 0 0])), (.B 3, .b 0 false [.sl .any 41 (.pair .str (.sl 3 (.int .i64))) y2]), (.B 5, .b 0 false [.row 5 1 0]), (.R 5 1, .r 0 (some ⟨false, .any, true, 41, (.pair .str (.sl 3 (.int .i64))), y3⟩))])
  | .inr (r) => (.exit 0, [(.T 2, .t (.val false [.undef])), (.T 3, .t (.val false [.ptr 3 0 0])), (.T 4, .t (.val false [.sl .any 36 (.pair .str (.pair .bool (.sl 3 (.int .i64)))) y0])), (.T 5, .t (.val false [.ptr 5 0 0])), (.B 3, .b 0 false [.sl .any 41 (.pair .str (.sl 3 (.int .i64))) y2]), (.B 5, .b 0 false [.row 5 1 0]), (.R 5 1, .r 0 (some ⟨false, .any, true, 41, (.pair .str (.sl 3 (.int .i64))), y3⟩))])
noncomputable def Ow_FnStoDo_1 : Orc := fun b h => match b, h with
  | 0, [(.T 3, .t (.val false [.ptr 3 0 0])), (.T 4, .t (.val false [.sl .any 36 (.pair .str (.pair .bool (.sl 3 (.int .i64)))) y0])), (.T 5, .t (.val false [.ptr 5 0 0])), (.T 6, .t (.val false [.int .i64 y1])), (.B 3, .b 0 false [.sl .any 41 (.pair .str (.sl 3 (.int .i64))) y2]), (.B 5, .b 0 false [.row 5 1 0]), (.R 5 1, .r 0 (some ⟨false, .any, true, 41, (.pair .str (.sl 3 (.int .i64))), y3⟩))] => some (okO (g_Lw_FnStoDo_0 y0 y2 y3 y1), (.br (isL (valO (g_Lw_FnStoDo_0 y0 y2 y3 y1))) (.leaf .ret [(.T 2, .t (.val false [.bool (getL (valO (g_Lw_FnStoDo_0 y0 y2 y3 y1)))])), (.T 3, .t (.val false [.ptr 3 0 0])), (.T 4, .t (.val false [.sl .any 36 (.pair .str (.pair .bool (.sl 3 (.int .i64)))) y0])), (.T 5, .t (.val false [.ptr 5 0 0])), (.B 3, .b 0 false [.sl .any 41 (.pair .str (.sl 3 (.int .i64))) y2]), (.B 5, .b 0 false [.row 5 1 0]), (.R 5 1, .r 0 (some ⟨false, .any, true, 41, (.pair .str (.sl 3 (.int .i64))), y3⟩))]) (.leaf (.exit 0) [(.T 2, .t (.val false [.undef])), (.T 3, .t (.val false [.ptr 3 0 0])), (.T 4, .t (.val false [.sl .any 36 (.pair .str (.pair .bool (.sl 3 (.int .i64)))) y0])), (.T 5, .t (.val false [.ptr 5 0 0])), (.B 3, .b 0 false [.sl .any 41 (.pair .str (.sl 3 (.int .i64))) y2]), (.B 5, .b 0 false [.row 5 1 0]), (.R 5 1, .r 0 (some ⟨false, .any, true, 41, (.pair .str (.sl 3 (.int .i64))), y3⟩))])))
  | b, h => Ow_FnStoDo_0 b h
theorem bw_FnStoDo_0 (y0 : List ((ByteArray) × ((Bool) × (List (Int))))) (y1 : Int) (y2 : List ((ByteArray) × (List (Int)))) (y3 : List ((ByteArray) × (List (Int)))) : Tr.bt Ew_FnStoDo Ow_FnStoDo_0 (exec Ew_FnStoDo 0 cw_FnStoDo_0 (St.of (hw_FnStoDo_0 y0 y1 y2 y3)) (leafRd Ew_FnStoDo 0)) = (g_Sw_FnStoDo_0 y0 y2 y3 y1).bt (fun (y1 : (Int)) => (hw_FnStoDo_0 y0 y1 y2 y3)) (xw_FnStoDo_0 y0 y2 y3) := by kernel_rfl
theorem kw_FnStoDo_1 : OrcOk Ew_FnStoDo Ow_FnStoDo_1 lsw_FnStoDo 1 := orc_add kw_FnStoDo_0 (fun n p hp h ex h' ho => by
  obtain ⟨b, c⟩ := p
  obtain ⟨xt, h1, h2⟩ := ho
  have h1 : Ow_FnStoDo_1 b h = some (true, xt) := h1
  unfold Ow_FnStoDo_1 at h1
  split at h1
  · injection h1 with h1
    injection h1 with e1 e2
    subst e2
    have hc : c = cw_FnStoDo_0 := mw_FnStoDo_0 _ hp rfl
    subst hc
    right
    rename_i y0 y1 y2 y3
    have key := LT_step kw_FnStoDo_0 hp (fun q hq => loopsAll_in _ _ _ _ hp hq) (fun (y1 : (Int)) => (hw_FnStoDo_0 y0 y1 y2 y3)) (xw_FnStoDo_0 y0 y2 y3) (g_Sw_FnStoDo_0 y0 y2 y3) (fun x => by first | exact bw_FnStoDo_0 y0 x y2 y3) n (x := y1) (okO_some e1)
    have hx : ∀ r, XT.sel (.br (isL r) (.leaf .ret [(.T 2, .t (.val false [.bool (getL r)])), (.T 3, .t (.val false [.ptr 3 0 0])), (.T 4, .t (.val false [.sl .any 36 (.pair .str (.pair .bool (.sl 3 (.int .i64)))) y0])), (.T 5, .t (.val false [.ptr 5 0 0])), (.B 3, .b 0 false [.sl .any 41 (.pair .str (.sl 3 (.int .i64))) y2]), (.B 5, .b 0 false [.row 5 1 0]), (.R 5 1, .r 0 (some ⟨false, .any, true, 41, (.pair .str (.sl 3 (.int .i64))), y3⟩))]) (.leaf (.exit 0) [(.T 2, .t (.val false [.undef])), (.T 3, .t (.val false [.ptr 3 0 0])), (.T 4, .t (.val false [.sl .any 36 (.pair .str (.pair .bool (.sl 3 (.int .i64)))) y0])), (.T 5, .t (.val false [.ptr 5 0 0])), (.B 3, .b 0 false [.sl .any 41 (.pair .str (.sl 3 (.int .i64))) y2]), (.B 5, .b 0 false [.row 5 1 0]), (.R 5 1, .r 0 (some ⟨false, .any, true, 41, (.pair .str (.sl 3 (.int .i64))), y3⟩))])) = xw_FnStoDo_0 y0 y2 y3 r := fun r => by first | rfl | (rcases r with r | r <;> rfl) | (rcases r with r | r | r <;> rfl) | (rcases r with r | r | r | r <;> rfl)
    have h3 := (hx (valO (g_Lw_FnStoDo_0 y0 y2 y3 y1))).symm.trans h2
    have e3 := congrArg Prod.fst h3
    have e4 := congrArg Prod.snd h3
    simp only at e3 e4
    rw [← e3, ← e4]
    exact key
  · exact .inl ⟨xt, h1, h2⟩)
noncomputable def hw_FnStoDo_2 (y0 : List ((ByteArray) × ((Bool) × (List (Int))))) (y1 : Int) (y2 : List ((ByteArray) × (List (Int)))) (y3 : List ((ByteArray) × (List (Int)))) : List (Pl × LV) := [(.T 3, .t (.val false [.ptr 3 0 0])), (.T 4, .t (.val false [.sl .any 36 (.pair .str (.pair .bool (.sl 3 (.int .i64)))) y0])), (.T 5, .t (.val false [.ptr 5 0 0])), (.T 7, .t (.val false [.int .i64 y1])), (.B 3, .b 0 false [.sl .any 41 (.pair .str (.sl 3 (.int .i64))) y2]), (.B 5, .b 0 false [.row 5 1 0]), (.R 5 1, .r 0 (some ⟨false, .any, true, 41, (.pair .str (.sl 3 (.int .i64))), y3⟩))]
noncomputable def hw_FnStoDo_4 (y0 : List ((ByteArray) × ((Bool) × (List (Int))))) (y1 : Int) (y2 : Bool) (y3 : Int) (y4 : List ((ByteArray) × (List (Int)))) (y5 : List ((ByteArray) × (List (Int)))) : List (Pl × LV) := [(.T 3, .t (.val false [.ptr 3 0 0])), (.T 4, .t (.val false [.sl .any 36 (.pair .str (.pair .bool (.sl 3 (.int .i64)))) y0])), (.T 5, .t (.val false [.ptr 5 0 0])), (.T 7, .t (.val false [.int .i64 y1])), (.T 8, .t (.val false [.bool y2])), (.T 9, .t (.val false [.int .i64 y3])), (.B 3, .b 0 false [.sl .any 41 (.pair .str (.sl 3 (.int .i64))) y4]), (.B 5, .b 0 false [.row 5 1 0]), (.R 5 1, .r 0 (some ⟨false, .any, true, 41, (.pair .str (.sl 3 (.int .i64))), y5⟩))]
noncomputable def g_Sw_FnStoDo_4 (y0 : List ((ByteArray) × ((Bool) × (List (Int))))) (y1 : Int) (y4 : List ((ByteArray) × (List (Int)))) (y5 : List ((ByteArray) × (List (Int)))) : ((Bool) × (Int)) → RT ((Bool) × (Int)) (((Bool)))
  | (y2, y3) => .br (true) (.br (decide (y3 < (↑(List.length y0) : Int))) (.br (y2) (.br (decide ((0 : Int) ≤ y3 ∧ y3 < (↑(List.length y0) : Int))) (.br (decide ((0 : Int) ≤ y1 ∧ y1 < (↑(List.length y0) : Int))) (.br (true) (.br (true) (.go ((!ByteArray.toList (at_ (Ty.pair Ty.str (Ty.pair Ty.bool (Ty.sl (nat_lit 3) (Ty.int IntKind.i64)))) y0 (Int.toNat y3)).1 == ByteArray.toList (at_ (Ty.pair Ty.str (Ty.pair Ty.bool (Ty.sl (nat_lit 3) (Ty.int IntKind.i64)))) y0 (Int.toNat y1)).1, IntKind.wrap IntKind.i64 (y3 + (1 : Int))))) (.bad)) (.bad)) (.bad)) (.bad)) (.br (true) (.go ((false, IntKind.wrap IntKind.i64 (y3 + (1 : Int))))) (.bad))) (.out (y2))) (.bad)
noncomputable def g_Lw_FnStoDo_4 (y0 : List ((ByteArray) × ((Bool) × (List (Int))))) (y1 : Int) (y4 : List ((ByteArray) × (List (Int)))) (y5 : List ((ByteArray) × (List (Int)))) (x : (Bool) × (Int)) : Option (((Bool))) := loopO (g_Sw_FnStoDo_4 y0 y1 y4 y5) x
noncomputable def xw_FnStoDo_4 (y0 : List ((ByteArray) × ((Bool) × (List (Int))))) (y1 : Int) (y4 : List ((ByteArray) × (List (Int)))) (y5 : List ((ByteArray) × (List (Int)))) : (((Bool))) → Ex × List (Pl × LV) := fun r => (.exit 4, [(.T 3, .t (.val false [.ptr 3 0 0])), (.T 4, .t (.val false [.sl .any 36 (.pair .str (.pair .bool (.sl 3 (.int .i64)))) y0])), (.T 5, .t (.val false [.ptr 5 0 0])), (.T 7, .t (.val false [.int .i64 y1])), (.T 8, .t (.val false [.bool r])), (.B 3, .b 0 false [.sl .any 41 (.pair .str (.sl 3 (.int .i64))) y4]), (.B 5, .b 0 false [.row 5 1 0]), (.R 5 1, .r 0 (some ⟨false, .any, true, 41, (.pair .str (.sl 3 (.int .i64))), y5⟩))])
noncomputable def Ow_FnStoDo_2 : Orc := fun b h => match b, h with
  | 4, [(.T 3, .t (.val false [.ptr 3 0 0])), (.T 4, .t (.val false [.sl .any 36 (.pair .str (.pair .bool (.sl 3 (.int .i64)))) y0])), (.T 5, .t (.val false [.ptr 5 0 0])), (.T 7, .t (.val false [.int .i64 y1])), (.T 8, .t (.val false [.bool y2])), (.T 9, .t (.val false [.int .i64 y3])), (.B 3, .b 0 false [.sl .any 41 (.pair .str (.sl 3 (.int .i64))) y4]), (.B 5, .b 0 false [.row 5 1 0]), (.R 5 1, .r 0 (some ⟨false, .any, true, 41, (.pair .str (.sl 3 (.int .i64))), y5⟩))] => some (okO (g_Lw_FnStoDo_4 y0 y1 y4 y5 (y2, y3)), (.leaf (.exit 4) [(.T 3, .t (.val false [.ptr 3 0 0])), (.T 4, .t (.val false [.sl .any 36 (.pair .str (.pair .bool (.sl 3 (.int .i64)))) y0])), (.T 5, .t (.val false [.ptr 5 0 0])), (.T 7, .t (.val false [.int .i64 y1])), (.T 8, .t (.val false [.bool (valO (g_Lw_FnStoDo_4 y0 y1 y4 y5 (y2, y3)))])), (.B 3, .b 0 false [.sl .any 41 (.pair .str (.sl 3 (.int .i64))) y4]), (.B 5, .b 0 false [.row 5 1 0]), (.R 5 1, .r 0 (some ⟨false, .any, true, 41, (.pair .str (.sl 3 (.int .i64))), y5⟩))]))
  | b, h => Ow_FnStoDo_1 b h
theorem bw_FnStoDo_4 (y0 : List ((ByteArray) × ((Bool) × (List (Int))))) (y1 : Int) (y2 : Bool) (y3 : Int) (y4 : List ((ByteArray) × (List (Int)))) (y5 : List ((ByteArray) × (List (Int)))) : Tr.bt Ew_FnStoDo Ow_FnStoDo_1 (exec Ew_FnStoDo 4 cw_FnStoDo_4 (St.of (hw_FnStoDo_4 y0 y1 y2 y3 y4 y5)) (leafRd Ew_FnStoDo 4)) = (g_Sw_FnStoDo_4 y0 y1 y4 y5 (y2, y3)).bt (fun ((y2, y3) : (Bool) × (Int)) => (hw_FnStoDo_4 y0 y1 y2 y3 y4 y5)) (xw_FnStoDo_4 y0 y1 y4 y5) := by kernel_rfl
theorem kw_FnStoDo_2 : OrcOk Ew_FnStoDo Ow_FnStoDo_2 lsw_FnStoDo 2 := orc_add kw_FnStoDo_1 (fun n p hp h ex h' ho => by
  obtain ⟨b, c⟩ := p
  obtain ⟨xt, h1, h2⟩ := ho
  have h1 : Ow_FnStoDo_2 b h = some (true, xt) := h1
  unfold Ow_FnStoDo_2 at h1
  split at h1
  · injection h1 with h1
    injection h1 with e1 e2
    subst e2
    have hc : c = cw_FnStoDo_4 := mw_FnStoDo_4 _ hp rfl
    subst hc
    right
    rename_i y0 y1 y2 y3 y4 y5
    have key := LT_step kw_FnStoDo_1 hp (fun q hq => loopsAll_in _ _ _ _ hp hq) (fun ((y2, y3) : (Bool) × (Int)) => (hw_FnStoDo_4 y0 y1 y2 y3 y4 y5)) (xw_FnStoDo_4 y0 y1 y4 y5) (g_Sw_FnStoDo_4 y0 y1 y4 y5) (fun x => by first | exact bw_FnStoDo_4 y0 y1 x.1 x.2 y4 y5) n (x := (y2, y3)) (okO_some e1)
    have hx : ∀ r, XT.sel (.leaf (.exit 4) [(.T 3, .t (.val false [.ptr 3 0 0])), (.T 4, .t (.val false [.sl .any 36 (.pair .str (.pair .bool (.sl 3 (.int .i64)))) y0])), (.T 5, .t (.val false [.ptr 5 0 0])), (.T 7, .t (.val false [.int .i64 y1])), (.T 8, .t (.val false [.bool r])), (.B 3, .b 0 false [.sl .any 41 (.pair .str (.sl 3 (.int .i64))) y4]), (.B 5, .b 0 false [.row 5 1 0]), (.R 5 1, .r 0 (some ⟨false, .any, true, 41, (.pair .str (.sl 3 (.int .i64))), y5⟩))]) = xw_FnStoDo_4 y0 y1 y4 y5 r := fun r => by first | rfl | (rcases r with r | r <;> rfl) | (rcases r with r | r | r <;> rfl) | (rcases r with r | r | r | r <;> rfl)
    have h3 := (hx (valO (g_Lw_FnStoDo_4 y0 y1 y4 y5 (y2, y3)))).symm.trans h2
    have e3 := congrArg Prod.fst h3
    have e4 := congrArg Prod.snd h3
    simp only at e3 e4
    rw [← e3, ← e4]
    exact key
  · exact .inl ⟨xt, h1, h2⟩)
noncomputable def g_Sw_FnStoDo_2 (y0 : List ((ByteArray) × ((Bool) × (List (Int))))) (y2 : List ((ByteArray) × (List (Int)))) (y3 : List ((ByteArray) × (List (Int)))) : ((Int)) → RT ((Int)) (((Bool)) ⊕ (Unit))
  | y1 => .br (true) (.br (decide (y1 < (↑(List.length y0) : Int))) (.br (true) (.br (okO (g_Lw_FnStoDo_4 y0 y1 y2 y3 (true, IntKind.wrap IntKind.i64 (y1 + (1 : Int))))) (.br (decide ((0 : Int) ≤ y1 ∧ y1 < (↑(List.length y0) : Int))) (.br (g_Ai_StoGet y3 (at_ (Ty.pair Ty.str (Ty.pair Ty.bool (Ty.sl (nat_lit 3) (Ty.int IntKind.i64)))) y0 (Int.toNat y1)).1) (.br (valO (g_Lw_FnStoDo_4 y0 y1 y2 y3 (true, IntKind.wrap IntKind.i64 (y1 + (1 : Int))))) (.br (decide ((0 : Int) ≤ y1 ∧ y1 < (↑(List.length y0) : Int))) (.br (g_Vi_StoGet_1 y3 (at_ (Ty.pair Ty.str (Ty.pair Ty.bool (Ty.sl (nat_lit 3) (Ty.int IntKind.i64)))) y0 (Int.toNat y1)).1 == (at_ (Ty.pair Ty.str (Ty.pair Ty.bool (Ty.sl (nat_lit 3) (Ty.int IntKind.i64)))) y0 (Int.toNat y1)).2.1) (.out (.inl false)) (.br (decide ((0 : Int) ≤ y1 ∧ y1 < (↑(List.length y0) : Int))) (.br (!(at_ (Ty.pair Ty.str (Ty.pair Ty.bool (Ty.sl (nat_lit 3) (Ty.int IntKind.i64)))) y0 (Int.toNat y1)).2.1) (.br (decide ((0 : Int) ≤ y1 ∧ y1 < (↑(List.length y0) : Int))) (.br (g_Aw_jaInts (g_Vi_StoGet_0 y3 (at_ (Ty.pair Ty.str (Ty.pair Ty.bool (Ty.sl (nat_lit 3) (Ty.int IntKind.i64)))) y0 (Int.toNat y1)).1) (at_ (Ty.pair Ty.str (Ty.pair Ty.bool (Ty.sl (nat_lit 3) (Ty.int IntKind.i64)))) y0 (Int.toNat y1)).2.2) (.br (!g_Vw_jaInts_0 (g_Vi_StoGet_0 y3 (at_ (Ty.pair Ty.str (Ty.pair Ty.bool (Ty.sl (nat_lit 3) (Ty.int IntKind.i64)))) y0 (Int.toNat y1)).1) (at_ (Ty.pair Ty.str (Ty.pair Ty.bool (Ty.sl (nat_lit 3) (Ty.int IntKind.i64)))) y0 (Int.toNat y1)).2.2) (.out (.inl false)) (.br (true) (.go (IntKind.wrap IntKind.i64 (y1 + (1 : Int)))) (.bad))) (.bad)) (.bad)) (.br (true) (.go (IntKind.wrap IntKind.i64 (y1 + (1 : Int)))) (.bad))) (.bad))) (.bad)) (.br (true) (.go (IntKind.wrap IntKind.i64 (y1 + (1 : Int)))) (.bad))) (.bad)) (.bad)) (.bad)) (.bad)) (.out (.inr (())))) (.bad)
noncomputable def g_Lw_FnStoDo_2 (y0 : List ((ByteArray) × ((Bool) × (List (Int))))) (y2 : List ((ByteArray) × (List (Int)))) (y3 : List ((ByteArray) × (List (Int)))) (x : (Int)) : Option (((Bool)) ⊕ (Unit)) := loopO (g_Sw_FnStoDo_2 y0 y2 y3) x
noncomputable def xw_FnStoDo_2 (y0 : List ((ByteArray) × ((Bool) × (List (Int))))) (y2 : List ((ByteArray) × (List (Int)))) (y3 : List ((ByteArray) × (List (Int)))) : (((Bool)) ⊕ (Unit)) → Ex × List (Pl × LV) := fun
  | .inl r => (.ret, [(.T 2, .t (.val false [.bool r])), (.T 3, .t (.val false [.ptr 3 0 0])), (.T 4, .t (.val false [.sl .any 36 (.pair .str (.pair .bool (.sl 3 (.int .i64)))) y0])), (.T 5, .t (.val false [.ptr 5 0 0])), (.B 3, .b 0 false [.sl .any 41 (.pair .str (.sl 3 (.int .i64))) y2]), (.B 5, .b 0 false [.row 5 1 0]), (.R 5 1, .r 0 (some ⟨false, .any, true, 41, (.pair .str (.sl 3 (.int .i64))), y3⟩))])
  | .inr (r) => (.exit 2, [(.T 2, .t (.val false [.undef])), (.T 3, .t (.val false [.ptr 3 0 0])), (.T 4, .t (.val false [.sl .any 36 (.pair .str (.pair .bool (.sl 3 (.int .i64)))) y0])), (.T 5, .t (.val false [.ptr 5 0 0])), (.B 3, .b 0 false [.sl .any 41 (.pair .str (.sl 3 (.int .i64))) y2]), (.B 5, .b 0 false [.row 5 1 0]), (.R 5 1, .r 0 (some ⟨false, .any, true, 41, (.pair .str (.sl 3 (.int .i64))), y3⟩))])
noncomputable def Ow_FnStoDo_3 : Orc := fun b h => match b, h with
  | 2, [(.T 3, .t (.val false [.ptr 3 0 0])), (.T 4, .t (.val false [.sl .any 36 (.pair .str (.pair .bool (.sl 3 (.int .i64)))) y0])), (.T 5, .t (.val false [.ptr 5 0 0])), (.T 7, .t (.val false [.int .i64 y1])), (.B 3, .b 0 false [.sl .any 41 (.pair .str (.sl 3 (.int .i64))) y2]), (.B 5, .b 0 false [.row 5 1 0]), (.R 5 1, .r 0 (some ⟨false, .any, true, 41, (.pair .str (.sl 3 (.int .i64))), y3⟩))] => some (okO (g_Lw_FnStoDo_2 y0 y2 y3 y1), (.br (isL (valO (g_Lw_FnStoDo_2 y0 y2 y3 y1))) (.leaf .ret [(.T 2, .t (.val false [.bool (getL (valO (g_Lw_FnStoDo_2 y0 y2 y3 y1)))])), (.T 3, .t (.val false [.ptr 3 0 0])), (.T 4, .t (.val false [.sl .any 36 (.pair .str (.pair .bool (.sl 3 (.int .i64)))) y0])), (.T 5, .t (.val false [.ptr 5 0 0])), (.B 3, .b 0 false [.sl .any 41 (.pair .str (.sl 3 (.int .i64))) y2]), (.B 5, .b 0 false [.row 5 1 0]), (.R 5 1, .r 0 (some ⟨false, .any, true, 41, (.pair .str (.sl 3 (.int .i64))), y3⟩))]) (.leaf (.exit 2) [(.T 2, .t (.val false [.undef])), (.T 3, .t (.val false [.ptr 3 0 0])), (.T 4, .t (.val false [.sl .any 36 (.pair .str (.pair .bool (.sl 3 (.int .i64)))) y0])), (.T 5, .t (.val false [.ptr 5 0 0])), (.B 3, .b 0 false [.sl .any 41 (.pair .str (.sl 3 (.int .i64))) y2]), (.B 5, .b 0 false [.row 5 1 0]), (.R 5 1, .r 0 (some ⟨false, .any, true, 41, (.pair .str (.sl 3 (.int .i64))), y3⟩))])))
  | b, h => Ow_FnStoDo_2 b h
theorem bw_FnStoDo_2 (y0 : List ((ByteArray) × ((Bool) × (List (Int))))) (y1 : Int) (y2 : List ((ByteArray) × (List (Int)))) (y3 : List ((ByteArray) × (List (Int)))) : Tr.bt Ew_FnStoDo Ow_FnStoDo_2 (exec Ew_FnStoDo 2 cw_FnStoDo_2 (St.of (hw_FnStoDo_2 y0 y1 y2 y3)) (leafRd Ew_FnStoDo 2)) = (g_Sw_FnStoDo_2 y0 y2 y3 y1).bt (fun (y1 : (Int)) => (hw_FnStoDo_2 y0 y1 y2 y3)) (xw_FnStoDo_2 y0 y2 y3) := by kernel_rfl
theorem kw_FnStoDo_3 : OrcOk Ew_FnStoDo Ow_FnStoDo_3 lsw_FnStoDo 3 := orc_add kw_FnStoDo_2 (fun n p hp h ex h' ho => by
  obtain ⟨b, c⟩ := p
  obtain ⟨xt, h1, h2⟩ := ho
  have h1 : Ow_FnStoDo_3 b h = some (true, xt) := h1
  unfold Ow_FnStoDo_3 at h1
  split at h1
  · injection h1 with h1
    injection h1 with e1 e2
    subst e2
    have hc : c = cw_FnStoDo_2 := mw_FnStoDo_2 _ hp rfl
    subst hc
    right
    rename_i y0 y1 y2 y3
    have key := LT_step kw_FnStoDo_2 hp (fun q hq => loopsAll_in _ _ _ _ hp hq) (fun (y1 : (Int)) => (hw_FnStoDo_2 y0 y1 y2 y3)) (xw_FnStoDo_2 y0 y2 y3) (g_Sw_FnStoDo_2 y0 y2 y3) (fun x => by first | exact bw_FnStoDo_2 y0 x y2 y3) n (x := y1) (okO_some e1)
    have hx : ∀ r, XT.sel (.br (isL r) (.leaf .ret [(.T 2, .t (.val false [.bool (getL r)])), (.T 3, .t (.val false [.ptr 3 0 0])), (.T 4, .t (.val false [.sl .any 36 (.pair .str (.pair .bool (.sl 3 (.int .i64)))) y0])), (.T 5, .t (.val false [.ptr 5 0 0])), (.B 3, .b 0 false [.sl .any 41 (.pair .str (.sl 3 (.int .i64))) y2]), (.B 5, .b 0 false [.row 5 1 0]), (.R 5 1, .r 0 (some ⟨false, .any, true, 41, (.pair .str (.sl 3 (.int .i64))), y3⟩))]) (.leaf (.exit 2) [(.T 2, .t (.val false [.undef])), (.T 3, .t (.val false [.ptr 3 0 0])), (.T 4, .t (.val false [.sl .any 36 (.pair .str (.pair .bool (.sl 3 (.int .i64)))) y0])), (.T 5, .t (.val false [.ptr 5 0 0])), (.B 3, .b 0 false [.sl .any 41 (.pair .str (.sl 3 (.int .i64))) y2]), (.B 5, .b 0 false [.row 5 1 0]), (.R 5 1, .r 0 (some ⟨false, .any, true, 41, (.pair .str (.sl 3 (.int .i64))), y3⟩))])) = xw_FnStoDo_2 y0 y2 y3 r := fun r => by first | rfl | (rcases r with r | r <;> rfl) | (rcases r with r | r | r <;> rfl) | (rcases r with r | r | r | r <;> rfl)
    have h3 := (hx (valO (g_Lw_FnStoDo_2 y0 y2 y3 y1))).symm.trans h2
    have e3 := congrArg Prod.fst h3
    have e4 := congrArg Prod.snd h3
    simp only at e3 e4
    rw [← e3, ← e4]
    exact key
  · exact .inl ⟨xt, h1, h2⟩)
noncomputable def hw_FnStoDo_6 (y0 : List ((ByteArray) × ((Bool) × (List (Int))))) (y1 : Int) (y2 : List ((ByteArray) × (List (Int)))) (y3 : List ((ByteArray) × (List (Int)))) : List (Pl × LV) := [(.T 3, .t (.val false [.ptr 3 0 0])), (.T 4, .t (.val false [.sl .any 36 (.pair .str (.pair .bool (.sl 3 (.int .i64)))) y0])), (.T 5, .t (.val false [.ptr 5 0 0])), (.T 12, .t (.val false [.int .i64 y1])), (.B 3, .b 0 false [.sl .any 41 (.pair .str (.sl 3 (.int .i64))) y2]), (.B 5, .b 0 false [.row 5 1 0]), (.R 5 1, .r 0 (some ⟨false, .any, true, 41, (.pair .str (.sl 3 (.int .i64))), y3⟩))]
noncomputable def hw_FnStoDo_8 (y0 : List ((ByteArray) × ((Bool) × (List (Int))))) (y1 : Int) (y2 : Bool) (y3 : Int) (y4 : List ((ByteArray) × (List (Int)))) (y5 : List ((ByteArray) × (List (Int)))) : List (Pl × LV) := [(.T 3, .t (.val false [.ptr 3 0 0])), (.T 4, .t (.val false [.sl .any 36 (.pair .str (.pair .bool (.sl 3 (.int .i64)))) y0])), (.T 5, .t (.val false [.ptr 5 0 0])), (.T 12, .t (.val false [.int .i64 y1])), (.T 13, .t (.val false [.bool y2])), (.T 14, .t (.val false [.int .i64 y3])), (.B 3, .b 0 false [.sl .any 41 (.pair .str (.sl 3 (.int .i64))) y4]), (.B 5, .b 0 false [.row 5 1 0]), (.R 5 1, .r 0 (some ⟨false, .any, true, 41, (.pair .str (.sl 3 (.int .i64))), y5⟩))]
noncomputable def g_Sw_FnStoDo_8 (y0 : List ((ByteArray) × ((Bool) × (List (Int))))) (y1 : Int) (y4 : List ((ByteArray) × (List (Int)))) (y5 : List ((ByteArray) × (List (Int)))) : ((Bool) × (Int)) → RT ((Bool) × (Int)) (((Bool)))
  | (y2, y3) => .br (true) (.br (decide (y3 < (↑(List.length y0) : Int))) (.br (y2) (.br (true) (.go ((true, IntKind.wrap IntKind.i64 (y3 + (1 : Int))))) (.bad)) (.br (decide ((0 : Int) ≤ y3 ∧ y3 < (↑(List.length y0) : Int))) (.br (decide ((0 : Int) ≤ y1 ∧ y1 < (↑(List.length y4) : Int))) (.br (true) (.br (true) (.go ((ByteArray.toList (at_ (Ty.pair Ty.str (Ty.pair Ty.bool (Ty.sl (nat_lit 3) (Ty.int IntKind.i64)))) y0 (Int.toNat y3)).1 == ByteArray.toList (at_ (Ty.pair Ty.str (Ty.sl (nat_lit 3) (Ty.int IntKind.i64))) y4 (Int.toNat y1)).1, IntKind.wrap IntKind.i64 (y3 + (1 : Int))))) (.bad)) (.bad)) (.bad)) (.bad))) (.out (y2))) (.bad)
noncomputable def g_Lw_FnStoDo_8 (y0 : List ((ByteArray) × ((Bool) × (List (Int))))) (y1 : Int) (y4 : List ((ByteArray) × (List (Int)))) (y5 : List ((ByteArray) × (List (Int)))) (x : (Bool) × (Int)) : Option (((Bool))) := loopO (g_Sw_FnStoDo_8 y0 y1 y4 y5) x
noncomputable def xw_FnStoDo_8 (y0 : List ((ByteArray) × ((Bool) × (List (Int))))) (y1 : Int) (y4 : List ((ByteArray) × (List (Int)))) (y5 : List ((ByteArray) × (List (Int)))) : (((Bool))) → Ex × List (Pl × LV) := fun r => (.exit 8, [(.T 3, .t (.val false [.ptr 3 0 0])), (.T 4, .t (.val false [.sl .any 36 (.pair .str (.pair .bool (.sl 3 (.int .i64)))) y0])), (.T 5, .t (.val false [.ptr 5 0 0])), (.T 12, .t (.val false [.int .i64 y1])), (.T 13, .t (.val false [.bool r])), (.B 3, .b 0 false [.sl .any 41 (.pair .str (.sl 3 (.int .i64))) y4]), (.B 5, .b 0 false [.row 5 1 0]), (.R 5 1, .r 0 (some ⟨false, .any, true, 41, (.pair .str (.sl 3 (.int .i64))), y5⟩))])
noncomputable def Ow_FnStoDo_4 : Orc := fun b h => match b, h with
  | 8, [(.T 3, .t (.val false [.ptr 3 0 0])), (.T 4, .t (.val false [.sl .any 36 (.pair .str (.pair .bool (.sl 3 (.int .i64)))) y0])), (.T 5, .t (.val false [.ptr 5 0 0])), (.T 12, .t (.val false [.int .i64 y1])), (.T 13, .t (.val false [.bool y2])), (.T 14, .t (.val false [.int .i64 y3])), (.B 3, .b 0 false [.sl .any 41 (.pair .str (.sl 3 (.int .i64))) y4]), (.B 5, .b 0 false [.row 5 1 0]), (.R 5 1, .r 0 (some ⟨false, .any, true, 41, (.pair .str (.sl 3 (.int .i64))), y5⟩))] => some (okO (g_Lw_FnStoDo_8 y0 y1 y4 y5 (y2, y3)), (.leaf (.exit 8) [(.T 3, .t (.val false [.ptr 3 0 0])), (.T 4, .t (.val false [.sl .any 36 (.pair .str (.pair .bool (.sl 3 (.int .i64)))) y0])), (.T 5, .t (.val false [.ptr 5 0 0])), (.T 12, .t (.val false [.int .i64 y1])), (.T 13, .t (.val false [.bool (valO (g_Lw_FnStoDo_8 y0 y1 y4 y5 (y2, y3)))])), (.B 3, .b 0 false [.sl .any 41 (.pair .str (.sl 3 (.int .i64))) y4]), (.B 5, .b 0 false [.row 5 1 0]), (.R 5 1, .r 0 (some ⟨false, .any, true, 41, (.pair .str (.sl 3 (.int .i64))), y5⟩))]))
  | b, h => Ow_FnStoDo_3 b h
theorem bw_FnStoDo_8 (y0 : List ((ByteArray) × ((Bool) × (List (Int))))) (y1 : Int) (y2 : Bool) (y3 : Int) (y4 : List ((ByteArray) × (List (Int)))) (y5 : List ((ByteArray) × (List (Int)))) : Tr.bt Ew_FnStoDo Ow_FnStoDo_3 (exec Ew_FnStoDo 8 cw_FnStoDo_8 (St.of (hw_FnStoDo_8 y0 y1 y2 y3 y4 y5)) (leafRd Ew_FnStoDo 8)) = (g_Sw_FnStoDo_8 y0 y1 y4 y5 (y2, y3)).bt (fun ((y2, y3) : (Bool) × (Int)) => (hw_FnStoDo_8 y0 y1 y2 y3 y4 y5)) (xw_FnStoDo_8 y0 y1 y4 y5) := by kernel_rfl
theorem kw_FnStoDo_4 : OrcOk Ew_FnStoDo Ow_FnStoDo_4 lsw_FnStoDo 4 := orc_add kw_FnStoDo_3 (fun n p hp h ex h' ho => by
  obtain ⟨b, c⟩ := p
  obtain ⟨xt, h1, h2⟩ := ho
  have h1 : Ow_FnStoDo_4 b h = some (true, xt) := h1
  unfold Ow_FnStoDo_4 at h1
  split at h1
  · injection h1 with h1
    injection h1 with e1 e2
    subst e2
    have hc : c = cw_FnStoDo_8 := mw_FnStoDo_8 _ hp rfl
    subst hc
    right
    rename_i y0 y1 y2 y3 y4 y5
    have key := LT_step kw_FnStoDo_3 hp (fun q hq => loopsAll_in _ _ _ _ hp hq) (fun ((y2, y3) : (Bool) × (Int)) => (hw_FnStoDo_8 y0 y1 y2 y3 y4 y5)) (xw_FnStoDo_8 y0 y1 y4 y5) (g_Sw_FnStoDo_8 y0 y1 y4 y5) (fun x => by first | exact bw_FnStoDo_8 y0 y1 x.1 x.2 y4 y5) n (x := (y2, y3)) (okO_some e1)
    have hx : ∀ r, XT.sel (.leaf (.exit 8) [(.T 3, .t (.val false [.ptr 3 0 0])), (.T 4, .t (.val false [.sl .any 36 (.pair .str (.pair .bool (.sl 3 (.int .i64)))) y0])), (.T 5, .t (.val false [.ptr 5 0 0])), (.T 12, .t (.val false [.int .i64 y1])), (.T 13, .t (.val false [.bool r])), (.B 3, .b 0 false [.sl .any 41 (.pair .str (.sl 3 (.int .i64))) y4]), (.B 5, .b 0 false [.row 5 1 0]), (.R 5 1, .r 0 (some ⟨false, .any, true, 41, (.pair .str (.sl 3 (.int .i64))), y5⟩))]) = xw_FnStoDo_8 y0 y1 y4 y5 r := fun r => by first | rfl | (rcases r with r | r <;> rfl) | (rcases r with r | r | r <;> rfl) | (rcases r with r | r | r | r <;> rfl)
    have h3 := (hx (valO (g_Lw_FnStoDo_8 y0 y1 y4 y5 (y2, y3)))).symm.trans h2
    have e3 := congrArg Prod.fst h3
    have e4 := congrArg Prod.snd h3
    simp only at e3 e4
    rw [← e3, ← e4]
    exact key
  · exact .inl ⟨xt, h1, h2⟩)
noncomputable def g_Sw_FnStoDo_6 (y0 : List ((ByteArray) × ((Bool) × (List (Int))))) (y2 : List ((ByteArray) × (List (Int)))) (y3 : List ((ByteArray) × (List (Int)))) : ((Int)) → RT ((Int)) (((Bool)) ⊕ (Unit))
  | y1 => .br (true) (.br (decide (y1 < (↑(List.length y2) : Int))) (.br (okO (g_Lw_FnStoDo_8 y0 y1 y2 y3 (false, (0 : Int)))) (.br (decide ((0 : Int) ≤ y1 ∧ y1 < (↑(List.length y2) : Int))) (.br (g_Ai_StoGet y3 (at_ (Ty.pair Ty.str (Ty.sl (nat_lit 3) (Ty.int IntKind.i64))) y2 (Int.toNat y1)).1) (.br (!valO (g_Lw_FnStoDo_8 y0 y1 y2 y3 (false, (0 : Int)))) (.br (!g_Vi_StoGet_1 y3 (at_ (Ty.pair Ty.str (Ty.sl (nat_lit 3) (Ty.int IntKind.i64))) y2 (Int.toNat y1)).1) (.out (.inl false)) (.br (decide ((0 : Int) ≤ y1 ∧ y1 < (↑(List.length y2) : Int))) (.br (g_Aw_jaInts (g_Vi_StoGet_0 y3 (at_ (Ty.pair Ty.str (Ty.sl (nat_lit 3) (Ty.int IntKind.i64))) y2 (Int.toNat y1)).1) (at_ (Ty.pair Ty.str (Ty.sl (nat_lit 3) (Ty.int IntKind.i64))) y2 (Int.toNat y1)).2) (.br (!g_Vw_jaInts_0 (g_Vi_StoGet_0 y3 (at_ (Ty.pair Ty.str (Ty.sl (nat_lit 3) (Ty.int IntKind.i64))) y2 (Int.toNat y1)).1) (at_ (Ty.pair Ty.str (Ty.sl (nat_lit 3) (Ty.int IntKind.i64))) y2 (Int.toNat y1)).2) (.out (.inl false)) (.br (true) (.go (IntKind.wrap IntKind.i64 (y1 + (1 : Int)))) (.bad))) (.bad)) (.bad))) (.br (true) (.go (IntKind.wrap IntKind.i64 (y1 + (1 : Int)))) (.bad))) (.bad)) (.bad)) (.bad)) (.out (.inr (())))) (.bad)
noncomputable def g_Lw_FnStoDo_6 (y0 : List ((ByteArray) × ((Bool) × (List (Int))))) (y2 : List ((ByteArray) × (List (Int)))) (y3 : List ((ByteArray) × (List (Int)))) (x : (Int)) : Option (((Bool)) ⊕ (Unit)) := loopO (g_Sw_FnStoDo_6 y0 y2 y3) x
noncomputable def xw_FnStoDo_6 (y0 : List ((ByteArray) × ((Bool) × (List (Int))))) (y2 : List ((ByteArray) × (List (Int)))) (y3 : List ((ByteArray) × (List (Int)))) : (((Bool)) ⊕ (Unit)) → Ex × List (Pl × LV) := fun
  | .inl r => (.ret, [(.T 2, .t (.val false [.bool r])), (.T 5, .t (.val false [.ptr 5 0 0])), (.B 5, .b 0 false [.row 5 1 0]), (.R 5 1, .r 0 (some ⟨false, .any, true, 41, (.pair .str (.sl 3 (.int .i64))), y3⟩))])
  | .inr (r) => (.exit 6, [(.T 2, .t (.val false [.undef])), (.T 5, .t (.val false [.ptr 5 0 0])), (.B 5, .b 0 false [.row 5 1 0]), (.R 5 1, .r 0 (some ⟨false, .any, true, 41, (.pair .str (.sl 3 (.int .i64))), y3⟩))])
noncomputable def Ow_FnStoDo_5 : Orc := fun b h => match b, h with
  | 6, [(.T 3, .t (.val false [.ptr 3 0 0])), (.T 4, .t (.val false [.sl .any 36 (.pair .str (.pair .bool (.sl 3 (.int .i64)))) y0])), (.T 5, .t (.val false [.ptr 5 0 0])), (.T 12, .t (.val false [.int .i64 y1])), (.B 3, .b 0 false [.sl .any 41 (.pair .str (.sl 3 (.int .i64))) y2]), (.B 5, .b 0 false [.row 5 1 0]), (.R 5 1, .r 0 (some ⟨false, .any, true, 41, (.pair .str (.sl 3 (.int .i64))), y3⟩))] => some (okO (g_Lw_FnStoDo_6 y0 y2 y3 y1), (.br (isL (valO (g_Lw_FnStoDo_6 y0 y2 y3 y1))) (.leaf .ret [(.T 2, .t (.val false [.bool (getL (valO (g_Lw_FnStoDo_6 y0 y2 y3 y1)))])), (.T 5, .t (.val false [.ptr 5 0 0])), (.B 5, .b 0 false [.row 5 1 0]), (.R 5 1, .r 0 (some ⟨false, .any, true, 41, (.pair .str (.sl 3 (.int .i64))), y3⟩))]) (.leaf (.exit 6) [(.T 2, .t (.val false [.undef])), (.T 5, .t (.val false [.ptr 5 0 0])), (.B 5, .b 0 false [.row 5 1 0]), (.R 5 1, .r 0 (some ⟨false, .any, true, 41, (.pair .str (.sl 3 (.int .i64))), y3⟩))])))
  | b, h => Ow_FnStoDo_4 b h
theorem bw_FnStoDo_6 (y0 : List ((ByteArray) × ((Bool) × (List (Int))))) (y1 : Int) (y2 : List ((ByteArray) × (List (Int)))) (y3 : List ((ByteArray) × (List (Int)))) : Tr.bt Ew_FnStoDo Ow_FnStoDo_4 (exec Ew_FnStoDo 6 cw_FnStoDo_6 (St.of (hw_FnStoDo_6 y0 y1 y2 y3)) (leafRd Ew_FnStoDo 6)) = (g_Sw_FnStoDo_6 y0 y2 y3 y1).bt (fun (y1 : (Int)) => (hw_FnStoDo_6 y0 y1 y2 y3)) (xw_FnStoDo_6 y0 y2 y3) := by kernel_rfl
theorem kw_FnStoDo_5 : OrcOk Ew_FnStoDo Ow_FnStoDo_5 lsw_FnStoDo 5 := orc_add kw_FnStoDo_4 (fun n p hp h ex h' ho => by
  obtain ⟨b, c⟩ := p
  obtain ⟨xt, h1, h2⟩ := ho
  have h1 : Ow_FnStoDo_5 b h = some (true, xt) := h1
  unfold Ow_FnStoDo_5 at h1
  split at h1
  · injection h1 with h1
    injection h1 with e1 e2
    subst e2
    have hc : c = cw_FnStoDo_6 := mw_FnStoDo_6 _ hp rfl
    subst hc
    right
    rename_i y0 y1 y2 y3
    have key := LT_step kw_FnStoDo_4 hp (fun q hq => loopsAll_in _ _ _ _ hp hq) (fun (y1 : (Int)) => (hw_FnStoDo_6 y0 y1 y2 y3)) (xw_FnStoDo_6 y0 y2 y3) (g_Sw_FnStoDo_6 y0 y2 y3) (fun x => by first | exact bw_FnStoDo_6 y0 x y2 y3) n (x := y1) (okO_some e1)
    have hx : ∀ r, XT.sel (.br (isL r) (.leaf .ret [(.T 2, .t (.val false [.bool (getL r)])), (.T 5, .t (.val false [.ptr 5 0 0])), (.B 5, .b 0 false [.row 5 1 0]), (.R 5 1, .r 0 (some ⟨false, .any, true, 41, (.pair .str (.sl 3 (.int .i64))), y3⟩))]) (.leaf (.exit 6) [(.T 2, .t (.val false [.undef])), (.T 5, .t (.val false [.ptr 5 0 0])), (.B 5, .b 0 false [.row 5 1 0]), (.R 5 1, .r 0 (some ⟨false, .any, true, 41, (.pair .str (.sl 3 (.int .i64))), y3⟩))])) = xw_FnStoDo_6 y0 y2 y3 r := fun r => by first | rfl | (rcases r with r | r <;> rfl) | (rcases r with r | r | r <;> rfl) | (rcases r with r | r | r | r <;> rfl)
    have h3 := (hx (valO (g_Lw_FnStoDo_6 y0 y2 y3 y1))).symm.trans h2
    have e3 := congrArg Prod.fst h3
    have e4 := congrArg Prod.snd h3
    simp only at e3 e4
    rw [← e3, ← e4]
    exact key
  · exact .inl ⟨xt, h1, h2⟩)
noncomputable def g_Aw_FnStoDo (a0 : List (Int)) : Bool := decide ((↑(List.length a0) : Int) > (1048576 : Int)) || g_As_DrawStoDo a0 && (g_Ai_StoDo (g_Vs_DrawStoDo_0 a0) (g_Vs_DrawStoDo_1 a0) && (g_As_StoDo (g_Vs_DrawStoDo_0 a0) (g_Vs_DrawStoDo_1 a0) && (g_Aw_jaSto (g_Vi_StoDo_0 (g_Vs_DrawStoDo_0 a0) (g_Vs_DrawStoDo_1 a0)) (g_Vs_StoDo_0 (g_Vs_DrawStoDo_0 a0) (g_Vs_DrawStoDo_1 a0)) && (!g_Vw_jaSto_0 (g_Vi_StoDo_0 (g_Vs_DrawStoDo_0 a0) (g_Vs_DrawStoDo_1 a0)) (g_Vs_StoDo_0 (g_Vs_DrawStoDo_0 a0) (g_Vs_DrawStoDo_1 a0)) || g_As_StoOk (g_Vs_DrawStoDo_0 a0) && bif !g_Vs_StoOk_0 (g_Vs_DrawStoDo_0 a0) then !(↑(List.length (g_Vi_StoDo_0 (g_Vs_DrawStoDo_0 a0) (g_Vs_DrawStoDo_1 a0))) : Int) == (0 : Int) || g_Aw_jaOk else okO (g_Lw_FnStoDo_0 (g_Vs_DrawStoDo_1 a0) (g_Vs_DrawStoDo_0 a0) (g_Vi_StoDo_0 (g_Vs_DrawStoDo_0 a0) (g_Vs_DrawStoDo_1 a0)) (0 : Int)) && (isL (valO (g_Lw_FnStoDo_0 (g_Vs_DrawStoDo_1 a0) (g_Vs_DrawStoDo_0 a0) (g_Vi_StoDo_0 (g_Vs_DrawStoDo_0 a0) (g_Vs_DrawStoDo_1 a0)) (0 : Int))) || bif decide (IntKind.wrap IntKind.i64 ((↑(List.length (g_Vs_DrawStoDo_1 a0)) : Int) + (↑(List.length (g_Vs_DrawStoDo_0 a0)) : Int)) > (40 : Int)) then g_Ai_StoOk (g_Vi_StoDo_0 (g_Vs_DrawStoDo_0 a0) (g_Vs_DrawStoDo_1 a0)) else okO (g_Lw_FnStoDo_2 (g_Vs_DrawStoDo_1 a0) (g_Vs_DrawStoDo_0 a0) (g_Vi_StoDo_0 (g_Vs_DrawStoDo_0 a0) (g_Vs_DrawStoDo_1 a0)) (0 : Int)) && (isL (valO (g_Lw_FnStoDo_2 (g_Vs_DrawStoDo_1 a0) (g_Vs_DrawStoDo_0 a0) (g_Vi_StoDo_0 (g_Vs_DrawStoDo_0 a0) (g_Vs_DrawStoDo_1 a0)) (0 : Int))) || okO (g_Lw_FnStoDo_6 (g_Vs_DrawStoDo_1 a0) (g_Vs_DrawStoDo_0 a0) (g_Vi_StoDo_0 (g_Vs_DrawStoDo_0 a0) (g_Vs_DrawStoDo_1 a0)) (0 : Int)) && (isL (valO (g_Lw_FnStoDo_6 (g_Vs_DrawStoDo_1 a0) (g_Vs_DrawStoDo_0 a0) (g_Vi_StoDo_0 (g_Vs_DrawStoDo_0 a0) (g_Vs_DrawStoDo_1 a0)) (0 : Int))) || g_Ai_StoOk (g_Vi_StoDo_0 (g_Vs_DrawStoDo_0 a0) (g_Vs_DrawStoDo_1 a0)))))))))
noncomputable def g_Vw_FnStoDo_0 (a0 : List (Int)) : Bool := bif decide ((↑(List.length a0) : Int) > (1048576 : Int)) then true else bif !g_Vw_jaSto_0 (g_Vi_StoDo_0 (g_Vs_DrawStoDo_0 a0) (g_Vs_DrawStoDo_1 a0)) (g_Vs_StoDo_0 (g_Vs_DrawStoDo_0 a0) (g_Vs_DrawStoDo_1 a0)) then false else bif !g_Vs_StoOk_0 (g_Vs_DrawStoDo_0 a0) then bif (↑(List.length (g_Vi_StoDo_0 (g_Vs_DrawStoDo_0 a0) (g_Vs_DrawStoDo_1 a0))) : Int) == (0 : Int) then g_Vw_jaOk_0 else false else bif isL (valO (g_Lw_FnStoDo_0 (g_Vs_DrawStoDo_1 a0) (g_Vs_DrawStoDo_0 a0) (g_Vi_StoDo_0 (g_Vs_DrawStoDo_0 a0) (g_Vs_DrawStoDo_1 a0)) (0 : Int))) then getL (valO (g_Lw_FnStoDo_0 (g_Vs_DrawStoDo_1 a0) (g_Vs_DrawStoDo_0 a0) (g_Vi_StoDo_0 (g_Vs_DrawStoDo_0 a0) (g_Vs_DrawStoDo_1 a0)) (0 : Int))) else bif decide (IntKind.wrap IntKind.i64 ((↑(List.length (g_Vs_DrawStoDo_1 a0)) : Int) + (↑(List.length (g_Vs_DrawStoDo_0 a0)) : Int)) > (40 : Int)) then g_Vi_StoOk_0 (g_Vi_StoDo_0 (g_Vs_DrawStoDo_0 a0) (g_Vs_DrawStoDo_1 a0)) else bif isL (valO (g_Lw_FnStoDo_2 (g_Vs_DrawStoDo_1 a0) (g_Vs_DrawStoDo_0 a0) (g_Vi_StoDo_0 (g_Vs_DrawStoDo_0 a0) (g_Vs_DrawStoDo_1 a0)) (0 : Int))) then getL (valO (g_Lw_FnStoDo_2 (g_Vs_DrawStoDo_1 a0) (g_Vs_DrawStoDo_0 a0) (g_Vi_StoDo_0 (g_Vs_DrawStoDo_0 a0) (g_Vs_DrawStoDo_1 a0)) (0 : Int))) else bif isL (valO (g_Lw_FnStoDo_6 (g_Vs_DrawStoDo_1 a0) (g_Vs_DrawStoDo_0 a0) (g_Vi_StoDo_0 (g_Vs_DrawStoDo_0 a0) (g_Vs_DrawStoDo_1 a0)) (0 : Int))) then getL (valO (g_Lw_FnStoDo_6 (g_Vs_DrawStoDo_1 a0) (g_Vs_DrawStoDo_0 a0) (g_Vi_StoDo_0 (g_Vs_DrawStoDo_0 a0) (g_Vs_DrawStoDo_1 a0)) (0 : Int))) else g_Vi_StoOk_0 (g_Vi_StoDo_0 (g_Vs_DrawStoDo_0 a0) (g_Vs_DrawStoDo_1 a0))
noncomputable def Fw_FnStoDo : FSem := fun ys => match ys with
  | [.val false [.sl .any 5 (.int .u8) a0]] => some ((g_Aw_FnStoDo a0), .val false [.bool (g_Vw_FnStoDo_0 a0)], [])
  | _ => none
theorem vw_FnStoDo (a0 : List (Int)) : collapseH .std Ew_FnStoDo Ow_FnStoDo_5 (execFn Ew_FnStoDo Go.Proofs.Tryd.f3 msw_FnStoDo [.val false [.sl .any 5 (.int .u8) a0]]) = some ((g_Aw_FnStoDo a0), .val false [.bool (g_Vw_FnStoDo_0 a0)], []) := by kernel_rfl
theorem sw_FnStoDo : Sound Go.Proofs.Tryd.prog 3 msw_FnStoDo Fw_FnStoDo := by
  refine fn_gen goodw_FnStoDo (by kernel_rfl) .std (fn := Go.Proofs.Tryd.f3) (c := (Go.Proofs.Tryd.f3.body.getD .skip)) (o := Ow_FnStoDo_5) (k := 5) (by kernel_rfl) (by kernel_rfl) (by kernel_rfl) (by kernel_rfl) (by decide) kw_FnStoDo_5 ?_
  intro ys r outs h
  unfold Fw_FnStoDo at h
  split at h
  · exact (vw_FnStoDo _).trans h
  · cases h
end Go.Proofs.YtjoggjjjlafdmaaDoor.E
end
