/- What the functions that are reached do, by the engine: for the proof (laws.FnPlanOut): part 3. No conditions. -/
import Derived.Test.YtjoggjjjlafdmaaGreatDoorGb
import Derived.Test.YtjoggjjjlafdmaaGreatDoorProg
set_option linter.all false
namespace Go.Proofs.YtjoggjjjlafdmaaGreatDoor.E
open Go
set_option maxRecDepth 100000
set_option maxHeartbeats 0
noncomputable def Es_l20Key : Env where
 tt := mkTI Tryz.prog
 fn := fun f => match f with
  | 42 => some (mss_l20Rd_pick, FSem.wk mss_l20Rd_pick Fs_l20Rd_pick)
  | 43 => some (mss_l20Rd_oddR, FSem.wk mss_l20Rd_oddR Fs_l20Rd_oddR)
  | 106 => some (mss_l3Plain, FSem.wk mss_l3Plain Fs_l3Plain)
  | _ => none
 bxf := fun _ => none
 mv := []
 keep := fun _ => []
 keepB := fun _ => []
 keepX := fun _ => []
 keepXB := fun _ => []
theorem goodFs_l20Key : ∀ f ms F, Es_l20Key.fn f = some (ms, F) → Sound Tryz.prog f ms F := fun f ms F h => by
 unfold Es_l20Key at h
 dsimp only at h
 split at h
 ·injection h with h; injection h with e1 e2; subst e1 e2; exact Sound.wk ss_l20Rd_pick
 ·injection h with h; injection h with e1 e2; subst e1 e2; exact Sound.wk ss_l20Rd_oddR
 ·injection h with h; injection h with e1 e2; subst e1 e2; exact Sound.wk ss_l3Plain
 ·cases h
theorem goodBs_l20Key : ∀ f ms F, Es_l20Key.bxf f = some (ms, F) → SoundB Tryz.prog f ms F := fun f ms F h => by cases h
theorem goods_l20Key : Good Tryz.prog Es_l20Key := ⟨rfl, goodFs_l20Key, goodBs_l20Key⟩
noncomputable def Os_l20Key_0 : Orc := fun _ _ => none
noncomputable def mss_l20Key : List PM := [.bx, .own]
noncomputable def lss_l20Key : List (Nat × Code) := loopsAll 0 (Tryz.f166.body.getD .skip)
theorem ks_l20Key_0 : OrcOk Es_l20Key Os_l20Key_0 lss_l20Key 0 := orcOk_none
noncomputable def g_As_l20Key (r0 : List Int) (r1 : Int) (a2 : Int) : Bool := g_pickA r0 r1 (5 : Int) && (decide ((0 : Int) ≤ g_pick r0 r1 (5 : Int) ∧ g_pick r0 r1 (5 : Int) < (5 : Int)) && (decide (Int.toNat (g_pick r0 r1 (5 : Int)) < nat_lit 5) && (g_pickA r0 (IntKind.wrap IntKind.i64 (r1 + (1 : Int))) (4 : Int) && (g_pickA r0 (IntKind.wrap IntKind.i64 (IntKind.wrap IntKind.i64 (r1 + (1 : Int)) + (1 : Int))) (30 : Int) && (g_pickA r0 (IntKind.wrap IntKind.i64 (IntKind.wrap IntKind.i64 (IntKind.wrap IntKind.i64 (r1 + (1 : Int)) + (1 : Int)) + (1 : Int))) (2 : Int) && (decide ((0 : Int) ≤ g_pick r0 (IntKind.wrap IntKind.i64 (IntKind.wrap IntKind.i64 (IntKind.wrap IntKind.i64 (r1 + (1 : Int)) + (1 : Int)) + (1 : Int))) (2 : Int) ∧ g_pick r0 (IntKind.wrap IntKind.i64 (IntKind.wrap IntKind.i64 (IntKind.wrap IntKind.i64 (r1 + (1 : Int)) + (1 : Int)) + (1 : Int))) (2 : Int) < (↑(List.length [g_pick r0 (IntKind.wrap IntKind.i64 (r1 + (1 : Int))) (4 : Int), g_pick r0 (IntKind.wrap IntKind.i64 (IntKind.wrap IntKind.i64 (r1 + (1 : Int)) + (1 : Int))) (30 : Int)]) : Int)) && (decide (Int.toNat (g_pick r0 (IntKind.wrap IntKind.i64 (IntKind.wrap IntKind.i64 (IntKind.wrap IntKind.i64 (r1 + (1 : Int)) + (1 : Int)) + (1 : Int))) (2 : Int)) < List.length [g_pick r0 (IntKind.wrap IntKind.i64 (r1 + (1 : Int))) (4 : Int), g_pick r0 (IntKind.wrap IntKind.i64 (IntKind.wrap IntKind.i64 (r1 + (1 : Int)) + (1 : Int))) (30 : Int)]) && (g_As_l3Plain (at_ (Ty.int IntKind.i64) [g_pick r0 (IntKind.wrap IntKind.i64 (r1 + (1 : Int))) (4 : Int), g_pick r0 (IntKind.wrap IntKind.i64 (IntKind.wrap IntKind.i64 (r1 + (1 : Int)) + (1 : Int))) (30 : Int)] (Int.toNat (g_pick r0 (IntKind.wrap IntKind.i64 (IntKind.wrap IntKind.i64 (IntKind.wrap IntKind.i64 (r1 + (1 : Int)) + (1 : Int)) + (1 : Int))) (2 : Int)))) && (decide (ByteArray.size (at_ Ty.str [lit [(115 : Nat)], lit [(99 : Nat)], lit [(102 : Nat)], lit [(117 : Nat)], lit [(97 : Nat)]] (Int.toNat (g_pick r0 r1 (5 : Int)))) + ByteArray.size (g_Vs_l3Plain_0 (at_ (Ty.int IntKind.i64) [g_pick r0 (IntKind.wrap IntKind.i64 (r1 + (1 : Int))) (4 : Int), g_pick r0 (IntKind.wrap IntKind.i64 (IntKind.wrap IntKind.i64 (r1 + (1 : Int)) + (1 : Int))) (30 : Int)] (Int.toNat (g_pick r0 (IntKind.wrap IntKind.i64 (IntKind.wrap IntKind.i64 (IntKind.wrap IntKind.i64 (r1 + (1 : Int)) + (1 : Int)) + (1 : Int))) (2 : Int))))) ≤ nat_lit 9223372036854775807) && (g_As_l20Rd_odd r0 (IntKind.wrap IntKind.i64 (IntKind.wrap IntKind.i64 (IntKind.wrap IntKind.i64 (IntKind.wrap IntKind.i64 (r1 + (1 : Int)) + (1 : Int)) + (1 : Int)) + (1 : Int))) a2 && (!g_Vs_l20Rd_odd_0 r0 (IntKind.wrap IntKind.i64 (IntKind.wrap IntKind.i64 (IntKind.wrap IntKind.i64 (IntKind.wrap IntKind.i64 (r1 + (1 : Int)) + (1 : Int)) + (1 : Int)) + (1 : Int))) a2 || g_pickA r0 (g_Vs_l20Rd_odd_2 r0 (IntKind.wrap IntKind.i64 (IntKind.wrap IntKind.i64 (IntKind.wrap IntKind.i64 (IntKind.wrap IntKind.i64 (r1 + (1 : Int)) + (1 : Int)) + (1 : Int)) + (1 : Int))) a2) (6 : Int) && (decide ((0 : Int) ≤ g_pick r0 (g_Vs_l20Rd_odd_2 r0 (IntKind.wrap IntKind.i64 (IntKind.wrap IntKind.i64 (IntKind.wrap IntKind.i64 (IntKind.wrap IntKind.i64 (r1 + (1 : Int)) + (1 : Int)) + (1 : Int)) + (1 : Int))) a2) (6 : Int) ∧ g_pick r0 (g_Vs_l20Rd_odd_2 r0 (IntKind.wrap IntKind.i64 (IntKind.wrap IntKind.i64 (IntKind.wrap IntKind.i64 (IntKind.wrap IntKind.i64 (r1 + (1 : Int)) + (1 : Int)) + (1 : Int)) + (1 : Int))) a2) (6 : Int) < (6 : Int)) && decide (Int.toNat (g_pick r0 (g_Vs_l20Rd_odd_2 r0 (IntKind.wrap IntKind.i64 (IntKind.wrap IntKind.i64 (IntKind.wrap IntKind.i64 (IntKind.wrap IntKind.i64 (r1 + (1 : Int)) + (1 : Int)) + (1 : Int)) + (1 : Int))) a2) (6 : Int)) < nat_lit 6)))))))))))))
noncomputable def g_Vs_l20Key_0 (r0 : List Int) (r1 : Int) (a2 : Int) : ByteArray := bif g_Vs_l20Rd_odd_0 r0 (IntKind.wrap IntKind.i64 (IntKind.wrap IntKind.i64 (IntKind.wrap IntKind.i64 (IntKind.wrap IntKind.i64 (r1 + (1 : Int)) + (1 : Int)) + (1 : Int)) + (1 : Int))) a2 then at_ Ty.str [lit [], lit [(115 : Nat)], lit [(83 : Nat), (49 : Nat)], lit [(115 : Nat), (49 : Nat), (50 : Nat), (51 : Nat)], lit [(49 : Nat), (115 : Nat)], lit [(115 : Nat), (97 : Nat)]] (Int.toNat (g_pick r0 (g_Vs_l20Rd_odd_2 r0 (IntKind.wrap IntKind.i64 (IntKind.wrap IntKind.i64 (IntKind.wrap IntKind.i64 (IntKind.wrap IntKind.i64 (r1 + (1 : Int)) + (1 : Int)) + (1 : Int)) + (1 : Int))) a2) (6 : Int))) else at_ Ty.str [lit [(115 : Nat)], lit [(99 : Nat)], lit [(102 : Nat)], lit [(117 : Nat)], lit [(97 : Nat)]] (Int.toNat (g_pick r0 r1 (5 : Int))) ++ g_Vs_l3Plain_0 (at_ (Ty.int IntKind.i64) [g_pick r0 (IntKind.wrap IntKind.i64 (r1 + (1 : Int))) (4 : Int), g_pick r0 (IntKind.wrap IntKind.i64 (IntKind.wrap IntKind.i64 (r1 + (1 : Int)) + (1 : Int))) (30 : Int)] (Int.toNat (g_pick r0 (IntKind.wrap IntKind.i64 (IntKind.wrap IntKind.i64 (IntKind.wrap IntKind.i64 (r1 + (1 : Int)) + (1 : Int)) + (1 : Int))) (2 : Int))))
noncomputable def g_Vs_l20Key_1 (r0 : List Int) (r1 : Int) (a2 : Int) : List Int := bif g_Vs_l20Rd_odd_0 r0 (IntKind.wrap IntKind.i64 (IntKind.wrap IntKind.i64 (IntKind.wrap IntKind.i64 (IntKind.wrap IntKind.i64 (r1 + (1 : Int)) + (1 : Int)) + (1 : Int)) + (1 : Int))) a2 then r0 else r0
noncomputable def g_Vs_l20Key_2 (r0 : List Int) (r1 : Int) (a2 : Int) : Int := bif g_Vs_l20Rd_odd_0 r0 (IntKind.wrap IntKind.i64 (IntKind.wrap IntKind.i64 (IntKind.wrap IntKind.i64 (IntKind.wrap IntKind.i64 (r1 + (1 : Int)) + (1 : Int)) + (1 : Int)) + (1 : Int))) a2 then IntKind.wrap IntKind.i64 (g_Vs_l20Rd_odd_2 r0 (IntKind.wrap IntKind.i64 (IntKind.wrap IntKind.i64 (IntKind.wrap IntKind.i64 (IntKind.wrap IntKind.i64 (r1 + (1 : Int)) + (1 : Int)) + (1 : Int)) + (1 : Int))) a2 + (1 : Int)) else g_Vs_l20Rd_odd_2 r0 (IntKind.wrap IntKind.i64 (IntKind.wrap IntKind.i64 (IntKind.wrap IntKind.i64 (IntKind.wrap IntKind.i64 (r1 + (1 : Int)) + (1 : Int)) + (1 : Int)) + (1 : Int))) a2
noncomputable def Fs_l20Key : FSem := fun ys => match ys with
 | [.val true [.sl .any 5 (.int .u8) r0, .int .i64 r1], .val false [.int .i64 a2]] => some ((g_As_l20Key r0 r1 a2), .val false [.str (g_Vs_l20Key_0 r0 r1 a2)], [[.sl .any 5 (.int .u8) (g_Vs_l20Key_1 r0 r1 a2), .int .i64 (g_Vs_l20Key_2 r0 r1 a2)]])
 | _ => none
theorem vs_l20Key (r0 : List Int) (r1 : Int) (a2 : Int) : collapseH .std Es_l20Key Os_l20Key_0 (execFn Es_l20Key Tryz.f166 mss_l20Key [.val true [.sl .any 5 (.int .u8) r0, .int .i64 r1], .val false [.int .i64 a2]]) = some ((g_As_l20Key r0 r1 a2), .val false [.str (g_Vs_l20Key_0 r0 r1 a2)], [[.sl .any 5 (.int .u8) (g_Vs_l20Key_1 r0 r1 a2), .int .i64 (g_Vs_l20Key_2 r0 r1 a2)]]) := by kernel_rfl
theorem ss_l20Key : Sound Tryz.prog 166 mss_l20Key Fs_l20Key := by
 refine fn_gen goods_l20Key (by kernel_rfl) .std (fn := Tryz.f166) (c := (Tryz.f166.body.getD .skip)) (o := Os_l20Key_0) (k := 0) (by kernel_rfl) (by kernel_rfl) (by kernel_rfl) (by kernel_rfl) (by decide) ks_l20Key_0 ?_
 intro ys r outs h
 unfold Fs_l20Key at h
 split at h
 ·exact (vs_l20Key _ _ _).trans h
 ·cases h
noncomputable def mss_l20KeyR : List PM := mss_l20Key
theorem sames_l20Key (r0 : List Int) (r1 : Int) (a2 : Int) : g_Vs_l20Key_1 r0 r1 a2 = r0 := by
 unfold g_Vs_l20Key_1
 simp only [Bool.cond_self]
noncomputable def Fs_l20KeyR : FSem := fun ys => match ys with
 | [.val true [.sl .any 5 (.int .u8) r0, .int .i64 r1], .val false [.int .i64 a2]] => some ((g_As_l20Key r0 r1 a2), .val false [.str (g_Vs_l20Key_0 r0 r1 a2)], [[.sl .any 5 (.int .u8) r0, .int .i64 (g_Vs_l20Key_2 r0 r1 a2)]])
 | _ => none
theorem ss_l20KeyR : Sound Tryz.prog 166 mss_l20KeyR Fs_l20KeyR := by
 refine ⟨ss_l20Key.fn, fun w S ψ ys vs r outs hF hh hg => ss_l20Key.calls w S ψ ys vs r outs (Eq.trans ?_ hF) hh hg⟩
 unfold Fs_l20KeyR at hF ⊢
 split at hF
 ·rename_i  r0 r1 a2
  show (some ((g_As_l20Key r0 r1 a2), .val false [.str (g_Vs_l20Key_0 r0 r1 a2)], [[.sl .any 5 (.int .u8) (g_Vs_l20Key_1 r0 r1 a2), .int .i64 (g_Vs_l20Key_2 r0 r1 a2)]]) : Option (Bool × RV × List (List Cell))) = _
  rw [sames_l20Key]
 ·cases hF
noncomputable def Es_l20Write : Env where
 tt := mkTI Tryz.prog
 fn := fun f => match f with
  | 42 => some (mss_l20Rd_pick, FSem.wk mss_l20Rd_pick Fs_l20Rd_pick)
  | 43 => some (mss_l20Rd_oddR, FSem.wk mss_l20Rd_oddR Fs_l20Rd_oddR)
  | 90 => some (mss_l20ValR, FSem.wk mss_l20ValR Fs_l20ValR)
  | 166 => some (mss_l20KeyR, FSem.wk mss_l20KeyR Fs_l20KeyR)
  | _ => none
 bxf := fun _ => none
 mv := []
 keep := fun _ => []
 keepB := fun _ => []
 keepX := fun _ => []
 keepXB := fun _ => []
theorem goodFs_l20Write : ∀ f ms F, Es_l20Write.fn f = some (ms, F) → Sound Tryz.prog f ms F := fun f ms F h => by
 unfold Es_l20Write at h
 dsimp only at h
 split at h
 ·injection h with h; injection h with e1 e2; subst e1 e2; exact Sound.wk ss_l20Rd_pick
 ·injection h with h; injection h with e1 e2; subst e1 e2; exact Sound.wk ss_l20Rd_oddR
 ·injection h with h; injection h with e1 e2; subst e1 e2; exact Sound.wk ss_l20ValR
 ·injection h with h; injection h with e1 e2; subst e1 e2; exact Sound.wk ss_l20KeyR
 ·cases h
theorem goodBs_l20Write : ∀ f ms F, Es_l20Write.bxf f = some (ms, F) → SoundB Tryz.prog f ms F := fun f ms F h => by cases h
theorem goods_l20Write : Good Tryz.prog Es_l20Write := ⟨rfl, goodFs_l20Write, goodBs_l20Write⟩
noncomputable def Os_l20Write_0 : Orc := fun _ _ => none
noncomputable def mss_l20Write : List PM := [.bx, .own]
noncomputable def lss_l20Write : List (Nat × Code) := loopsAll 0 (Tryz.f140.body.getD .skip)
theorem ks_l20Write_0 : OrcOk Es_l20Write Os_l20Write_0 lss_l20Write 0 := orcOk_none
noncomputable def g_As_l20Write (r0 : List Int) (r1 : Int) (a2 : Int) : Bool := g_As_l20Key r0 r1 a2 && (g_pickA r0 (g_Vs_l20Key_2 r0 r1 a2) (3 : Int) && bif g_pick r0 (g_Vs_l20Key_2 r0 r1 a2) (3 : Int) == (0 : Int) then g_As_l20Rd_odd r0 (IntKind.wrap IntKind.i64 (g_Vs_l20Key_2 r0 r1 a2 + (1 : Int))) a2 else g_As_l20Val r0 (IntKind.wrap IntKind.i64 (g_Vs_l20Key_2 r0 r1 a2 + (1 : Int))) a2)
noncomputable def g_Vs_l20Write_0 (r0 : List Int) (r1 : Int) (a2 : Int) : ByteArray := bif g_pick r0 (g_Vs_l20Key_2 r0 r1 a2) (3 : Int) == (0 : Int) then bif g_Vs_l20Rd_odd_0 r0 (IntKind.wrap IntKind.i64 (g_Vs_l20Key_2 r0 r1 a2 + (1 : Int))) a2 then g_Vs_l20Key_0 r0 r1 a2 else g_Vs_l20Key_0 r0 r1 a2 else g_Vs_l20Key_0 r0 r1 a2
noncomputable def g_Vs_l20Write_1 (r0 : List Int) (r1 : Int) (a2 : Int) : Bool := bif g_pick r0 (g_Vs_l20Key_2 r0 r1 a2) (3 : Int) == (0 : Int) then bif g_Vs_l20Rd_odd_0 r0 (IntKind.wrap IntKind.i64 (g_Vs_l20Key_2 r0 r1 a2 + (1 : Int))) a2 then true else true else false
noncomputable def g_Vs_l20Write_2 (r0 : List Int) (r1 : Int) (a2 : Int) : List Int := bif g_pick r0 (g_Vs_l20Key_2 r0 r1 a2) (3 : Int) == (0 : Int) then bif g_Vs_l20Rd_odd_0 r0 (IntKind.wrap IntKind.i64 (g_Vs_l20Key_2 r0 r1 a2 + (1 : Int))) a2 then [(1 : Int)] else [] else g_Vs_l20Val_0 r0 (IntKind.wrap IntKind.i64 (g_Vs_l20Key_2 r0 r1 a2 + (1 : Int))) a2
noncomputable def g_Vs_l20Write_3 (r0 : List Int) (r1 : Int) (a2 : Int) : List Int := bif g_pick r0 (g_Vs_l20Key_2 r0 r1 a2) (3 : Int) == (0 : Int) then bif g_Vs_l20Rd_odd_0 r0 (IntKind.wrap IntKind.i64 (g_Vs_l20Key_2 r0 r1 a2 + (1 : Int))) a2 then r0 else r0 else r0
noncomputable def g_Vs_l20Write_4 (r0 : List Int) (r1 : Int) (a2 : Int) : Int := bif g_pick r0 (g_Vs_l20Key_2 r0 r1 a2) (3 : Int) == (0 : Int) then bif g_Vs_l20Rd_odd_0 r0 (IntKind.wrap IntKind.i64 (g_Vs_l20Key_2 r0 r1 a2 + (1 : Int))) a2 then g_Vs_l20Rd_odd_2 r0 (IntKind.wrap IntKind.i64 (g_Vs_l20Key_2 r0 r1 a2 + (1 : Int))) a2 else g_Vs_l20Rd_odd_2 r0 (IntKind.wrap IntKind.i64 (g_Vs_l20Key_2 r0 r1 a2 + (1 : Int))) a2 else g_Vs_l20Val_2 r0 (IntKind.wrap IntKind.i64 (g_Vs_l20Key_2 r0 r1 a2 + (1 : Int))) a2
noncomputable def Fs_l20Write : FSem := fun ys => match ys with
 | [.val true [.sl .any 5 (.int .u8) r0, .int .i64 r1], .val false [.int .i64 a2]] => some ((g_As_l20Write r0 r1 a2), .val true [.str (g_Vs_l20Write_0 r0 r1 a2), .bool (g_Vs_l20Write_1 r0 r1 a2), .sl .any 3 (.int .i64) (g_Vs_l20Write_2 r0 r1 a2)], [[.sl .any 5 (.int .u8) (g_Vs_l20Write_3 r0 r1 a2), .int .i64 (g_Vs_l20Write_4 r0 r1 a2)]])
 | _ => none
theorem vs_l20Write (r0 : List Int) (r1 : Int) (a2 : Int) : collapseH .fr Es_l20Write Os_l20Write_0 (execFn Es_l20Write Tryz.f140 mss_l20Write [.val true [.sl .any 5 (.int .u8) r0, .int .i64 r1], .val false [.int .i64 a2]]) = some ((g_As_l20Write r0 r1 a2), .val true [.str (g_Vs_l20Write_0 r0 r1 a2), .bool (g_Vs_l20Write_1 r0 r1 a2), .sl .any 3 (.int .i64) (g_Vs_l20Write_2 r0 r1 a2)], [[.sl .any 5 (.int .u8) (g_Vs_l20Write_3 r0 r1 a2), .int .i64 (g_Vs_l20Write_4 r0 r1 a2)]]) := by kernel_rfl
theorem ss_l20Write : Sound Tryz.prog 140 mss_l20Write Fs_l20Write := by
 refine fn_gen goods_l20Write (by kernel_rfl) .fr (fn := Tryz.f140) (c := (Tryz.f140.body.getD .skip)) (o := Os_l20Write_0) (k := 0) (by kernel_rfl) (by kernel_rfl) (by kernel_rfl) (by kernel_rfl) (by decide) ks_l20Write_0 ?_
 intro ys r outs h
 unfold Fs_l20Write at h
 split at h
 ·exact (vs_l20Write _ _ _).trans h
 ·cases h
noncomputable def mss_l20WriteR : List PM := mss_l20Write
theorem sames_l20Write (r0 : List Int) (r1 : Int) (a2 : Int) : g_Vs_l20Write_3 r0 r1 a2 = r0 := by
 unfold g_Vs_l20Write_3
 simp only [Bool.cond_self]
noncomputable def Fs_l20WriteR : FSem := fun ys => match ys with
 | [.val true [.sl .any 5 (.int .u8) r0, .int .i64 r1], .val false [.int .i64 a2]] => some ((g_As_l20Write r0 r1 a2), .val true [.str (g_Vs_l20Write_0 r0 r1 a2), .bool (g_Vs_l20Write_1 r0 r1 a2), .sl .any 3 (.int .i64) (g_Vs_l20Write_2 r0 r1 a2)], [[.sl .any 5 (.int .u8) r0, .int .i64 (g_Vs_l20Write_4 r0 r1 a2)]])
 | _ => none
theorem ss_l20WriteR : Sound Tryz.prog 140 mss_l20WriteR Fs_l20WriteR := by
 refine ⟨ss_l20Write.fn, fun w S ψ ys vs r outs hF hh hg => ss_l20Write.calls w S ψ ys vs r outs (Eq.trans ?_ hF) hh hg⟩
 unfold Fs_l20WriteR at hF ⊢
 split at hF
 ·rename_i  r0 r1 a2
  show (some ((g_As_l20Write r0 r1 a2), .val true [.str (g_Vs_l20Write_0 r0 r1 a2), .bool (g_Vs_l20Write_1 r0 r1 a2), .sl .any 3 (.int .i64) (g_Vs_l20Write_2 r0 r1 a2)], [[.sl .any 5 (.int .u8) (g_Vs_l20Write_3 r0 r1 a2), .int .i64 (g_Vs_l20Write_4 r0 r1 a2)]]) : Option (Bool × RV × List (List Cell))) = _
  rw [sames_l20Write]
 ·cases hF
noncomputable def Es_l20Writes : Env where
 tt := mkTI Tryz.prog
 fn := fun f => match f with
  | 42 => some (mss_l20Rd_pick, FSem.wk mss_l20Rd_pick Fs_l20Rd_pick)
  | 43 => some (mss_l20Rd_oddR, FSem.wk mss_l20Rd_oddR Fs_l20Rd_oddR)
  | 140 => some (mss_l20WriteR, FSem.wk mss_l20WriteR Fs_l20WriteR)
  | _ => none
 bxf := fun _ => none
 mv := []
 keep := fun b => match b with
  | 0 => [(0, false), (1, false), (5, true), (6, false)]
  | _ => []
 keepB := fun b => match b with
  | 0 => [(0, false)]
  | _ => []
 keepX := fun b => match b with
  | 0 => [(0, false), (1, false), (5, true)]
  | _ => []
 keepXB := fun b => match b with
  | 0 => [(0, false)]
  | _ => []
theorem goodFs_l20Writes : ∀ f ms F, Es_l20Writes.fn f = some (ms, F) → Sound Tryz.prog f ms F := fun f ms F h => by
 unfold Es_l20Writes at h
 dsimp only at h
 split at h
 ·injection h with h; injection h with e1 e2; subst e1 e2; exact Sound.wk ss_l20Rd_pick
 ·injection h with h; injection h with e1 e2; subst e1 e2; exact Sound.wk ss_l20Rd_oddR
 ·injection h with h; injection h with e1 e2; subst e1 e2; exact Sound.wk ss_l20WriteR
 ·cases h
theorem goodBs_l20Writes : ∀ f ms F, Es_l20Writes.bxf f = some (ms, F) → SoundB Tryz.prog f ms F := fun f ms F h => by cases h
theorem goods_l20Writes : Good Tryz.prog Es_l20Writes := ⟨rfl, goodFs_l20Writes, goodBs_l20Writes⟩
noncomputable def Os_l20Writes_0 : Orc := fun _ _ => none
noncomputable def mss_l20Writes : List PM := [.bx, .own]
noncomputable def lss_l20Writes : List (Nat × Code) := loopsAll 0 (Tryz.f89.body.getD .skip)
noncomputable def cs_l20Writes_0 : Code := (loopOf 0 (Tryz.f89.body.getD .skip)).getD .skip
theorem lseqs_l20Writes : lss_l20Writes = [(0, cs_l20Writes_0)] := by kernel_rfl
theorem ms_l20Writes_0 : ∀ p, p ∈ lss_l20Writes → p.1 = 0 → p.2 = cs_l20Writes_0 := by
 intro p hp
 rw [lseqs_l20Writes] at hp
 simp only [List.mem_cons, List.not_mem_nil, or_false] at hp
 subst hp; simp
theorem ks_l20Writes_0 : OrcOk Es_l20Writes Os_l20Writes_0 lss_l20Writes 0 := orcOk_none
noncomputable def hs_l20Writes_0 (y0 : Int) (y1 : List (ByteArray × (Bool × (List Int)))) (y2 : Int) (y3 : List Int) (y4 : Int) : List (Pl × LV) := [(.T 0, .t (.val false [.ptr 0 0 0])), (.T 1, .t (.val false [.int .i64 y0])), (.T 5, .t (.val false [.row 5 0 0])), (.R 5 0, .r 0 (some ⟨false, .non, false, 39, (.pair .str (.pair .bool (.sl 3 (.int .i64)))), y1⟩)), (.T 6, .t (.val false [.int .i64 y2])), (.B 0, .b 0 false [.sl .any 5 (.int .u8) y3, .int .i64 y4])]
noncomputable def g_Ss_l20Writes_0 (y0 : Int) (y3 : List Int) : ((List (ByteArray × (Bool × (List Int)))) × Int × Int) → RT ((List (ByteArray × (Bool × (List Int)))) × Int × Int) (((List (ByteArray × (Bool × (List Int)))) × Int))
 | (y1, y2, y4) => .br (true) (.br (decide (y2 > (0 : Int))) (.br (g_As_l20Write y3 y4 (0 : Int)) (.br (decide ((List.length y1 + List.length [(g_Vs_l20Write_0 y3 y4 (0 : Int), g_Vs_l20Write_1 y3 y4 (0 : Int), g_Vs_l20Write_2 y3 y4 (0 : Int))]) * nat_lit 48 ≤ nat_lit 140737488355328 ∧ List.length y1 + List.length [(g_Vs_l20Write_0 y3 y4 (0 : Int), g_Vs_l20Write_1 y3 y4 (0 : Int), g_Vs_l20Write_2 y3 y4 (0 : Int))] ≤ nat_lit 9223372036854775807)) (.br (true) (.go ((y1 ++ [(g_Vs_l20Write_0 y3 y4 (0 : Int), g_Vs_l20Write_1 y3 y4 (0 : Int), g_Vs_l20Write_2 y3 y4 (0 : Int))], IntKind.wrap IntKind.i64 (y2 - (1 : Int)), g_Vs_l20Write_4 y3 y4 (0 : Int)))) (.bad)) (.bad)) (.bad)) (.out ((y1, y4)))) (.bad)
noncomputable def g_Ls_l20Writes_0 (y0 : Int) (y3 : List Int) (x : (List (ByteArray × (Bool × (List Int)))) × Int × Int) : Option (((List (ByteArray × (Bool × (List Int)))) × Int)) := loopO (g_Ss_l20Writes_0 y0 y3) x
noncomputable def xs_l20Writes_0 (y0 : Int) (y3 : List Int) : (((List (ByteArray × (Bool × (List Int)))) × Int)) → Ex × List (Pl × LV) := fun r => (.exit 0, [(.T 0, .t (.val false [.ptr 0 0 0])), (.T 1, .t (.val false [.int .i64 y0])), (.T 5, .t (.val false [.row 5 0 0])), (.R 5 0, .r 0 (some ⟨false, .non, false, 39, (.pair .str (.pair .bool (.sl 3 (.int .i64)))), r.1⟩)), (.B 0, .b 0 false [.sl .any 5 (.int .u8) y3, .int .i64 r.2])])
noncomputable def Os_l20Writes_1 : Orc := fun b h => match b, h with
 | 0, [(.T 0, .t (.val false [.ptr 0 0 0])), (.T 1, .t (.val false [.int .i64 y0])), (.T 5, .t (.val false [.row 5 0 0])), (.R 5 0, .r 0 (some ⟨false, .non, false, 39, (.pair .str (.pair .bool (.sl 3 (.int .i64)))), y1⟩)), (.T 6, .t (.val false [.int .i64 y2])), (.B 0, .b 0 false [.sl .any 5 (.int .u8) y3, .int .i64 y4])] => some (okO (g_Ls_l20Writes_0 y0 y3 (y1, y2, y4)), (.leaf (.exit 0) [(.T 0, .t (.val false [.ptr 0 0 0])), (.T 1, .t (.val false [.int .i64 y0])), (.T 5, .t (.val false [.row 5 0 0])), (.R 5 0, .r 0 (some ⟨false, .non, false, 39, (.pair .str (.pair .bool (.sl 3 (.int .i64)))), (valO (g_Ls_l20Writes_0 y0 y3 (y1, y2, y4))).1⟩)), (.B 0, .b 0 false [.sl .any 5 (.int .u8) y3, .int .i64 (valO (g_Ls_l20Writes_0 y0 y3 (y1, y2, y4))).2])]))
 | b, h => Os_l20Writes_0 b h
theorem bs_l20Writes_0 (y0 : Int) (y1 : List (ByteArray × (Bool × (List Int)))) (y2 : Int) (y3 : List Int) (y4 : Int) : Tr.bt Es_l20Writes Os_l20Writes_0 (exec Es_l20Writes 0 cs_l20Writes_0 (St.of (hs_l20Writes_0 y0 y1 y2 y3 y4)) (leafRd Es_l20Writes 0)) = (g_Ss_l20Writes_0 y0 y3 (y1, y2, y4)).bt (fun ((y1, y2, y4) : (List (ByteArray × (Bool × (List Int)))) × Int × Int) => (hs_l20Writes_0 y0 y1 y2 y3 y4)) (xs_l20Writes_0 y0 y3) := by kernel_rfl
theorem ks_l20Writes_1 : OrcOk Es_l20Writes Os_l20Writes_1 lss_l20Writes 1 := orc_add ks_l20Writes_0 (fun n p hp h ex h' ho => by
 obtain ⟨b, c⟩ := p
 obtain ⟨xt, h1, h2⟩ := ho
 have h1 : Os_l20Writes_1 b h = some (true, xt) := h1
 unfold Os_l20Writes_1 at h1
 split at h1
 ·injection h1 with h1
  injection h1 with e1 e2
  subst e2
  have hc : c = cs_l20Writes_0 := ms_l20Writes_0 _ hp rfl
  subst hc
  right
  rename_i y0 y1 y2 y3 y4
  have key := LT_step ks_l20Writes_0 hp (fun q hq => loopsAll_in _ _ _ _ hp hq) (fun ((y1, y2, y4) : (List (ByteArray × (Bool × (List Int)))) × Int × Int) => (hs_l20Writes_0 y0 y1 y2 y3 y4)) (xs_l20Writes_0 y0 y3) (g_Ss_l20Writes_0 y0 y3) (fun x => by first | exact bs_l20Writes_0 y0 x.1 x.2.1 y3 x.2.2) n (x := (y1, y2, y4)) (okO_some e1)
  have hx : ∀ r, XT.sel (.leaf (.exit 0) [(.T 0, .t (.val false [.ptr 0 0 0])), (.T 1, .t (.val false [.int .i64 y0])), (.T 5, .t (.val false [.row 5 0 0])), (.R 5 0, .r 0 (some ⟨false, .non, false, 39, (.pair .str (.pair .bool (.sl 3 (.int .i64)))), r.1⟩)), (.B 0, .b 0 false [.sl .any 5 (.int .u8) y3, .int .i64 r.2])]) = xs_l20Writes_0 y0 y3 r := fun r => by first | rfl | (rcases r with r | r <;> rfl) | (rcases r with r | r | r <;> rfl) | (rcases r with r | r | r | r <;> rfl)
  have h3 := (hx (valO (g_Ls_l20Writes_0 y0 y3 (y1, y2, y4)))).symm.trans h2
  have e3 := congrArg Prod.fst h3
  have e4 := congrArg Prod.snd h3
  simp only at e3 e4
  rw [← e3, ← e4]
  exact key
 ·exact .inl ⟨xt, h1, h2⟩)
noncomputable def g_As_l20Writes (r0 : List Int) (r1 : Int) (a2 : Int) : Bool := g_pickA r0 r1 (6 : Int) && (okO (g_Ls_l20Writes_0 a2 r0 ([], g_pick r0 r1 (6 : Int), IntKind.wrap IntKind.i64 (r1 + (1 : Int)))) && (g_As_l20Rd_odd r0 (valO (g_Ls_l20Writes_0 a2 r0 ([], g_pick r0 r1 (6 : Int), IntKind.wrap IntKind.i64 (r1 + (1 : Int))))).2 a2 && (!g_Vs_l20Rd_odd_0 r0 (valO (g_Ls_l20Writes_0 a2 r0 ([], g_pick r0 r1 (6 : Int), IntKind.wrap IntKind.i64 (r1 + (1 : Int))))).2 a2 || g_As_l20Write r0 (g_Vs_l20Rd_odd_2 r0 (valO (g_Ls_l20Writes_0 a2 r0 ([], g_pick r0 r1 (6 : Int), IntKind.wrap IntKind.i64 (r1 + (1 : Int))))).2 a2) (2 : Int) && decide ((List.length (valO (g_Ls_l20Writes_0 a2 r0 ([], g_pick r0 r1 (6 : Int), IntKind.wrap IntKind.i64 (r1 + (1 : Int))))).1 + List.length [(g_Vs_l20Write_0 r0 (g_Vs_l20Rd_odd_2 r0 (valO (g_Ls_l20Writes_0 a2 r0 ([], g_pick r0 r1 (6 : Int), IntKind.wrap IntKind.i64 (r1 + (1 : Int))))).2 a2) (2 : Int), g_Vs_l20Write_1 r0 (g_Vs_l20Rd_odd_2 r0 (valO (g_Ls_l20Writes_0 a2 r0 ([], g_pick r0 r1 (6 : Int), IntKind.wrap IntKind.i64 (r1 + (1 : Int))))).2 a2) (2 : Int), g_Vs_l20Write_2 r0 (g_Vs_l20Rd_odd_2 r0 (valO (g_Ls_l20Writes_0 a2 r0 ([], g_pick r0 r1 (6 : Int), IntKind.wrap IntKind.i64 (r1 + (1 : Int))))).2 a2) (2 : Int))]) * nat_lit 48 ≤ nat_lit 140737488355328 ∧ List.length (valO (g_Ls_l20Writes_0 a2 r0 ([], g_pick r0 r1 (6 : Int), IntKind.wrap IntKind.i64 (r1 + (1 : Int))))).1 + List.length [(g_Vs_l20Write_0 r0 (g_Vs_l20Rd_odd_2 r0 (valO (g_Ls_l20Writes_0 a2 r0 ([], g_pick r0 r1 (6 : Int), IntKind.wrap IntKind.i64 (r1 + (1 : Int))))).2 a2) (2 : Int), g_Vs_l20Write_1 r0 (g_Vs_l20Rd_odd_2 r0 (valO (g_Ls_l20Writes_0 a2 r0 ([], g_pick r0 r1 (6 : Int), IntKind.wrap IntKind.i64 (r1 + (1 : Int))))).2 a2) (2 : Int), g_Vs_l20Write_2 r0 (g_Vs_l20Rd_odd_2 r0 (valO (g_Ls_l20Writes_0 a2 r0 ([], g_pick r0 r1 (6 : Int), IntKind.wrap IntKind.i64 (r1 + (1 : Int))))).2 a2) (2 : Int))] ≤ nat_lit 9223372036854775807))))
noncomputable def g_Vs_l20Writes_0 (r0 : List Int) (r1 : Int) (a2 : Int) : List (ByteArray × (Bool × (List Int))) := bif g_Vs_l20Rd_odd_0 r0 (valO (g_Ls_l20Writes_0 a2 r0 ([], g_pick r0 r1 (6 : Int), IntKind.wrap IntKind.i64 (r1 + (1 : Int))))).2 a2 then (valO (g_Ls_l20Writes_0 a2 r0 ([], g_pick r0 r1 (6 : Int), IntKind.wrap IntKind.i64 (r1 + (1 : Int))))).1 ++ [(g_Vs_l20Write_0 r0 (g_Vs_l20Rd_odd_2 r0 (valO (g_Ls_l20Writes_0 a2 r0 ([], g_pick r0 r1 (6 : Int), IntKind.wrap IntKind.i64 (r1 + (1 : Int))))).2 a2) (2 : Int), g_Vs_l20Write_1 r0 (g_Vs_l20Rd_odd_2 r0 (valO (g_Ls_l20Writes_0 a2 r0 ([], g_pick r0 r1 (6 : Int), IntKind.wrap IntKind.i64 (r1 + (1 : Int))))).2 a2) (2 : Int), g_Vs_l20Write_2 r0 (g_Vs_l20Rd_odd_2 r0 (valO (g_Ls_l20Writes_0 a2 r0 ([], g_pick r0 r1 (6 : Int), IntKind.wrap IntKind.i64 (r1 + (1 : Int))))).2 a2) (2 : Int))] else (valO (g_Ls_l20Writes_0 a2 r0 ([], g_pick r0 r1 (6 : Int), IntKind.wrap IntKind.i64 (r1 + (1 : Int))))).1
noncomputable def g_Vs_l20Writes_1 (r0 : List Int) (r1 : Int) (a2 : Int) : List Int := bif g_Vs_l20Rd_odd_0 r0 (valO (g_Ls_l20Writes_0 a2 r0 ([], g_pick r0 r1 (6 : Int), IntKind.wrap IntKind.i64 (r1 + (1 : Int))))).2 a2 then r0 else r0
noncomputable def g_Vs_l20Writes_2 (r0 : List Int) (r1 : Int) (a2 : Int) : Int := bif g_Vs_l20Rd_odd_0 r0 (valO (g_Ls_l20Writes_0 a2 r0 ([], g_pick r0 r1 (6 : Int), IntKind.wrap IntKind.i64 (r1 + (1 : Int))))).2 a2 then g_Vs_l20Write_4 r0 (g_Vs_l20Rd_odd_2 r0 (valO (g_Ls_l20Writes_0 a2 r0 ([], g_pick r0 r1 (6 : Int), IntKind.wrap IntKind.i64 (r1 + (1 : Int))))).2 a2) (2 : Int) else g_Vs_l20Rd_odd_2 r0 (valO (g_Ls_l20Writes_0 a2 r0 ([], g_pick r0 r1 (6 : Int), IntKind.wrap IntKind.i64 (r1 + (1 : Int))))).2 a2
noncomputable def Fs_l20Writes : FSem := fun ys => match ys with
 | [.val true [.sl .any 5 (.int .u8) r0, .int .i64 r1], .val false [.int .i64 a2]] => some ((g_As_l20Writes r0 r1 a2), .val false [.own .any false 39 (.pair .str (.pair .bool (.sl 3 (.int .i64)))) (g_Vs_l20Writes_0 r0 r1 a2)], [[.sl .any 5 (.int .u8) (g_Vs_l20Writes_1 r0 r1 a2), .int .i64 (g_Vs_l20Writes_2 r0 r1 a2)]])
 | _ => none
theorem vs_l20Writes (r0 : List Int) (r1 : Int) (a2 : Int) : collapseH .std Es_l20Writes Os_l20Writes_1 (execFn Es_l20Writes Tryz.f89 mss_l20Writes [.val true [.sl .any 5 (.int .u8) r0, .int .i64 r1], .val false [.int .i64 a2]]) = some ((g_As_l20Writes r0 r1 a2), .val false [.own .any false 39 (.pair .str (.pair .bool (.sl 3 (.int .i64)))) (g_Vs_l20Writes_0 r0 r1 a2)], [[.sl .any 5 (.int .u8) (g_Vs_l20Writes_1 r0 r1 a2), .int .i64 (g_Vs_l20Writes_2 r0 r1 a2)]]) := by kernel_rfl
theorem ss_l20Writes : Sound Tryz.prog 89 mss_l20Writes Fs_l20Writes := by
 refine fn_gen goods_l20Writes (by kernel_rfl) .std (fn := Tryz.f89) (c := (Tryz.f89.body.getD .skip)) (o := Os_l20Writes_1) (k := 1) (by kernel_rfl) (by kernel_rfl) (by kernel_rfl) (by kernel_rfl) (by decide) ks_l20Writes_1 ?_
 intro ys r outs h
 unfold Fs_l20Writes at h
 split at h
 ·exact (vs_l20Writes _ _ _).trans h
 ·cases h
noncomputable def mss_l20WritesR : List PM := mss_l20Writes
theorem sames_l20Writes (r0 : List Int) (r1 : Int) (a2 : Int) : g_Vs_l20Writes_1 r0 r1 a2 = r0 := by
 unfold g_Vs_l20Writes_1
 simp only [Bool.cond_self]
noncomputable def Fs_l20WritesR : FSem := fun ys => match ys with
 | [.val true [.sl .any 5 (.int .u8) r0, .int .i64 r1], .val false [.int .i64 a2]] => some ((g_As_l20Writes r0 r1 a2), .val false [.own .any false 39 (.pair .str (.pair .bool (.sl 3 (.int .i64)))) (g_Vs_l20Writes_0 r0 r1 a2)], [[.sl .any 5 (.int .u8) r0, .int .i64 (g_Vs_l20Writes_2 r0 r1 a2)]])
 | _ => none
theorem ss_l20WritesR : Sound Tryz.prog 89 mss_l20WritesR Fs_l20WritesR := by
 refine ⟨ss_l20Writes.fn, fun w S ψ ys vs r outs hF hh hg => ss_l20Writes.calls w S ψ ys vs r outs (Eq.trans ?_ hF) hh hg⟩
 unfold Fs_l20WritesR at hF ⊢
 split at hF
 ·rename_i  r0 r1 a2
  show (some ((g_As_l20Writes r0 r1 a2), .val false [.own .any false 39 (.pair .str (.pair .bool (.sl 3 (.int .i64)))) (g_Vs_l20Writes_0 r0 r1 a2)], [[.sl .any 5 (.int .u8) (g_Vs_l20Writes_1 r0 r1 a2), .int .i64 (g_Vs_l20Writes_2 r0 r1 a2)]]) : Option (Bool × RV × List (List Cell))) = _
  rw [sames_l20Writes]
 ·cases hF
noncomputable def Es_l20Sto : Env where
 tt := mkTI Tryz.prog
 fn := fun f => match f with
  | 42 => some (mss_l20Rd_pick, FSem.wk mss_l20Rd_pick Fs_l20Rd_pick)
  | 43 => some (mss_l20Rd_oddR, FSem.wk mss_l20Rd_oddR Fs_l20Rd_oddR)
  | 67 => some (mss_StoDo, FSem.wk mss_StoDo Fs_StoDo)
  | 89 => some (mss_l20WritesR, FSem.wk mss_l20WritesR Fs_l20WritesR)
  | 90 => some (mss_l20ValR, FSem.wk mss_l20ValR Fs_l20ValR)
  | _ => none
 bxf := fun _ => none
 mv := []
 keep := fun b => match b with
  | 1 => [(0, false), (4, false), (5, false)]
  | _ => []
 keepB := fun b => match b with
  | 1 => [(4, false), (5, false), (0, false)]
  | _ => []
 keepX := fun b => match b with
  | 1 => [(0, false), (4, false), (5, false)]
  | _ => []
 keepXB := fun b => match b with
  | 1 => [(4, false), (5, false), (0, false)]
  | _ => []
theorem goodFs_l20Sto : ∀ f ms F, Es_l20Sto.fn f = some (ms, F) → Sound Tryz.prog f ms F := fun f ms F h => by
 unfold Es_l20Sto at h
 dsimp only at h
 split at h
 ·injection h with h; injection h with e1 e2; subst e1 e2; exact Sound.wk ss_l20Rd_pick
 ·injection h with h; injection h with e1 e2; subst e1 e2; exact Sound.wk ss_l20Rd_oddR
 ·injection h with h; injection h with e1 e2; subst e1 e2; exact Sound.wk ss_StoDo
 ·injection h with h; injection h with e1 e2; subst e1 e2; exact Sound.wk ss_l20WritesR
 ·injection h with h; injection h with e1 e2; subst e1 e2; exact Sound.wk ss_l20ValR
 ·cases h
theorem goodBs_l20Sto : ∀ f ms F, Es_l20Sto.bxf f = some (ms, F) → SoundB Tryz.prog f ms F := fun f ms F h => by cases h
theorem goods_l20Sto : Good Tryz.prog Es_l20Sto := ⟨rfl, goodFs_l20Sto, goodBs_l20Sto⟩
noncomputable def Os_l20Sto_0 : Orc := fun _ _ => none
noncomputable def mss_l20Sto : List PM := [.bx, .own]
noncomputable def lss_l20Sto : List (Nat × Code) := loopsAll 0 (Tryz.f44.body.getD .skip)
noncomputable def cs_l20Sto_1 : Code := (loopOf 1 (Tryz.f44.body.getD .skip)).getD .skip
theorem lseqs_l20Sto : lss_l20Sto = [(1, cs_l20Sto_1)] := by kernel_rfl
theorem ms_l20Sto_1 : ∀ p, p ∈ lss_l20Sto → p.1 = 1 → p.2 = cs_l20Sto_1 := by
 intro p hp
 rw [lseqs_l20Sto] at hp
 simp only [List.mem_cons, List.not_mem_nil, or_false] at hp
 subst hp; simp
theorem ks_l20Sto_0 : OrcOk Es_l20Sto Os_l20Sto_0 lss_l20Sto 0 := orcOk_none
noncomputable def hs_l20Sto_1 (y0 : List (ByteArray × (List Int))) (y1 : List (ByteArray × (List Int))) (y2 : List Int) (y3 : Int) : List (Pl × LV) := [(.T 0, .t (.val false [.ptr 0 0 0])), (.T 4, .t (.val false [.ptr 4 0 0])), (.T 5, .t (.val false [.ptr 5 0 0])), (.B 4, .b 0 false [.row 4 1 0]), (.R 4 1, .r 0 (some ⟨false, .any, true, 49, (.pair .str (.sl 3 (.int .i64))), y0⟩)), (.B 5, .b 0 false [.row 5 1 0]), (.R 5 1, .r 0 (some ⟨false, .any, true, 49, (.pair .str (.sl 3 (.int .i64))), y1⟩)), (.B 0, .b 0 false [.sl .any 5 (.int .u8) y2, .int .i64 y3])]
noncomputable def g_Ss_l20Sto_1 (y0 : List (ByteArray × (List Int))) (y2 : List Int) (y3 : Int) : ((List (ByteArray × (List Int)))) → RT ((List (ByteArray × (List Int)))) (((List (ByteArray × (List Int)))))
 | y1 => .br (true) (.br (decide ((↑(List.length y1) : Int) ≤ (40 : Int))) (.br (decide ((List.length y1 + nat_lit 1) * nat_lit 40 ≤ nat_lit 140737488355328 ∧ List.length y1 + nat_lit 1 ≤ nat_lit 9223372036854775807)) (.go (y1 ++ [(lit [(122 : Nat), (57 : Nat)], [(1 : Int)])])) (.bad)) (.out (y1))) (.bad)
noncomputable def g_Ls_l20Sto_1 (y0 : List (ByteArray × (List Int))) (y2 : List Int) (y3 : Int) (x : (List (ByteArray × (List Int)))) : Option (((List (ByteArray × (List Int))))) := loopO (g_Ss_l20Sto_1 y0 y2 y3) x
noncomputable def xs_l20Sto_1 (y0 : List (ByteArray × (List Int))) (y2 : List Int) (y3 : Int) : (((List (ByteArray × (List Int))))) → Ex × List (Pl × LV) := fun r => (.exit 1, [(.T 0, .t (.val false [.ptr 0 0 0])), (.T 4, .t (.val false [.ptr 4 0 0])), (.T 5, .t (.val false [.ptr 5 0 0])), (.B 4, .b 0 false [.row 4 1 0]), (.R 4 1, .r 0 (some ⟨false, .any, true, 49, (.pair .str (.sl 3 (.int .i64))), y0⟩)), (.B 5, .b 0 false [.row 5 1 0]), (.R 5 1, .r 0 (some ⟨false, .any, true, 49, (.pair .str (.sl 3 (.int .i64))), r⟩)), (.B 0, .b 0 false [.sl .any 5 (.int .u8) y2, .int .i64 y3])])
noncomputable def Os_l20Sto_1 : Orc := fun b h => match b, h with
 | 1, [(.T 0, .t (.val false [.ptr 0 0 0])), (.T 4, .t (.val false [.ptr 4 0 0])), (.T 5, .t (.val false [.ptr 5 0 0])), (.B 4, .b 0 false [.row 4 1 0]), (.R 4 1, .r 0 (some ⟨false, .any, true, 49, (.pair .str (.sl 3 (.int .i64))), y0⟩)), (.B 5, .b 0 false [.row 5 1 0]), (.R 5 1, .r 0 (some ⟨false, .any, true, 49, (.pair .str (.sl 3 (.int .i64))), y1⟩)), (.B 0, .b 0 false [.sl .any 5 (.int .u8) y2, .int .i64 y3])] => some (okO (g_Ls_l20Sto_1 y0 y2 y3 y1), (.leaf (.exit 1) [(.T 0, .t (.val false [.ptr 0 0 0])), (.T 4, .t (.val false [.ptr 4 0 0])), (.T 5, .t (.val false [.ptr 5 0 0])), (.B 4, .b 0 false [.row 4 1 0]), (.R 4 1, .r 0 (some ⟨false, .any, true, 49, (.pair .str (.sl 3 (.int .i64))), y0⟩)), (.B 5, .b 0 false [.row 5 1 0]), (.R 5 1, .r 0 (some ⟨false, .any, true, 49, (.pair .str (.sl 3 (.int .i64))), (valO (g_Ls_l20Sto_1 y0 y2 y3 y1))⟩)), (.B 0, .b 0 false [.sl .any 5 (.int .u8) y2, .int .i64 y3])]))
 | b, h => Os_l20Sto_0 b h
theorem bs_l20Sto_1 (y0 : List (ByteArray × (List Int))) (y1 : List (ByteArray × (List Int))) (y2 : List Int) (y3 : Int) : Tr.bt Es_l20Sto Os_l20Sto_0 (exec Es_l20Sto 1 cs_l20Sto_1 (St.of (hs_l20Sto_1 y0 y1 y2 y3)) (leafRd Es_l20Sto 1)) = (g_Ss_l20Sto_1 y0 y2 y3 y1).bt (fun (y1 : (List (ByteArray × (List Int)))) => (hs_l20Sto_1 y0 y1 y2 y3)) (xs_l20Sto_1 y0 y2 y3) := by kernel_rfl
theorem ks_l20Sto_1 : OrcOk Es_l20Sto Os_l20Sto_1 lss_l20Sto 1 := orc_add ks_l20Sto_0 (fun n p hp h ex h' ho => by
 obtain ⟨b, c⟩ := p
 obtain ⟨xt, h1, h2⟩ := ho
 have h1 : Os_l20Sto_1 b h = some (true, xt) := h1
 unfold Os_l20Sto_1 at h1
 split at h1
 ·injection h1 with h1
  injection h1 with e1 e2
  subst e2
  have hc : c = cs_l20Sto_1 := ms_l20Sto_1 _ hp rfl
  subst hc
  right
  rename_i y0 y1 y2 y3
  have key := LT_step ks_l20Sto_0 hp (fun q hq => loopsAll_in _ _ _ _ hp hq) (fun (y1 : (List (ByteArray × (List Int)))) => (hs_l20Sto_1 y0 y1 y2 y3)) (xs_l20Sto_1 y0 y2 y3) (g_Ss_l20Sto_1 y0 y2 y3) (fun x => by first | exact bs_l20Sto_1 y0 x y2 y3) n (x := y1) (okO_some e1)
  have hx : ∀ r, XT.sel (.leaf (.exit 1) [(.T 0, .t (.val false [.ptr 0 0 0])), (.T 4, .t (.val false [.ptr 4 0 0])), (.T 5, .t (.val false [.ptr 5 0 0])), (.B 4, .b 0 false [.row 4 1 0]), (.R 4 1, .r 0 (some ⟨false, .any, true, 49, (.pair .str (.sl 3 (.int .i64))), y0⟩)), (.B 5, .b 0 false [.row 5 1 0]), (.R 5 1, .r 0 (some ⟨false, .any, true, 49, (.pair .str (.sl 3 (.int .i64))), r⟩)), (.B 0, .b 0 false [.sl .any 5 (.int .u8) y2, .int .i64 y3])]) = xs_l20Sto_1 y0 y2 y3 r := fun r => by first | rfl | (rcases r with r | r <;> rfl) | (rcases r with r | r | r <;> rfl) | (rcases r with r | r | r | r <;> rfl)
  have h3 := (hx (valO (g_Ls_l20Sto_1 y0 y2 y3 y1))).symm.trans h2
  have e3 := congrArg Prod.fst h3
  have e4 := congrArg Prod.snd h3
  simp only at e3 e4
  rw [← e3, ← e4]
  exact key
 ·exact .inl ⟨xt, h1, h2⟩)
noncomputable def g_As_l20Sto (r0 : List Int) (r1 : Int) (a2 : Int) : Bool := g_As_l20Writes r0 r1 (0 : Int) && (g_As_l20Writes r0 (g_Vs_l20Writes_2 r0 r1 (0 : Int)) (0 : Int) && (decide ((List.length (g_Vs_l20Writes_0 r0 r1 (0 : Int)) + List.length (g_Vs_l20Writes_0 r0 (g_Vs_l20Writes_2 r0 r1 (0 : Int)) (0 : Int))) * nat_lit 48 ≤ nat_lit 140737488355328 ∧ List.length (g_Vs_l20Writes_0 r0 r1 (0 : Int)) + List.length (g_Vs_l20Writes_0 r0 (g_Vs_l20Writes_2 r0 r1 (0 : Int)) (0 : Int)) ≤ nat_lit 9223372036854775807) && (g_As_StoDo [] (g_Vs_l20Writes_0 r0 r1 (0 : Int) ++ g_Vs_l20Writes_0 r0 (g_Vs_l20Writes_2 r0 r1 (0 : Int)) (0 : Int)) && (g_As_l20Rd_odd r0 (g_Vs_l20Writes_2 r0 (g_Vs_l20Writes_2 r0 r1 (0 : Int)) (0 : Int)) a2 && (!g_Vs_l20Rd_odd_0 r0 (g_Vs_l20Writes_2 r0 (g_Vs_l20Writes_2 r0 r1 (0 : Int)) (0 : Int)) a2 || g_pickA r0 (g_Vs_l20Rd_odd_2 r0 (g_Vs_l20Writes_2 r0 (g_Vs_l20Writes_2 r0 r1 (0 : Int)) (0 : Int)) a2) (3 : Int) && bif g_pick r0 (g_Vs_l20Rd_odd_2 r0 (g_Vs_l20Writes_2 r0 (g_Vs_l20Writes_2 r0 r1 (0 : Int)) (0 : Int)) a2) (3 : Int) == (0 : Int) then decide ((List.length (g_Vs_StoDo_0 [] (g_Vs_l20Writes_0 r0 r1 (0 : Int) ++ g_Vs_l20Writes_0 r0 (g_Vs_l20Writes_2 r0 r1 (0 : Int)) (0 : Int))) + nat_lit 1) * nat_lit 40 ≤ nat_lit 140737488355328 ∧ List.length (g_Vs_StoDo_0 [] (g_Vs_l20Writes_0 r0 r1 (0 : Int) ++ g_Vs_l20Writes_0 r0 (g_Vs_l20Writes_2 r0 r1 (0 : Int)) (0 : Int))) + nat_lit 1 ≤ nat_lit 9223372036854775807) else bif g_pick r0 (g_Vs_l20Rd_odd_2 r0 (g_Vs_l20Writes_2 r0 (g_Vs_l20Writes_2 r0 r1 (0 : Int)) (0 : Int)) a2) (3 : Int) == (1 : Int) then g_As_l20Val r0 (IntKind.wrap IntKind.i64 (g_Vs_l20Rd_odd_2 r0 (g_Vs_l20Writes_2 r0 (g_Vs_l20Writes_2 r0 r1 (0 : Int)) (0 : Int)) a2 + (1 : Int))) (1 : Int) && decide ((List.length (g_Vs_StoDo_0 [] (g_Vs_l20Writes_0 r0 r1 (0 : Int) ++ g_Vs_l20Writes_0 r0 (g_Vs_l20Writes_2 r0 r1 (0 : Int)) (0 : Int))) + List.length [(lit [(122 : Nat), (57 : Nat)], g_Vs_l20Val_0 r0 (IntKind.wrap IntKind.i64 (g_Vs_l20Rd_odd_2 r0 (g_Vs_l20Writes_2 r0 (g_Vs_l20Writes_2 r0 r1 (0 : Int)) (0 : Int)) a2 + (1 : Int))) (1 : Int))]) * nat_lit 40 ≤ nat_lit 140737488355328 ∧ List.length (g_Vs_StoDo_0 [] (g_Vs_l20Writes_0 r0 r1 (0 : Int) ++ g_Vs_l20Writes_0 r0 (g_Vs_l20Writes_2 r0 r1 (0 : Int)) (0 : Int))) + List.length [(lit [(122 : Nat), (57 : Nat)], g_Vs_l20Val_0 r0 (IntKind.wrap IntKind.i64 (g_Vs_l20Rd_odd_2 r0 (g_Vs_l20Writes_2 r0 (g_Vs_l20Writes_2 r0 r1 (0 : Int)) (0 : Int)) a2 + (1 : Int))) (1 : Int))] ≤ nat_lit 9223372036854775807) else okO (g_Ls_l20Sto_1 [] r0 (IntKind.wrap IntKind.i64 (g_Vs_l20Rd_odd_2 r0 (g_Vs_l20Writes_2 r0 (g_Vs_l20Writes_2 r0 r1 (0 : Int)) (0 : Int)) a2 + (1 : Int))) (g_Vs_StoDo_0 [] (g_Vs_l20Writes_0 r0 r1 (0 : Int) ++ g_Vs_l20Writes_0 r0 (g_Vs_l20Writes_2 r0 r1 (0 : Int)) (0 : Int)))))))))
noncomputable def g_Vs_l20Sto_0 (r0 : List Int) (r1 : Int) (a2 : Int) : List (ByteArray × (List Int)) := bif g_Vs_l20Rd_odd_0 r0 (g_Vs_l20Writes_2 r0 (g_Vs_l20Writes_2 r0 r1 (0 : Int)) (0 : Int)) a2 then bif g_pick r0 (g_Vs_l20Rd_odd_2 r0 (g_Vs_l20Writes_2 r0 (g_Vs_l20Writes_2 r0 r1 (0 : Int)) (0 : Int)) a2) (3 : Int) == (0 : Int) then g_Vs_StoDo_0 [] (g_Vs_l20Writes_0 r0 r1 (0 : Int) ++ g_Vs_l20Writes_0 r0 (g_Vs_l20Writes_2 r0 r1 (0 : Int)) (0 : Int)) ++ [(lit [(97 : Nat), (48 : Nat)], [(1 : Int)])] else bif g_pick r0 (g_Vs_l20Rd_odd_2 r0 (g_Vs_l20Writes_2 r0 (g_Vs_l20Writes_2 r0 r1 (0 : Int)) (0 : Int)) a2) (3 : Int) == (1 : Int) then g_Vs_StoDo_0 [] (g_Vs_l20Writes_0 r0 r1 (0 : Int) ++ g_Vs_l20Writes_0 r0 (g_Vs_l20Writes_2 r0 r1 (0 : Int)) (0 : Int)) ++ [(lit [(122 : Nat), (57 : Nat)], g_Vs_l20Val_0 r0 (IntKind.wrap IntKind.i64 (g_Vs_l20Rd_odd_2 r0 (g_Vs_l20Writes_2 r0 (g_Vs_l20Writes_2 r0 r1 (0 : Int)) (0 : Int)) a2 + (1 : Int))) (1 : Int))] else valO (g_Ls_l20Sto_1 [] r0 (IntKind.wrap IntKind.i64 (g_Vs_l20Rd_odd_2 r0 (g_Vs_l20Writes_2 r0 (g_Vs_l20Writes_2 r0 r1 (0 : Int)) (0 : Int)) a2 + (1 : Int))) (g_Vs_StoDo_0 [] (g_Vs_l20Writes_0 r0 r1 (0 : Int) ++ g_Vs_l20Writes_0 r0 (g_Vs_l20Writes_2 r0 r1 (0 : Int)) (0 : Int)))) else g_Vs_StoDo_0 [] (g_Vs_l20Writes_0 r0 r1 (0 : Int) ++ g_Vs_l20Writes_0 r0 (g_Vs_l20Writes_2 r0 r1 (0 : Int)) (0 : Int))
noncomputable def g_Vs_l20Sto_1 (r0 : List Int) (r1 : Int) (a2 : Int) : List Int := bif g_Vs_l20Rd_odd_0 r0 (g_Vs_l20Writes_2 r0 (g_Vs_l20Writes_2 r0 r1 (0 : Int)) (0 : Int)) a2 then bif g_pick r0 (g_Vs_l20Rd_odd_2 r0 (g_Vs_l20Writes_2 r0 (g_Vs_l20Writes_2 r0 r1 (0 : Int)) (0 : Int)) a2) (3 : Int) == (0 : Int) then r0 else bif g_pick r0 (g_Vs_l20Rd_odd_2 r0 (g_Vs_l20Writes_2 r0 (g_Vs_l20Writes_2 r0 r1 (0 : Int)) (0 : Int)) a2) (3 : Int) == (1 : Int) then r0 else r0 else r0
noncomputable def g_Vs_l20Sto_2 (r0 : List Int) (r1 : Int) (a2 : Int) : Int := bif g_Vs_l20Rd_odd_0 r0 (g_Vs_l20Writes_2 r0 (g_Vs_l20Writes_2 r0 r1 (0 : Int)) (0 : Int)) a2 then bif g_pick r0 (g_Vs_l20Rd_odd_2 r0 (g_Vs_l20Writes_2 r0 (g_Vs_l20Writes_2 r0 r1 (0 : Int)) (0 : Int)) a2) (3 : Int) == (0 : Int) then IntKind.wrap IntKind.i64 (g_Vs_l20Rd_odd_2 r0 (g_Vs_l20Writes_2 r0 (g_Vs_l20Writes_2 r0 r1 (0 : Int)) (0 : Int)) a2 + (1 : Int)) else bif g_pick r0 (g_Vs_l20Rd_odd_2 r0 (g_Vs_l20Writes_2 r0 (g_Vs_l20Writes_2 r0 r1 (0 : Int)) (0 : Int)) a2) (3 : Int) == (1 : Int) then g_Vs_l20Val_2 r0 (IntKind.wrap IntKind.i64 (g_Vs_l20Rd_odd_2 r0 (g_Vs_l20Writes_2 r0 (g_Vs_l20Writes_2 r0 r1 (0 : Int)) (0 : Int)) a2 + (1 : Int))) (1 : Int) else IntKind.wrap IntKind.i64 (g_Vs_l20Rd_odd_2 r0 (g_Vs_l20Writes_2 r0 (g_Vs_l20Writes_2 r0 r1 (0 : Int)) (0 : Int)) a2 + (1 : Int)) else g_Vs_l20Rd_odd_2 r0 (g_Vs_l20Writes_2 r0 (g_Vs_l20Writes_2 r0 r1 (0 : Int)) (0 : Int)) a2
noncomputable def Fs_l20Sto : FSem := fun ys => match ys with
 | [.val true [.sl .any 5 (.int .u8) r0, .int .i64 r1], .val false [.int .i64 a2]] => some ((g_As_l20Sto r0 r1 a2), .val true [.sl .any 49 (.pair .str (.sl 3 (.int .i64))) (g_Vs_l20Sto_0 r0 r1 a2)], [[.sl .any 5 (.int .u8) (g_Vs_l20Sto_1 r0 r1 a2), .int .i64 (g_Vs_l20Sto_2 r0 r1 a2)]])
 | _ => none
theorem vs_l20Sto (r0 : List Int) (r1 : Int) (a2 : Int) : collapseH .fr Es_l20Sto Os_l20Sto_1 (execFn Es_l20Sto Tryz.f44 mss_l20Sto [.val true [.sl .any 5 (.int .u8) r0, .int .i64 r1], .val false [.int .i64 a2]]) = some ((g_As_l20Sto r0 r1 a2), .val true [.sl .any 49 (.pair .str (.sl 3 (.int .i64))) (g_Vs_l20Sto_0 r0 r1 a2)], [[.sl .any 5 (.int .u8) (g_Vs_l20Sto_1 r0 r1 a2), .int .i64 (g_Vs_l20Sto_2 r0 r1 a2)]]) := by kernel_rfl
theorem ss_l20Sto : Sound Tryz.prog 44 mss_l20Sto Fs_l20Sto := by
 refine fn_gen goods_l20Sto (by kernel_rfl) .fr (fn := Tryz.f44) (c := (Tryz.f44.body.getD .skip)) (o := Os_l20Sto_1) (k := 1) (by kernel_rfl) (by kernel_rfl) (by kernel_rfl) (by kernel_rfl) (by decide) ks_l20Sto_1 ?_
 intro ys r outs h
 unfold Fs_l20Sto at h
 split at h
 ·exact (vs_l20Sto _ _ _).trans h
 ·cases h
noncomputable def mss_l20StoR : List PM := mss_l20Sto
theorem sames_l20Sto (r0 : List Int) (r1 : Int) (a2 : Int) : g_Vs_l20Sto_1 r0 r1 a2 = r0 := by
 unfold g_Vs_l20Sto_1
 simp only [Bool.cond_self]
noncomputable def Fs_l20StoR : FSem := fun ys => match ys with
 | [.val true [.sl .any 5 (.int .u8) r0, .int .i64 r1], .val false [.int .i64 a2]] => some ((g_As_l20Sto r0 r1 a2), .val true [.sl .any 49 (.pair .str (.sl 3 (.int .i64))) (g_Vs_l20Sto_0 r0 r1 a2)], [[.sl .any 5 (.int .u8) r0, .int .i64 (g_Vs_l20Sto_2 r0 r1 a2)]])
 | _ => none
theorem ss_l20StoR : Sound Tryz.prog 44 mss_l20StoR Fs_l20StoR := by
 refine ⟨ss_l20Sto.fn, fun w S ψ ys vs r outs hF hh hg => ss_l20Sto.calls w S ψ ys vs r outs (Eq.trans ?_ hF) hh hg⟩
 unfold Fs_l20StoR at hF ⊢
 split at hF
 ·rename_i  r0 r1 a2
  show (some ((g_As_l20Sto r0 r1 a2), .val true [.sl .any 49 (.pair .str (.sl 3 (.int .i64))) (g_Vs_l20Sto_0 r0 r1 a2)], [[.sl .any 5 (.int .u8) (g_Vs_l20Sto_1 r0 r1 a2), .int .i64 (g_Vs_l20Sto_2 r0 r1 a2)]]) : Option (Bool × RV × List (List Cell))) = _
  rw [sames_l20Sto]
 ·cases hF
noncomputable def Es_DrawGloDo : Env where
 tt := mkTI Tryz.prog
 fn := fun f => match f with
  | 39 => some (mss_l20GloR, FSem.wk mss_l20GloR Fs_l20GloR)
  | 40 => some (mss_l20OpR, FSem.wk mss_l20OpR Fs_l20OpR)
  | 42 => some (mss_l20Rd_pick, FSem.wk mss_l20Rd_pick Fs_l20Rd_pick)
  | 43 => some (mss_l20Rd_oddR, FSem.wk mss_l20Rd_oddR Fs_l20Rd_oddR)
  | 44 => some (mss_l20StoR, FSem.wk mss_l20StoR Fs_l20StoR)
  | _ => none
 bxf := fun f => match f with
  | 38 => some (mss_l20Open, Fs_l20Open)
  | _ => none
 mv := []
 keep := fun _ => []
 keepB := fun _ => []
 keepX := fun _ => []
 keepXB := fun _ => []
theorem goodFs_DrawGloDo : ∀ f ms F, Es_DrawGloDo.fn f = some (ms, F) → Sound Tryz.prog f ms F := fun f ms F h => by
 unfold Es_DrawGloDo at h
 dsimp only at h
 split at h
 ·injection h with h; injection h with e1 e2; subst e1 e2; exact Sound.wk ss_l20GloR
 ·injection h with h; injection h with e1 e2; subst e1 e2; exact Sound.wk ss_l20OpR
 ·injection h with h; injection h with e1 e2; subst e1 e2; exact Sound.wk ss_l20Rd_pick
 ·injection h with h; injection h with e1 e2; subst e1 e2; exact Sound.wk ss_l20Rd_oddR
 ·injection h with h; injection h with e1 e2; subst e1 e2; exact Sound.wk ss_l20StoR
 ·cases h
theorem goodBs_DrawGloDo : ∀ f ms F, Es_DrawGloDo.bxf f = some (ms, F) → SoundB Tryz.prog f ms F := fun f ms F h => by
 unfold Es_DrawGloDo at h
 dsimp only at h
 split at h
 ·injection h with h; injection h with e1 e2; subst e1 e2; exact ss_l20Open
 ·cases h
theorem goods_DrawGloDo : Good Tryz.prog Es_DrawGloDo := ⟨rfl, goodFs_DrawGloDo, goodBs_DrawGloDo⟩
noncomputable def Os_DrawGloDo_0 : Orc := fun _ _ => none
noncomputable def mss_DrawGloDo : List PM := [.fz]
noncomputable def lss_DrawGloDo : List (Nat × Code) := loopsAll 0 (Tryz.f15.body.getD .skip)
theorem ks_DrawGloDo_0 : OrcOk Es_DrawGloDo Os_DrawGloDo_0 lss_DrawGloDo 0 := orcOk_none
noncomputable def g_As_DrawGloDo (a0 : List Int) : Bool := g_As_l20Open a0 && (g_As_l20Glo (g_Vs_l20Open_0 a0) (g_Vs_l20Open_1 a0) && (g_As_l20Rd_odd (g_Vs_l20Open_0 a0) (g_Vs_l20Glo_1 (g_Vs_l20Open_0 a0) (g_Vs_l20Open_1 a0)) (16 : Int) && bif g_Vs_l20Rd_odd_0 (g_Vs_l20Open_0 a0) (g_Vs_l20Glo_1 (g_Vs_l20Open_0 a0) (g_Vs_l20Open_1 a0)) (16 : Int) then g_pickA (g_Vs_l20Open_0 a0) (g_Vs_l20Rd_odd_2 (g_Vs_l20Open_0 a0) (g_Vs_l20Glo_1 (g_Vs_l20Open_0 a0) (g_Vs_l20Open_1 a0)) (16 : Int)) (3 : Int) && (g_As_l20Sto (g_Vs_l20Open_0 a0) (IntKind.wrap IntKind.i64 (g_Vs_l20Rd_odd_2 (g_Vs_l20Open_0 a0) (g_Vs_l20Glo_1 (g_Vs_l20Open_0 a0) (g_Vs_l20Open_1 a0)) (16 : Int) + (1 : Int))) (3 : Int) && (decide ((0 : Int) ≤ g_pick (g_Vs_l20Open_0 a0) (g_Vs_l20Rd_odd_2 (g_Vs_l20Open_0 a0) (g_Vs_l20Glo_1 (g_Vs_l20Open_0 a0) (g_Vs_l20Open_1 a0)) (16 : Int)) (3 : Int) ∧ g_pick (g_Vs_l20Open_0 a0) (g_Vs_l20Rd_odd_2 (g_Vs_l20Open_0 a0) (g_Vs_l20Glo_1 (g_Vs_l20Open_0 a0) (g_Vs_l20Open_1 a0)) (16 : Int)) (3 : Int) < (↑(List.length (g_Vs_l20Glo_0 (g_Vs_l20Open_0 a0) (g_Vs_l20Open_1 a0))) : Int)) && (decide (Int.toNat (g_pick (g_Vs_l20Open_0 a0) (g_Vs_l20Rd_odd_2 (g_Vs_l20Open_0 a0) (g_Vs_l20Glo_1 (g_Vs_l20Open_0 a0) (g_Vs_l20Open_1 a0)) (16 : Int)) (3 : Int)) < List.length (g_Vs_l20Glo_0 (g_Vs_l20Open_0 a0) (g_Vs_l20Open_1 a0))) && (g_pickA (g_Vs_l20Open_0 a0) (g_Vs_l20Sto_2 (g_Vs_l20Open_0 a0) (IntKind.wrap IntKind.i64 (g_Vs_l20Rd_odd_2 (g_Vs_l20Open_0 a0) (g_Vs_l20Glo_1 (g_Vs_l20Open_0 a0) (g_Vs_l20Open_1 a0)) (16 : Int) + (1 : Int))) (3 : Int)) (14 : Int) && (g_pickA (g_Vs_l20Open_0 a0) (IntKind.wrap IntKind.i64 (g_Vs_l20Sto_2 (g_Vs_l20Open_0 a0) (IntKind.wrap IntKind.i64 (g_Vs_l20Rd_odd_2 (g_Vs_l20Open_0 a0) (g_Vs_l20Glo_1 (g_Vs_l20Open_0 a0) (g_Vs_l20Open_1 a0)) (16 : Int) + (1 : Int))) (3 : Int) + (1 : Int))) (10 : Int) && (g_pickA (g_Vs_l20Open_0 a0) (IntKind.wrap IntKind.i64 (IntKind.wrap IntKind.i64 (g_Vs_l20Sto_2 (g_Vs_l20Open_0 a0) (IntKind.wrap IntKind.i64 (g_Vs_l20Rd_odd_2 (g_Vs_l20Open_0 a0) (g_Vs_l20Glo_1 (g_Vs_l20Open_0 a0) (g_Vs_l20Open_1 a0)) (16 : Int) + (1 : Int))) (3 : Int) + (1 : Int)) + (1 : Int))) (6 : Int) && (decide ((0 : Int) ≤ g_pick (g_Vs_l20Open_0 a0) (IntKind.wrap IntKind.i64 (IntKind.wrap IntKind.i64 (g_Vs_l20Sto_2 (g_Vs_l20Open_0 a0) (IntKind.wrap IntKind.i64 (g_Vs_l20Rd_odd_2 (g_Vs_l20Open_0 a0) (g_Vs_l20Glo_1 (g_Vs_l20Open_0 a0) (g_Vs_l20Open_1 a0)) (16 : Int) + (1 : Int))) (3 : Int) + (1 : Int)) + (1 : Int))) (6 : Int) ∧ g_pick (g_Vs_l20Open_0 a0) (IntKind.wrap IntKind.i64 (IntKind.wrap IntKind.i64 (g_Vs_l20Sto_2 (g_Vs_l20Open_0 a0) (IntKind.wrap IntKind.i64 (g_Vs_l20Rd_odd_2 (g_Vs_l20Open_0 a0) (g_Vs_l20Glo_1 (g_Vs_l20Open_0 a0) (g_Vs_l20Open_1 a0)) (16 : Int) + (1 : Int))) (3 : Int) + (1 : Int)) + (1 : Int))) (6 : Int) < (6 : Int)) && (decide (Int.toNat (g_pick (g_Vs_l20Open_0 a0) (IntKind.wrap IntKind.i64 (IntKind.wrap IntKind.i64 (g_Vs_l20Sto_2 (g_Vs_l20Open_0 a0) (IntKind.wrap IntKind.i64 (g_Vs_l20Rd_odd_2 (g_Vs_l20Open_0 a0) (g_Vs_l20Glo_1 (g_Vs_l20Open_0 a0) (g_Vs_l20Open_1 a0)) (16 : Int) + (1 : Int))) (3 : Int) + (1 : Int)) + (1 : Int))) (6 : Int)) < nat_lit 6) && (decide ((0 : Int) ≤ at_ (Ty.int IntKind.i64) [(0 : Int), (0 : Int), (0 : Int), (0 : Int), (1 : Int), (2 : Int)] (Int.toNat (g_pick (g_Vs_l20Open_0 a0) (IntKind.wrap IntKind.i64 (IntKind.wrap IntKind.i64 (g_Vs_l20Sto_2 (g_Vs_l20Open_0 a0) (IntKind.wrap IntKind.i64 (g_Vs_l20Rd_odd_2 (g_Vs_l20Open_0 a0) (g_Vs_l20Glo_1 (g_Vs_l20Open_0 a0) (g_Vs_l20Open_1 a0)) (16 : Int) + (1 : Int))) (3 : Int) + (1 : Int)) + (1 : Int))) (6 : Int))) ∧ at_ (Ty.int IntKind.i64) [(0 : Int), (0 : Int), (0 : Int), (0 : Int), (1 : Int), (2 : Int)] (Int.toNat (g_pick (g_Vs_l20Open_0 a0) (IntKind.wrap IntKind.i64 (IntKind.wrap IntKind.i64 (g_Vs_l20Sto_2 (g_Vs_l20Open_0 a0) (IntKind.wrap IntKind.i64 (g_Vs_l20Rd_odd_2 (g_Vs_l20Open_0 a0) (g_Vs_l20Glo_1 (g_Vs_l20Open_0 a0) (g_Vs_l20Open_1 a0)) (16 : Int) + (1 : Int))) (3 : Int) + (1 : Int)) + (1 : Int))) (6 : Int))) < (↑(List.length [IntKind.wrap IntKind.i64 ((15 : Int) + g_pick (g_Vs_l20Open_0 a0) (g_Vs_l20Sto_2 (g_Vs_l20Open_0 a0) (IntKind.wrap IntKind.i64 (g_Vs_l20Rd_odd_2 (g_Vs_l20Open_0 a0) (g_Vs_l20Glo_1 (g_Vs_l20Open_0 a0) (g_Vs_l20Open_1 a0)) (16 : Int) + (1 : Int))) (3 : Int)) (14 : Int)), g_pick (g_Vs_l20Open_0 a0) (IntKind.wrap IntKind.i64 (g_Vs_l20Sto_2 (g_Vs_l20Open_0 a0) (IntKind.wrap IntKind.i64 (g_Vs_l20Rd_odd_2 (g_Vs_l20Open_0 a0) (g_Vs_l20Glo_1 (g_Vs_l20Open_0 a0) (g_Vs_l20Open_1 a0)) (16 : Int) + (1 : Int))) (3 : Int) + (1 : Int))) (10 : Int), (-1 : Int)]) : Int)) && (decide (Int.toNat (at_ (Ty.int IntKind.i64) [(0 : Int), (0 : Int), (0 : Int), (0 : Int), (1 : Int), (2 : Int)] (Int.toNat (g_pick (g_Vs_l20Open_0 a0) (IntKind.wrap IntKind.i64 (IntKind.wrap IntKind.i64 (g_Vs_l20Sto_2 (g_Vs_l20Open_0 a0) (IntKind.wrap IntKind.i64 (g_Vs_l20Rd_odd_2 (g_Vs_l20Open_0 a0) (g_Vs_l20Glo_1 (g_Vs_l20Open_0 a0) (g_Vs_l20Open_1 a0)) (16 : Int) + (1 : Int))) (3 : Int) + (1 : Int)) + (1 : Int))) (6 : Int)))) < List.length [IntKind.wrap IntKind.i64 ((15 : Int) + g_pick (g_Vs_l20Open_0 a0) (g_Vs_l20Sto_2 (g_Vs_l20Open_0 a0) (IntKind.wrap IntKind.i64 (g_Vs_l20Rd_odd_2 (g_Vs_l20Open_0 a0) (g_Vs_l20Glo_1 (g_Vs_l20Open_0 a0) (g_Vs_l20Open_1 a0)) (16 : Int) + (1 : Int))) (3 : Int)) (14 : Int)), g_pick (g_Vs_l20Open_0 a0) (IntKind.wrap IntKind.i64 (g_Vs_l20Sto_2 (g_Vs_l20Open_0 a0) (IntKind.wrap IntKind.i64 (g_Vs_l20Rd_odd_2 (g_Vs_l20Open_0 a0) (g_Vs_l20Glo_1 (g_Vs_l20Open_0 a0) (g_Vs_l20Open_1 a0)) (16 : Int) + (1 : Int))) (3 : Int) + (1 : Int))) (10 : Int), (-1 : Int)]) && g_As_l20Op (g_Vs_l20Open_0 a0) (IntKind.wrap IntKind.i64 (IntKind.wrap IntKind.i64 (IntKind.wrap IntKind.i64 (g_Vs_l20Sto_2 (g_Vs_l20Open_0 a0) (IntKind.wrap IntKind.i64 (g_Vs_l20Rd_odd_2 (g_Vs_l20Open_0 a0) (g_Vs_l20Glo_1 (g_Vs_l20Open_0 a0) (g_Vs_l20Open_1 a0)) (16 : Int) + (1 : Int))) (3 : Int) + (1 : Int)) + (1 : Int)) + (1 : Int))) (12 : Int))))))))))) else g_pickA (g_Vs_l20Open_0 a0) (g_Vs_l20Rd_odd_2 (g_Vs_l20Open_0 a0) (g_Vs_l20Glo_1 (g_Vs_l20Open_0 a0) (g_Vs_l20Open_1 a0)) (16 : Int)) (14 : Int) && (g_pickA (g_Vs_l20Open_0 a0) (IntKind.wrap IntKind.i64 (g_Vs_l20Rd_odd_2 (g_Vs_l20Open_0 a0) (g_Vs_l20Glo_1 (g_Vs_l20Open_0 a0) (g_Vs_l20Open_1 a0)) (16 : Int) + (1 : Int))) (10 : Int) && (g_pickA (g_Vs_l20Open_0 a0) (IntKind.wrap IntKind.i64 (IntKind.wrap IntKind.i64 (g_Vs_l20Rd_odd_2 (g_Vs_l20Open_0 a0) (g_Vs_l20Glo_1 (g_Vs_l20Open_0 a0) (g_Vs_l20Open_1 a0)) (16 : Int) + (1 : Int)) + (1 : Int))) (6 : Int) && (decide ((0 : Int) ≤ g_pick (g_Vs_l20Open_0 a0) (IntKind.wrap IntKind.i64 (IntKind.wrap IntKind.i64 (g_Vs_l20Rd_odd_2 (g_Vs_l20Open_0 a0) (g_Vs_l20Glo_1 (g_Vs_l20Open_0 a0) (g_Vs_l20Open_1 a0)) (16 : Int) + (1 : Int)) + (1 : Int))) (6 : Int) ∧ g_pick (g_Vs_l20Open_0 a0) (IntKind.wrap IntKind.i64 (IntKind.wrap IntKind.i64 (g_Vs_l20Rd_odd_2 (g_Vs_l20Open_0 a0) (g_Vs_l20Glo_1 (g_Vs_l20Open_0 a0) (g_Vs_l20Open_1 a0)) (16 : Int) + (1 : Int)) + (1 : Int))) (6 : Int) < (6 : Int)) && (decide (Int.toNat (g_pick (g_Vs_l20Open_0 a0) (IntKind.wrap IntKind.i64 (IntKind.wrap IntKind.i64 (g_Vs_l20Rd_odd_2 (g_Vs_l20Open_0 a0) (g_Vs_l20Glo_1 (g_Vs_l20Open_0 a0) (g_Vs_l20Open_1 a0)) (16 : Int) + (1 : Int)) + (1 : Int))) (6 : Int)) < nat_lit 6) && (decide ((0 : Int) ≤ at_ (Ty.int IntKind.i64) [(0 : Int), (0 : Int), (0 : Int), (0 : Int), (1 : Int), (2 : Int)] (Int.toNat (g_pick (g_Vs_l20Open_0 a0) (IntKind.wrap IntKind.i64 (IntKind.wrap IntKind.i64 (g_Vs_l20Rd_odd_2 (g_Vs_l20Open_0 a0) (g_Vs_l20Glo_1 (g_Vs_l20Open_0 a0) (g_Vs_l20Open_1 a0)) (16 : Int) + (1 : Int)) + (1 : Int))) (6 : Int))) ∧ at_ (Ty.int IntKind.i64) [(0 : Int), (0 : Int), (0 : Int), (0 : Int), (1 : Int), (2 : Int)] (Int.toNat (g_pick (g_Vs_l20Open_0 a0) (IntKind.wrap IntKind.i64 (IntKind.wrap IntKind.i64 (g_Vs_l20Rd_odd_2 (g_Vs_l20Open_0 a0) (g_Vs_l20Glo_1 (g_Vs_l20Open_0 a0) (g_Vs_l20Open_1 a0)) (16 : Int) + (1 : Int)) + (1 : Int))) (6 : Int))) < (↑(List.length [IntKind.wrap IntKind.i64 ((15 : Int) + g_pick (g_Vs_l20Open_0 a0) (g_Vs_l20Rd_odd_2 (g_Vs_l20Open_0 a0) (g_Vs_l20Glo_1 (g_Vs_l20Open_0 a0) (g_Vs_l20Open_1 a0)) (16 : Int)) (14 : Int)), g_pick (g_Vs_l20Open_0 a0) (IntKind.wrap IntKind.i64 (g_Vs_l20Rd_odd_2 (g_Vs_l20Open_0 a0) (g_Vs_l20Glo_1 (g_Vs_l20Open_0 a0) (g_Vs_l20Open_1 a0)) (16 : Int) + (1 : Int))) (10 : Int), (-1 : Int)]) : Int)) && (decide (Int.toNat (at_ (Ty.int IntKind.i64) [(0 : Int), (0 : Int), (0 : Int), (0 : Int), (1 : Int), (2 : Int)] (Int.toNat (g_pick (g_Vs_l20Open_0 a0) (IntKind.wrap IntKind.i64 (IntKind.wrap IntKind.i64 (g_Vs_l20Rd_odd_2 (g_Vs_l20Open_0 a0) (g_Vs_l20Glo_1 (g_Vs_l20Open_0 a0) (g_Vs_l20Open_1 a0)) (16 : Int) + (1 : Int)) + (1 : Int))) (6 : Int)))) < List.length [IntKind.wrap IntKind.i64 ((15 : Int) + g_pick (g_Vs_l20Open_0 a0) (g_Vs_l20Rd_odd_2 (g_Vs_l20Open_0 a0) (g_Vs_l20Glo_1 (g_Vs_l20Open_0 a0) (g_Vs_l20Open_1 a0)) (16 : Int)) (14 : Int)), g_pick (g_Vs_l20Open_0 a0) (IntKind.wrap IntKind.i64 (g_Vs_l20Rd_odd_2 (g_Vs_l20Open_0 a0) (g_Vs_l20Glo_1 (g_Vs_l20Open_0 a0) (g_Vs_l20Open_1 a0)) (16 : Int) + (1 : Int))) (10 : Int), (-1 : Int)]) && g_As_l20Op (g_Vs_l20Open_0 a0) (IntKind.wrap IntKind.i64 (IntKind.wrap IntKind.i64 (IntKind.wrap IntKind.i64 (g_Vs_l20Rd_odd_2 (g_Vs_l20Open_0 a0) (g_Vs_l20Glo_1 (g_Vs_l20Open_0 a0) (g_Vs_l20Open_1 a0)) (16 : Int) + (1 : Int)) + (1 : Int)) + (1 : Int))) (12 : Int)))))))))
noncomputable def g_Vs_DrawGloDo_0 (a0 : List Int) : List (List (ByteArray × (List Int))) := bif g_Vs_l20Rd_odd_0 (g_Vs_l20Open_0 a0) (g_Vs_l20Glo_1 (g_Vs_l20Open_0 a0) (g_Vs_l20Open_1 a0)) (16 : Int) then List.set (g_Vs_l20Glo_0 (g_Vs_l20Open_0 a0) (g_Vs_l20Open_1 a0)) (Int.toNat (g_pick (g_Vs_l20Open_0 a0) (g_Vs_l20Rd_odd_2 (g_Vs_l20Open_0 a0) (g_Vs_l20Glo_1 (g_Vs_l20Open_0 a0) (g_Vs_l20Open_1 a0)) (16 : Int)) (3 : Int))) (g_Vs_l20Sto_0 (g_Vs_l20Open_0 a0) (IntKind.wrap IntKind.i64 (g_Vs_l20Rd_odd_2 (g_Vs_l20Open_0 a0) (g_Vs_l20Glo_1 (g_Vs_l20Open_0 a0) (g_Vs_l20Open_1 a0)) (16 : Int) + (1 : Int))) (3 : Int)) else g_Vs_l20Glo_0 (g_Vs_l20Open_0 a0) (g_Vs_l20Open_1 a0)
noncomputable def g_Vs_DrawGloDo_1 (a0 : List Int) : Int := bif g_Vs_l20Rd_odd_0 (g_Vs_l20Open_0 a0) (g_Vs_l20Glo_1 (g_Vs_l20Open_0 a0) (g_Vs_l20Open_1 a0)) (16 : Int) then at_ (Ty.int IntKind.i64) [IntKind.wrap IntKind.i64 ((15 : Int) + g_pick (g_Vs_l20Open_0 a0) (g_Vs_l20Sto_2 (g_Vs_l20Open_0 a0) (IntKind.wrap IntKind.i64 (g_Vs_l20Rd_odd_2 (g_Vs_l20Open_0 a0) (g_Vs_l20Glo_1 (g_Vs_l20Open_0 a0) (g_Vs_l20Open_1 a0)) (16 : Int) + (1 : Int))) (3 : Int)) (14 : Int)), g_pick (g_Vs_l20Open_0 a0) (IntKind.wrap IntKind.i64 (g_Vs_l20Sto_2 (g_Vs_l20Open_0 a0) (IntKind.wrap IntKind.i64 (g_Vs_l20Rd_odd_2 (g_Vs_l20Open_0 a0) (g_Vs_l20Glo_1 (g_Vs_l20Open_0 a0) (g_Vs_l20Open_1 a0)) (16 : Int) + (1 : Int))) (3 : Int) + (1 : Int))) (10 : Int), (-1 : Int)] (Int.toNat (at_ (Ty.int IntKind.i64) [(0 : Int), (0 : Int), (0 : Int), (0 : Int), (1 : Int), (2 : Int)] (Int.toNat (g_pick (g_Vs_l20Open_0 a0) (IntKind.wrap IntKind.i64 (IntKind.wrap IntKind.i64 (g_Vs_l20Sto_2 (g_Vs_l20Open_0 a0) (IntKind.wrap IntKind.i64 (g_Vs_l20Rd_odd_2 (g_Vs_l20Open_0 a0) (g_Vs_l20Glo_1 (g_Vs_l20Open_0 a0) (g_Vs_l20Open_1 a0)) (16 : Int) + (1 : Int))) (3 : Int) + (1 : Int)) + (1 : Int))) (6 : Int))))) else at_ (Ty.int IntKind.i64) [IntKind.wrap IntKind.i64 ((15 : Int) + g_pick (g_Vs_l20Open_0 a0) (g_Vs_l20Rd_odd_2 (g_Vs_l20Open_0 a0) (g_Vs_l20Glo_1 (g_Vs_l20Open_0 a0) (g_Vs_l20Open_1 a0)) (16 : Int)) (14 : Int)), g_pick (g_Vs_l20Open_0 a0) (IntKind.wrap IntKind.i64 (g_Vs_l20Rd_odd_2 (g_Vs_l20Open_0 a0) (g_Vs_l20Glo_1 (g_Vs_l20Open_0 a0) (g_Vs_l20Open_1 a0)) (16 : Int) + (1 : Int))) (10 : Int), (-1 : Int)] (Int.toNat (at_ (Ty.int IntKind.i64) [(0 : Int), (0 : Int), (0 : Int), (0 : Int), (1 : Int), (2 : Int)] (Int.toNat (g_pick (g_Vs_l20Open_0 a0) (IntKind.wrap IntKind.i64 (IntKind.wrap IntKind.i64 (g_Vs_l20Rd_odd_2 (g_Vs_l20Open_0 a0) (g_Vs_l20Glo_1 (g_Vs_l20Open_0 a0) (g_Vs_l20Open_1 a0)) (16 : Int) + (1 : Int)) + (1 : Int))) (6 : Int)))))
noncomputable def g_Vs_DrawGloDo_2 (a0 : List Int) : Int := bif g_Vs_l20Rd_odd_0 (g_Vs_l20Open_0 a0) (g_Vs_l20Glo_1 (g_Vs_l20Open_0 a0) (g_Vs_l20Open_1 a0)) (16 : Int) then g_Vs_l20Op_0 (g_Vs_l20Open_0 a0) (IntKind.wrap IntKind.i64 (IntKind.wrap IntKind.i64 (IntKind.wrap IntKind.i64 (g_Vs_l20Sto_2 (g_Vs_l20Open_0 a0) (IntKind.wrap IntKind.i64 (g_Vs_l20Rd_odd_2 (g_Vs_l20Open_0 a0) (g_Vs_l20Glo_1 (g_Vs_l20Open_0 a0) (g_Vs_l20Open_1 a0)) (16 : Int) + (1 : Int))) (3 : Int) + (1 : Int)) + (1 : Int)) + (1 : Int))) (12 : Int) else g_Vs_l20Op_0 (g_Vs_l20Open_0 a0) (IntKind.wrap IntKind.i64 (IntKind.wrap IntKind.i64 (IntKind.wrap IntKind.i64 (g_Vs_l20Rd_odd_2 (g_Vs_l20Open_0 a0) (g_Vs_l20Glo_1 (g_Vs_l20Open_0 a0) (g_Vs_l20Open_1 a0)) (16 : Int) + (1 : Int)) + (1 : Int)) + (1 : Int))) (12 : Int)
noncomputable def g_Vs_DrawGloDo_3 (a0 : List Int) : Int := bif g_Vs_l20Rd_odd_0 (g_Vs_l20Open_0 a0) (g_Vs_l20Glo_1 (g_Vs_l20Open_0 a0) (g_Vs_l20Open_1 a0)) (16 : Int) then g_Vs_l20Op_1 (g_Vs_l20Open_0 a0) (IntKind.wrap IntKind.i64 (IntKind.wrap IntKind.i64 (IntKind.wrap IntKind.i64 (g_Vs_l20Sto_2 (g_Vs_l20Open_0 a0) (IntKind.wrap IntKind.i64 (g_Vs_l20Rd_odd_2 (g_Vs_l20Open_0 a0) (g_Vs_l20Glo_1 (g_Vs_l20Open_0 a0) (g_Vs_l20Open_1 a0)) (16 : Int) + (1 : Int))) (3 : Int) + (1 : Int)) + (1 : Int)) + (1 : Int))) (12 : Int) else g_Vs_l20Op_1 (g_Vs_l20Open_0 a0) (IntKind.wrap IntKind.i64 (IntKind.wrap IntKind.i64 (IntKind.wrap IntKind.i64 (g_Vs_l20Rd_odd_2 (g_Vs_l20Open_0 a0) (g_Vs_l20Glo_1 (g_Vs_l20Open_0 a0) (g_Vs_l20Open_1 a0)) (16 : Int) + (1 : Int)) + (1 : Int)) + (1 : Int))) (12 : Int)
noncomputable def g_Vs_DrawGloDo_4 (a0 : List Int) : Int := bif g_Vs_l20Rd_odd_0 (g_Vs_l20Open_0 a0) (g_Vs_l20Glo_1 (g_Vs_l20Open_0 a0) (g_Vs_l20Open_1 a0)) (16 : Int) then g_Vs_l20Op_2 (g_Vs_l20Open_0 a0) (IntKind.wrap IntKind.i64 (IntKind.wrap IntKind.i64 (IntKind.wrap IntKind.i64 (g_Vs_l20Sto_2 (g_Vs_l20Open_0 a0) (IntKind.wrap IntKind.i64 (g_Vs_l20Rd_odd_2 (g_Vs_l20Open_0 a0) (g_Vs_l20Glo_1 (g_Vs_l20Open_0 a0) (g_Vs_l20Open_1 a0)) (16 : Int) + (1 : Int))) (3 : Int) + (1 : Int)) + (1 : Int)) + (1 : Int))) (12 : Int) else g_Vs_l20Op_2 (g_Vs_l20Open_0 a0) (IntKind.wrap IntKind.i64 (IntKind.wrap IntKind.i64 (IntKind.wrap IntKind.i64 (g_Vs_l20Rd_odd_2 (g_Vs_l20Open_0 a0) (g_Vs_l20Glo_1 (g_Vs_l20Open_0 a0) (g_Vs_l20Open_1 a0)) (16 : Int) + (1 : Int)) + (1 : Int)) + (1 : Int))) (12 : Int)
noncomputable def g_Vs_DrawGloDo_5 (a0 : List Int) : Int := bif g_Vs_l20Rd_odd_0 (g_Vs_l20Open_0 a0) (g_Vs_l20Glo_1 (g_Vs_l20Open_0 a0) (g_Vs_l20Open_1 a0)) (16 : Int) then g_Vs_l20Op_3 (g_Vs_l20Open_0 a0) (IntKind.wrap IntKind.i64 (IntKind.wrap IntKind.i64 (IntKind.wrap IntKind.i64 (g_Vs_l20Sto_2 (g_Vs_l20Open_0 a0) (IntKind.wrap IntKind.i64 (g_Vs_l20Rd_odd_2 (g_Vs_l20Open_0 a0) (g_Vs_l20Glo_1 (g_Vs_l20Open_0 a0) (g_Vs_l20Open_1 a0)) (16 : Int) + (1 : Int))) (3 : Int) + (1 : Int)) + (1 : Int)) + (1 : Int))) (12 : Int) else g_Vs_l20Op_3 (g_Vs_l20Open_0 a0) (IntKind.wrap IntKind.i64 (IntKind.wrap IntKind.i64 (IntKind.wrap IntKind.i64 (g_Vs_l20Rd_odd_2 (g_Vs_l20Open_0 a0) (g_Vs_l20Glo_1 (g_Vs_l20Open_0 a0) (g_Vs_l20Open_1 a0)) (16 : Int) + (1 : Int)) + (1 : Int)) + (1 : Int))) (12 : Int)
noncomputable def g_Vs_DrawGloDo_6 (a0 : List Int) : Int := bif g_Vs_l20Rd_odd_0 (g_Vs_l20Open_0 a0) (g_Vs_l20Glo_1 (g_Vs_l20Open_0 a0) (g_Vs_l20Open_1 a0)) (16 : Int) then g_Vs_l20Op_4 (g_Vs_l20Open_0 a0) (IntKind.wrap IntKind.i64 (IntKind.wrap IntKind.i64 (IntKind.wrap IntKind.i64 (g_Vs_l20Sto_2 (g_Vs_l20Open_0 a0) (IntKind.wrap IntKind.i64 (g_Vs_l20Rd_odd_2 (g_Vs_l20Open_0 a0) (g_Vs_l20Glo_1 (g_Vs_l20Open_0 a0) (g_Vs_l20Open_1 a0)) (16 : Int) + (1 : Int))) (3 : Int) + (1 : Int)) + (1 : Int)) + (1 : Int))) (12 : Int) else g_Vs_l20Op_4 (g_Vs_l20Open_0 a0) (IntKind.wrap IntKind.i64 (IntKind.wrap IntKind.i64 (IntKind.wrap IntKind.i64 (g_Vs_l20Rd_odd_2 (g_Vs_l20Open_0 a0) (g_Vs_l20Glo_1 (g_Vs_l20Open_0 a0) (g_Vs_l20Open_1 a0)) (16 : Int) + (1 : Int)) + (1 : Int)) + (1 : Int))) (12 : Int)
noncomputable def g_Vs_DrawGloDo_7 (a0 : List Int) : Int := bif g_Vs_l20Rd_odd_0 (g_Vs_l20Open_0 a0) (g_Vs_l20Glo_1 (g_Vs_l20Open_0 a0) (g_Vs_l20Open_1 a0)) (16 : Int) then g_Vs_l20Op_5 (g_Vs_l20Open_0 a0) (IntKind.wrap IntKind.i64 (IntKind.wrap IntKind.i64 (IntKind.wrap IntKind.i64 (g_Vs_l20Sto_2 (g_Vs_l20Open_0 a0) (IntKind.wrap IntKind.i64 (g_Vs_l20Rd_odd_2 (g_Vs_l20Open_0 a0) (g_Vs_l20Glo_1 (g_Vs_l20Open_0 a0) (g_Vs_l20Open_1 a0)) (16 : Int) + (1 : Int))) (3 : Int) + (1 : Int)) + (1 : Int)) + (1 : Int))) (12 : Int) else g_Vs_l20Op_5 (g_Vs_l20Open_0 a0) (IntKind.wrap IntKind.i64 (IntKind.wrap IntKind.i64 (IntKind.wrap IntKind.i64 (g_Vs_l20Rd_odd_2 (g_Vs_l20Open_0 a0) (g_Vs_l20Glo_1 (g_Vs_l20Open_0 a0) (g_Vs_l20Open_1 a0)) (16 : Int) + (1 : Int)) + (1 : Int)) + (1 : Int))) (12 : Int)
noncomputable def g_Vs_DrawGloDo_8 (a0 : List Int) : Int := bif g_Vs_l20Rd_odd_0 (g_Vs_l20Open_0 a0) (g_Vs_l20Glo_1 (g_Vs_l20Open_0 a0) (g_Vs_l20Open_1 a0)) (16 : Int) then g_Vs_l20Op_6 (g_Vs_l20Open_0 a0) (IntKind.wrap IntKind.i64 (IntKind.wrap IntKind.i64 (IntKind.wrap IntKind.i64 (g_Vs_l20Sto_2 (g_Vs_l20Open_0 a0) (IntKind.wrap IntKind.i64 (g_Vs_l20Rd_odd_2 (g_Vs_l20Open_0 a0) (g_Vs_l20Glo_1 (g_Vs_l20Open_0 a0) (g_Vs_l20Open_1 a0)) (16 : Int) + (1 : Int))) (3 : Int) + (1 : Int)) + (1 : Int)) + (1 : Int))) (12 : Int) else g_Vs_l20Op_6 (g_Vs_l20Open_0 a0) (IntKind.wrap IntKind.i64 (IntKind.wrap IntKind.i64 (IntKind.wrap IntKind.i64 (g_Vs_l20Rd_odd_2 (g_Vs_l20Open_0 a0) (g_Vs_l20Glo_1 (g_Vs_l20Open_0 a0) (g_Vs_l20Open_1 a0)) (16 : Int) + (1 : Int)) + (1 : Int)) + (1 : Int))) (12 : Int)
noncomputable def Fs_DrawGloDo : FSem := fun ys => match ys with
 | [.val false [.sl .any 5 (.int .u8) a0]] => some ((g_As_DrawGloDo a0), .tup [(false, [.sl .any 25 (.sl 49 (.pair .str (.sl 3 (.int .i64)))) (g_Vs_DrawGloDo_0 a0)]), (false, [.int .i64 (g_Vs_DrawGloDo_1 a0)]), (true, [.int .i64 (g_Vs_DrawGloDo_2 a0), .int .i64 (g_Vs_DrawGloDo_3 a0), .int .i64 (g_Vs_DrawGloDo_4 a0), .int .i64 (g_Vs_DrawGloDo_5 a0), .int .i64 (g_Vs_DrawGloDo_6 a0), .int .i64 (g_Vs_DrawGloDo_7 a0), .int .i64 (g_Vs_DrawGloDo_8 a0)])], [])
 | _ => none
theorem vs_DrawGloDo (a0 : List Int) : collapseH .fr Es_DrawGloDo Os_DrawGloDo_0 (execFn Es_DrawGloDo Tryz.f15 mss_DrawGloDo [.val false [.sl .any 5 (.int .u8) a0]]) = some ((g_As_DrawGloDo a0), .tup [(false, [.sl .any 25 (.sl 49 (.pair .str (.sl 3 (.int .i64)))) (g_Vs_DrawGloDo_0 a0)]), (false, [.int .i64 (g_Vs_DrawGloDo_1 a0)]), (true, [.int .i64 (g_Vs_DrawGloDo_2 a0), .int .i64 (g_Vs_DrawGloDo_3 a0), .int .i64 (g_Vs_DrawGloDo_4 a0), .int .i64 (g_Vs_DrawGloDo_5 a0), .int .i64 (g_Vs_DrawGloDo_6 a0), .int .i64 (g_Vs_DrawGloDo_7 a0), .int .i64 (g_Vs_DrawGloDo_8 a0)])], []) := by kernel_rfl
theorem ss_DrawGloDo : Sound Tryz.prog 15 mss_DrawGloDo Fs_DrawGloDo := by
 refine fn_gen goods_DrawGloDo (by kernel_rfl) .fr (fn := Tryz.f15) (c := (Tryz.f15.body.getD .skip)) (o := Os_DrawGloDo_0) (k := 0) (by kernel_rfl) (by kernel_rfl) (by kernel_rfl) (by kernel_rfl) (by decide) ks_DrawGloDo_0 ?_
 intro ys r outs h
 unfold Fs_DrawGloDo at h
 split at h
 ·exact (vs_DrawGloDo _).trans h
 ·cases h
noncomputable def Ew_jaInts : Env where
 tt := mkTI Tryz.prog
 fn := fun _ => none
 bxf := fun _ => none
 mv := []
 keep := fun b => match b with
  | 0 => [(0, false), (1, false), (5, false)]
  | _ => []
 keepB := fun b => match b with
  | 0 => []
  | _ => []
 keepX := fun b => match b with
  | 0 => [(4, false)]
  | _ => []
 keepXB := fun b => match b with
  | 0 => []
  | _ => []
theorem goodFw_jaInts : ∀ f ms F, Ew_jaInts.fn f = some (ms, F) → Sound Tryz.prog f ms F := fun f ms F h => by cases h
theorem goodBw_jaInts : ∀ f ms F, Ew_jaInts.bxf f = some (ms, F) → SoundB Tryz.prog f ms F := fun f ms F h => by cases h
theorem goodw_jaInts : Good Tryz.prog Ew_jaInts := ⟨rfl, goodFw_jaInts, goodBw_jaInts⟩
noncomputable def Ow_jaInts_0 : Orc := fun _ _ => none
noncomputable def msw_jaInts : List PM := [.rd, .rd]
noncomputable def lsw_jaInts : List (Nat × Code) := loopsAll 0 (Tryz.f20.body.getD .skip)
noncomputable def cw_jaInts_0 : Code := (loopOf 0 (Tryz.f20.body.getD .skip)).getD .skip
theorem lseqw_jaInts : lsw_jaInts = [(0, cw_jaInts_0)] := by kernel_rfl
theorem mw_jaInts_0 : ∀ p, p ∈ lsw_jaInts → p.1 = 0 → p.2 = cw_jaInts_0 := by
 intro p hp
 rw [lseqw_jaInts] at hp
 simp only [List.mem_cons, List.not_mem_nil, or_false] at hp
 subst hp; simp
theorem kw_jaInts_0 : OrcOk Ew_jaInts Ow_jaInts_0 lsw_jaInts 0 := orcOk_none
noncomputable def hw_jaInts_0 (y0 : List Int) (y1 : List Int) (y2 : Int) : List (Pl × LV) := [(.T 0, .t (.val false [.sl .any 3 (.int .i64) y0])), (.T 1, .t (.val false [.sl .any 3 (.int .i64) y1])), (.T 5, .t (.val false [.int .i64 y2]))]
noncomputable def g_Sw_jaInts_0 (y0 : List Int) (y1 : List Int) : (Int) → RT (Int) ((Bool) ⊕ (Unit))
 | y2 => .br (true) (.br (decide (y2 < (↑(List.length y0) : Int))) (.br (decide ((0 : Int) ≤ y2 ∧ y2 < (↑(List.length y0) : Int))) (.br (decide ((0 : Int) ≤ y2 ∧ y2 < (↑(List.length y1) : Int))) (.br (true) (.br (at_ (Ty.int IntKind.i64) y0 (Int.toNat y2) != at_ (Ty.int IntKind.i64) y1 (Int.toNat y2)) (.out (.inl false)) (.br (true) (.go (IntKind.wrap IntKind.i64 (y2 + (1 : Int)))) (.bad))) (.bad)) (.bad)) (.bad)) (.out (.inr (())))) (.bad)
noncomputable def g_Lw_jaInts_0 (y0 : List Int) (y1 : List Int) (x : Int) : Option ((Bool) ⊕ (Unit)) := loopO (g_Sw_jaInts_0 y0 y1) x
noncomputable def xw_jaInts_0 (y0 : List Int) (y1 : List Int) : ((Bool) ⊕ (Unit)) → Ex × List (Pl × LV) := fun
 | .inl r => (.ret, [(.T 4, .t (.val false [.bool r]))])
 | .inr (r) => (.exit 0, [(.T 4, .t (.val false [.undef]))])
noncomputable def Ow_jaInts_1 : Orc := fun b h => match b, h with
 | 0, [(.T 0, .t (.val false [.sl .any 3 (.int .i64) y0])), (.T 1, .t (.val false [.sl .any 3 (.int .i64) y1])), (.T 5, .t (.val false [.int .i64 y2]))] => some (okO (g_Lw_jaInts_0 y0 y1 y2), (.br (isL (valO (g_Lw_jaInts_0 y0 y1 y2))) (.leaf .ret [(.T 4, .t (.val false [.bool (getL (valO (g_Lw_jaInts_0 y0 y1 y2)))]))]) (.leaf (.exit 0) [(.T 4, .t (.val false [.undef]))])))
 | b, h => Ow_jaInts_0 b h
theorem bw_jaInts_0 (y0 : List Int) (y1 : List Int) (y2 : Int) : Tr.bt Ew_jaInts Ow_jaInts_0 (exec Ew_jaInts 0 cw_jaInts_0 (St.of (hw_jaInts_0 y0 y1 y2)) (leafRd Ew_jaInts 0)) = (g_Sw_jaInts_0 y0 y1 y2).bt (fun (y2 : Int) => (hw_jaInts_0 y0 y1 y2)) (xw_jaInts_0 y0 y1) := by kernel_rfl
theorem kw_jaInts_1 : OrcOk Ew_jaInts Ow_jaInts_1 lsw_jaInts 1 := orc_add kw_jaInts_0 (fun n p hp h ex h' ho => by
 obtain ⟨b, c⟩ := p
 obtain ⟨xt, h1, h2⟩ := ho
 have h1 : Ow_jaInts_1 b h = some (true, xt) := h1
 unfold Ow_jaInts_1 at h1
 split at h1
 ·injection h1 with h1
  injection h1 with e1 e2
  subst e2
  have hc : c = cw_jaInts_0 := mw_jaInts_0 _ hp rfl
  subst hc
  right
  rename_i y0 y1 y2
  have key := LT_step kw_jaInts_0 hp (fun q hq => loopsAll_in _ _ _ _ hp hq) (fun (y2 : Int) => (hw_jaInts_0 y0 y1 y2)) (xw_jaInts_0 y0 y1) (g_Sw_jaInts_0 y0 y1) (fun x => by first | exact bw_jaInts_0 y0 y1 x) n (x := y2) (okO_some e1)
  have hx : ∀ r, XT.sel (.br (isL r) (.leaf .ret [(.T 4, .t (.val false [.bool (getL r)]))]) (.leaf (.exit 0) [(.T 4, .t (.val false [.undef]))])) = xw_jaInts_0 y0 y1 r := fun r => by first | rfl | (rcases r with r | r <;> rfl) | (rcases r with r | r | r <;> rfl) | (rcases r with r | r | r | r <;> rfl)
  have h3 := (hx (valO (g_Lw_jaInts_0 y0 y1 y2))).symm.trans h2
  have e3 := congrArg Prod.fst h3
  have e4 := congrArg Prod.snd h3
  simp only at e3 e4
  rw [← e3, ← e4]
  exact key
 ·exact .inl ⟨xt, h1, h2⟩)
noncomputable def g_Aw_jaInts (a0 : List Int) (a1 : List Int) : Bool := (↑(List.length a0) : Int) != (↑(List.length a1) : Int) || okO (g_Lw_jaInts_0 a0 a1 (0 : Int))
noncomputable def g_Vw_jaInts_0 (a0 : List Int) (a1 : List Int) : Bool := bif (↑(List.length a0) : Int) != (↑(List.length a1) : Int) then false else bif isL (valO (g_Lw_jaInts_0 a0 a1 (0 : Int))) then getL (valO (g_Lw_jaInts_0 a0 a1 (0 : Int))) else true
noncomputable def Fw_jaInts : FSem := fun ys => match ys with
 | [.val false [.sl .any 3 (.int .i64) a0], .val false [.sl .any 3 (.int .i64) a1]] => some ((g_Aw_jaInts a0 a1), .val false [.bool (g_Vw_jaInts_0 a0 a1)], [])
 | _ => none
theorem vw_jaInts (a0 : List Int) (a1 : List Int) : collapseH .std Ew_jaInts Ow_jaInts_1 (execFn Ew_jaInts Tryz.f20 msw_jaInts [.val false [.sl .any 3 (.int .i64) a0], .val false [.sl .any 3 (.int .i64) a1]]) = some ((g_Aw_jaInts a0 a1), .val false [.bool (g_Vw_jaInts_0 a0 a1)], []) := by kernel_rfl
theorem sw_jaInts : Sound Tryz.prog 20 msw_jaInts Fw_jaInts := by
 refine fn_gen goodw_jaInts (by kernel_rfl) .std (fn := Tryz.f20) (c := (Tryz.f20.body.getD .skip)) (o := Ow_jaInts_1) (k := 1) (by kernel_rfl) (by kernel_rfl) (by kernel_rfl) (by kernel_rfl) (by decide) kw_jaInts_1 ?_
 intro ys r outs h
 unfold Fw_jaInts at h
 split at h
 ·exact (vw_jaInts _ _).trans h
 ·cases h
noncomputable def Ei_WrtOk : Env where
 tt := mkTI Tryz.prog
 fn := fun f => match f with
  | 109 => some (msi_keyOk, FSem.wk msi_keyOk Fi_keyOk)
  | 110 => some (msi_valOk, FSem.wk msi_valOk Fi_valOk)
  | _ => none
 bxf := fun _ => none
 mv := []
 keep := fun _ => []
 keepB := fun _ => []
 keepX := fun _ => []
 keepXB := fun _ => []
theorem goodFi_WrtOk : ∀ f ms F, Ei_WrtOk.fn f = some (ms, F) → Sound Tryz.prog f ms F := fun f ms F h => by
 unfold Ei_WrtOk at h
 dsimp only at h
 split at h
 ·injection h with h; injection h with e1 e2; subst e1 e2; exact Sound.wk si_keyOk
 ·injection h with h; injection h with e1 e2; subst e1 e2; exact Sound.wk si_valOk
 ·cases h
theorem goodBi_WrtOk : ∀ f ms F, Ei_WrtOk.bxf f = some (ms, F) → SoundB Tryz.prog f ms F := fun f ms F h => by cases h
theorem goodi_WrtOk : Good Tryz.prog Ei_WrtOk := ⟨rfl, goodFi_WrtOk, goodBi_WrtOk⟩
noncomputable def Oi_WrtOk_0 : Orc := fun _ _ => none
noncomputable def msi_WrtOk : List PM := [.rd]
noncomputable def lsi_WrtOk : List (Nat × Code) := loopsAll 0 (Tryz.f62.body.getD .skip)
theorem ki_WrtOk_0 : OrcOk Ei_WrtOk Oi_WrtOk_0 lsi_WrtOk 0 := orcOk_none
noncomputable def g_Ai_WrtOk (a0 : ByteArray) (a1 : Bool) (a2 : List Int) : Bool := bif a1 then g_Ai_keyOk a0 && (!g_Vi_keyOk_0 a0 || true) else g_Ai_keyOk a0 && (!g_Vi_keyOk_0 a0 || g_Ai_valOk a2)
noncomputable def g_Vi_WrtOk_0 (a0 : ByteArray) (a1 : Bool) (a2 : List Int) : Bool := bif a1 then bif g_Vi_keyOk_0 a0 then (↑(List.length a2) : Int) == (0 : Int) else false else bif g_Vi_keyOk_0 a0 then g_Vi_valOk_0 a2 else false
noncomputable def Fi_WrtOk : FSem := fun ys => match ys with
 | [.val true [.str a0, .bool a1, .sl .any 3 (.int .i64) a2]] => some ((g_Ai_WrtOk a0 a1 a2), .val false [.bool (g_Vi_WrtOk_0 a0 a1 a2)], [])
 | _ => none
theorem vi_WrtOk (a0 : ByteArray) (a1 : Bool) (a2 : List Int) : collapseH .std Ei_WrtOk Oi_WrtOk_0 (execFn Ei_WrtOk Tryz.f62 msi_WrtOk [.val true [.str a0, .bool a1, .sl .any 3 (.int .i64) a2]]) = some ((g_Ai_WrtOk a0 a1 a2), .val false [.bool (g_Vi_WrtOk_0 a0 a1 a2)], []) := by kernel_rfl
theorem si_WrtOk : Sound Tryz.prog 62 msi_WrtOk Fi_WrtOk := by
 refine fn_gen goodi_WrtOk (by kernel_rfl) .std (fn := Tryz.f62) (c := (Tryz.f62.body.getD .skip)) (o := Oi_WrtOk_0) (k := 0) (by kernel_rfl) (by kernel_rfl) (by kernel_rfl) (by kernel_rfl) (by decide) ki_WrtOk_0 ?_
 intro ys r outs h
 unfold Fi_WrtOk at h
 split at h
 ·exact (vi_WrtOk _ _ _).trans h
 ·cases h
noncomputable def Ew_jaOk : Env where
 tt := mkTI Tryz.prog
 fn := fun f => match f with
  | 62 => some (msi_WrtOk, FSem.wk msi_WrtOk Fi_WrtOk)
  | _ => none
 bxf := fun _ => none
 mv := []
 keep := fun _ => []
 keepB := fun _ => []
 keepX := fun _ => []
 keepXB := fun _ => []
theorem goodFw_jaOk : ∀ f ms F, Ew_jaOk.fn f = some (ms, F) → Sound Tryz.prog f ms F := fun f ms F h => by
 unfold Ew_jaOk at h
 dsimp only at h
 split at h
 ·injection h with h; injection h with e1 e2; subst e1 e2; exact Sound.wk si_WrtOk
 ·cases h
theorem goodBw_jaOk : ∀ f ms F, Ew_jaOk.bxf f = some (ms, F) → SoundB Tryz.prog f ms F := fun f ms F h => by cases h
theorem goodw_jaOk : Good Tryz.prog Ew_jaOk := ⟨rfl, goodFw_jaOk, goodBw_jaOk⟩
noncomputable def Ow_jaOk_0 : Orc := fun _ _ => none
noncomputable def msw_jaOk : List PM := []
noncomputable def lsw_jaOk : List (Nat × Code) := loopsAll 0 (Tryz.f14.body.getD .skip)
theorem kw_jaOk_0 : OrcOk Ew_jaOk Ow_jaOk_0 lsw_jaOk 0 := orcOk_none
noncomputable def g_Aw_jaOk : Bool := g_Ai_WrtOk (lit [(97 : Nat), (49 : Nat)]) false [(1 : Int)]
noncomputable def g_Vw_jaOk_0 : Bool := g_Vi_WrtOk_0 (lit [(97 : Nat), (49 : Nat)]) false [(1 : Int)]
noncomputable def Fw_jaOk : FSem := fun ys => match ys with
 | [] => some (g_Aw_jaOk, .val false [.bool g_Vw_jaOk_0], [])
 | _ => none
theorem vw_jaOk : collapseH .std Ew_jaOk Ow_jaOk_0 (execFn Ew_jaOk Tryz.f14 msw_jaOk []) = some (g_Aw_jaOk, .val false [.bool g_Vw_jaOk_0], []) := by kernel_rfl
theorem sw_jaOk : Sound Tryz.prog 14 msw_jaOk Fw_jaOk := by
 refine fn_gen goodw_jaOk (by kernel_rfl) .std (fn := Tryz.f14) (c := (Tryz.f14.body.getD .skip)) (o := Ow_jaOk_0) (k := 0) (by kernel_rfl) (by kernel_rfl) (by kernel_rfl) (by kernel_rfl) (by decide) kw_jaOk_0 ?_
 intro ys r outs h
 unfold Fw_jaOk at h
 split at h
 ·exact (vw_jaOk).trans h
 ·cases h
noncomputable def Ew_FnPlanOut : Env where
 tt := mkTI Tryz.prog
 fn := fun f => match f with
  | 11 => some (msi_PlcPlan, FSem.wk msi_PlcPlan Fi_PlcPlan)
  | 14 => some (msw_jaOk, FSem.wk msw_jaOk Fw_jaOk)
  | 15 => some (mss_DrawGloDo, FSem.wk mss_DrawGloDo Fs_DrawGloDo)
  | 16 => some (mss_GloOk, FSem.wk mss_GloOk Fs_GloOk)
  | 17 => some (msi_GloOk, FSem.wk msi_GloOk Fi_GloOk)
  | 20 => some (msw_jaInts, FSem.wk msw_jaInts Fw_jaInts)
  | _ => none
 bxf := fun _ => none
 mv := []
 keep := fun b => match b with
  | 0 => [(6, false), (7, false)]
  | 2 => [(6, false), (7, false), (8, true), (9, false), (10, false)]
  | _ => []
 keepB := fun b => match b with
  | 0 => [(6, false)]
  | 2 => [(6, false), (8, true)]
  | _ => []
 keepX := fun b => match b with
  | 0 => [(2, false)]
  | 2 => [(2, false), (6, false), (7, false), (8, true), (9, false)]
  | _ => []
 keepXB := fun b => match b with
  | 0 => []
  | 2 => [(6, false), (8, true)]
  | _ => []
theorem goodFw_FnPlanOut : ∀ f ms F, Ew_FnPlanOut.fn f = some (ms, F) → Sound Tryz.prog f ms F := fun f ms F h => by
 unfold Ew_FnPlanOut at h
 dsimp only at h
 split at h
 ·injection h with h; injection h with e1 e2; subst e1 e2; exact Sound.wk si_PlcPlan
 ·injection h with h; injection h with e1 e2; subst e1 e2; exact Sound.wk sw_jaOk
 ·injection h with h; injection h with e1 e2; subst e1 e2; exact Sound.wk ss_DrawGloDo
 ·injection h with h; injection h with e1 e2; subst e1 e2; exact Sound.wk ss_GloOk
 ·injection h with h; injection h with e1 e2; subst e1 e2; exact Sound.wk si_GloOk
 ·injection h with h; injection h with e1 e2; subst e1 e2; exact Sound.wk sw_jaInts
 ·cases h
theorem goodBw_FnPlanOut : ∀ f ms F, Ew_FnPlanOut.bxf f = some (ms, F) → SoundB Tryz.prog f ms F := fun f ms F h => by cases h
theorem goodw_FnPlanOut : Good Tryz.prog Ew_FnPlanOut := ⟨rfl, goodFw_FnPlanOut, goodBw_FnPlanOut⟩
noncomputable def Ow_FnPlanOut_0 : Orc := fun _ _ => none
noncomputable def msw_FnPlanOut : List PM := [.rd]
noncomputable def lsw_FnPlanOut : List (Nat × Code) := loopsAll 0 (Tryz.f5.body.getD .skip)
noncomputable def cw_FnPlanOut_0 : Code := (loopOf 0 (Tryz.f5.body.getD .skip)).getD .skip
noncomputable def cw_FnPlanOut_2 : Code := (loopOf 2 (Tryz.f5.body.getD .skip)).getD .skip
theorem lseqw_FnPlanOut : lsw_FnPlanOut = [(0, cw_FnPlanOut_0), (2, cw_FnPlanOut_2)] := by kernel_rfl
theorem mw_FnPlanOut_0 : ∀ p, p ∈ lsw_FnPlanOut → p.1 = 0 → p.2 = cw_FnPlanOut_0 := by
 intro p hp
 rw [lseqw_FnPlanOut] at hp
 simp only [List.mem_cons, List.not_mem_nil, or_false] at hp
 rcases hp with rfl | rfl <;> simp
theorem mw_FnPlanOut_2 : ∀ p, p ∈ lsw_FnPlanOut → p.1 = 2 → p.2 = cw_FnPlanOut_2 := by
 intro p hp
 rw [lseqw_FnPlanOut] at hp
 simp only [List.mem_cons, List.not_mem_nil, or_false] at hp
 rcases hp with rfl | rfl <;> simp
theorem kw_FnPlanOut_0 : OrcOk Ew_FnPlanOut Ow_FnPlanOut_0 lsw_FnPlanOut 0 := orcOk_none
noncomputable def hw_FnPlanOut_0 (y0 : Int) (y1 : List (ByteArray × (List Int))) : List (Pl × LV) := [(.T 6, .t (.val false [.ptr 6 0 0])), (.T 7, .t (.val false [.int .i64 y0])), (.B 6, .b 0 false [.sl .any 49 (.pair .str (.sl 3 (.int .i64))) y1])]
noncomputable def hw_FnPlanOut_2 (y0 : Int) (y1 : Int) (y2 : Int) (y3 : List (ByteArray × (List Int))) (y4 : Bool) (y5 : List ByteArray) (y6 : List (ByteArray × (Bool × (List Int)))) : List (Pl × LV) := [(.T 6, .t (.val false [.ptr 6 0 0])), (.T 7, .t (.val false [.int .i64 y0])), (.T 8, .t (.val false [.ptr 8 0 0])), (.T 9, .t (.val false [.int .i64 y1])), (.T 10, .t (.val false [.int .i64 y2])), (.B 6, .b 0 false [.sl .any 49 (.pair .str (.sl 3 (.int .i64))) y3]), (.B 8, .b 0 false [.bool y4, .row 8 3 0, .row 8 5 0]), (.R 8 3, .r 0 (some ⟨false, .any, true, 9, .str, y5⟩)), (.R 8 5, .r 0 (some ⟨false, .any, false, 39, (.pair .str (.pair .bool (.sl 3 (.int .i64)))), y6⟩))]
noncomputable def g_Sw_FnPlanOut_2 (y0 : Int) (y3 : List (ByteArray × (List Int))) (y4 : Bool) (y5 : List ByteArray) (y6 : List (ByteArray × (Bool × (List Int)))) : (Int × Int) → RT (Int × Int) ((Bool × Int) ⊕ (Int))
 | (y1, y2) => .br (true) (.br (decide (y2 < (↑(List.length y3) : Int))) (.br (decide ((0 : Int) ≤ y2 ∧ y2 < (↑(List.length y3) : Int))) (.br (decide ((0 : Int) ≤ (0 : Int) ∧ (0 : Int) < (↑(ByteArray.size (at_ (Ty.pair Ty.str (Ty.sl (nat_lit 3) (Ty.int IntKind.i64))) y3 (Int.toNat y2)).1) : Int))) (.br (true) (.br (byteAt (at_ (Ty.pair Ty.str (Ty.sl (nat_lit 3) (Ty.int IntKind.i64))) y3 (Int.toNat y2)).1 (nat_lit 0) != (102 : Int)) (.br (true) (.go ((y1, IntKind.wrap IntKind.i64 (y2 + (1 : Int))))) (.bad)) (.br (decide ((0 : Int) ≤ (0 : Int) ∧ (0 : Int) < (↑(List.length (at_ (Ty.pair Ty.str (Ty.sl (nat_lit 3) (Ty.int IntKind.i64))) y3 (Int.toNat y2)).2) : Int))) (.br (true) (.br (at_ (Ty.int IntKind.i64) (at_ (Ty.pair Ty.str (Ty.sl (nat_lit 3) (Ty.int IntKind.i64))) y3 (Int.toNat y2)).2 (nat_lit 0) != y0) (.br (true) (.go ((y1, IntKind.wrap IntKind.i64 (y2 + (1 : Int))))) (.bad)) (.br (decide ((0 : Int) ≤ (2 : Int) ∧ (2 : Int) < (↑(List.length (at_ (Ty.pair Ty.str (Ty.sl (nat_lit 3) (Ty.int IntKind.i64))) y3 (Int.toNat y2)).2) : Int))) (.br (true) (.br (at_ (Ty.int IntKind.i64) (at_ (Ty.pair Ty.str (Ty.sl (nat_lit 3) (Ty.int IntKind.i64))) y3 (Int.toNat y2)).2 (nat_lit 2) != (1 : Int)) (.br (true) (.go ((y1, IntKind.wrap IntKind.i64 (y2 + (1 : Int))))) (.bad)) (.br (true) (.br (decide (y1 ≥ (↑(List.length y6) : Int))) (.out (.inl ((false, y1)))) (.br (decide ((0 : Int) ≤ y1 ∧ y1 < (↑(List.length y6) : Int))) (.br (decide (Int.toNat y1 < List.length y6)) (.br (true) (.br (!ByteArray.toList (at_ (Ty.pair Ty.str (Ty.pair Ty.bool (Ty.sl (nat_lit 3) (Ty.int IntKind.i64)))) y6 (Int.toNat y1)).1 == ByteArray.toList (at_ (Ty.pair Ty.str (Ty.sl (nat_lit 3) (Ty.int IntKind.i64))) y3 (Int.toNat y2)).1) (.out (.inl ((false, y1)))) (.br (decide ((0 : Int) ≤ y1 ∧ y1 < (↑(List.length y6) : Int))) (.br (decide (Int.toNat y1 < List.length y6)) (.br (decide ((0 : Int) ≤ (1 : Int) ∧ (1 : Int) < (↑(List.length (at_ (Ty.pair Ty.str (Ty.sl (nat_lit 3) (Ty.int IntKind.i64))) y3 (Int.toNat y2)).2) : Int))) (.br (g_Aw_jaInts (at_ (Ty.pair Ty.str (Ty.pair Ty.bool (Ty.sl (nat_lit 3) (Ty.int IntKind.i64)))) y6 (Int.toNat y1)).2.2 [y0, at_ (Ty.int IntKind.i64) (at_ (Ty.pair Ty.str (Ty.sl (nat_lit 3) (Ty.int IntKind.i64))) y3 (Int.toNat y2)).2 (nat_lit 1), (0 : Int)]) (.br (!g_Vw_jaInts_0 (at_ (Ty.pair Ty.str (Ty.pair Ty.bool (Ty.sl (nat_lit 3) (Ty.int IntKind.i64)))) y6 (Int.toNat y1)).2.2 [y0, at_ (Ty.int IntKind.i64) (at_ (Ty.pair Ty.str (Ty.sl (nat_lit 3) (Ty.int IntKind.i64))) y3 (Int.toNat y2)).2 (nat_lit 1), (0 : Int)]) (.out (.inl ((false, y1)))) (.br (true) (.br (true) (.go ((IntKind.wrap IntKind.i64 (y1 + (1 : Int)), IntKind.wrap IntKind.i64 (y2 + (1 : Int))))) (.bad)) (.bad))) (.bad)) (.bad)) (.bad)) (.bad))) (.bad)) (.bad)) (.bad))) (.bad))) (.bad)) (.bad))) (.bad)) (.bad))) (.bad)) (.bad)) (.bad)) (.out (.inr (y1)))) (.bad)
noncomputable def g_Lw_FnPlanOut_2 (y0 : Int) (y3 : List (ByteArray × (List Int))) (y4 : Bool) (y5 : List ByteArray) (y6 : List (ByteArray × (Bool × (List Int)))) (x : Int × Int) : Option ((Bool × Int) ⊕ (Int)) := loopO (g_Sw_FnPlanOut_2 y0 y3 y4 y5 y6) x
noncomputable def xw_FnPlanOut_2 (y0 : Int) (y3 : List (ByteArray × (List Int))) (y4 : Bool) (y5 : List ByteArray) (y6 : List (ByteArray × (Bool × (List Int)))) : ((Bool × Int) ⊕ (Int)) → Ex × List (Pl × LV) := fun
 | .inl r => (.ret, [(.T 2, .t (.val false [.bool r.1])), (.T 6, .t (.val false [.ptr 6 0 0])), (.T 7, .t (.val false [.int .i64 y0])), (.T 8, .t (.val false [.ptr 8 0 0])), (.T 9, .t (.val false [.int .i64 r.2])), (.B 6, .b 0 false [.sl .any 49 (.pair .str (.sl 3 (.int .i64))) y3]), (.B 8, .b 0 false [.bool y4, .row 8 3 0, .row 8 5 0]), (.R 8 3, .r 0 (some ⟨false, .any, true, 9, .str, y5⟩)), (.R 8 5, .r 0 (some ⟨false, .any, false, 39, (.pair .str (.pair .bool (.sl 3 (.int .i64)))), y6⟩))])
 | .inr (r) => (.exit 2, [(.T 2, .t (.val false [.undef])), (.T 6, .t (.val false [.ptr 6 0 0])), (.T 7, .t (.val false [.int .i64 y0])), (.T 8, .t (.val false [.ptr 8 0 0])), (.T 9, .t (.val false [.int .i64 r])), (.B 6, .b 0 false [.sl .any 49 (.pair .str (.sl 3 (.int .i64))) y3]), (.B 8, .b 0 false [.bool y4, .row 8 3 0, .row 8 5 0]), (.R 8 3, .r 0 (some ⟨false, .any, true, 9, .str, y5⟩)), (.R 8 5, .r 0 (some ⟨false, .any, false, 39, (.pair .str (.pair .bool (.sl 3 (.int .i64)))), y6⟩))])
noncomputable def Ow_FnPlanOut_1 : Orc := fun b h => match b, h with
 | 2, [(.T 6, .t (.val false [.ptr 6 0 0])), (.T 7, .t (.val false [.int .i64 y0])), (.T 8, .t (.val false [.ptr 8 0 0])), (.T 9, .t (.val false [.int .i64 y1])), (.T 10, .t (.val false [.int .i64 y2])), (.B 6, .b 0 false [.sl .any 49 (.pair .str (.sl 3 (.int .i64))) y3]), (.B 8, .b 0 false [.bool y4, .row 8 3 0, .row 8 5 0]), (.R 8 3, .r 0 (some ⟨false, .any, true, 9, .str, y5⟩)), (.R 8 5, .r 0 (some ⟨false, .any, false, 39, (.pair .str (.pair .bool (.sl 3 (.int .i64)))), y6⟩))] => some (okO (g_Lw_FnPlanOut_2 y0 y3 y4 y5 y6 (y1, y2)), (.br (isL (valO (g_Lw_FnPlanOut_2 y0 y3 y4 y5 y6 (y1, y2)))) (.leaf .ret [(.T 2, .t (.val false [.bool (getL (valO (g_Lw_FnPlanOut_2 y0 y3 y4 y5 y6 (y1, y2)))).1])), (.T 6, .t (.val false [.ptr 6 0 0])), (.T 7, .t (.val false [.int .i64 y0])), (.T 8, .t (.val false [.ptr 8 0 0])), (.T 9, .t (.val false [.int .i64 (getL (valO (g_Lw_FnPlanOut_2 y0 y3 y4 y5 y6 (y1, y2)))).2])), (.B 6, .b 0 false [.sl .any 49 (.pair .str (.sl 3 (.int .i64))) y3]), (.B 8, .b 0 false [.bool y4, .row 8 3 0, .row 8 5 0]), (.R 8 3, .r 0 (some ⟨false, .any, true, 9, .str, y5⟩)), (.R 8 5, .r 0 (some ⟨false, .any, false, 39, (.pair .str (.pair .bool (.sl 3 (.int .i64)))), y6⟩))]) (.leaf (.exit 2) [(.T 2, .t (.val false [.undef])), (.T 6, .t (.val false [.ptr 6 0 0])), (.T 7, .t (.val false [.int .i64 y0])), (.T 8, .t (.val false [.ptr 8 0 0])), (.T 9, .t (.val false [.int .i64 (getR (valO (g_Lw_FnPlanOut_2 y0 y3 y4 y5 y6 (y1, y2))))])), (.B 6, .b 0 false [.sl .any 49 (.pair .str (.sl 3 (.int .i64))) y3]), (.B 8, .b 0 false [.bool y4, .row 8 3 0, .row 8 5 0]), (.R 8 3, .r 0 (some ⟨false, .any, true, 9, .str, y5⟩)), (.R 8 5, .r 0 (some ⟨false, .any, false, 39, (.pair .str (.pair .bool (.sl 3 (.int .i64)))), y6⟩))])))
 | b, h => Ow_FnPlanOut_0 b h
theorem bw_FnPlanOut_2 (y0 : Int) (y1 : Int) (y2 : Int) (y3 : List (ByteArray × (List Int))) (y4 : Bool) (y5 : List ByteArray) (y6 : List (ByteArray × (Bool × (List Int)))) : Tr.bt Ew_FnPlanOut Ow_FnPlanOut_0 (exec Ew_FnPlanOut 2 cw_FnPlanOut_2 (St.of (hw_FnPlanOut_2 y0 y1 y2 y3 y4 y5 y6)) (leafRd Ew_FnPlanOut 2)) = (g_Sw_FnPlanOut_2 y0 y3 y4 y5 y6 (y1, y2)).bt (fun ((y1, y2) : Int × Int) => (hw_FnPlanOut_2 y0 y1 y2 y3 y4 y5 y6)) (xw_FnPlanOut_2 y0 y3 y4 y5 y6) := by kernel_rfl
theorem kw_FnPlanOut_1 : OrcOk Ew_FnPlanOut Ow_FnPlanOut_1 lsw_FnPlanOut 1 := orc_add kw_FnPlanOut_0 (fun n p hp h ex h' ho => by
 obtain ⟨b, c⟩ := p
 obtain ⟨xt, h1, h2⟩ := ho
 have h1 : Ow_FnPlanOut_1 b h = some (true, xt) := h1
 unfold Ow_FnPlanOut_1 at h1
 split at h1
 ·injection h1 with h1
  injection h1 with e1 e2
  subst e2
  have hc : c = cw_FnPlanOut_2 := mw_FnPlanOut_2 _ hp rfl
  subst hc
  right
  rename_i y0 y1 y2 y3 y4 y5 y6
  have key := LT_step kw_FnPlanOut_0 hp (fun q hq => loopsAll_in _ _ _ _ hp hq) (fun ((y1, y2) : Int × Int) => (hw_FnPlanOut_2 y0 y1 y2 y3 y4 y5 y6)) (xw_FnPlanOut_2 y0 y3 y4 y5 y6) (g_Sw_FnPlanOut_2 y0 y3 y4 y5 y6) (fun x => by first | exact bw_FnPlanOut_2 y0 x.1 x.2 y3 y4 y5 y6) n (x := (y1, y2)) (okO_some e1)
  have hx : ∀ r, XT.sel (.br (isL r) (.leaf .ret [(.T 2, .t (.val false [.bool (getL r).1])), (.T 6, .t (.val false [.ptr 6 0 0])), (.T 7, .t (.val false [.int .i64 y0])), (.T 8, .t (.val false [.ptr 8 0 0])), (.T 9, .t (.val false [.int .i64 (getL r).2])), (.B 6, .b 0 false [.sl .any 49 (.pair .str (.sl 3 (.int .i64))) y3]), (.B 8, .b 0 false [.bool y4, .row 8 3 0, .row 8 5 0]), (.R 8 3, .r 0 (some ⟨false, .any, true, 9, .str, y5⟩)), (.R 8 5, .r 0 (some ⟨false, .any, false, 39, (.pair .str (.pair .bool (.sl 3 (.int .i64)))), y6⟩))]) (.leaf (.exit 2) [(.T 2, .t (.val false [.undef])), (.T 6, .t (.val false [.ptr 6 0 0])), (.T 7, .t (.val false [.int .i64 y0])), (.T 8, .t (.val false [.ptr 8 0 0])), (.T 9, .t (.val false [.int .i64 (getR r)])), (.B 6, .b 0 false [.sl .any 49 (.pair .str (.sl 3 (.int .i64))) y3]), (.B 8, .b 0 false [.bool y4, .row 8 3 0, .row 8 5 0]), (.R 8 3, .r 0 (some ⟨false, .any, true, 9, .str, y5⟩)), (.R 8 5, .r 0 (some ⟨false, .any, false, 39, (.pair .str (.pair .bool (.sl 3 (.int .i64)))), y6⟩))])) = xw_FnPlanOut_2 y0 y3 y4 y5 y6 r := fun r => by first | rfl | (rcases r with r | r <;> rfl) | (rcases r with r | r | r <;> rfl) | (rcases r with r | r | r | r <;> rfl)
  have h3 := (hx (valO (g_Lw_FnPlanOut_2 y0 y3 y4 y5 y6 (y1, y2)))).symm.trans h2
  have e3 := congrArg Prod.fst h3
  have e4 := congrArg Prod.snd h3
  simp only at e3 e4
  rw [← e3, ← e4]
  exact key
 ·exact .inl ⟨xt, h1, h2⟩)
noncomputable def g_Sw_FnPlanOut_0 (y1 : List (ByteArray × (List Int))) : (Int) → RT (Int) ((Bool) ⊕ (Unit))
 | y0 => .br (true) (.br (decide (y0 ≤ (9 : Int))) (.br (g_Ai_PlcPlan (2 : Int) y1 (0 : Int) (5 : Int) y0 (0 : Int) (0 : Int) (0 : Int) (0 : Int) (0 : Int)) (.br (okO (g_Lw_FnPlanOut_2 y0 y1 (g_Vi_PlcPlan_0 (2 : Int) y1 (0 : Int) (5 : Int) y0 (0 : Int) (0 : Int) (0 : Int) (0 : Int) (0 : Int)) (g_Vi_PlcPlan_1 (2 : Int) y1 (0 : Int) (5 : Int) y0 (0 : Int) (0 : Int) (0 : Int) (0 : Int) (0 : Int)) (g_Vi_PlcPlan_2 (2 : Int) y1 (0 : Int) (5 : Int) y0 (0 : Int) (0 : Int) (0 : Int) (0 : Int) (0 : Int)) ((0 : Int), (0 : Int)))) (.br (isL (valO (g_Lw_FnPlanOut_2 y0 y1 (g_Vi_PlcPlan_0 (2 : Int) y1 (0 : Int) (5 : Int) y0 (0 : Int) (0 : Int) (0 : Int) (0 : Int) (0 : Int)) (g_Vi_PlcPlan_1 (2 : Int) y1 (0 : Int) (5 : Int) y0 (0 : Int) (0 : Int) (0 : Int) (0 : Int) (0 : Int)) (g_Vi_PlcPlan_2 (2 : Int) y1 (0 : Int) (5 : Int) y0 (0 : Int) (0 : Int) (0 : Int) (0 : Int) (0 : Int)) ((0 : Int), (0 : Int))))) (.out (.inl ((getL (valO (g_Lw_FnPlanOut_2 y0 y1 (g_Vi_PlcPlan_0 (2 : Int) y1 (0 : Int) (5 : Int) y0 (0 : Int) (0 : Int) (0 : Int) (0 : Int) (0 : Int)) (g_Vi_PlcPlan_1 (2 : Int) y1 (0 : Int) (5 : Int) y0 (0 : Int) (0 : Int) (0 : Int) (0 : Int) (0 : Int)) (g_Vi_PlcPlan_2 (2 : Int) y1 (0 : Int) (5 : Int) y0 (0 : Int) (0 : Int) (0 : Int) (0 : Int) (0 : Int)) ((0 : Int), (0 : Int))))).1))) (.br (!g_Vi_PlcPlan_0 (2 : Int) y1 (0 : Int) (5 : Int) y0 (0 : Int) (0 : Int) (0 : Int) (0 : Int) (0 : Int)) (.out (.inl false)) (.br (true) (.br ((↑(List.length (g_Vi_PlcPlan_2 (2 : Int) y1 (0 : Int) (5 : Int) y0 (0 : Int) (0 : Int) (0 : Int) (0 : Int) (0 : Int))) : Int) != getR (valO (g_Lw_FnPlanOut_2 y0 y1 (g_Vi_PlcPlan_0 (2 : Int) y1 (0 : Int) (5 : Int) y0 (0 : Int) (0 : Int) (0 : Int) (0 : Int) (0 : Int)) (g_Vi_PlcPlan_1 (2 : Int) y1 (0 : Int) (5 : Int) y0 (0 : Int) (0 : Int) (0 : Int) (0 : Int) (0 : Int)) (g_Vi_PlcPlan_2 (2 : Int) y1 (0 : Int) (5 : Int) y0 (0 : Int) (0 : Int) (0 : Int) (0 : Int) (0 : Int)) ((0 : Int), (0 : Int))))) (.out (.inl false)) (.br (true) (.br (true) (.br ((↑(List.length (g_Vi_PlcPlan_1 (2 : Int) y1 (0 : Int) (5 : Int) y0 (0 : Int) (0 : Int) (0 : Int) (0 : Int) (0 : Int))) : Int) != IntKind.wrap IntKind.i64 (getR (valO (g_Lw_FnPlanOut_2 y0 y1 (g_Vi_PlcPlan_0 (2 : Int) y1 (0 : Int) (5 : Int) y0 (0 : Int) (0 : Int) (0 : Int) (0 : Int) (0 : Int)) (g_Vi_PlcPlan_1 (2 : Int) y1 (0 : Int) (5 : Int) y0 (0 : Int) (0 : Int) (0 : Int) (0 : Int) (0 : Int)) (g_Vi_PlcPlan_2 (2 : Int) y1 (0 : Int) (5 : Int) y0 (0 : Int) (0 : Int) (0 : Int) (0 : Int) (0 : Int)) ((0 : Int), (0 : Int)))) + (1 : Int))) (.out (.inl false)) (.br (true) (.go (IntKind.wrap IntKind.i64 (y0 + (1 : Int)))) (.bad))) (.bad)) (.bad))) (.bad)))) (.bad)) (.bad)) (.out (.inr (())))) (.bad)
noncomputable def g_Lw_FnPlanOut_0 (y1 : List (ByteArray × (List Int))) (x : Int) : Option ((Bool) ⊕ (Unit)) := loopO (g_Sw_FnPlanOut_0 y1) x
noncomputable def xw_FnPlanOut_0 (y1 : List (ByteArray × (List Int))) : ((Bool) ⊕ (Unit)) → Ex × List (Pl × LV) := fun
 | .inl r => (.ret, [(.T 2, .t (.val false [.bool r]))])
 | .inr (r) => (.exit 0, [(.T 2, .t (.val false [.undef]))])
noncomputable def Ow_FnPlanOut_2 : Orc := fun b h => match b, h with
 | 0, [(.T 6, .t (.val false [.ptr 6 0 0])), (.T 7, .t (.val false [.int .i64 y0])), (.B 6, .b 0 false [.sl .any 49 (.pair .str (.sl 3 (.int .i64))) y1])] => some (okO (g_Lw_FnPlanOut_0 y1 y0), (.br (isL (valO (g_Lw_FnPlanOut_0 y1 y0))) (.leaf .ret [(.T 2, .t (.val false [.bool (getL (valO (g_Lw_FnPlanOut_0 y1 y0)))]))]) (.leaf (.exit 0) [(.T 2, .t (.val false [.undef]))])))
 | b, h => Ow_FnPlanOut_1 b h
theorem bw_FnPlanOut_0 (y0 : Int) (y1 : List (ByteArray × (List Int))) : Tr.bt Ew_FnPlanOut Ow_FnPlanOut_1 (exec Ew_FnPlanOut 0 cw_FnPlanOut_0 (St.of (hw_FnPlanOut_0 y0 y1)) (leafRd Ew_FnPlanOut 0)) = (g_Sw_FnPlanOut_0 y1 y0).bt (fun (y0 : Int) => (hw_FnPlanOut_0 y0 y1)) (xw_FnPlanOut_0 y1) := by kernel_rfl
theorem kw_FnPlanOut_2 : OrcOk Ew_FnPlanOut Ow_FnPlanOut_2 lsw_FnPlanOut 2 := orc_add kw_FnPlanOut_1 (fun n p hp h ex h' ho => by
 obtain ⟨b, c⟩ := p
 obtain ⟨xt, h1, h2⟩ := ho
 have h1 : Ow_FnPlanOut_2 b h = some (true, xt) := h1
 unfold Ow_FnPlanOut_2 at h1
 split at h1
 ·injection h1 with h1
  injection h1 with e1 e2
  subst e2
  have hc : c = cw_FnPlanOut_0 := mw_FnPlanOut_0 _ hp rfl
  subst hc
  right
  rename_i y0 y1
  have key := LT_step kw_FnPlanOut_1 hp (fun q hq => loopsAll_in _ _ _ _ hp hq) (fun (y0 : Int) => (hw_FnPlanOut_0 y0 y1)) (xw_FnPlanOut_0 y1) (g_Sw_FnPlanOut_0 y1) (fun x => by first | exact bw_FnPlanOut_0 x y1) n (x := y0) (okO_some e1)
  have hx : ∀ r, XT.sel (.br (isL r) (.leaf .ret [(.T 2, .t (.val false [.bool (getL r)]))]) (.leaf (.exit 0) [(.T 2, .t (.val false [.undef]))])) = xw_FnPlanOut_0 y1 r := fun r => by first | rfl | (rcases r with r | r <;> rfl) | (rcases r with r | r | r <;> rfl) | (rcases r with r | r | r | r <;> rfl)
  have h3 := (hx (valO (g_Lw_FnPlanOut_0 y1 y0))).symm.trans h2
  have e3 := congrArg Prod.fst h3
  have e4 := congrArg Prod.snd h3
  simp only at e3 e4
  rw [← e3, ← e4]
  exact key
 ·exact .inl ⟨xt, h1, h2⟩)
noncomputable def g_Aw_FnPlanOut (a0 : List Int) : Bool := decide ((↑(List.length a0) : Int) > (1048576 : Int)) || g_As_DrawGloDo a0 && (g_As_GloOk (g_Vs_DrawGloDo_0 a0) && bif !g_Vs_GloOk_0 (g_Vs_DrawGloDo_0 a0) then g_Ai_GloOk (g_Vs_DrawGloDo_0 a0) && (g_As_GloOk (g_Vs_DrawGloDo_0 a0) && (!g_Vi_GloOk_0 (g_Vs_DrawGloDo_0 a0) == g_Vs_GloOk_0 (g_Vs_DrawGloDo_0 a0) || g_Aw_jaOk)) else decide ((0 : Int) ≤ (1 : Int) ∧ (1 : Int) < (↑(List.length (g_Vs_DrawGloDo_0 a0)) : Int)) && (okO (g_Lw_FnPlanOut_0 (at_ (Ty.sl (nat_lit 49) (Ty.pair Ty.str (Ty.sl (nat_lit 3) (Ty.int IntKind.i64)))) (g_Vs_DrawGloDo_0 a0) (nat_lit 1)) (0 : Int)) && (isL (valO (g_Lw_FnPlanOut_0 (at_ (Ty.sl (nat_lit 49) (Ty.pair Ty.str (Ty.sl (nat_lit 3) (Ty.int IntKind.i64)))) (g_Vs_DrawGloDo_0 a0) (nat_lit 1)) (0 : Int))) || g_Aw_jaOk)))
noncomputable def g_Vw_FnPlanOut_0 (a0 : List Int) : Bool := bif decide ((↑(List.length a0) : Int) > (1048576 : Int)) then true else bif !g_Vs_GloOk_0 (g_Vs_DrawGloDo_0 a0) then bif g_Vi_GloOk_0 (g_Vs_DrawGloDo_0 a0) == g_Vs_GloOk_0 (g_Vs_DrawGloDo_0 a0) then g_Vw_jaOk_0 else false else bif isL (valO (g_Lw_FnPlanOut_0 (at_ (Ty.sl (nat_lit 49) (Ty.pair Ty.str (Ty.sl (nat_lit 3) (Ty.int IntKind.i64)))) (g_Vs_DrawGloDo_0 a0) (nat_lit 1)) (0 : Int))) then getL (valO (g_Lw_FnPlanOut_0 (at_ (Ty.sl (nat_lit 49) (Ty.pair Ty.str (Ty.sl (nat_lit 3) (Ty.int IntKind.i64)))) (g_Vs_DrawGloDo_0 a0) (nat_lit 1)) (0 : Int))) else g_Vw_jaOk_0
noncomputable def Fw_FnPlanOut : FSem := fun ys => match ys with
 | [.val false [.sl .any 5 (.int .u8) a0]] => some ((g_Aw_FnPlanOut a0), .val false [.bool (g_Vw_FnPlanOut_0 a0)], [])
 | _ => none
theorem vw_FnPlanOut (a0 : List Int) : collapseH .std Ew_FnPlanOut Ow_FnPlanOut_2 (execFn Ew_FnPlanOut Tryz.f5 msw_FnPlanOut [.val false [.sl .any 5 (.int .u8) a0]]) = some ((g_Aw_FnPlanOut a0), .val false [.bool (g_Vw_FnPlanOut_0 a0)], []) := by kernel_rfl
theorem sw_FnPlanOut : Sound Tryz.prog 5 msw_FnPlanOut Fw_FnPlanOut := by
 refine fn_gen goodw_FnPlanOut (by kernel_rfl) .std (fn := Tryz.f5) (c := (Tryz.f5.body.getD .skip)) (o := Ow_FnPlanOut_2) (k := 2) (by kernel_rfl) (by kernel_rfl) (by kernel_rfl) (by kernel_rfl) (by decide) kw_FnPlanOut_2 ?_
 intro ys r outs h
 unfold Fw_FnPlanOut at h
 split at h
 ·exact (vw_FnPlanOut _).trans h
 ·cases h
end Go.Proofs.YtjoggjjjlafdmaaGreatDoor.E
