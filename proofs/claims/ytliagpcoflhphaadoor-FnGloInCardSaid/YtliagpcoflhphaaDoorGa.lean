/- What the functions that are reached do, by the engine: for the proof (laws.FnGloIn): part 1. No conditions. -/
import Derived.Test.YtliagpcoflhphaaDoorEc
import Derived.Test.YtliagpcoflhphaaDoorProg
import Derived.Test.YtliagpcoflhphaaDoorShelf
set_option linter.all false
namespace Go.Proofs.YtliagpcoflhphaaDoor.E
open Go
set_option maxRecDepth 100000
set_option maxHeartbeats 0
noncomputable def Es_l20Rd_pick0 : Env where
 tt := mkTI Tryd.prog
 fn := fun _ => none
 bxf := fun _ => none
 mv := []
 keep := fun _ => []
 keepB := fun _ => []
 keepX := fun _ => []
 keepXB := fun _ => []
theorem goodFs_l20Rd_pick0 : ∀ f ms F, Es_l20Rd_pick0.fn f = some (ms, F) → Sound Tryd.prog f ms F := fun f ms F h => by cases h
theorem goodBs_l20Rd_pick0 : ∀ f ms F, Es_l20Rd_pick0.bxf f = some (ms, F) → SoundB Tryd.prog f ms F := fun f ms F h => by cases h
theorem goods_l20Rd_pick0 : Good Tryd.prog Es_l20Rd_pick0 := ⟨rfl, goodFs_l20Rd_pick0, goodBs_l20Rd_pick0⟩
noncomputable def Os_l20Rd_pick0_0 : Orc := fun _ _ => none
noncomputable def mss_l20Rd_pick0 : List PM := [.bx, .own]
noncomputable def lss_l20Rd_pick0 : List (Nat × Code) := loopsAll 0 (Tryd.f36.body.getD .skip)
theorem ks_l20Rd_pick0_0 : OrcOk Es_l20Rd_pick0 Os_l20Rd_pick0_0 lss_l20Rd_pick0 0 := orcOk_none
noncomputable def g_As_l20Rd_pick0 (r0 : List Int) (r1 : Int) (a2 : Int) : Bool := decide (a2 < (1 : Int)) || ((↑(List.length r0) : Int) == (0 : Int) || bif decide (IntKind.wrap IntKind.i64 (IntKind.wrap IntKind.i64 (r1 + (1 : Int)) - (1 : Int)) < (↑(List.length r0) : Int)) then decide ((0 : Int) ≤ IntKind.wrap IntKind.i64 (IntKind.wrap IntKind.i64 (r1 + (1 : Int)) - (1 : Int)) ∧ IntKind.wrap IntKind.i64 (IntKind.wrap IntKind.i64 (r1 + (1 : Int)) - (1 : Int)) < (↑(List.length r0) : Int)) && !a2 == (0 : Int) else !(↑(List.length r0) : Int) == (0 : Int) && (decide ((0 : Int) ≤ Int.tmod (IntKind.wrap IntKind.i64 (IntKind.wrap IntKind.i64 (r1 + (1 : Int)) - (1 : Int))) (↑(List.length r0) : Int) ∧ Int.tmod (IntKind.wrap IntKind.i64 (IntKind.wrap IntKind.i64 (r1 + (1 : Int)) - (1 : Int))) (↑(List.length r0) : Int) < (↑(List.length r0) : Int)) && (!(↑(List.length r0) : Int) == (0 : Int) && (decide ((0 : Int) ≤ Int.tmod (IntKind.wrap IntKind.i64 (IntKind.wrap IntKind.i64 (IntKind.wrap IntKind.i64 (IntKind.wrap IntKind.i64 (r1 + (1 : Int)) - (1 : Int)) * (7 : Int)) + (3 : Int))) (↑(List.length r0) : Int) ∧ Int.tmod (IntKind.wrap IntKind.i64 (IntKind.wrap IntKind.i64 (IntKind.wrap IntKind.i64 (IntKind.wrap IntKind.i64 (r1 + (1 : Int)) - (1 : Int)) * (7 : Int)) + (3 : Int))) (↑(List.length r0) : Int) < (↑(List.length r0) : Int)) && (!(↑(List.length r0) : Int) == (0 : Int) && !a2 == (0 : Int))))))
noncomputable def g_Vs_l20Rd_pick0_0 (r0 : List Int) (r1 : Int) (a2 : Int) : Int := bif decide (a2 < (1 : Int)) then (0 : Int) else bif (↑(List.length r0) : Int) == (0 : Int) then (0 : Int) else bif decide (IntKind.wrap IntKind.i64 (IntKind.wrap IntKind.i64 (r1 + (1 : Int)) - (1 : Int)) < (↑(List.length r0) : Int)) then Int.tmod (IntKind.wrap IntKind.i64 (at_ (Ty.int IntKind.u8) r0 (Int.toNat (IntKind.wrap IntKind.i64 (IntKind.wrap IntKind.i64 (r1 + (1 : Int)) - (1 : Int)))))) a2 else Int.tmod (IntKind.wrap IntKind.i64 (↑(BitVec.toNat (BitVec.ofInt (nat_lit 64) (IntKind.wrap IntKind.i64 (IntKind.wrap IntKind.i64 (IntKind.wrap IntKind.i64 (IntKind.wrap IntKind.i64 (IntKind.wrap IntKind.i64 (at_ (Ty.int IntKind.u8) r0 (Int.toNat (Int.tmod (IntKind.wrap IntKind.i64 (IntKind.wrap IntKind.i64 (r1 + (1 : Int)) - (1 : Int))) (↑(List.length r0) : Int)))) * (131 : Int)) + IntKind.wrap IntKind.i64 (IntKind.wrap IntKind.i64 (at_ (Ty.int IntKind.u8) r0 (Int.toNat (Int.tmod (IntKind.wrap IntKind.i64 (IntKind.wrap IntKind.i64 (IntKind.wrap IntKind.i64 (IntKind.wrap IntKind.i64 (r1 + (1 : Int)) - (1 : Int)) * (7 : Int)) + (3 : Int))) (↑(List.length r0) : Int)))) * (1117 : Int))) + IntKind.wrap IntKind.i64 (IntKind.wrap IntKind.i64 (IntKind.wrap IntKind.i64 (r1 + (1 : Int)) - (1 : Int)) * (29 : Int))) + IntKind.wrap IntKind.i64 (IntKind.wrap IntKind.i64 (Int.tdiv (IntKind.wrap IntKind.i64 (IntKind.wrap IntKind.i64 (r1 + (1 : Int)) - (1 : Int))) (↑(List.length r0) : Int)) * (53 : Int)))) ^^^ BitVec.ofInt (nat_lit 64) (IntKind.wrap IntKind.i64 (Int.tdiv (IntKind.wrap IntKind.i64 (IntKind.wrap IntKind.i64 (IntKind.wrap IntKind.i64 (IntKind.wrap IntKind.i64 (IntKind.wrap IntKind.i64 (at_ (Ty.int IntKind.u8) r0 (Int.toNat (Int.tmod (IntKind.wrap IntKind.i64 (IntKind.wrap IntKind.i64 (r1 + (1 : Int)) - (1 : Int))) (↑(List.length r0) : Int)))) * (131 : Int)) + IntKind.wrap IntKind.i64 (IntKind.wrap IntKind.i64 (at_ (Ty.int IntKind.u8) r0 (Int.toNat (Int.tmod (IntKind.wrap IntKind.i64 (IntKind.wrap IntKind.i64 (IntKind.wrap IntKind.i64 (IntKind.wrap IntKind.i64 (r1 + (1 : Int)) - (1 : Int)) * (7 : Int)) + (3 : Int))) (↑(List.length r0) : Int)))) * (1117 : Int))) + IntKind.wrap IntKind.i64 (IntKind.wrap IntKind.i64 (IntKind.wrap IntKind.i64 (r1 + (1 : Int)) - (1 : Int)) * (29 : Int))) + IntKind.wrap IntKind.i64 (IntKind.wrap IntKind.i64 (Int.tdiv (IntKind.wrap IntKind.i64 (IntKind.wrap IntKind.i64 (r1 + (1 : Int)) - (1 : Int))) (↑(List.length r0) : Int)) * (53 : Int)))) (64 : Int))))) : Int)) a2
noncomputable def g_Vs_l20Rd_pick0_1 (r0 : List Int) (r1 : Int) (a2 : Int) : List Int := bif decide (a2 < (1 : Int)) then r0 else bif (↑(List.length r0) : Int) == (0 : Int) then r0 else bif decide (IntKind.wrap IntKind.i64 (IntKind.wrap IntKind.i64 (r1 + (1 : Int)) - (1 : Int)) < (↑(List.length r0) : Int)) then r0 else r0
noncomputable def g_Vs_l20Rd_pick0_2 (r0 : List Int) (r1 : Int) (a2 : Int) : Int := bif decide (a2 < (1 : Int)) then IntKind.wrap IntKind.i64 (r1 + (1 : Int)) else bif (↑(List.length r0) : Int) == (0 : Int) then IntKind.wrap IntKind.i64 (r1 + (1 : Int)) else bif decide (IntKind.wrap IntKind.i64 (IntKind.wrap IntKind.i64 (r1 + (1 : Int)) - (1 : Int)) < (↑(List.length r0) : Int)) then IntKind.wrap IntKind.i64 (r1 + (1 : Int)) else IntKind.wrap IntKind.i64 (r1 + (1 : Int))
noncomputable def Fs_l20Rd_pick0 : FSem := fun ys => match ys with
 | [.val true [.sl .any 5 (.int .u8) r0, .int .i64 r1], .val false [.int .i64 a2]] => some ((g_As_l20Rd_pick0 r0 r1 a2), .val false [.int .i64 (g_Vs_l20Rd_pick0_0 r0 r1 a2)], [[.sl .any 5 (.int .u8) (g_Vs_l20Rd_pick0_1 r0 r1 a2), .int .i64 (g_Vs_l20Rd_pick0_2 r0 r1 a2)]])
 | _ => none
theorem vs_l20Rd_pick0 (r0 : List Int) (r1 : Int) (a2 : Int) : collapseH .std Es_l20Rd_pick0 Os_l20Rd_pick0_0 (execFn Es_l20Rd_pick0 Tryd.f36 mss_l20Rd_pick0 [.val true [.sl .any 5 (.int .u8) r0, .int .i64 r1], .val false [.int .i64 a2]]) = some ((g_As_l20Rd_pick0 r0 r1 a2), .val false [.int .i64 (g_Vs_l20Rd_pick0_0 r0 r1 a2)], [[.sl .any 5 (.int .u8) (g_Vs_l20Rd_pick0_1 r0 r1 a2), .int .i64 (g_Vs_l20Rd_pick0_2 r0 r1 a2)]]) := by kernel_rfl
theorem ss_l20Rd_pick0 : Sound Tryd.prog 36 mss_l20Rd_pick0 Fs_l20Rd_pick0 := by
 refine fn_gen goods_l20Rd_pick0 (by kernel_rfl) .std (fn := Tryd.f36) (c := (Tryd.f36.body.getD .skip)) (o := Os_l20Rd_pick0_0) (k := 0) (by kernel_rfl) (by kernel_rfl) (by kernel_rfl) (by kernel_rfl) (by decide) ks_l20Rd_pick0_0 ?_
 intro ys r outs h
 unfold Fs_l20Rd_pick0 at h
 split at h
 ·exact (vs_l20Rd_pick0 _ _ _).trans h
 ·cases h
noncomputable def mss_l20Rd_pick : List PM := mss_l20Rd_pick0
noncomputable def g_pick (r0 : List Int) (r1 : Int) (n : Int) : Int := g_Vs_l20Rd_pick0_0 r0 r1 n
noncomputable def g_pickA (r0 : List Int) (r1 : Int) (n : Int) : Bool := g_As_l20Rd_pick0 r0 r1 n
noncomputable def Fs_l20Rd_pick : FSem := fun ys => match ys with
 | [.val true [.sl .any 5 (.int .u8) r0, .int .i64 r1], .val false [.int .i64 a2]] => some (g_pickA r0 r1 a2, .val false [.int .i64 (g_pick r0 r1 a2)], [[.sl .any 5 (.int .u8) r0, .int .i64 (IntKind.wrap .i64 (r1 + 1))]])
 | _ => none
theorem ss_l20Rd_pick : Sound Tryd.prog 36 mss_l20Rd_pick Fs_l20Rd_pick := by
 refine ⟨ss_l20Rd_pick0.fn, fun w S ψ ys vs r outs hF hh hg => ss_l20Rd_pick0.calls w S ψ ys vs r outs (Eq.trans ?_ hF) hh hg⟩
 unfold Fs_l20Rd_pick at hF ⊢
 split at hF
 ·rename_i r0 r1 a2
  have e1 : g_Vs_l20Rd_pick0_1 r0 r1 a2 = r0 := by unfold g_Vs_l20Rd_pick0_1; generalize decide (a2 < (1 : Int)) = p; generalize ((r0.length : Int) == (0 : Int)) = q; cases p <;> cases q <;> simp
  have e2 : g_Vs_l20Rd_pick0_2 r0 r1 a2 = IntKind.wrap .i64 (r1 + 1) := by unfold g_Vs_l20Rd_pick0_2; generalize decide (a2 < (1 : Int)) = p; generalize ((r0.length : Int) == (0 : Int)) = q; cases p <;> cases q <;> simp
  show some (g_As_l20Rd_pick0 r0 r1 a2, RV.val false [Cell.int .i64 (g_Vs_l20Rd_pick0_0 r0 r1 a2)], [[Cell.sl .any 5 (.int .u8) (g_Vs_l20Rd_pick0_1 r0 r1 a2), Cell.int .i64 (g_Vs_l20Rd_pick0_2 r0 r1 a2)]]) = _
  rw [e1, e2]
  rfl
 ·cases hF
noncomputable def Es_l20Rd_odd : Env where
 tt := mkTI Tryd.prog
 fn := fun f => match f with
  | 36 => some (mss_l20Rd_pick, FSem.wk mss_l20Rd_pick Fs_l20Rd_pick)
  | _ => none
 bxf := fun _ => none
 mv := []
 keep := fun _ => []
 keepB := fun _ => []
 keepX := fun _ => []
 keepXB := fun _ => []
theorem goodFs_l20Rd_odd : ∀ f ms F, Es_l20Rd_odd.fn f = some (ms, F) → Sound Tryd.prog f ms F := fun f ms F h => by
 unfold Es_l20Rd_odd at h
 dsimp only at h
 split at h
 ·injection h with h; injection h with e1 e2; subst e1 e2; exact Sound.wk ss_l20Rd_pick
 ·cases h
theorem goodBs_l20Rd_odd : ∀ f ms F, Es_l20Rd_odd.bxf f = some (ms, F) → SoundB Tryd.prog f ms F := fun f ms F h => by cases h
theorem goods_l20Rd_odd : Good Tryd.prog Es_l20Rd_odd := ⟨rfl, goodFs_l20Rd_odd, goodBs_l20Rd_odd⟩
noncomputable def Os_l20Rd_odd_0 : Orc := fun _ _ => none
noncomputable def mss_l20Rd_odd : List PM := [.bx, .own]
noncomputable def lss_l20Rd_odd : List (Nat × Code) := loopsAll 0 (Tryd.f43.body.getD .skip)
theorem ks_l20Rd_odd_0 : OrcOk Es_l20Rd_odd Os_l20Rd_odd_0 lss_l20Rd_odd 0 := orcOk_none
noncomputable def g_As_l20Rd_odd (r0 : List Int) (r1 : Int) (a2 : Int) : Bool := !decide (a2 > (0 : Int)) || g_pickA r0 r1 a2 && true
noncomputable def g_Vs_l20Rd_odd_0 (r0 : List Int) (r1 : Int) (a2 : Int) : Bool := bif decide (a2 > (0 : Int)) then g_pick r0 r1 a2 == IntKind.wrap IntKind.i64 (a2 - (1 : Int)) else false
noncomputable def g_Vs_l20Rd_odd_1 (r0 : List Int) (r1 : Int) (a2 : Int) : List Int := bif decide (a2 > (0 : Int)) then r0 else r0
noncomputable def g_Vs_l20Rd_odd_2 (r0 : List Int) (r1 : Int) (a2 : Int) : Int := bif decide (a2 > (0 : Int)) then IntKind.wrap IntKind.i64 (r1 + (1 : Int)) else r1
noncomputable def Fs_l20Rd_odd : FSem := fun ys => match ys with
 | [.val true [.sl .any 5 (.int .u8) r0, .int .i64 r1], .val false [.int .i64 a2]] => some ((g_As_l20Rd_odd r0 r1 a2), .val false [.bool (g_Vs_l20Rd_odd_0 r0 r1 a2)], [[.sl .any 5 (.int .u8) (g_Vs_l20Rd_odd_1 r0 r1 a2), .int .i64 (g_Vs_l20Rd_odd_2 r0 r1 a2)]])
 | _ => none
theorem vs_l20Rd_odd (r0 : List Int) (r1 : Int) (a2 : Int) : collapseH .std Es_l20Rd_odd Os_l20Rd_odd_0 (execFn Es_l20Rd_odd Tryd.f43 mss_l20Rd_odd [.val true [.sl .any 5 (.int .u8) r0, .int .i64 r1], .val false [.int .i64 a2]]) = some ((g_As_l20Rd_odd r0 r1 a2), .val false [.bool (g_Vs_l20Rd_odd_0 r0 r1 a2)], [[.sl .any 5 (.int .u8) (g_Vs_l20Rd_odd_1 r0 r1 a2), .int .i64 (g_Vs_l20Rd_odd_2 r0 r1 a2)]]) := by kernel_rfl
theorem ss_l20Rd_odd : Sound Tryd.prog 43 mss_l20Rd_odd Fs_l20Rd_odd := by
 refine fn_gen goods_l20Rd_odd (by kernel_rfl) .std (fn := Tryd.f43) (c := (Tryd.f43.body.getD .skip)) (o := Os_l20Rd_odd_0) (k := 0) (by kernel_rfl) (by kernel_rfl) (by kernel_rfl) (by kernel_rfl) (by decide) ks_l20Rd_odd_0 ?_
 intro ys r outs h
 unfold Fs_l20Rd_odd at h
 split at h
 ·exact (vs_l20Rd_odd _ _ _).trans h
 ·cases h
noncomputable def mss_l20Rd_oddR : List PM := mss_l20Rd_odd
theorem sames_l20Rd_odd (r0 : List Int) (r1 : Int) (a2 : Int) : g_Vs_l20Rd_odd_1 r0 r1 a2 = r0 := by
 unfold g_Vs_l20Rd_odd_1
 simp only [Bool.cond_self]
noncomputable def Fs_l20Rd_oddR : FSem := fun ys => match ys with
 | [.val true [.sl .any 5 (.int .u8) r0, .int .i64 r1], .val false [.int .i64 a2]] => some ((g_As_l20Rd_odd r0 r1 a2), .val false [.bool (g_Vs_l20Rd_odd_0 r0 r1 a2)], [[.sl .any 5 (.int .u8) r0, .int .i64 (g_Vs_l20Rd_odd_2 r0 r1 a2)]])
 | _ => none
theorem ss_l20Rd_oddR : Sound Tryd.prog 43 mss_l20Rd_oddR Fs_l20Rd_oddR := by
 refine ⟨ss_l20Rd_odd.fn, fun w S ψ ys vs r outs hF hh hg => ss_l20Rd_odd.calls w S ψ ys vs r outs (Eq.trans ?_ hF) hh hg⟩
 unfold Fs_l20Rd_oddR at hF ⊢
 split at hF
 ·rename_i  r0 r1 a2
  show (some ((g_As_l20Rd_odd r0 r1 a2), .val false [.bool (g_Vs_l20Rd_odd_0 r0 r1 a2)], [[.sl .any 5 (.int .u8) (g_Vs_l20Rd_odd_1 r0 r1 a2), .int .i64 (g_Vs_l20Rd_odd_2 r0 r1 a2)]]) : Option (Bool × RV × List (List Cell))) = _
  rw [sames_l20Rd_odd]
 ·cases hF
noncomputable def Es_l20Op : Env where
 tt := mkTI Tryd.prog
 fn := fun f => match f with
  | 36 => some (mss_l20Rd_pick, FSem.wk mss_l20Rd_pick Fs_l20Rd_pick)
  | 43 => some (mss_l20Rd_oddR, FSem.wk mss_l20Rd_oddR Fs_l20Rd_oddR)
  | _ => none
 bxf := fun _ => none
 mv := []
 keep := fun _ => []
 keepB := fun _ => []
 keepX := fun _ => []
 keepXB := fun _ => []
theorem goodFs_l20Op : ∀ f ms F, Es_l20Op.fn f = some (ms, F) → Sound Tryd.prog f ms F := fun f ms F h => by
 unfold Es_l20Op at h
 dsimp only at h
 split at h
 ·injection h with h; injection h with e1 e2; subst e1 e2; exact Sound.wk ss_l20Rd_pick
 ·injection h with h; injection h with e1 e2; subst e1 e2; exact Sound.wk ss_l20Rd_oddR
 ·cases h
theorem goodBs_l20Op : ∀ f ms F, Es_l20Op.bxf f = some (ms, F) → SoundB Tryd.prog f ms F := fun f ms F h => by cases h
theorem goods_l20Op : Good Tryd.prog Es_l20Op := ⟨rfl, goodFs_l20Op, goodBs_l20Op⟩
noncomputable def Os_l20Op_0 : Orc := fun _ _ => none
noncomputable def mss_l20Op : List PM := [.bx, .own]
noncomputable def lss_l20Op : List (Nat × Code) := loopsAll 0 (Tryd.f37.body.getD .skip)
theorem ks_l20Op_0 : OrcOk Es_l20Op Os_l20Op_0 lss_l20Op 0 := orcOk_none
noncomputable def g_As_l20Op (r0 : List Int) (r1 : Int) (a2 : Int) : Bool := g_pickA r0 r1 (5 : Int) && bif IntKind.wrap IntKind.i64 ((1 : Int) + g_pick r0 r1 (5 : Int)) == (1 : Int) then bif IntKind.wrap IntKind.i64 ((1 : Int) + g_pick r0 r1 (5 : Int)) == (1 : Int) then g_pickA r0 (u1 r1) (2 : Int) && (g_pickA r0 (u1 (u1 r1)) (3 : Int) && (g_As_l20Rd_odd r0 (u1 (u1 (u1 r1))) a2 && (!g_Vs_l20Rd_odd_0 r0 (u1 (u1 (u1 r1))) a2 || g_pickA r0 (g_Vs_l20Rd_odd_2 r0 (u1 (u1 (u1 r1))) a2) (5 : Int) && bif g_pick r0 (g_Vs_l20Rd_odd_2 r0 (u1 (u1 (u1 r1))) a2) (5 : Int) == (0 : Int) then g_pickA r0 (u1 (g_Vs_l20Rd_odd_2 r0 (u1 (u1 (u1 r1))) a2)) (2 : Int) && (decide ((0 : Int) ≤ g_pick r0 (u1 (g_Vs_l20Rd_odd_2 r0 (u1 (u1 (u1 r1))) a2)) (2 : Int) ∧ g_pick r0 (u1 (g_Vs_l20Rd_odd_2 r0 (u1 (u1 (u1 r1))) a2)) (2 : Int) < (2 : Int)) && decide (Int.toNat (g_pick r0 (u1 (g_Vs_l20Rd_odd_2 r0 (u1 (u1 (u1 r1))) a2)) (2 : Int)) < nat_lit 2)) else bif g_pick r0 (g_Vs_l20Rd_odd_2 r0 (u1 (u1 (u1 r1))) a2) (5 : Int) == (1 : Int) then g_pickA r0 (u1 (g_Vs_l20Rd_odd_2 r0 (u1 (u1 (u1 r1))) a2)) (3 : Int) && (decide ((0 : Int) ≤ g_pick r0 (u1 (g_Vs_l20Rd_odd_2 r0 (u1 (u1 (u1 r1))) a2)) (3 : Int) ∧ g_pick r0 (u1 (g_Vs_l20Rd_odd_2 r0 (u1 (u1 (u1 r1))) a2)) (3 : Int) < (3 : Int)) && decide (Int.toNat (g_pick r0 (u1 (g_Vs_l20Rd_odd_2 r0 (u1 (u1 (u1 r1))) a2)) (3 : Int)) < nat_lit 3)) else bif g_pick r0 (g_Vs_l20Rd_odd_2 r0 (u1 (u1 (u1 r1))) a2) (5 : Int) == (2 : Int) then g_pickA r0 (u1 (g_Vs_l20Rd_odd_2 r0 (u1 (u1 (u1 r1))) a2)) (3 : Int) && (decide ((0 : Int) ≤ g_pick r0 (u1 (g_Vs_l20Rd_odd_2 r0 (u1 (u1 (u1 r1))) a2)) (3 : Int) ∧ g_pick r0 (u1 (g_Vs_l20Rd_odd_2 r0 (u1 (u1 (u1 r1))) a2)) (3 : Int) < (3 : Int)) && decide (Int.toNat (g_pick r0 (u1 (g_Vs_l20Rd_odd_2 r0 (u1 (u1 (u1 r1))) a2)) (3 : Int)) < nat_lit 3)) else bif g_pick r0 (g_Vs_l20Rd_odd_2 r0 (u1 (u1 (u1 r1))) a2) (5 : Int) == (3 : Int) then g_pickA r0 (u1 (g_Vs_l20Rd_odd_2 r0 (u1 (u1 (u1 r1))) a2)) (3 : Int) && (decide ((0 : Int) ≤ g_pick r0 (u1 (g_Vs_l20Rd_odd_2 r0 (u1 (u1 (u1 r1))) a2)) (3 : Int) ∧ g_pick r0 (u1 (g_Vs_l20Rd_odd_2 r0 (u1 (u1 (u1 r1))) a2)) (3 : Int) < (3 : Int)) && decide (Int.toNat (g_pick r0 (u1 (g_Vs_l20Rd_odd_2 r0 (u1 (u1 (u1 r1))) a2)) (3 : Int)) < nat_lit 3)) else g_pickA r0 (u1 (g_Vs_l20Rd_odd_2 r0 (u1 (u1 (u1 r1))) a2)) (3 : Int) && (decide ((0 : Int) ≤ g_pick r0 (u1 (g_Vs_l20Rd_odd_2 r0 (u1 (u1 (u1 r1))) a2)) (3 : Int) ∧ g_pick r0 (u1 (g_Vs_l20Rd_odd_2 r0 (u1 (u1 (u1 r1))) a2)) (3 : Int) < (3 : Int)) && decide (Int.toNat (g_pick r0 (u1 (g_Vs_l20Rd_odd_2 r0 (u1 (u1 (u1 r1))) a2)) (3 : Int)) < nat_lit 3))))) else bif IntKind.wrap IntKind.i64 ((1 : Int) + g_pick r0 r1 (5 : Int)) == (2 : Int) then g_pickA r0 (u1 r1) (2 : Int) && (g_pickA r0 (u1 (u1 r1)) (3 : Int) && (g_pickA r0 (u1 (u1 (u1 r1))) (3 : Int) && (g_pickA r0 (u1 (u1 (u1 (u1 r1)))) (3 : Int) && (g_As_l20Rd_odd r0 (u1 (u1 (u1 (u1 (u1 r1))))) a2 && (!g_Vs_l20Rd_odd_0 r0 (u1 (u1 (u1 (u1 (u1 r1))))) a2 || g_pickA r0 (g_Vs_l20Rd_odd_2 r0 (u1 (u1 (u1 (u1 (u1 r1))))) a2) (5 : Int) && bif g_pick r0 (g_Vs_l20Rd_odd_2 r0 (u1 (u1 (u1 (u1 (u1 r1))))) a2) (5 : Int) == (0 : Int) then g_pickA r0 (u1 (g_Vs_l20Rd_odd_2 r0 (u1 (u1 (u1 (u1 (u1 r1))))) a2)) (2 : Int) && (decide ((0 : Int) ≤ g_pick r0 (u1 (g_Vs_l20Rd_odd_2 r0 (u1 (u1 (u1 (u1 (u1 r1))))) a2)) (2 : Int) ∧ g_pick r0 (u1 (g_Vs_l20Rd_odd_2 r0 (u1 (u1 (u1 (u1 (u1 r1))))) a2)) (2 : Int) < (2 : Int)) && decide (Int.toNat (g_pick r0 (u1 (g_Vs_l20Rd_odd_2 r0 (u1 (u1 (u1 (u1 (u1 r1))))) a2)) (2 : Int)) < nat_lit 2)) else bif g_pick r0 (g_Vs_l20Rd_odd_2 r0 (u1 (u1 (u1 (u1 (u1 r1))))) a2) (5 : Int) == (1 : Int) then g_pickA r0 (u1 (g_Vs_l20Rd_odd_2 r0 (u1 (u1 (u1 (u1 (u1 r1))))) a2)) (3 : Int) && (decide ((0 : Int) ≤ g_pick r0 (u1 (g_Vs_l20Rd_odd_2 r0 (u1 (u1 (u1 (u1 (u1 r1))))) a2)) (3 : Int) ∧ g_pick r0 (u1 (g_Vs_l20Rd_odd_2 r0 (u1 (u1 (u1 (u1 (u1 r1))))) a2)) (3 : Int) < (3 : Int)) && decide (Int.toNat (g_pick r0 (u1 (g_Vs_l20Rd_odd_2 r0 (u1 (u1 (u1 (u1 (u1 r1))))) a2)) (3 : Int)) < nat_lit 3)) else bif g_pick r0 (g_Vs_l20Rd_odd_2 r0 (u1 (u1 (u1 (u1 (u1 r1))))) a2) (5 : Int) == (2 : Int) then g_pickA r0 (u1 (g_Vs_l20Rd_odd_2 r0 (u1 (u1 (u1 (u1 (u1 r1))))) a2)) (3 : Int) && (decide ((0 : Int) ≤ g_pick r0 (u1 (g_Vs_l20Rd_odd_2 r0 (u1 (u1 (u1 (u1 (u1 r1))))) a2)) (3 : Int) ∧ g_pick r0 (u1 (g_Vs_l20Rd_odd_2 r0 (u1 (u1 (u1 (u1 (u1 r1))))) a2)) (3 : Int) < (3 : Int)) && decide (Int.toNat (g_pick r0 (u1 (g_Vs_l20Rd_odd_2 r0 (u1 (u1 (u1 (u1 (u1 r1))))) a2)) (3 : Int)) < nat_lit 3)) else bif g_pick r0 (g_Vs_l20Rd_odd_2 r0 (u1 (u1 (u1 (u1 (u1 r1))))) a2) (5 : Int) == (3 : Int) then g_pickA r0 (u1 (g_Vs_l20Rd_odd_2 r0 (u1 (u1 (u1 (u1 (u1 r1))))) a2)) (3 : Int) && (decide ((0 : Int) ≤ g_pick r0 (u1 (g_Vs_l20Rd_odd_2 r0 (u1 (u1 (u1 (u1 (u1 r1))))) a2)) (3 : Int) ∧ g_pick r0 (u1 (g_Vs_l20Rd_odd_2 r0 (u1 (u1 (u1 (u1 (u1 r1))))) a2)) (3 : Int) < (3 : Int)) && decide (Int.toNat (g_pick r0 (u1 (g_Vs_l20Rd_odd_2 r0 (u1 (u1 (u1 (u1 (u1 r1))))) a2)) (3 : Int)) < nat_lit 3)) else g_pickA r0 (u1 (g_Vs_l20Rd_odd_2 r0 (u1 (u1 (u1 (u1 (u1 r1))))) a2)) (3 : Int) && (decide ((0 : Int) ≤ g_pick r0 (u1 (g_Vs_l20Rd_odd_2 r0 (u1 (u1 (u1 (u1 (u1 r1))))) a2)) (3 : Int) ∧ g_pick r0 (u1 (g_Vs_l20Rd_odd_2 r0 (u1 (u1 (u1 (u1 (u1 r1))))) a2)) (3 : Int) < (3 : Int)) && decide (Int.toNat (g_pick r0 (u1 (g_Vs_l20Rd_odd_2 r0 (u1 (u1 (u1 (u1 (u1 r1))))) a2)) (3 : Int)) < nat_lit 3))))))) else bif IntKind.wrap IntKind.i64 ((1 : Int) + g_pick r0 r1 (5 : Int)) == (3 : Int) then g_pickA r0 (u1 r1) (3 : Int) && (g_pickA r0 (u1 (u1 r1)) (3 : Int) && (g_pickA r0 (u1 (u1 (u1 r1))) (3 : Int) && (g_As_l20Rd_odd r0 (u1 (u1 (u1 (u1 r1)))) a2 && (!g_Vs_l20Rd_odd_0 r0 (u1 (u1 (u1 (u1 r1)))) a2 || g_pickA r0 (g_Vs_l20Rd_odd_2 r0 (u1 (u1 (u1 (u1 r1)))) a2) (5 : Int) && bif g_pick r0 (g_Vs_l20Rd_odd_2 r0 (u1 (u1 (u1 (u1 r1)))) a2) (5 : Int) == (0 : Int) then g_pickA r0 (u1 (g_Vs_l20Rd_odd_2 r0 (u1 (u1 (u1 (u1 r1)))) a2)) (2 : Int) && (decide ((0 : Int) ≤ g_pick r0 (u1 (g_Vs_l20Rd_odd_2 r0 (u1 (u1 (u1 (u1 r1)))) a2)) (2 : Int) ∧ g_pick r0 (u1 (g_Vs_l20Rd_odd_2 r0 (u1 (u1 (u1 (u1 r1)))) a2)) (2 : Int) < (2 : Int)) && decide (Int.toNat (g_pick r0 (u1 (g_Vs_l20Rd_odd_2 r0 (u1 (u1 (u1 (u1 r1)))) a2)) (2 : Int)) < nat_lit 2)) else bif g_pick r0 (g_Vs_l20Rd_odd_2 r0 (u1 (u1 (u1 (u1 r1)))) a2) (5 : Int) == (1 : Int) then g_pickA r0 (u1 (g_Vs_l20Rd_odd_2 r0 (u1 (u1 (u1 (u1 r1)))) a2)) (3 : Int) && (decide ((0 : Int) ≤ g_pick r0 (u1 (g_Vs_l20Rd_odd_2 r0 (u1 (u1 (u1 (u1 r1)))) a2)) (3 : Int) ∧ g_pick r0 (u1 (g_Vs_l20Rd_odd_2 r0 (u1 (u1 (u1 (u1 r1)))) a2)) (3 : Int) < (3 : Int)) && decide (Int.toNat (g_pick r0 (u1 (g_Vs_l20Rd_odd_2 r0 (u1 (u1 (u1 (u1 r1)))) a2)) (3 : Int)) < nat_lit 3)) else bif g_pick r0 (g_Vs_l20Rd_odd_2 r0 (u1 (u1 (u1 (u1 r1)))) a2) (5 : Int) == (2 : Int) then g_pickA r0 (u1 (g_Vs_l20Rd_odd_2 r0 (u1 (u1 (u1 (u1 r1)))) a2)) (3 : Int) && (decide ((0 : Int) ≤ g_pick r0 (u1 (g_Vs_l20Rd_odd_2 r0 (u1 (u1 (u1 (u1 r1)))) a2)) (3 : Int) ∧ g_pick r0 (u1 (g_Vs_l20Rd_odd_2 r0 (u1 (u1 (u1 (u1 r1)))) a2)) (3 : Int) < (3 : Int)) && decide (Int.toNat (g_pick r0 (u1 (g_Vs_l20Rd_odd_2 r0 (u1 (u1 (u1 (u1 r1)))) a2)) (3 : Int)) < nat_lit 3)) else bif g_pick r0 (g_Vs_l20Rd_odd_2 r0 (u1 (u1 (u1 (u1 r1)))) a2) (5 : Int) == (3 : Int) then g_pickA r0 (u1 (g_Vs_l20Rd_odd_2 r0 (u1 (u1 (u1 (u1 r1)))) a2)) (3 : Int) && (decide ((0 : Int) ≤ g_pick r0 (u1 (g_Vs_l20Rd_odd_2 r0 (u1 (u1 (u1 (u1 r1)))) a2)) (3 : Int) ∧ g_pick r0 (u1 (g_Vs_l20Rd_odd_2 r0 (u1 (u1 (u1 (u1 r1)))) a2)) (3 : Int) < (3 : Int)) && decide (Int.toNat (g_pick r0 (u1 (g_Vs_l20Rd_odd_2 r0 (u1 (u1 (u1 (u1 r1)))) a2)) (3 : Int)) < nat_lit 3)) else g_pickA r0 (u1 (g_Vs_l20Rd_odd_2 r0 (u1 (u1 (u1 (u1 r1)))) a2)) (3 : Int) && (decide ((0 : Int) ≤ g_pick r0 (u1 (g_Vs_l20Rd_odd_2 r0 (u1 (u1 (u1 (u1 r1)))) a2)) (3 : Int) ∧ g_pick r0 (u1 (g_Vs_l20Rd_odd_2 r0 (u1 (u1 (u1 (u1 r1)))) a2)) (3 : Int) < (3 : Int)) && decide (Int.toNat (g_pick r0 (u1 (g_Vs_l20Rd_odd_2 r0 (u1 (u1 (u1 (u1 r1)))) a2)) (3 : Int)) < nat_lit 3)))))) else g_pickA r0 (u1 r1) (3 : Int) && (g_pickA r0 (u1 (u1 r1)) (3 : Int) && (g_As_l20Rd_odd r0 (u1 (u1 (u1 r1))) a2 && (!g_Vs_l20Rd_odd_0 r0 (u1 (u1 (u1 r1))) a2 || g_pickA r0 (g_Vs_l20Rd_odd_2 r0 (u1 (u1 (u1 r1))) a2) (5 : Int) && bif g_pick r0 (g_Vs_l20Rd_odd_2 r0 (u1 (u1 (u1 r1))) a2) (5 : Int) == (0 : Int) then g_pickA r0 (u1 (g_Vs_l20Rd_odd_2 r0 (u1 (u1 (u1 r1))) a2)) (2 : Int) && (decide ((0 : Int) ≤ g_pick r0 (u1 (g_Vs_l20Rd_odd_2 r0 (u1 (u1 (u1 r1))) a2)) (2 : Int) ∧ g_pick r0 (u1 (g_Vs_l20Rd_odd_2 r0 (u1 (u1 (u1 r1))) a2)) (2 : Int) < (2 : Int)) && decide (Int.toNat (g_pick r0 (u1 (g_Vs_l20Rd_odd_2 r0 (u1 (u1 (u1 r1))) a2)) (2 : Int)) < nat_lit 2)) else bif g_pick r0 (g_Vs_l20Rd_odd_2 r0 (u1 (u1 (u1 r1))) a2) (5 : Int) == (1 : Int) then g_pickA r0 (u1 (g_Vs_l20Rd_odd_2 r0 (u1 (u1 (u1 r1))) a2)) (3 : Int) && (decide ((0 : Int) ≤ g_pick r0 (u1 (g_Vs_l20Rd_odd_2 r0 (u1 (u1 (u1 r1))) a2)) (3 : Int) ∧ g_pick r0 (u1 (g_Vs_l20Rd_odd_2 r0 (u1 (u1 (u1 r1))) a2)) (3 : Int) < (3 : Int)) && decide (Int.toNat (g_pick r0 (u1 (g_Vs_l20Rd_odd_2 r0 (u1 (u1 (u1 r1))) a2)) (3 : Int)) < nat_lit 3)) else bif g_pick r0 (g_Vs_l20Rd_odd_2 r0 (u1 (u1 (u1 r1))) a2) (5 : Int) == (2 : Int) then g_pickA r0 (u1 (g_Vs_l20Rd_odd_2 r0 (u1 (u1 (u1 r1))) a2)) (3 : Int) && (decide ((0 : Int) ≤ g_pick r0 (u1 (g_Vs_l20Rd_odd_2 r0 (u1 (u1 (u1 r1))) a2)) (3 : Int) ∧ g_pick r0 (u1 (g_Vs_l20Rd_odd_2 r0 (u1 (u1 (u1 r1))) a2)) (3 : Int) < (3 : Int)) && decide (Int.toNat (g_pick r0 (u1 (g_Vs_l20Rd_odd_2 r0 (u1 (u1 (u1 r1))) a2)) (3 : Int)) < nat_lit 3)) else bif g_pick r0 (g_Vs_l20Rd_odd_2 r0 (u1 (u1 (u1 r1))) a2) (5 : Int) == (3 : Int) then g_pickA r0 (u1 (g_Vs_l20Rd_odd_2 r0 (u1 (u1 (u1 r1))) a2)) (3 : Int) && (decide ((0 : Int) ≤ g_pick r0 (u1 (g_Vs_l20Rd_odd_2 r0 (u1 (u1 (u1 r1))) a2)) (3 : Int) ∧ g_pick r0 (u1 (g_Vs_l20Rd_odd_2 r0 (u1 (u1 (u1 r1))) a2)) (3 : Int) < (3 : Int)) && decide (Int.toNat (g_pick r0 (u1 (g_Vs_l20Rd_odd_2 r0 (u1 (u1 (u1 r1))) a2)) (3 : Int)) < nat_lit 3)) else g_pickA r0 (u1 (g_Vs_l20Rd_odd_2 r0 (u1 (u1 (u1 r1))) a2)) (3 : Int) && (decide ((0 : Int) ≤ g_pick r0 (u1 (g_Vs_l20Rd_odd_2 r0 (u1 (u1 (u1 r1))) a2)) (3 : Int) ∧ g_pick r0 (u1 (g_Vs_l20Rd_odd_2 r0 (u1 (u1 (u1 r1))) a2)) (3 : Int) < (3 : Int)) && decide (Int.toNat (g_pick r0 (u1 (g_Vs_l20Rd_odd_2 r0 (u1 (u1 (u1 r1))) a2)) (3 : Int)) < nat_lit 3))))) else bif IntKind.wrap IntKind.i64 ((1 : Int) + g_pick r0 r1 (5 : Int)) == (5 : Int) then g_pickA r0 (u1 r1) (2 : Int) && (g_pickA r0 (u1 (u1 r1)) (3 : Int) && (g_As_l20Rd_odd r0 (u1 (u1 (u1 r1))) a2 && (!g_Vs_l20Rd_odd_0 r0 (u1 (u1 (u1 r1))) a2 || g_pickA r0 (g_Vs_l20Rd_odd_2 r0 (u1 (u1 (u1 r1))) a2) (5 : Int) && bif g_pick r0 (g_Vs_l20Rd_odd_2 r0 (u1 (u1 (u1 r1))) a2) (5 : Int) == (0 : Int) then g_pickA r0 (u1 (g_Vs_l20Rd_odd_2 r0 (u1 (u1 (u1 r1))) a2)) (2 : Int) && (decide ((0 : Int) ≤ g_pick r0 (u1 (g_Vs_l20Rd_odd_2 r0 (u1 (u1 (u1 r1))) a2)) (2 : Int) ∧ g_pick r0 (u1 (g_Vs_l20Rd_odd_2 r0 (u1 (u1 (u1 r1))) a2)) (2 : Int) < (2 : Int)) && decide (Int.toNat (g_pick r0 (u1 (g_Vs_l20Rd_odd_2 r0 (u1 (u1 (u1 r1))) a2)) (2 : Int)) < nat_lit 2)) else bif g_pick r0 (g_Vs_l20Rd_odd_2 r0 (u1 (u1 (u1 r1))) a2) (5 : Int) == (1 : Int) then g_pickA r0 (u1 (g_Vs_l20Rd_odd_2 r0 (u1 (u1 (u1 r1))) a2)) (3 : Int) && (decide ((0 : Int) ≤ g_pick r0 (u1 (g_Vs_l20Rd_odd_2 r0 (u1 (u1 (u1 r1))) a2)) (3 : Int) ∧ g_pick r0 (u1 (g_Vs_l20Rd_odd_2 r0 (u1 (u1 (u1 r1))) a2)) (3 : Int) < (3 : Int)) && decide (Int.toNat (g_pick r0 (u1 (g_Vs_l20Rd_odd_2 r0 (u1 (u1 (u1 r1))) a2)) (3 : Int)) < nat_lit 3)) else bif g_pick r0 (g_Vs_l20Rd_odd_2 r0 (u1 (u1 (u1 r1))) a2) (5 : Int) == (2 : Int) then g_pickA r0 (u1 (g_Vs_l20Rd_odd_2 r0 (u1 (u1 (u1 r1))) a2)) (3 : Int) && (decide ((0 : Int) ≤ g_pick r0 (u1 (g_Vs_l20Rd_odd_2 r0 (u1 (u1 (u1 r1))) a2)) (3 : Int) ∧ g_pick r0 (u1 (g_Vs_l20Rd_odd_2 r0 (u1 (u1 (u1 r1))) a2)) (3 : Int) < (3 : Int)) && decide (Int.toNat (g_pick r0 (u1 (g_Vs_l20Rd_odd_2 r0 (u1 (u1 (u1 r1))) a2)) (3 : Int)) < nat_lit 3)) else bif g_pick r0 (g_Vs_l20Rd_odd_2 r0 (u1 (u1 (u1 r1))) a2) (5 : Int) == (3 : Int) then g_pickA r0 (u1 (g_Vs_l20Rd_odd_2 r0 (u1 (u1 (u1 r1))) a2)) (3 : Int) && (decide ((0 : Int) ≤ g_pick r0 (u1 (g_Vs_l20Rd_odd_2 r0 (u1 (u1 (u1 r1))) a2)) (3 : Int) ∧ g_pick r0 (u1 (g_Vs_l20Rd_odd_2 r0 (u1 (u1 (u1 r1))) a2)) (3 : Int) < (3 : Int)) && decide (Int.toNat (g_pick r0 (u1 (g_Vs_l20Rd_odd_2 r0 (u1 (u1 (u1 r1))) a2)) (3 : Int)) < nat_lit 3)) else g_pickA r0 (u1 (g_Vs_l20Rd_odd_2 r0 (u1 (u1 (u1 r1))) a2)) (3 : Int) && (decide ((0 : Int) ≤ g_pick r0 (u1 (g_Vs_l20Rd_odd_2 r0 (u1 (u1 (u1 r1))) a2)) (3 : Int) ∧ g_pick r0 (u1 (g_Vs_l20Rd_odd_2 r0 (u1 (u1 (u1 r1))) a2)) (3 : Int) < (3 : Int)) && decide (Int.toNat (g_pick r0 (u1 (g_Vs_l20Rd_odd_2 r0 (u1 (u1 (u1 r1))) a2)) (3 : Int)) < nat_lit 3))))) else bif IntKind.wrap IntKind.i64 ((1 : Int) + g_pick r0 r1 (5 : Int)) == (2 : Int) then g_pickA r0 (u1 r1) (2 : Int) && (g_pickA r0 (u1 (u1 r1)) (3 : Int) && (g_pickA r0 (u1 (u1 (u1 r1))) (3 : Int) && (g_pickA r0 (u1 (u1 (u1 (u1 r1)))) (3 : Int) && (g_As_l20Rd_odd r0 (u1 (u1 (u1 (u1 (u1 r1))))) a2 && (!g_Vs_l20Rd_odd_0 r0 (u1 (u1 (u1 (u1 (u1 r1))))) a2 || g_pickA r0 (g_Vs_l20Rd_odd_2 r0 (u1 (u1 (u1 (u1 (u1 r1))))) a2) (5 : Int) && bif g_pick r0 (g_Vs_l20Rd_odd_2 r0 (u1 (u1 (u1 (u1 (u1 r1))))) a2) (5 : Int) == (0 : Int) then g_pickA r0 (u1 (g_Vs_l20Rd_odd_2 r0 (u1 (u1 (u1 (u1 (u1 r1))))) a2)) (2 : Int) && (decide ((0 : Int) ≤ g_pick r0 (u1 (g_Vs_l20Rd_odd_2 r0 (u1 (u1 (u1 (u1 (u1 r1))))) a2)) (2 : Int) ∧ g_pick r0 (u1 (g_Vs_l20Rd_odd_2 r0 (u1 (u1 (u1 (u1 (u1 r1))))) a2)) (2 : Int) < (2 : Int)) && decide (Int.toNat (g_pick r0 (u1 (g_Vs_l20Rd_odd_2 r0 (u1 (u1 (u1 (u1 (u1 r1))))) a2)) (2 : Int)) < nat_lit 2)) else bif g_pick r0 (g_Vs_l20Rd_odd_2 r0 (u1 (u1 (u1 (u1 (u1 r1))))) a2) (5 : Int) == (1 : Int) then g_pickA r0 (u1 (g_Vs_l20Rd_odd_2 r0 (u1 (u1 (u1 (u1 (u1 r1))))) a2)) (3 : Int) && (decide ((0 : Int) ≤ g_pick r0 (u1 (g_Vs_l20Rd_odd_2 r0 (u1 (u1 (u1 (u1 (u1 r1))))) a2)) (3 : Int) ∧ g_pick r0 (u1 (g_Vs_l20Rd_odd_2 r0 (u1 (u1 (u1 (u1 (u1 r1))))) a2)) (3 : Int) < (3 : Int)) && decide (Int.toNat (g_pick r0 (u1 (g_Vs_l20Rd_odd_2 r0 (u1 (u1 (u1 (u1 (u1 r1))))) a2)) (3 : Int)) < nat_lit 3)) else bif g_pick r0 (g_Vs_l20Rd_odd_2 r0 (u1 (u1 (u1 (u1 (u1 r1))))) a2) (5 : Int) == (2 : Int) then g_pickA r0 (u1 (g_Vs_l20Rd_odd_2 r0 (u1 (u1 (u1 (u1 (u1 r1))))) a2)) (3 : Int) && (decide ((0 : Int) ≤ g_pick r0 (u1 (g_Vs_l20Rd_odd_2 r0 (u1 (u1 (u1 (u1 (u1 r1))))) a2)) (3 : Int) ∧ g_pick r0 (u1 (g_Vs_l20Rd_odd_2 r0 (u1 (u1 (u1 (u1 (u1 r1))))) a2)) (3 : Int) < (3 : Int)) && decide (Int.toNat (g_pick r0 (u1 (g_Vs_l20Rd_odd_2 r0 (u1 (u1 (u1 (u1 (u1 r1))))) a2)) (3 : Int)) < nat_lit 3)) else bif g_pick r0 (g_Vs_l20Rd_odd_2 r0 (u1 (u1 (u1 (u1 (u1 r1))))) a2) (5 : Int) == (3 : Int) then g_pickA r0 (u1 (g_Vs_l20Rd_odd_2 r0 (u1 (u1 (u1 (u1 (u1 r1))))) a2)) (3 : Int) && (decide ((0 : Int) ≤ g_pick r0 (u1 (g_Vs_l20Rd_odd_2 r0 (u1 (u1 (u1 (u1 (u1 r1))))) a2)) (3 : Int) ∧ g_pick r0 (u1 (g_Vs_l20Rd_odd_2 r0 (u1 (u1 (u1 (u1 (u1 r1))))) a2)) (3 : Int) < (3 : Int)) && decide (Int.toNat (g_pick r0 (u1 (g_Vs_l20Rd_odd_2 r0 (u1 (u1 (u1 (u1 (u1 r1))))) a2)) (3 : Int)) < nat_lit 3)) else g_pickA r0 (u1 (g_Vs_l20Rd_odd_2 r0 (u1 (u1 (u1 (u1 (u1 r1))))) a2)) (3 : Int) && (decide ((0 : Int) ≤ g_pick r0 (u1 (g_Vs_l20Rd_odd_2 r0 (u1 (u1 (u1 (u1 (u1 r1))))) a2)) (3 : Int) ∧ g_pick r0 (u1 (g_Vs_l20Rd_odd_2 r0 (u1 (u1 (u1 (u1 (u1 r1))))) a2)) (3 : Int) < (3 : Int)) && decide (Int.toNat (g_pick r0 (u1 (g_Vs_l20Rd_odd_2 r0 (u1 (u1 (u1 (u1 (u1 r1))))) a2)) (3 : Int)) < nat_lit 3))))))) else bif IntKind.wrap IntKind.i64 ((1 : Int) + g_pick r0 r1 (5 : Int)) == (3 : Int) then g_pickA r0 (u1 r1) (3 : Int) && (g_pickA r0 (u1 (u1 r1)) (3 : Int) && (g_pickA r0 (u1 (u1 (u1 r1))) (3 : Int) && (g_As_l20Rd_odd r0 (u1 (u1 (u1 (u1 r1)))) a2 && (!g_Vs_l20Rd_odd_0 r0 (u1 (u1 (u1 (u1 r1)))) a2 || g_pickA r0 (g_Vs_l20Rd_odd_2 r0 (u1 (u1 (u1 (u1 r1)))) a2) (5 : Int) && bif g_pick r0 (g_Vs_l20Rd_odd_2 r0 (u1 (u1 (u1 (u1 r1)))) a2) (5 : Int) == (0 : Int) then g_pickA r0 (u1 (g_Vs_l20Rd_odd_2 r0 (u1 (u1 (u1 (u1 r1)))) a2)) (2 : Int) && (decide ((0 : Int) ≤ g_pick r0 (u1 (g_Vs_l20Rd_odd_2 r0 (u1 (u1 (u1 (u1 r1)))) a2)) (2 : Int) ∧ g_pick r0 (u1 (g_Vs_l20Rd_odd_2 r0 (u1 (u1 (u1 (u1 r1)))) a2)) (2 : Int) < (2 : Int)) && decide (Int.toNat (g_pick r0 (u1 (g_Vs_l20Rd_odd_2 r0 (u1 (u1 (u1 (u1 r1)))) a2)) (2 : Int)) < nat_lit 2)) else bif g_pick r0 (g_Vs_l20Rd_odd_2 r0 (u1 (u1 (u1 (u1 r1)))) a2) (5 : Int) == (1 : Int) then g_pickA r0 (u1 (g_Vs_l20Rd_odd_2 r0 (u1 (u1 (u1 (u1 r1)))) a2)) (3 : Int) && (decide ((0 : Int) ≤ g_pick r0 (u1 (g_Vs_l20Rd_odd_2 r0 (u1 (u1 (u1 (u1 r1)))) a2)) (3 : Int) ∧ g_pick r0 (u1 (g_Vs_l20Rd_odd_2 r0 (u1 (u1 (u1 (u1 r1)))) a2)) (3 : Int) < (3 : Int)) && decide (Int.toNat (g_pick r0 (u1 (g_Vs_l20Rd_odd_2 r0 (u1 (u1 (u1 (u1 r1)))) a2)) (3 : Int)) < nat_lit 3)) else bif g_pick r0 (g_Vs_l20Rd_odd_2 r0 (u1 (u1 (u1 (u1 r1)))) a2) (5 : Int) == (2 : Int) then g_pickA r0 (u1 (g_Vs_l20Rd_odd_2 r0 (u1 (u1 (u1 (u1 r1)))) a2)) (3 : Int) && (decide ((0 : Int) ≤ g_pick r0 (u1 (g_Vs_l20Rd_odd_2 r0 (u1 (u1 (u1 (u1 r1)))) a2)) (3 : Int) ∧ g_pick r0 (u1 (g_Vs_l20Rd_odd_2 r0 (u1 (u1 (u1 (u1 r1)))) a2)) (3 : Int) < (3 : Int)) && decide (Int.toNat (g_pick r0 (u1 (g_Vs_l20Rd_odd_2 r0 (u1 (u1 (u1 (u1 r1)))) a2)) (3 : Int)) < nat_lit 3)) else bif g_pick r0 (g_Vs_l20Rd_odd_2 r0 (u1 (u1 (u1 (u1 r1)))) a2) (5 : Int) == (3 : Int) then g_pickA r0 (u1 (g_Vs_l20Rd_odd_2 r0 (u1 (u1 (u1 (u1 r1)))) a2)) (3 : Int) && (decide ((0 : Int) ≤ g_pick r0 (u1 (g_Vs_l20Rd_odd_2 r0 (u1 (u1 (u1 (u1 r1)))) a2)) (3 : Int) ∧ g_pick r0 (u1 (g_Vs_l20Rd_odd_2 r0 (u1 (u1 (u1 (u1 r1)))) a2)) (3 : Int) < (3 : Int)) && decide (Int.toNat (g_pick r0 (u1 (g_Vs_l20Rd_odd_2 r0 (u1 (u1 (u1 (u1 r1)))) a2)) (3 : Int)) < nat_lit 3)) else g_pickA r0 (u1 (g_Vs_l20Rd_odd_2 r0 (u1 (u1 (u1 (u1 r1)))) a2)) (3 : Int) && (decide ((0 : Int) ≤ g_pick r0 (u1 (g_Vs_l20Rd_odd_2 r0 (u1 (u1 (u1 (u1 r1)))) a2)) (3 : Int) ∧ g_pick r0 (u1 (g_Vs_l20Rd_odd_2 r0 (u1 (u1 (u1 (u1 r1)))) a2)) (3 : Int) < (3 : Int)) && decide (Int.toNat (g_pick r0 (u1 (g_Vs_l20Rd_odd_2 r0 (u1 (u1 (u1 (u1 r1)))) a2)) (3 : Int)) < nat_lit 3)))))) else g_pickA r0 (u1 r1) (3 : Int) && (g_pickA r0 (u1 (u1 r1)) (3 : Int) && (g_As_l20Rd_odd r0 (u1 (u1 (u1 r1))) a2 && (!g_Vs_l20Rd_odd_0 r0 (u1 (u1 (u1 r1))) a2 || g_pickA r0 (g_Vs_l20Rd_odd_2 r0 (u1 (u1 (u1 r1))) a2) (5 : Int) && bif g_pick r0 (g_Vs_l20Rd_odd_2 r0 (u1 (u1 (u1 r1))) a2) (5 : Int) == (0 : Int) then g_pickA r0 (u1 (g_Vs_l20Rd_odd_2 r0 (u1 (u1 (u1 r1))) a2)) (2 : Int) && (decide ((0 : Int) ≤ g_pick r0 (u1 (g_Vs_l20Rd_odd_2 r0 (u1 (u1 (u1 r1))) a2)) (2 : Int) ∧ g_pick r0 (u1 (g_Vs_l20Rd_odd_2 r0 (u1 (u1 (u1 r1))) a2)) (2 : Int) < (2 : Int)) && decide (Int.toNat (g_pick r0 (u1 (g_Vs_l20Rd_odd_2 r0 (u1 (u1 (u1 r1))) a2)) (2 : Int)) < nat_lit 2)) else bif g_pick r0 (g_Vs_l20Rd_odd_2 r0 (u1 (u1 (u1 r1))) a2) (5 : Int) == (1 : Int) then g_pickA r0 (u1 (g_Vs_l20Rd_odd_2 r0 (u1 (u1 (u1 r1))) a2)) (3 : Int) && (decide ((0 : Int) ≤ g_pick r0 (u1 (g_Vs_l20Rd_odd_2 r0 (u1 (u1 (u1 r1))) a2)) (3 : Int) ∧ g_pick r0 (u1 (g_Vs_l20Rd_odd_2 r0 (u1 (u1 (u1 r1))) a2)) (3 : Int) < (3 : Int)) && decide (Int.toNat (g_pick r0 (u1 (g_Vs_l20Rd_odd_2 r0 (u1 (u1 (u1 r1))) a2)) (3 : Int)) < nat_lit 3)) else bif g_pick r0 (g_Vs_l20Rd_odd_2 r0 (u1 (u1 (u1 r1))) a2) (5 : Int) == (2 : Int) then g_pickA r0 (u1 (g_Vs_l20Rd_odd_2 r0 (u1 (u1 (u1 r1))) a2)) (3 : Int) && (decide ((0 : Int) ≤ g_pick r0 (u1 (g_Vs_l20Rd_odd_2 r0 (u1 (u1 (u1 r1))) a2)) (3 : Int) ∧ g_pick r0 (u1 (g_Vs_l20Rd_odd_2 r0 (u1 (u1 (u1 r1))) a2)) (3 : Int) < (3 : Int)) && decide (Int.toNat (g_pick r0 (u1 (g_Vs_l20Rd_odd_2 r0 (u1 (u1 (u1 r1))) a2)) (3 : Int)) < nat_lit 3)) else bif g_pick r0 (g_Vs_l20Rd_odd_2 r0 (u1 (u1 (u1 r1))) a2) (5 : Int) == (3 : Int) then g_pickA r0 (u1 (g_Vs_l20Rd_odd_2 r0 (u1 (u1 (u1 r1))) a2)) (3 : Int) && (decide ((0 : Int) ≤ g_pick r0 (u1 (g_Vs_l20Rd_odd_2 r0 (u1 (u1 (u1 r1))) a2)) (3 : Int) ∧ g_pick r0 (u1 (g_Vs_l20Rd_odd_2 r0 (u1 (u1 (u1 r1))) a2)) (3 : Int) < (3 : Int)) && decide (Int.toNat (g_pick r0 (u1 (g_Vs_l20Rd_odd_2 r0 (u1 (u1 (u1 r1))) a2)) (3 : Int)) < nat_lit 3)) else g_pickA r0 (u1 (g_Vs_l20Rd_odd_2 r0 (u1 (u1 (u1 r1))) a2)) (3 : Int) && (decide ((0 : Int) ≤ g_pick r0 (u1 (g_Vs_l20Rd_odd_2 r0 (u1 (u1 (u1 r1))) a2)) (3 : Int) ∧ g_pick r0 (u1 (g_Vs_l20Rd_odd_2 r0 (u1 (u1 (u1 r1))) a2)) (3 : Int) < (3 : Int)) && decide (Int.toNat (g_pick r0 (u1 (g_Vs_l20Rd_odd_2 r0 (u1 (u1 (u1 r1))) a2)) (3 : Int)) < nat_lit 3)))))
noncomputable def g_Vs_l20Op_0 (r0 : List Int) (r1 : Int) (a2 : Int) : Int := bif IntKind.wrap IntKind.i64 ((1 : Int) + g_pick r0 r1 (5 : Int)) == (1 : Int) then bif IntKind.wrap IntKind.i64 ((1 : Int) + g_pick r0 r1 (5 : Int)) == (1 : Int) then bif g_Vs_l20Rd_odd_0 r0 (u1 (u1 (u1 r1))) a2 then bif g_pick r0 (g_Vs_l20Rd_odd_2 r0 (u1 (u1 (u1 r1))) a2) (5 : Int) == (0 : Int) then at_ (Ty.int IntKind.i64) [(0 : Int), (6 : Int)] (Int.toNat (g_pick r0 (u1 (g_Vs_l20Rd_odd_2 r0 (u1 (u1 (u1 r1))) a2)) (2 : Int))) else bif g_pick r0 (g_Vs_l20Rd_odd_2 r0 (u1 (u1 (u1 r1))) a2) (5 : Int) == (1 : Int) then IntKind.wrap IntKind.i64 ((1 : Int) + g_pick r0 r1 (5 : Int)) else bif g_pick r0 (g_Vs_l20Rd_odd_2 r0 (u1 (u1 (u1 r1))) a2) (5 : Int) == (2 : Int) then IntKind.wrap IntKind.i64 ((1 : Int) + g_pick r0 r1 (5 : Int)) else bif g_pick r0 (g_Vs_l20Rd_odd_2 r0 (u1 (u1 (u1 r1))) a2) (5 : Int) == (3 : Int) then IntKind.wrap IntKind.i64 ((1 : Int) + g_pick r0 r1 (5 : Int)) else IntKind.wrap IntKind.i64 ((1 : Int) + g_pick r0 r1 (5 : Int)) else IntKind.wrap IntKind.i64 ((1 : Int) + g_pick r0 r1 (5 : Int)) else bif IntKind.wrap IntKind.i64 ((1 : Int) + g_pick r0 r1 (5 : Int)) == (2 : Int) then bif g_Vs_l20Rd_odd_0 r0 (u1 (u1 (u1 (u1 (u1 r1))))) a2 then bif g_pick r0 (g_Vs_l20Rd_odd_2 r0 (u1 (u1 (u1 (u1 (u1 r1))))) a2) (5 : Int) == (0 : Int) then at_ (Ty.int IntKind.i64) [(0 : Int), (6 : Int)] (Int.toNat (g_pick r0 (u1 (g_Vs_l20Rd_odd_2 r0 (u1 (u1 (u1 (u1 (u1 r1))))) a2)) (2 : Int))) else bif g_pick r0 (g_Vs_l20Rd_odd_2 r0 (u1 (u1 (u1 (u1 (u1 r1))))) a2) (5 : Int) == (1 : Int) then (2 : Int) else bif g_pick r0 (g_Vs_l20Rd_odd_2 r0 (u1 (u1 (u1 (u1 (u1 r1))))) a2) (5 : Int) == (2 : Int) then (2 : Int) else bif g_pick r0 (g_Vs_l20Rd_odd_2 r0 (u1 (u1 (u1 (u1 (u1 r1))))) a2) (5 : Int) == (3 : Int) then (2 : Int) else (2 : Int) else (2 : Int) else bif IntKind.wrap IntKind.i64 ((1 : Int) + g_pick r0 r1 (5 : Int)) == (3 : Int) then bif g_Vs_l20Rd_odd_0 r0 (u1 (u1 (u1 (u1 r1)))) a2 then bif g_pick r0 (g_Vs_l20Rd_odd_2 r0 (u1 (u1 (u1 (u1 r1)))) a2) (5 : Int) == (0 : Int) then at_ (Ty.int IntKind.i64) [(0 : Int), (6 : Int)] (Int.toNat (g_pick r0 (u1 (g_Vs_l20Rd_odd_2 r0 (u1 (u1 (u1 (u1 r1)))) a2)) (2 : Int))) else bif g_pick r0 (g_Vs_l20Rd_odd_2 r0 (u1 (u1 (u1 (u1 r1)))) a2) (5 : Int) == (1 : Int) then (3 : Int) else bif g_pick r0 (g_Vs_l20Rd_odd_2 r0 (u1 (u1 (u1 (u1 r1)))) a2) (5 : Int) == (2 : Int) then (3 : Int) else bif g_pick r0 (g_Vs_l20Rd_odd_2 r0 (u1 (u1 (u1 (u1 r1)))) a2) (5 : Int) == (3 : Int) then (3 : Int) else (3 : Int) else (3 : Int) else bif g_Vs_l20Rd_odd_0 r0 (u1 (u1 (u1 r1))) a2 then bif g_pick r0 (g_Vs_l20Rd_odd_2 r0 (u1 (u1 (u1 r1))) a2) (5 : Int) == (0 : Int) then at_ (Ty.int IntKind.i64) [(0 : Int), (6 : Int)] (Int.toNat (g_pick r0 (u1 (g_Vs_l20Rd_odd_2 r0 (u1 (u1 (u1 r1))) a2)) (2 : Int))) else bif g_pick r0 (g_Vs_l20Rd_odd_2 r0 (u1 (u1 (u1 r1))) a2) (5 : Int) == (1 : Int) then (4 : Int) else bif g_pick r0 (g_Vs_l20Rd_odd_2 r0 (u1 (u1 (u1 r1))) a2) (5 : Int) == (2 : Int) then (4 : Int) else bif g_pick r0 (g_Vs_l20Rd_odd_2 r0 (u1 (u1 (u1 r1))) a2) (5 : Int) == (3 : Int) then (4 : Int) else (4 : Int) else (4 : Int) else bif IntKind.wrap IntKind.i64 ((1 : Int) + g_pick r0 r1 (5 : Int)) == (5 : Int) then bif g_Vs_l20Rd_odd_0 r0 (u1 (u1 (u1 r1))) a2 then bif g_pick r0 (g_Vs_l20Rd_odd_2 r0 (u1 (u1 (u1 r1))) a2) (5 : Int) == (0 : Int) then at_ (Ty.int IntKind.i64) [(0 : Int), (6 : Int)] (Int.toNat (g_pick r0 (u1 (g_Vs_l20Rd_odd_2 r0 (u1 (u1 (u1 r1))) a2)) (2 : Int))) else bif g_pick r0 (g_Vs_l20Rd_odd_2 r0 (u1 (u1 (u1 r1))) a2) (5 : Int) == (1 : Int) then IntKind.wrap IntKind.i64 ((1 : Int) + g_pick r0 r1 (5 : Int)) else bif g_pick r0 (g_Vs_l20Rd_odd_2 r0 (u1 (u1 (u1 r1))) a2) (5 : Int) == (2 : Int) then IntKind.wrap IntKind.i64 ((1 : Int) + g_pick r0 r1 (5 : Int)) else bif g_pick r0 (g_Vs_l20Rd_odd_2 r0 (u1 (u1 (u1 r1))) a2) (5 : Int) == (3 : Int) then IntKind.wrap IntKind.i64 ((1 : Int) + g_pick r0 r1 (5 : Int)) else IntKind.wrap IntKind.i64 ((1 : Int) + g_pick r0 r1 (5 : Int)) else IntKind.wrap IntKind.i64 ((1 : Int) + g_pick r0 r1 (5 : Int)) else bif IntKind.wrap IntKind.i64 ((1 : Int) + g_pick r0 r1 (5 : Int)) == (2 : Int) then bif g_Vs_l20Rd_odd_0 r0 (u1 (u1 (u1 (u1 (u1 r1))))) a2 then bif g_pick r0 (g_Vs_l20Rd_odd_2 r0 (u1 (u1 (u1 (u1 (u1 r1))))) a2) (5 : Int) == (0 : Int) then at_ (Ty.int IntKind.i64) [(0 : Int), (6 : Int)] (Int.toNat (g_pick r0 (u1 (g_Vs_l20Rd_odd_2 r0 (u1 (u1 (u1 (u1 (u1 r1))))) a2)) (2 : Int))) else bif g_pick r0 (g_Vs_l20Rd_odd_2 r0 (u1 (u1 (u1 (u1 (u1 r1))))) a2) (5 : Int) == (1 : Int) then (2 : Int) else bif g_pick r0 (g_Vs_l20Rd_odd_2 r0 (u1 (u1 (u1 (u1 (u1 r1))))) a2) (5 : Int) == (2 : Int) then (2 : Int) else bif g_pick r0 (g_Vs_l20Rd_odd_2 r0 (u1 (u1 (u1 (u1 (u1 r1))))) a2) (5 : Int) == (3 : Int) then (2 : Int) else (2 : Int) else (2 : Int) else bif IntKind.wrap IntKind.i64 ((1 : Int) + g_pick r0 r1 (5 : Int)) == (3 : Int) then bif g_Vs_l20Rd_odd_0 r0 (u1 (u1 (u1 (u1 r1)))) a2 then bif g_pick r0 (g_Vs_l20Rd_odd_2 r0 (u1 (u1 (u1 (u1 r1)))) a2) (5 : Int) == (0 : Int) then at_ (Ty.int IntKind.i64) [(0 : Int), (6 : Int)] (Int.toNat (g_pick r0 (u1 (g_Vs_l20Rd_odd_2 r0 (u1 (u1 (u1 (u1 r1)))) a2)) (2 : Int))) else bif g_pick r0 (g_Vs_l20Rd_odd_2 r0 (u1 (u1 (u1 (u1 r1)))) a2) (5 : Int) == (1 : Int) then (3 : Int) else bif g_pick r0 (g_Vs_l20Rd_odd_2 r0 (u1 (u1 (u1 (u1 r1)))) a2) (5 : Int) == (2 : Int) then (3 : Int) else bif g_pick r0 (g_Vs_l20Rd_odd_2 r0 (u1 (u1 (u1 (u1 r1)))) a2) (5 : Int) == (3 : Int) then (3 : Int) else (3 : Int) else (3 : Int) else bif g_Vs_l20Rd_odd_0 r0 (u1 (u1 (u1 r1))) a2 then bif g_pick r0 (g_Vs_l20Rd_odd_2 r0 (u1 (u1 (u1 r1))) a2) (5 : Int) == (0 : Int) then at_ (Ty.int IntKind.i64) [(0 : Int), (6 : Int)] (Int.toNat (g_pick r0 (u1 (g_Vs_l20Rd_odd_2 r0 (u1 (u1 (u1 r1))) a2)) (2 : Int))) else bif g_pick r0 (g_Vs_l20Rd_odd_2 r0 (u1 (u1 (u1 r1))) a2) (5 : Int) == (1 : Int) then (4 : Int) else bif g_pick r0 (g_Vs_l20Rd_odd_2 r0 (u1 (u1 (u1 r1))) a2) (5 : Int) == (2 : Int) then (4 : Int) else bif g_pick r0 (g_Vs_l20Rd_odd_2 r0 (u1 (u1 (u1 r1))) a2) (5 : Int) == (3 : Int) then (4 : Int) else (4 : Int) else (4 : Int)
noncomputable def g_Vs_l20Op_1 (r0 : List Int) (r1 : Int) (a2 : Int) : Int := bif IntKind.wrap IntKind.i64 ((1 : Int) + g_pick r0 r1 (5 : Int)) == (1 : Int) then bif IntKind.wrap IntKind.i64 ((1 : Int) + g_pick r0 r1 (5 : Int)) == (1 : Int) then bif g_Vs_l20Rd_odd_0 r0 (u1 (u1 (u1 r1))) a2 then bif g_pick r0 (g_Vs_l20Rd_odd_2 r0 (u1 (u1 (u1 r1))) a2) (5 : Int) == (0 : Int) then g_pick r0 (u1 r1) (2 : Int) else bif g_pick r0 (g_Vs_l20Rd_odd_2 r0 (u1 (u1 (u1 r1))) a2) (5 : Int) == (1 : Int) then at_ (Ty.int IntKind.i64) [(-1 : Int), (10 : Int), (1 : Int)] (Int.toNat (g_pick r0 (u1 (g_Vs_l20Rd_odd_2 r0 (u1 (u1 (u1 r1))) a2)) (3 : Int))) else bif g_pick r0 (g_Vs_l20Rd_odd_2 r0 (u1 (u1 (u1 r1))) a2) (5 : Int) == (2 : Int) then g_pick r0 (u1 r1) (2 : Int) else bif g_pick r0 (g_Vs_l20Rd_odd_2 r0 (u1 (u1 (u1 r1))) a2) (5 : Int) == (3 : Int) then g_pick r0 (u1 r1) (2 : Int) else g_pick r0 (u1 r1) (2 : Int) else g_pick r0 (u1 r1) (2 : Int) else bif IntKind.wrap IntKind.i64 ((1 : Int) + g_pick r0 r1 (5 : Int)) == (2 : Int) then bif g_Vs_l20Rd_odd_0 r0 (u1 (u1 (u1 (u1 (u1 r1))))) a2 then bif g_pick r0 (g_Vs_l20Rd_odd_2 r0 (u1 (u1 (u1 (u1 (u1 r1))))) a2) (5 : Int) == (0 : Int) then g_pick r0 (u1 r1) (2 : Int) else bif g_pick r0 (g_Vs_l20Rd_odd_2 r0 (u1 (u1 (u1 (u1 (u1 r1))))) a2) (5 : Int) == (1 : Int) then at_ (Ty.int IntKind.i64) [(-1 : Int), (10 : Int), (1 : Int)] (Int.toNat (g_pick r0 (u1 (g_Vs_l20Rd_odd_2 r0 (u1 (u1 (u1 (u1 (u1 r1))))) a2)) (3 : Int))) else bif g_pick r0 (g_Vs_l20Rd_odd_2 r0 (u1 (u1 (u1 (u1 (u1 r1))))) a2) (5 : Int) == (2 : Int) then g_pick r0 (u1 r1) (2 : Int) else bif g_pick r0 (g_Vs_l20Rd_odd_2 r0 (u1 (u1 (u1 (u1 (u1 r1))))) a2) (5 : Int) == (3 : Int) then g_pick r0 (u1 r1) (2 : Int) else g_pick r0 (u1 r1) (2 : Int) else g_pick r0 (u1 r1) (2 : Int) else bif IntKind.wrap IntKind.i64 ((1 : Int) + g_pick r0 r1 (5 : Int)) == (3 : Int) then bif g_Vs_l20Rd_odd_0 r0 (u1 (u1 (u1 (u1 r1)))) a2 then bif g_pick r0 (g_Vs_l20Rd_odd_2 r0 (u1 (u1 (u1 (u1 r1)))) a2) (5 : Int) == (0 : Int) then (0 : Int) else bif g_pick r0 (g_Vs_l20Rd_odd_2 r0 (u1 (u1 (u1 (u1 r1)))) a2) (5 : Int) == (1 : Int) then at_ (Ty.int IntKind.i64) [(-1 : Int), (10 : Int), (1 : Int)] (Int.toNat (g_pick r0 (u1 (g_Vs_l20Rd_odd_2 r0 (u1 (u1 (u1 (u1 r1)))) a2)) (3 : Int))) else bif g_pick r0 (g_Vs_l20Rd_odd_2 r0 (u1 (u1 (u1 (u1 r1)))) a2) (5 : Int) == (2 : Int) then (0 : Int) else bif g_pick r0 (g_Vs_l20Rd_odd_2 r0 (u1 (u1 (u1 (u1 r1)))) a2) (5 : Int) == (3 : Int) then (0 : Int) else (0 : Int) else (0 : Int) else bif g_Vs_l20Rd_odd_0 r0 (u1 (u1 (u1 r1))) a2 then bif g_pick r0 (g_Vs_l20Rd_odd_2 r0 (u1 (u1 (u1 r1))) a2) (5 : Int) == (0 : Int) then (0 : Int) else bif g_pick r0 (g_Vs_l20Rd_odd_2 r0 (u1 (u1 (u1 r1))) a2) (5 : Int) == (1 : Int) then at_ (Ty.int IntKind.i64) [(-1 : Int), (10 : Int), (1 : Int)] (Int.toNat (g_pick r0 (u1 (g_Vs_l20Rd_odd_2 r0 (u1 (u1 (u1 r1))) a2)) (3 : Int))) else bif g_pick r0 (g_Vs_l20Rd_odd_2 r0 (u1 (u1 (u1 r1))) a2) (5 : Int) == (2 : Int) then (0 : Int) else bif g_pick r0 (g_Vs_l20Rd_odd_2 r0 (u1 (u1 (u1 r1))) a2) (5 : Int) == (3 : Int) then (0 : Int) else (0 : Int) else (0 : Int) else bif IntKind.wrap IntKind.i64 ((1 : Int) + g_pick r0 r1 (5 : Int)) == (5 : Int) then bif g_Vs_l20Rd_odd_0 r0 (u1 (u1 (u1 r1))) a2 then bif g_pick r0 (g_Vs_l20Rd_odd_2 r0 (u1 (u1 (u1 r1))) a2) (5 : Int) == (0 : Int) then g_pick r0 (u1 r1) (2 : Int) else bif g_pick r0 (g_Vs_l20Rd_odd_2 r0 (u1 (u1 (u1 r1))) a2) (5 : Int) == (1 : Int) then at_ (Ty.int IntKind.i64) [(-1 : Int), (10 : Int), (1 : Int)] (Int.toNat (g_pick r0 (u1 (g_Vs_l20Rd_odd_2 r0 (u1 (u1 (u1 r1))) a2)) (3 : Int))) else bif g_pick r0 (g_Vs_l20Rd_odd_2 r0 (u1 (u1 (u1 r1))) a2) (5 : Int) == (2 : Int) then g_pick r0 (u1 r1) (2 : Int) else bif g_pick r0 (g_Vs_l20Rd_odd_2 r0 (u1 (u1 (u1 r1))) a2) (5 : Int) == (3 : Int) then g_pick r0 (u1 r1) (2 : Int) else g_pick r0 (u1 r1) (2 : Int) else g_pick r0 (u1 r1) (2 : Int) else bif IntKind.wrap IntKind.i64 ((1 : Int) + g_pick r0 r1 (5 : Int)) == (2 : Int) then bif g_Vs_l20Rd_odd_0 r0 (u1 (u1 (u1 (u1 (u1 r1))))) a2 then bif g_pick r0 (g_Vs_l20Rd_odd_2 r0 (u1 (u1 (u1 (u1 (u1 r1))))) a2) (5 : Int) == (0 : Int) then g_pick r0 (u1 r1) (2 : Int) else bif g_pick r0 (g_Vs_l20Rd_odd_2 r0 (u1 (u1 (u1 (u1 (u1 r1))))) a2) (5 : Int) == (1 : Int) then at_ (Ty.int IntKind.i64) [(-1 : Int), (10 : Int), (1 : Int)] (Int.toNat (g_pick r0 (u1 (g_Vs_l20Rd_odd_2 r0 (u1 (u1 (u1 (u1 (u1 r1))))) a2)) (3 : Int))) else bif g_pick r0 (g_Vs_l20Rd_odd_2 r0 (u1 (u1 (u1 (u1 (u1 r1))))) a2) (5 : Int) == (2 : Int) then g_pick r0 (u1 r1) (2 : Int) else bif g_pick r0 (g_Vs_l20Rd_odd_2 r0 (u1 (u1 (u1 (u1 (u1 r1))))) a2) (5 : Int) == (3 : Int) then g_pick r0 (u1 r1) (2 : Int) else g_pick r0 (u1 r1) (2 : Int) else g_pick r0 (u1 r1) (2 : Int) else bif IntKind.wrap IntKind.i64 ((1 : Int) + g_pick r0 r1 (5 : Int)) == (3 : Int) then bif g_Vs_l20Rd_odd_0 r0 (u1 (u1 (u1 (u1 r1)))) a2 then bif g_pick r0 (g_Vs_l20Rd_odd_2 r0 (u1 (u1 (u1 (u1 r1)))) a2) (5 : Int) == (0 : Int) then (0 : Int) else bif g_pick r0 (g_Vs_l20Rd_odd_2 r0 (u1 (u1 (u1 (u1 r1)))) a2) (5 : Int) == (1 : Int) then at_ (Ty.int IntKind.i64) [(-1 : Int), (10 : Int), (1 : Int)] (Int.toNat (g_pick r0 (u1 (g_Vs_l20Rd_odd_2 r0 (u1 (u1 (u1 (u1 r1)))) a2)) (3 : Int))) else bif g_pick r0 (g_Vs_l20Rd_odd_2 r0 (u1 (u1 (u1 (u1 r1)))) a2) (5 : Int) == (2 : Int) then (0 : Int) else bif g_pick r0 (g_Vs_l20Rd_odd_2 r0 (u1 (u1 (u1 (u1 r1)))) a2) (5 : Int) == (3 : Int) then (0 : Int) else (0 : Int) else (0 : Int) else bif g_Vs_l20Rd_odd_0 r0 (u1 (u1 (u1 r1))) a2 then bif g_pick r0 (g_Vs_l20Rd_odd_2 r0 (u1 (u1 (u1 r1))) a2) (5 : Int) == (0 : Int) then (0 : Int) else bif g_pick r0 (g_Vs_l20Rd_odd_2 r0 (u1 (u1 (u1 r1))) a2) (5 : Int) == (1 : Int) then at_ (Ty.int IntKind.i64) [(-1 : Int), (10 : Int), (1 : Int)] (Int.toNat (g_pick r0 (u1 (g_Vs_l20Rd_odd_2 r0 (u1 (u1 (u1 r1))) a2)) (3 : Int))) else bif g_pick r0 (g_Vs_l20Rd_odd_2 r0 (u1 (u1 (u1 r1))) a2) (5 : Int) == (2 : Int) then (0 : Int) else bif g_pick r0 (g_Vs_l20Rd_odd_2 r0 (u1 (u1 (u1 r1))) a2) (5 : Int) == (3 : Int) then (0 : Int) else (0 : Int) else (0 : Int)
noncomputable def g_Vs_l20Op_2 (r0 : List Int) (r1 : Int) (a2 : Int) : Int := bif IntKind.wrap IntKind.i64 ((1 : Int) + g_pick r0 r1 (5 : Int)) == (1 : Int) then bif IntKind.wrap IntKind.i64 ((1 : Int) + g_pick r0 r1 (5 : Int)) == (1 : Int) then bif g_Vs_l20Rd_odd_0 r0 (u1 (u1 (u1 r1))) a2 then bif g_pick r0 (g_Vs_l20Rd_odd_2 r0 (u1 (u1 (u1 r1))) a2) (5 : Int) == (0 : Int) then g_pick r0 (u1 (u1 r1)) (3 : Int) else bif g_pick r0 (g_Vs_l20Rd_odd_2 r0 (u1 (u1 (u1 r1))) a2) (5 : Int) == (1 : Int) then g_pick r0 (u1 (u1 r1)) (3 : Int) else bif g_pick r0 (g_Vs_l20Rd_odd_2 r0 (u1 (u1 (u1 r1))) a2) (5 : Int) == (2 : Int) then g_pick r0 (u1 (u1 r1)) (3 : Int) else bif g_pick r0 (g_Vs_l20Rd_odd_2 r0 (u1 (u1 (u1 r1))) a2) (5 : Int) == (3 : Int) then g_pick r0 (u1 (u1 r1)) (3 : Int) else g_pick r0 (u1 (u1 r1)) (3 : Int) else g_pick r0 (u1 (u1 r1)) (3 : Int) else bif IntKind.wrap IntKind.i64 ((1 : Int) + g_pick r0 r1 (5 : Int)) == (2 : Int) then bif g_Vs_l20Rd_odd_0 r0 (u1 (u1 (u1 (u1 (u1 r1))))) a2 then bif g_pick r0 (g_Vs_l20Rd_odd_2 r0 (u1 (u1 (u1 (u1 (u1 r1))))) a2) (5 : Int) == (0 : Int) then g_pick r0 (u1 (u1 r1)) (3 : Int) else bif g_pick r0 (g_Vs_l20Rd_odd_2 r0 (u1 (u1 (u1 (u1 (u1 r1))))) a2) (5 : Int) == (1 : Int) then g_pick r0 (u1 (u1 r1)) (3 : Int) else bif g_pick r0 (g_Vs_l20Rd_odd_2 r0 (u1 (u1 (u1 (u1 (u1 r1))))) a2) (5 : Int) == (2 : Int) then g_pick r0 (u1 (u1 r1)) (3 : Int) else bif g_pick r0 (g_Vs_l20Rd_odd_2 r0 (u1 (u1 (u1 (u1 (u1 r1))))) a2) (5 : Int) == (3 : Int) then g_pick r0 (u1 (u1 r1)) (3 : Int) else g_pick r0 (u1 (u1 r1)) (3 : Int) else g_pick r0 (u1 (u1 r1)) (3 : Int) else bif IntKind.wrap IntKind.i64 ((1 : Int) + g_pick r0 r1 (5 : Int)) == (3 : Int) then bif g_Vs_l20Rd_odd_0 r0 (u1 (u1 (u1 (u1 r1)))) a2 then bif g_pick r0 (g_Vs_l20Rd_odd_2 r0 (u1 (u1 (u1 (u1 r1)))) a2) (5 : Int) == (0 : Int) then (0 : Int) else bif g_pick r0 (g_Vs_l20Rd_odd_2 r0 (u1 (u1 (u1 (u1 r1)))) a2) (5 : Int) == (1 : Int) then (0 : Int) else bif g_pick r0 (g_Vs_l20Rd_odd_2 r0 (u1 (u1 (u1 (u1 r1)))) a2) (5 : Int) == (2 : Int) then (0 : Int) else bif g_pick r0 (g_Vs_l20Rd_odd_2 r0 (u1 (u1 (u1 (u1 r1)))) a2) (5 : Int) == (3 : Int) then (0 : Int) else (0 : Int) else (0 : Int) else bif g_Vs_l20Rd_odd_0 r0 (u1 (u1 (u1 r1))) a2 then bif g_pick r0 (g_Vs_l20Rd_odd_2 r0 (u1 (u1 (u1 r1))) a2) (5 : Int) == (0 : Int) then (0 : Int) else bif g_pick r0 (g_Vs_l20Rd_odd_2 r0 (u1 (u1 (u1 r1))) a2) (5 : Int) == (1 : Int) then (0 : Int) else bif g_pick r0 (g_Vs_l20Rd_odd_2 r0 (u1 (u1 (u1 r1))) a2) (5 : Int) == (2 : Int) then (0 : Int) else bif g_pick r0 (g_Vs_l20Rd_odd_2 r0 (u1 (u1 (u1 r1))) a2) (5 : Int) == (3 : Int) then (0 : Int) else (0 : Int) else (0 : Int) else bif IntKind.wrap IntKind.i64 ((1 : Int) + g_pick r0 r1 (5 : Int)) == (5 : Int) then bif g_Vs_l20Rd_odd_0 r0 (u1 (u1 (u1 r1))) a2 then bif g_pick r0 (g_Vs_l20Rd_odd_2 r0 (u1 (u1 (u1 r1))) a2) (5 : Int) == (0 : Int) then g_pick r0 (u1 (u1 r1)) (3 : Int) else bif g_pick r0 (g_Vs_l20Rd_odd_2 r0 (u1 (u1 (u1 r1))) a2) (5 : Int) == (1 : Int) then g_pick r0 (u1 (u1 r1)) (3 : Int) else bif g_pick r0 (g_Vs_l20Rd_odd_2 r0 (u1 (u1 (u1 r1))) a2) (5 : Int) == (2 : Int) then g_pick r0 (u1 (u1 r1)) (3 : Int) else bif g_pick r0 (g_Vs_l20Rd_odd_2 r0 (u1 (u1 (u1 r1))) a2) (5 : Int) == (3 : Int) then g_pick r0 (u1 (u1 r1)) (3 : Int) else g_pick r0 (u1 (u1 r1)) (3 : Int) else g_pick r0 (u1 (u1 r1)) (3 : Int) else bif IntKind.wrap IntKind.i64 ((1 : Int) + g_pick r0 r1 (5 : Int)) == (2 : Int) then bif g_Vs_l20Rd_odd_0 r0 (u1 (u1 (u1 (u1 (u1 r1))))) a2 then bif g_pick r0 (g_Vs_l20Rd_odd_2 r0 (u1 (u1 (u1 (u1 (u1 r1))))) a2) (5 : Int) == (0 : Int) then g_pick r0 (u1 (u1 r1)) (3 : Int) else bif g_pick r0 (g_Vs_l20Rd_odd_2 r0 (u1 (u1 (u1 (u1 (u1 r1))))) a2) (5 : Int) == (1 : Int) then g_pick r0 (u1 (u1 r1)) (3 : Int) else bif g_pick r0 (g_Vs_l20Rd_odd_2 r0 (u1 (u1 (u1 (u1 (u1 r1))))) a2) (5 : Int) == (2 : Int) then g_pick r0 (u1 (u1 r1)) (3 : Int) else bif g_pick r0 (g_Vs_l20Rd_odd_2 r0 (u1 (u1 (u1 (u1 (u1 r1))))) a2) (5 : Int) == (3 : Int) then g_pick r0 (u1 (u1 r1)) (3 : Int) else g_pick r0 (u1 (u1 r1)) (3 : Int) else g_pick r0 (u1 (u1 r1)) (3 : Int) else bif IntKind.wrap IntKind.i64 ((1 : Int) + g_pick r0 r1 (5 : Int)) == (3 : Int) then bif g_Vs_l20Rd_odd_0 r0 (u1 (u1 (u1 (u1 r1)))) a2 then bif g_pick r0 (g_Vs_l20Rd_odd_2 r0 (u1 (u1 (u1 (u1 r1)))) a2) (5 : Int) == (0 : Int) then (0 : Int) else bif g_pick r0 (g_Vs_l20Rd_odd_2 r0 (u1 (u1 (u1 (u1 r1)))) a2) (5 : Int) == (1 : Int) then (0 : Int) else bif g_pick r0 (g_Vs_l20Rd_odd_2 r0 (u1 (u1 (u1 (u1 r1)))) a2) (5 : Int) == (2 : Int) then (0 : Int) else bif g_pick r0 (g_Vs_l20Rd_odd_2 r0 (u1 (u1 (u1 (u1 r1)))) a2) (5 : Int) == (3 : Int) then (0 : Int) else (0 : Int) else (0 : Int) else bif g_Vs_l20Rd_odd_0 r0 (u1 (u1 (u1 r1))) a2 then bif g_pick r0 (g_Vs_l20Rd_odd_2 r0 (u1 (u1 (u1 r1))) a2) (5 : Int) == (0 : Int) then (0 : Int) else bif g_pick r0 (g_Vs_l20Rd_odd_2 r0 (u1 (u1 (u1 r1))) a2) (5 : Int) == (1 : Int) then (0 : Int) else bif g_pick r0 (g_Vs_l20Rd_odd_2 r0 (u1 (u1 (u1 r1))) a2) (5 : Int) == (2 : Int) then (0 : Int) else bif g_pick r0 (g_Vs_l20Rd_odd_2 r0 (u1 (u1 (u1 r1))) a2) (5 : Int) == (3 : Int) then (0 : Int) else (0 : Int) else (0 : Int)
noncomputable def g_Vs_l20Op_3 (r0 : List Int) (r1 : Int) (a2 : Int) : Int := bif IntKind.wrap IntKind.i64 ((1 : Int) + g_pick r0 r1 (5 : Int)) == (1 : Int) then bif IntKind.wrap IntKind.i64 ((1 : Int) + g_pick r0 r1 (5 : Int)) == (1 : Int) then bif g_Vs_l20Rd_odd_0 r0 (u1 (u1 (u1 r1))) a2 then bif g_pick r0 (g_Vs_l20Rd_odd_2 r0 (u1 (u1 (u1 r1))) a2) (5 : Int) == (0 : Int) then (0 : Int) else bif g_pick r0 (g_Vs_l20Rd_odd_2 r0 (u1 (u1 (u1 r1))) a2) (5 : Int) == (1 : Int) then (0 : Int) else bif g_pick r0 (g_Vs_l20Rd_odd_2 r0 (u1 (u1 (u1 r1))) a2) (5 : Int) == (2 : Int) then at_ (Ty.int IntKind.i64) [(-1 : Int), (10 : Int), (1 : Int)] (Int.toNat (g_pick r0 (u1 (g_Vs_l20Rd_odd_2 r0 (u1 (u1 (u1 r1))) a2)) (3 : Int))) else bif g_pick r0 (g_Vs_l20Rd_odd_2 r0 (u1 (u1 (u1 r1))) a2) (5 : Int) == (3 : Int) then (0 : Int) else (0 : Int) else (0 : Int) else bif IntKind.wrap IntKind.i64 ((1 : Int) + g_pick r0 r1 (5 : Int)) == (2 : Int) then bif g_Vs_l20Rd_odd_0 r0 (u1 (u1 (u1 (u1 (u1 r1))))) a2 then bif g_pick r0 (g_Vs_l20Rd_odd_2 r0 (u1 (u1 (u1 (u1 (u1 r1))))) a2) (5 : Int) == (0 : Int) then g_pick r0 (u1 (u1 (u1 r1))) (3 : Int) else bif g_pick r0 (g_Vs_l20Rd_odd_2 r0 (u1 (u1 (u1 (u1 (u1 r1))))) a2) (5 : Int) == (1 : Int) then g_pick r0 (u1 (u1 (u1 r1))) (3 : Int) else bif g_pick r0 (g_Vs_l20Rd_odd_2 r0 (u1 (u1 (u1 (u1 (u1 r1))))) a2) (5 : Int) == (2 : Int) then at_ (Ty.int IntKind.i64) [(-1 : Int), (10 : Int), (1 : Int)] (Int.toNat (g_pick r0 (u1 (g_Vs_l20Rd_odd_2 r0 (u1 (u1 (u1 (u1 (u1 r1))))) a2)) (3 : Int))) else bif g_pick r0 (g_Vs_l20Rd_odd_2 r0 (u1 (u1 (u1 (u1 (u1 r1))))) a2) (5 : Int) == (3 : Int) then g_pick r0 (u1 (u1 (u1 r1))) (3 : Int) else g_pick r0 (u1 (u1 (u1 r1))) (3 : Int) else g_pick r0 (u1 (u1 (u1 r1))) (3 : Int) else bif IntKind.wrap IntKind.i64 ((1 : Int) + g_pick r0 r1 (5 : Int)) == (3 : Int) then bif g_Vs_l20Rd_odd_0 r0 (u1 (u1 (u1 (u1 r1)))) a2 then bif g_pick r0 (g_Vs_l20Rd_odd_2 r0 (u1 (u1 (u1 (u1 r1)))) a2) (5 : Int) == (0 : Int) then g_pick r0 (u1 r1) (3 : Int) else bif g_pick r0 (g_Vs_l20Rd_odd_2 r0 (u1 (u1 (u1 (u1 r1)))) a2) (5 : Int) == (1 : Int) then g_pick r0 (u1 r1) (3 : Int) else bif g_pick r0 (g_Vs_l20Rd_odd_2 r0 (u1 (u1 (u1 (u1 r1)))) a2) (5 : Int) == (2 : Int) then at_ (Ty.int IntKind.i64) [(-1 : Int), (10 : Int), (1 : Int)] (Int.toNat (g_pick r0 (u1 (g_Vs_l20Rd_odd_2 r0 (u1 (u1 (u1 (u1 r1)))) a2)) (3 : Int))) else bif g_pick r0 (g_Vs_l20Rd_odd_2 r0 (u1 (u1 (u1 (u1 r1)))) a2) (5 : Int) == (3 : Int) then g_pick r0 (u1 r1) (3 : Int) else g_pick r0 (u1 r1) (3 : Int) else g_pick r0 (u1 r1) (3 : Int) else bif g_Vs_l20Rd_odd_0 r0 (u1 (u1 (u1 r1))) a2 then bif g_pick r0 (g_Vs_l20Rd_odd_2 r0 (u1 (u1 (u1 r1))) a2) (5 : Int) == (0 : Int) then (0 : Int) else bif g_pick r0 (g_Vs_l20Rd_odd_2 r0 (u1 (u1 (u1 r1))) a2) (5 : Int) == (1 : Int) then (0 : Int) else bif g_pick r0 (g_Vs_l20Rd_odd_2 r0 (u1 (u1 (u1 r1))) a2) (5 : Int) == (2 : Int) then at_ (Ty.int IntKind.i64) [(-1 : Int), (10 : Int), (1 : Int)] (Int.toNat (g_pick r0 (u1 (g_Vs_l20Rd_odd_2 r0 (u1 (u1 (u1 r1))) a2)) (3 : Int))) else bif g_pick r0 (g_Vs_l20Rd_odd_2 r0 (u1 (u1 (u1 r1))) a2) (5 : Int) == (3 : Int) then (0 : Int) else (0 : Int) else (0 : Int) else bif IntKind.wrap IntKind.i64 ((1 : Int) + g_pick r0 r1 (5 : Int)) == (5 : Int) then bif g_Vs_l20Rd_odd_0 r0 (u1 (u1 (u1 r1))) a2 then bif g_pick r0 (g_Vs_l20Rd_odd_2 r0 (u1 (u1 (u1 r1))) a2) (5 : Int) == (0 : Int) then (0 : Int) else bif g_pick r0 (g_Vs_l20Rd_odd_2 r0 (u1 (u1 (u1 r1))) a2) (5 : Int) == (1 : Int) then (0 : Int) else bif g_pick r0 (g_Vs_l20Rd_odd_2 r0 (u1 (u1 (u1 r1))) a2) (5 : Int) == (2 : Int) then at_ (Ty.int IntKind.i64) [(-1 : Int), (10 : Int), (1 : Int)] (Int.toNat (g_pick r0 (u1 (g_Vs_l20Rd_odd_2 r0 (u1 (u1 (u1 r1))) a2)) (3 : Int))) else bif g_pick r0 (g_Vs_l20Rd_odd_2 r0 (u1 (u1 (u1 r1))) a2) (5 : Int) == (3 : Int) then (0 : Int) else (0 : Int) else (0 : Int) else bif IntKind.wrap IntKind.i64 ((1 : Int) + g_pick r0 r1 (5 : Int)) == (2 : Int) then bif g_Vs_l20Rd_odd_0 r0 (u1 (u1 (u1 (u1 (u1 r1))))) a2 then bif g_pick r0 (g_Vs_l20Rd_odd_2 r0 (u1 (u1 (u1 (u1 (u1 r1))))) a2) (5 : Int) == (0 : Int) then g_pick r0 (u1 (u1 (u1 r1))) (3 : Int) else bif g_pick r0 (g_Vs_l20Rd_odd_2 r0 (u1 (u1 (u1 (u1 (u1 r1))))) a2) (5 : Int) == (1 : Int) then g_pick r0 (u1 (u1 (u1 r1))) (3 : Int) else bif g_pick r0 (g_Vs_l20Rd_odd_2 r0 (u1 (u1 (u1 (u1 (u1 r1))))) a2) (5 : Int) == (2 : Int) then at_ (Ty.int IntKind.i64) [(-1 : Int), (10 : Int), (1 : Int)] (Int.toNat (g_pick r0 (u1 (g_Vs_l20Rd_odd_2 r0 (u1 (u1 (u1 (u1 (u1 r1))))) a2)) (3 : Int))) else bif g_pick r0 (g_Vs_l20Rd_odd_2 r0 (u1 (u1 (u1 (u1 (u1 r1))))) a2) (5 : Int) == (3 : Int) then g_pick r0 (u1 (u1 (u1 r1))) (3 : Int) else g_pick r0 (u1 (u1 (u1 r1))) (3 : Int) else g_pick r0 (u1 (u1 (u1 r1))) (3 : Int) else bif IntKind.wrap IntKind.i64 ((1 : Int) + g_pick r0 r1 (5 : Int)) == (3 : Int) then bif g_Vs_l20Rd_odd_0 r0 (u1 (u1 (u1 (u1 r1)))) a2 then bif g_pick r0 (g_Vs_l20Rd_odd_2 r0 (u1 (u1 (u1 (u1 r1)))) a2) (5 : Int) == (0 : Int) then g_pick r0 (u1 r1) (3 : Int) else bif g_pick r0 (g_Vs_l20Rd_odd_2 r0 (u1 (u1 (u1 (u1 r1)))) a2) (5 : Int) == (1 : Int) then g_pick r0 (u1 r1) (3 : Int) else bif g_pick r0 (g_Vs_l20Rd_odd_2 r0 (u1 (u1 (u1 (u1 r1)))) a2) (5 : Int) == (2 : Int) then at_ (Ty.int IntKind.i64) [(-1 : Int), (10 : Int), (1 : Int)] (Int.toNat (g_pick r0 (u1 (g_Vs_l20Rd_odd_2 r0 (u1 (u1 (u1 (u1 r1)))) a2)) (3 : Int))) else bif g_pick r0 (g_Vs_l20Rd_odd_2 r0 (u1 (u1 (u1 (u1 r1)))) a2) (5 : Int) == (3 : Int) then g_pick r0 (u1 r1) (3 : Int) else g_pick r0 (u1 r1) (3 : Int) else g_pick r0 (u1 r1) (3 : Int) else bif g_Vs_l20Rd_odd_0 r0 (u1 (u1 (u1 r1))) a2 then bif g_pick r0 (g_Vs_l20Rd_odd_2 r0 (u1 (u1 (u1 r1))) a2) (5 : Int) == (0 : Int) then (0 : Int) else bif g_pick r0 (g_Vs_l20Rd_odd_2 r0 (u1 (u1 (u1 r1))) a2) (5 : Int) == (1 : Int) then (0 : Int) else bif g_pick r0 (g_Vs_l20Rd_odd_2 r0 (u1 (u1 (u1 r1))) a2) (5 : Int) == (2 : Int) then at_ (Ty.int IntKind.i64) [(-1 : Int), (10 : Int), (1 : Int)] (Int.toNat (g_pick r0 (u1 (g_Vs_l20Rd_odd_2 r0 (u1 (u1 (u1 r1))) a2)) (3 : Int))) else bif g_pick r0 (g_Vs_l20Rd_odd_2 r0 (u1 (u1 (u1 r1))) a2) (5 : Int) == (3 : Int) then (0 : Int) else (0 : Int) else (0 : Int)
noncomputable def g_Vs_l20Op_4 (r0 : List Int) (r1 : Int) (a2 : Int) : Int := bif IntKind.wrap IntKind.i64 ((1 : Int) + g_pick r0 r1 (5 : Int)) == (1 : Int) then bif IntKind.wrap IntKind.i64 ((1 : Int) + g_pick r0 r1 (5 : Int)) == (1 : Int) then bif g_Vs_l20Rd_odd_0 r0 (u1 (u1 (u1 r1))) a2 then bif g_pick r0 (g_Vs_l20Rd_odd_2 r0 (u1 (u1 (u1 r1))) a2) (5 : Int) == (0 : Int) then (0 : Int) else bif g_pick r0 (g_Vs_l20Rd_odd_2 r0 (u1 (u1 (u1 r1))) a2) (5 : Int) == (1 : Int) then (0 : Int) else bif g_pick r0 (g_Vs_l20Rd_odd_2 r0 (u1 (u1 (u1 r1))) a2) (5 : Int) == (2 : Int) then (0 : Int) else bif g_pick r0 (g_Vs_l20Rd_odd_2 r0 (u1 (u1 (u1 r1))) a2) (5 : Int) == (3 : Int) then (0 : Int) else at_ (Ty.int IntKind.i64) [(-1 : Int), (100 : Int), (99 : Int)] (Int.toNat (g_pick r0 (u1 (g_Vs_l20Rd_odd_2 r0 (u1 (u1 (u1 r1))) a2)) (3 : Int))) else (0 : Int) else bif IntKind.wrap IntKind.i64 ((1 : Int) + g_pick r0 r1 (5 : Int)) == (2 : Int) then bif g_Vs_l20Rd_odd_0 r0 (u1 (u1 (u1 (u1 (u1 r1))))) a2 then bif g_pick r0 (g_Vs_l20Rd_odd_2 r0 (u1 (u1 (u1 (u1 (u1 r1))))) a2) (5 : Int) == (0 : Int) then g_pick r0 (u1 (u1 (u1 (u1 r1)))) (3 : Int) else bif g_pick r0 (g_Vs_l20Rd_odd_2 r0 (u1 (u1 (u1 (u1 (u1 r1))))) a2) (5 : Int) == (1 : Int) then g_pick r0 (u1 (u1 (u1 (u1 r1)))) (3 : Int) else bif g_pick r0 (g_Vs_l20Rd_odd_2 r0 (u1 (u1 (u1 (u1 (u1 r1))))) a2) (5 : Int) == (2 : Int) then g_pick r0 (u1 (u1 (u1 (u1 r1)))) (3 : Int) else bif g_pick r0 (g_Vs_l20Rd_odd_2 r0 (u1 (u1 (u1 (u1 (u1 r1))))) a2) (5 : Int) == (3 : Int) then g_pick r0 (u1 (u1 (u1 (u1 r1)))) (3 : Int) else at_ (Ty.int IntKind.i64) [(-1 : Int), (100 : Int), (99 : Int)] (Int.toNat (g_pick r0 (u1 (g_Vs_l20Rd_odd_2 r0 (u1 (u1 (u1 (u1 (u1 r1))))) a2)) (3 : Int))) else g_pick r0 (u1 (u1 (u1 (u1 r1)))) (3 : Int) else bif IntKind.wrap IntKind.i64 ((1 : Int) + g_pick r0 r1 (5 : Int)) == (3 : Int) then bif g_Vs_l20Rd_odd_0 r0 (u1 (u1 (u1 (u1 r1)))) a2 then bif g_pick r0 (g_Vs_l20Rd_odd_2 r0 (u1 (u1 (u1 (u1 r1)))) a2) (5 : Int) == (0 : Int) then g_pick r0 (u1 (u1 r1)) (3 : Int) else bif g_pick r0 (g_Vs_l20Rd_odd_2 r0 (u1 (u1 (u1 (u1 r1)))) a2) (5 : Int) == (1 : Int) then g_pick r0 (u1 (u1 r1)) (3 : Int) else bif g_pick r0 (g_Vs_l20Rd_odd_2 r0 (u1 (u1 (u1 (u1 r1)))) a2) (5 : Int) == (2 : Int) then g_pick r0 (u1 (u1 r1)) (3 : Int) else bif g_pick r0 (g_Vs_l20Rd_odd_2 r0 (u1 (u1 (u1 (u1 r1)))) a2) (5 : Int) == (3 : Int) then g_pick r0 (u1 (u1 r1)) (3 : Int) else at_ (Ty.int IntKind.i64) [(-1 : Int), (100 : Int), (99 : Int)] (Int.toNat (g_pick r0 (u1 (g_Vs_l20Rd_odd_2 r0 (u1 (u1 (u1 (u1 r1)))) a2)) (3 : Int))) else g_pick r0 (u1 (u1 r1)) (3 : Int) else bif g_Vs_l20Rd_odd_0 r0 (u1 (u1 (u1 r1))) a2 then bif g_pick r0 (g_Vs_l20Rd_odd_2 r0 (u1 (u1 (u1 r1))) a2) (5 : Int) == (0 : Int) then (0 : Int) else bif g_pick r0 (g_Vs_l20Rd_odd_2 r0 (u1 (u1 (u1 r1))) a2) (5 : Int) == (1 : Int) then (0 : Int) else bif g_pick r0 (g_Vs_l20Rd_odd_2 r0 (u1 (u1 (u1 r1))) a2) (5 : Int) == (2 : Int) then (0 : Int) else bif g_pick r0 (g_Vs_l20Rd_odd_2 r0 (u1 (u1 (u1 r1))) a2) (5 : Int) == (3 : Int) then (0 : Int) else at_ (Ty.int IntKind.i64) [(-1 : Int), (100 : Int), (99 : Int)] (Int.toNat (g_pick r0 (u1 (g_Vs_l20Rd_odd_2 r0 (u1 (u1 (u1 r1))) a2)) (3 : Int))) else (0 : Int) else bif IntKind.wrap IntKind.i64 ((1 : Int) + g_pick r0 r1 (5 : Int)) == (5 : Int) then bif g_Vs_l20Rd_odd_0 r0 (u1 (u1 (u1 r1))) a2 then bif g_pick r0 (g_Vs_l20Rd_odd_2 r0 (u1 (u1 (u1 r1))) a2) (5 : Int) == (0 : Int) then (0 : Int) else bif g_pick r0 (g_Vs_l20Rd_odd_2 r0 (u1 (u1 (u1 r1))) a2) (5 : Int) == (1 : Int) then (0 : Int) else bif g_pick r0 (g_Vs_l20Rd_odd_2 r0 (u1 (u1 (u1 r1))) a2) (5 : Int) == (2 : Int) then (0 : Int) else bif g_pick r0 (g_Vs_l20Rd_odd_2 r0 (u1 (u1 (u1 r1))) a2) (5 : Int) == (3 : Int) then (0 : Int) else at_ (Ty.int IntKind.i64) [(-1 : Int), (100 : Int), (99 : Int)] (Int.toNat (g_pick r0 (u1 (g_Vs_l20Rd_odd_2 r0 (u1 (u1 (u1 r1))) a2)) (3 : Int))) else (0 : Int) else bif IntKind.wrap IntKind.i64 ((1 : Int) + g_pick r0 r1 (5 : Int)) == (2 : Int) then bif g_Vs_l20Rd_odd_0 r0 (u1 (u1 (u1 (u1 (u1 r1))))) a2 then bif g_pick r0 (g_Vs_l20Rd_odd_2 r0 (u1 (u1 (u1 (u1 (u1 r1))))) a2) (5 : Int) == (0 : Int) then g_pick r0 (u1 (u1 (u1 (u1 r1)))) (3 : Int) else bif g_pick r0 (g_Vs_l20Rd_odd_2 r0 (u1 (u1 (u1 (u1 (u1 r1))))) a2) (5 : Int) == (1 : Int) then g_pick r0 (u1 (u1 (u1 (u1 r1)))) (3 : Int) else bif g_pick r0 (g_Vs_l20Rd_odd_2 r0 (u1 (u1 (u1 (u1 (u1 r1))))) a2) (5 : Int) == (2 : Int) then g_pick r0 (u1 (u1 (u1 (u1 r1)))) (3 : Int) else bif g_pick r0 (g_Vs_l20Rd_odd_2 r0 (u1 (u1 (u1 (u1 (u1 r1))))) a2) (5 : Int) == (3 : Int) then g_pick r0 (u1 (u1 (u1 (u1 r1)))) (3 : Int) else at_ (Ty.int IntKind.i64) [(-1 : Int), (100 : Int), (99 : Int)] (Int.toNat (g_pick r0 (u1 (g_Vs_l20Rd_odd_2 r0 (u1 (u1 (u1 (u1 (u1 r1))))) a2)) (3 : Int))) else g_pick r0 (u1 (u1 (u1 (u1 r1)))) (3 : Int) else bif IntKind.wrap IntKind.i64 ((1 : Int) + g_pick r0 r1 (5 : Int)) == (3 : Int) then bif g_Vs_l20Rd_odd_0 r0 (u1 (u1 (u1 (u1 r1)))) a2 then bif g_pick r0 (g_Vs_l20Rd_odd_2 r0 (u1 (u1 (u1 (u1 r1)))) a2) (5 : Int) == (0 : Int) then g_pick r0 (u1 (u1 r1)) (3 : Int) else bif g_pick r0 (g_Vs_l20Rd_odd_2 r0 (u1 (u1 (u1 (u1 r1)))) a2) (5 : Int) == (1 : Int) then g_pick r0 (u1 (u1 r1)) (3 : Int) else bif g_pick r0 (g_Vs_l20Rd_odd_2 r0 (u1 (u1 (u1 (u1 r1)))) a2) (5 : Int) == (2 : Int) then g_pick r0 (u1 (u1 r1)) (3 : Int) else bif g_pick r0 (g_Vs_l20Rd_odd_2 r0 (u1 (u1 (u1 (u1 r1)))) a2) (5 : Int) == (3 : Int) then g_pick r0 (u1 (u1 r1)) (3 : Int) else at_ (Ty.int IntKind.i64) [(-1 : Int), (100 : Int), (99 : Int)] (Int.toNat (g_pick r0 (u1 (g_Vs_l20Rd_odd_2 r0 (u1 (u1 (u1 (u1 r1)))) a2)) (3 : Int))) else g_pick r0 (u1 (u1 r1)) (3 : Int) else bif g_Vs_l20Rd_odd_0 r0 (u1 (u1 (u1 r1))) a2 then bif g_pick r0 (g_Vs_l20Rd_odd_2 r0 (u1 (u1 (u1 r1))) a2) (5 : Int) == (0 : Int) then (0 : Int) else bif g_pick r0 (g_Vs_l20Rd_odd_2 r0 (u1 (u1 (u1 r1))) a2) (5 : Int) == (1 : Int) then (0 : Int) else bif g_pick r0 (g_Vs_l20Rd_odd_2 r0 (u1 (u1 (u1 r1))) a2) (5 : Int) == (2 : Int) then (0 : Int) else bif g_pick r0 (g_Vs_l20Rd_odd_2 r0 (u1 (u1 (u1 r1))) a2) (5 : Int) == (3 : Int) then (0 : Int) else at_ (Ty.int IntKind.i64) [(-1 : Int), (100 : Int), (99 : Int)] (Int.toNat (g_pick r0 (u1 (g_Vs_l20Rd_odd_2 r0 (u1 (u1 (u1 r1))) a2)) (3 : Int))) else (0 : Int)
noncomputable def g_Vs_l20Op_5 (r0 : List Int) (r1 : Int) (a2 : Int) : Int := bif IntKind.wrap IntKind.i64 ((1 : Int) + g_pick r0 r1 (5 : Int)) == (1 : Int) then bif IntKind.wrap IntKind.i64 ((1 : Int) + g_pick r0 r1 (5 : Int)) == (1 : Int) then bif g_Vs_l20Rd_odd_0 r0 (u1 (u1 (u1 r1))) a2 then bif g_pick r0 (g_Vs_l20Rd_odd_2 r0 (u1 (u1 (u1 r1))) a2) (5 : Int) == (0 : Int) then (0 : Int) else bif g_pick r0 (g_Vs_l20Rd_odd_2 r0 (u1 (u1 (u1 r1))) a2) (5 : Int) == (1 : Int) then (0 : Int) else bif g_pick r0 (g_Vs_l20Rd_odd_2 r0 (u1 (u1 (u1 r1))) a2) (5 : Int) == (2 : Int) then (0 : Int) else bif g_pick r0 (g_Vs_l20Rd_odd_2 r0 (u1 (u1 (u1 r1))) a2) (5 : Int) == (3 : Int) then (0 : Int) else (0 : Int) else (0 : Int) else bif IntKind.wrap IntKind.i64 ((1 : Int) + g_pick r0 r1 (5 : Int)) == (2 : Int) then bif g_Vs_l20Rd_odd_0 r0 (u1 (u1 (u1 (u1 (u1 r1))))) a2 then bif g_pick r0 (g_Vs_l20Rd_odd_2 r0 (u1 (u1 (u1 (u1 (u1 r1))))) a2) (5 : Int) == (0 : Int) then (0 : Int) else bif g_pick r0 (g_Vs_l20Rd_odd_2 r0 (u1 (u1 (u1 (u1 (u1 r1))))) a2) (5 : Int) == (1 : Int) then (0 : Int) else bif g_pick r0 (g_Vs_l20Rd_odd_2 r0 (u1 (u1 (u1 (u1 (u1 r1))))) a2) (5 : Int) == (2 : Int) then (0 : Int) else bif g_pick r0 (g_Vs_l20Rd_odd_2 r0 (u1 (u1 (u1 (u1 (u1 r1))))) a2) (5 : Int) == (3 : Int) then (0 : Int) else (0 : Int) else (0 : Int) else bif IntKind.wrap IntKind.i64 ((1 : Int) + g_pick r0 r1 (5 : Int)) == (3 : Int) then bif g_Vs_l20Rd_odd_0 r0 (u1 (u1 (u1 (u1 r1)))) a2 then bif g_pick r0 (g_Vs_l20Rd_odd_2 r0 (u1 (u1 (u1 (u1 r1)))) a2) (5 : Int) == (0 : Int) then g_pick r0 (u1 (u1 (u1 r1))) (3 : Int) else bif g_pick r0 (g_Vs_l20Rd_odd_2 r0 (u1 (u1 (u1 (u1 r1)))) a2) (5 : Int) == (1 : Int) then g_pick r0 (u1 (u1 (u1 r1))) (3 : Int) else bif g_pick r0 (g_Vs_l20Rd_odd_2 r0 (u1 (u1 (u1 (u1 r1)))) a2) (5 : Int) == (2 : Int) then g_pick r0 (u1 (u1 (u1 r1))) (3 : Int) else bif g_pick r0 (g_Vs_l20Rd_odd_2 r0 (u1 (u1 (u1 (u1 r1)))) a2) (5 : Int) == (3 : Int) then g_pick r0 (u1 (u1 (u1 r1))) (3 : Int) else g_pick r0 (u1 (u1 (u1 r1))) (3 : Int) else g_pick r0 (u1 (u1 (u1 r1))) (3 : Int) else bif g_Vs_l20Rd_odd_0 r0 (u1 (u1 (u1 r1))) a2 then bif g_pick r0 (g_Vs_l20Rd_odd_2 r0 (u1 (u1 (u1 r1))) a2) (5 : Int) == (0 : Int) then g_pick r0 (u1 r1) (3 : Int) else bif g_pick r0 (g_Vs_l20Rd_odd_2 r0 (u1 (u1 (u1 r1))) a2) (5 : Int) == (1 : Int) then g_pick r0 (u1 r1) (3 : Int) else bif g_pick r0 (g_Vs_l20Rd_odd_2 r0 (u1 (u1 (u1 r1))) a2) (5 : Int) == (2 : Int) then g_pick r0 (u1 r1) (3 : Int) else bif g_pick r0 (g_Vs_l20Rd_odd_2 r0 (u1 (u1 (u1 r1))) a2) (5 : Int) == (3 : Int) then g_pick r0 (u1 r1) (3 : Int) else g_pick r0 (u1 r1) (3 : Int) else g_pick r0 (u1 r1) (3 : Int) else bif IntKind.wrap IntKind.i64 ((1 : Int) + g_pick r0 r1 (5 : Int)) == (5 : Int) then bif g_Vs_l20Rd_odd_0 r0 (u1 (u1 (u1 r1))) a2 then bif g_pick r0 (g_Vs_l20Rd_odd_2 r0 (u1 (u1 (u1 r1))) a2) (5 : Int) == (0 : Int) then (0 : Int) else bif g_pick r0 (g_Vs_l20Rd_odd_2 r0 (u1 (u1 (u1 r1))) a2) (5 : Int) == (1 : Int) then (0 : Int) else bif g_pick r0 (g_Vs_l20Rd_odd_2 r0 (u1 (u1 (u1 r1))) a2) (5 : Int) == (2 : Int) then (0 : Int) else bif g_pick r0 (g_Vs_l20Rd_odd_2 r0 (u1 (u1 (u1 r1))) a2) (5 : Int) == (3 : Int) then (0 : Int) else (0 : Int) else (0 : Int) else bif IntKind.wrap IntKind.i64 ((1 : Int) + g_pick r0 r1 (5 : Int)) == (2 : Int) then bif g_Vs_l20Rd_odd_0 r0 (u1 (u1 (u1 (u1 (u1 r1))))) a2 then bif g_pick r0 (g_Vs_l20Rd_odd_2 r0 (u1 (u1 (u1 (u1 (u1 r1))))) a2) (5 : Int) == (0 : Int) then (0 : Int) else bif g_pick r0 (g_Vs_l20Rd_odd_2 r0 (u1 (u1 (u1 (u1 (u1 r1))))) a2) (5 : Int) == (1 : Int) then (0 : Int) else bif g_pick r0 (g_Vs_l20Rd_odd_2 r0 (u1 (u1 (u1 (u1 (u1 r1))))) a2) (5 : Int) == (2 : Int) then (0 : Int) else bif g_pick r0 (g_Vs_l20Rd_odd_2 r0 (u1 (u1 (u1 (u1 (u1 r1))))) a2) (5 : Int) == (3 : Int) then (0 : Int) else (0 : Int) else (0 : Int) else bif IntKind.wrap IntKind.i64 ((1 : Int) + g_pick r0 r1 (5 : Int)) == (3 : Int) then bif g_Vs_l20Rd_odd_0 r0 (u1 (u1 (u1 (u1 r1)))) a2 then bif g_pick r0 (g_Vs_l20Rd_odd_2 r0 (u1 (u1 (u1 (u1 r1)))) a2) (5 : Int) == (0 : Int) then g_pick r0 (u1 (u1 (u1 r1))) (3 : Int) else bif g_pick r0 (g_Vs_l20Rd_odd_2 r0 (u1 (u1 (u1 (u1 r1)))) a2) (5 : Int) == (1 : Int) then g_pick r0 (u1 (u1 (u1 r1))) (3 : Int) else bif g_pick r0 (g_Vs_l20Rd_odd_2 r0 (u1 (u1 (u1 (u1 r1)))) a2) (5 : Int) == (2 : Int) then g_pick r0 (u1 (u1 (u1 r1))) (3 : Int) else bif g_pick r0 (g_Vs_l20Rd_odd_2 r0 (u1 (u1 (u1 (u1 r1)))) a2) (5 : Int) == (3 : Int) then g_pick r0 (u1 (u1 (u1 r1))) (3 : Int) else g_pick r0 (u1 (u1 (u1 r1))) (3 : Int) else g_pick r0 (u1 (u1 (u1 r1))) (3 : Int) else bif g_Vs_l20Rd_odd_0 r0 (u1 (u1 (u1 r1))) a2 then bif g_pick r0 (g_Vs_l20Rd_odd_2 r0 (u1 (u1 (u1 r1))) a2) (5 : Int) == (0 : Int) then g_pick r0 (u1 r1) (3 : Int) else bif g_pick r0 (g_Vs_l20Rd_odd_2 r0 (u1 (u1 (u1 r1))) a2) (5 : Int) == (1 : Int) then g_pick r0 (u1 r1) (3 : Int) else bif g_pick r0 (g_Vs_l20Rd_odd_2 r0 (u1 (u1 (u1 r1))) a2) (5 : Int) == (2 : Int) then g_pick r0 (u1 r1) (3 : Int) else bif g_pick r0 (g_Vs_l20Rd_odd_2 r0 (u1 (u1 (u1 r1))) a2) (5 : Int) == (3 : Int) then g_pick r0 (u1 r1) (3 : Int) else g_pick r0 (u1 r1) (3 : Int) else g_pick r0 (u1 r1) (3 : Int)
noncomputable def g_Vs_l20Op_6 (r0 : List Int) (r1 : Int) (a2 : Int) : Int := bif IntKind.wrap IntKind.i64 ((1 : Int) + g_pick r0 r1 (5 : Int)) == (1 : Int) then bif IntKind.wrap IntKind.i64 ((1 : Int) + g_pick r0 r1 (5 : Int)) == (1 : Int) then bif g_Vs_l20Rd_odd_0 r0 (u1 (u1 (u1 r1))) a2 then bif g_pick r0 (g_Vs_l20Rd_odd_2 r0 (u1 (u1 (u1 r1))) a2) (5 : Int) == (0 : Int) then (0 : Int) else bif g_pick r0 (g_Vs_l20Rd_odd_2 r0 (u1 (u1 (u1 r1))) a2) (5 : Int) == (1 : Int) then (0 : Int) else bif g_pick r0 (g_Vs_l20Rd_odd_2 r0 (u1 (u1 (u1 r1))) a2) (5 : Int) == (2 : Int) then (0 : Int) else bif g_pick r0 (g_Vs_l20Rd_odd_2 r0 (u1 (u1 (u1 r1))) a2) (5 : Int) == (3 : Int) then at_ (Ty.int IntKind.i64) [(-1 : Int), (100 : Int), (1 : Int)] (Int.toNat (g_pick r0 (u1 (g_Vs_l20Rd_odd_2 r0 (u1 (u1 (u1 r1))) a2)) (3 : Int))) else (0 : Int) else (0 : Int) else bif IntKind.wrap IntKind.i64 ((1 : Int) + g_pick r0 r1 (5 : Int)) == (2 : Int) then bif g_Vs_l20Rd_odd_0 r0 (u1 (u1 (u1 (u1 (u1 r1))))) a2 then bif g_pick r0 (g_Vs_l20Rd_odd_2 r0 (u1 (u1 (u1 (u1 (u1 r1))))) a2) (5 : Int) == (0 : Int) then (0 : Int) else bif g_pick r0 (g_Vs_l20Rd_odd_2 r0 (u1 (u1 (u1 (u1 (u1 r1))))) a2) (5 : Int) == (1 : Int) then (0 : Int) else bif g_pick r0 (g_Vs_l20Rd_odd_2 r0 (u1 (u1 (u1 (u1 (u1 r1))))) a2) (5 : Int) == (2 : Int) then (0 : Int) else bif g_pick r0 (g_Vs_l20Rd_odd_2 r0 (u1 (u1 (u1 (u1 (u1 r1))))) a2) (5 : Int) == (3 : Int) then at_ (Ty.int IntKind.i64) [(-1 : Int), (100 : Int), (1 : Int)] (Int.toNat (g_pick r0 (u1 (g_Vs_l20Rd_odd_2 r0 (u1 (u1 (u1 (u1 (u1 r1))))) a2)) (3 : Int))) else (0 : Int) else (0 : Int) else bif IntKind.wrap IntKind.i64 ((1 : Int) + g_pick r0 r1 (5 : Int)) == (3 : Int) then bif g_Vs_l20Rd_odd_0 r0 (u1 (u1 (u1 (u1 r1)))) a2 then bif g_pick r0 (g_Vs_l20Rd_odd_2 r0 (u1 (u1 (u1 (u1 r1)))) a2) (5 : Int) == (0 : Int) then (0 : Int) else bif g_pick r0 (g_Vs_l20Rd_odd_2 r0 (u1 (u1 (u1 (u1 r1)))) a2) (5 : Int) == (1 : Int) then (0 : Int) else bif g_pick r0 (g_Vs_l20Rd_odd_2 r0 (u1 (u1 (u1 (u1 r1)))) a2) (5 : Int) == (2 : Int) then (0 : Int) else bif g_pick r0 (g_Vs_l20Rd_odd_2 r0 (u1 (u1 (u1 (u1 r1)))) a2) (5 : Int) == (3 : Int) then at_ (Ty.int IntKind.i64) [(-1 : Int), (100 : Int), (1 : Int)] (Int.toNat (g_pick r0 (u1 (g_Vs_l20Rd_odd_2 r0 (u1 (u1 (u1 (u1 r1)))) a2)) (3 : Int))) else (0 : Int) else (0 : Int) else bif g_Vs_l20Rd_odd_0 r0 (u1 (u1 (u1 r1))) a2 then bif g_pick r0 (g_Vs_l20Rd_odd_2 r0 (u1 (u1 (u1 r1))) a2) (5 : Int) == (0 : Int) then IntKind.wrap IntKind.i64 ((1 : Int) + g_pick r0 (u1 (u1 r1)) (3 : Int)) else bif g_pick r0 (g_Vs_l20Rd_odd_2 r0 (u1 (u1 (u1 r1))) a2) (5 : Int) == (1 : Int) then IntKind.wrap IntKind.i64 ((1 : Int) + g_pick r0 (u1 (u1 r1)) (3 : Int)) else bif g_pick r0 (g_Vs_l20Rd_odd_2 r0 (u1 (u1 (u1 r1))) a2) (5 : Int) == (2 : Int) then IntKind.wrap IntKind.i64 ((1 : Int) + g_pick r0 (u1 (u1 r1)) (3 : Int)) else bif g_pick r0 (g_Vs_l20Rd_odd_2 r0 (u1 (u1 (u1 r1))) a2) (5 : Int) == (3 : Int) then at_ (Ty.int IntKind.i64) [(-1 : Int), (100 : Int), (1 : Int)] (Int.toNat (g_pick r0 (u1 (g_Vs_l20Rd_odd_2 r0 (u1 (u1 (u1 r1))) a2)) (3 : Int))) else IntKind.wrap IntKind.i64 ((1 : Int) + g_pick r0 (u1 (u1 r1)) (3 : Int)) else IntKind.wrap IntKind.i64 ((1 : Int) + g_pick r0 (u1 (u1 r1)) (3 : Int)) else bif IntKind.wrap IntKind.i64 ((1 : Int) + g_pick r0 r1 (5 : Int)) == (5 : Int) then bif g_Vs_l20Rd_odd_0 r0 (u1 (u1 (u1 r1))) a2 then bif g_pick r0 (g_Vs_l20Rd_odd_2 r0 (u1 (u1 (u1 r1))) a2) (5 : Int) == (0 : Int) then (0 : Int) else bif g_pick r0 (g_Vs_l20Rd_odd_2 r0 (u1 (u1 (u1 r1))) a2) (5 : Int) == (1 : Int) then (0 : Int) else bif g_pick r0 (g_Vs_l20Rd_odd_2 r0 (u1 (u1 (u1 r1))) a2) (5 : Int) == (2 : Int) then (0 : Int) else bif g_pick r0 (g_Vs_l20Rd_odd_2 r0 (u1 (u1 (u1 r1))) a2) (5 : Int) == (3 : Int) then at_ (Ty.int IntKind.i64) [(-1 : Int), (100 : Int), (1 : Int)] (Int.toNat (g_pick r0 (u1 (g_Vs_l20Rd_odd_2 r0 (u1 (u1 (u1 r1))) a2)) (3 : Int))) else (0 : Int) else (0 : Int) else bif IntKind.wrap IntKind.i64 ((1 : Int) + g_pick r0 r1 (5 : Int)) == (2 : Int) then bif g_Vs_l20Rd_odd_0 r0 (u1 (u1 (u1 (u1 (u1 r1))))) a2 then bif g_pick r0 (g_Vs_l20Rd_odd_2 r0 (u1 (u1 (u1 (u1 (u1 r1))))) a2) (5 : Int) == (0 : Int) then (0 : Int) else bif g_pick r0 (g_Vs_l20Rd_odd_2 r0 (u1 (u1 (u1 (u1 (u1 r1))))) a2) (5 : Int) == (1 : Int) then (0 : Int) else bif g_pick r0 (g_Vs_l20Rd_odd_2 r0 (u1 (u1 (u1 (u1 (u1 r1))))) a2) (5 : Int) == (2 : Int) then (0 : Int) else bif g_pick r0 (g_Vs_l20Rd_odd_2 r0 (u1 (u1 (u1 (u1 (u1 r1))))) a2) (5 : Int) == (3 : Int) then at_ (Ty.int IntKind.i64) [(-1 : Int), (100 : Int), (1 : Int)] (Int.toNat (g_pick r0 (u1 (g_Vs_l20Rd_odd_2 r0 (u1 (u1 (u1 (u1 (u1 r1))))) a2)) (3 : Int))) else (0 : Int) else (0 : Int) else bif IntKind.wrap IntKind.i64 ((1 : Int) + g_pick r0 r1 (5 : Int)) == (3 : Int) then bif g_Vs_l20Rd_odd_0 r0 (u1 (u1 (u1 (u1 r1)))) a2 then bif g_pick r0 (g_Vs_l20Rd_odd_2 r0 (u1 (u1 (u1 (u1 r1)))) a2) (5 : Int) == (0 : Int) then (0 : Int) else bif g_pick r0 (g_Vs_l20Rd_odd_2 r0 (u1 (u1 (u1 (u1 r1)))) a2) (5 : Int) == (1 : Int) then (0 : Int) else bif g_pick r0 (g_Vs_l20Rd_odd_2 r0 (u1 (u1 (u1 (u1 r1)))) a2) (5 : Int) == (2 : Int) then (0 : Int) else bif g_pick r0 (g_Vs_l20Rd_odd_2 r0 (u1 (u1 (u1 (u1 r1)))) a2) (5 : Int) == (3 : Int) then at_ (Ty.int IntKind.i64) [(-1 : Int), (100 : Int), (1 : Int)] (Int.toNat (g_pick r0 (u1 (g_Vs_l20Rd_odd_2 r0 (u1 (u1 (u1 (u1 r1)))) a2)) (3 : Int))) else (0 : Int) else (0 : Int) else bif g_Vs_l20Rd_odd_0 r0 (u1 (u1 (u1 r1))) a2 then bif g_pick r0 (g_Vs_l20Rd_odd_2 r0 (u1 (u1 (u1 r1))) a2) (5 : Int) == (0 : Int) then IntKind.wrap IntKind.i64 ((1 : Int) + g_pick r0 (u1 (u1 r1)) (3 : Int)) else bif g_pick r0 (g_Vs_l20Rd_odd_2 r0 (u1 (u1 (u1 r1))) a2) (5 : Int) == (1 : Int) then IntKind.wrap IntKind.i64 ((1 : Int) + g_pick r0 (u1 (u1 r1)) (3 : Int)) else bif g_pick r0 (g_Vs_l20Rd_odd_2 r0 (u1 (u1 (u1 r1))) a2) (5 : Int) == (2 : Int) then IntKind.wrap IntKind.i64 ((1 : Int) + g_pick r0 (u1 (u1 r1)) (3 : Int)) else bif g_pick r0 (g_Vs_l20Rd_odd_2 r0 (u1 (u1 (u1 r1))) a2) (5 : Int) == (3 : Int) then at_ (Ty.int IntKind.i64) [(-1 : Int), (100 : Int), (1 : Int)] (Int.toNat (g_pick r0 (u1 (g_Vs_l20Rd_odd_2 r0 (u1 (u1 (u1 r1))) a2)) (3 : Int))) else IntKind.wrap IntKind.i64 ((1 : Int) + g_pick r0 (u1 (u1 r1)) (3 : Int)) else IntKind.wrap IntKind.i64 ((1 : Int) + g_pick r0 (u1 (u1 r1)) (3 : Int))
noncomputable def g_Vs_l20Op_7 (r0 : List Int) (r1 : Int) (a2 : Int) : List Int := bif IntKind.wrap IntKind.i64 ((1 : Int) + g_pick r0 r1 (5 : Int)) == (1 : Int) then bif IntKind.wrap IntKind.i64 ((1 : Int) + g_pick r0 r1 (5 : Int)) == (1 : Int) then bif g_Vs_l20Rd_odd_0 r0 (u1 (u1 (u1 r1))) a2 then bif g_pick r0 (g_Vs_l20Rd_odd_2 r0 (u1 (u1 (u1 r1))) a2) (5 : Int) == (0 : Int) then r0 else bif g_pick r0 (g_Vs_l20Rd_odd_2 r0 (u1 (u1 (u1 r1))) a2) (5 : Int) == (1 : Int) then r0 else bif g_pick r0 (g_Vs_l20Rd_odd_2 r0 (u1 (u1 (u1 r1))) a2) (5 : Int) == (2 : Int) then r0 else bif g_pick r0 (g_Vs_l20Rd_odd_2 r0 (u1 (u1 (u1 r1))) a2) (5 : Int) == (3 : Int) then r0 else r0 else r0 else bif IntKind.wrap IntKind.i64 ((1 : Int) + g_pick r0 r1 (5 : Int)) == (2 : Int) then bif g_Vs_l20Rd_odd_0 r0 (u1 (u1 (u1 (u1 (u1 r1))))) a2 then bif g_pick r0 (g_Vs_l20Rd_odd_2 r0 (u1 (u1 (u1 (u1 (u1 r1))))) a2) (5 : Int) == (0 : Int) then r0 else bif g_pick r0 (g_Vs_l20Rd_odd_2 r0 (u1 (u1 (u1 (u1 (u1 r1))))) a2) (5 : Int) == (1 : Int) then r0 else bif g_pick r0 (g_Vs_l20Rd_odd_2 r0 (u1 (u1 (u1 (u1 (u1 r1))))) a2) (5 : Int) == (2 : Int) then r0 else bif g_pick r0 (g_Vs_l20Rd_odd_2 r0 (u1 (u1 (u1 (u1 (u1 r1))))) a2) (5 : Int) == (3 : Int) then r0 else r0 else r0 else bif IntKind.wrap IntKind.i64 ((1 : Int) + g_pick r0 r1 (5 : Int)) == (3 : Int) then bif g_Vs_l20Rd_odd_0 r0 (u1 (u1 (u1 (u1 r1)))) a2 then bif g_pick r0 (g_Vs_l20Rd_odd_2 r0 (u1 (u1 (u1 (u1 r1)))) a2) (5 : Int) == (0 : Int) then r0 else bif g_pick r0 (g_Vs_l20Rd_odd_2 r0 (u1 (u1 (u1 (u1 r1)))) a2) (5 : Int) == (1 : Int) then r0 else bif g_pick r0 (g_Vs_l20Rd_odd_2 r0 (u1 (u1 (u1 (u1 r1)))) a2) (5 : Int) == (2 : Int) then r0 else bif g_pick r0 (g_Vs_l20Rd_odd_2 r0 (u1 (u1 (u1 (u1 r1)))) a2) (5 : Int) == (3 : Int) then r0 else r0 else r0 else bif g_Vs_l20Rd_odd_0 r0 (u1 (u1 (u1 r1))) a2 then bif g_pick r0 (g_Vs_l20Rd_odd_2 r0 (u1 (u1 (u1 r1))) a2) (5 : Int) == (0 : Int) then r0 else bif g_pick r0 (g_Vs_l20Rd_odd_2 r0 (u1 (u1 (u1 r1))) a2) (5 : Int) == (1 : Int) then r0 else bif g_pick r0 (g_Vs_l20Rd_odd_2 r0 (u1 (u1 (u1 r1))) a2) (5 : Int) == (2 : Int) then r0 else bif g_pick r0 (g_Vs_l20Rd_odd_2 r0 (u1 (u1 (u1 r1))) a2) (5 : Int) == (3 : Int) then r0 else r0 else r0 else bif IntKind.wrap IntKind.i64 ((1 : Int) + g_pick r0 r1 (5 : Int)) == (5 : Int) then bif g_Vs_l20Rd_odd_0 r0 (u1 (u1 (u1 r1))) a2 then bif g_pick r0 (g_Vs_l20Rd_odd_2 r0 (u1 (u1 (u1 r1))) a2) (5 : Int) == (0 : Int) then r0 else bif g_pick r0 (g_Vs_l20Rd_odd_2 r0 (u1 (u1 (u1 r1))) a2) (5 : Int) == (1 : Int) then r0 else bif g_pick r0 (g_Vs_l20Rd_odd_2 r0 (u1 (u1 (u1 r1))) a2) (5 : Int) == (2 : Int) then r0 else bif g_pick r0 (g_Vs_l20Rd_odd_2 r0 (u1 (u1 (u1 r1))) a2) (5 : Int) == (3 : Int) then r0 else r0 else r0 else bif IntKind.wrap IntKind.i64 ((1 : Int) + g_pick r0 r1 (5 : Int)) == (2 : Int) then bif g_Vs_l20Rd_odd_0 r0 (u1 (u1 (u1 (u1 (u1 r1))))) a2 then bif g_pick r0 (g_Vs_l20Rd_odd_2 r0 (u1 (u1 (u1 (u1 (u1 r1))))) a2) (5 : Int) == (0 : Int) then r0 else bif g_pick r0 (g_Vs_l20Rd_odd_2 r0 (u1 (u1 (u1 (u1 (u1 r1))))) a2) (5 : Int) == (1 : Int) then r0 else bif g_pick r0 (g_Vs_l20Rd_odd_2 r0 (u1 (u1 (u1 (u1 (u1 r1))))) a2) (5 : Int) == (2 : Int) then r0 else bif g_pick r0 (g_Vs_l20Rd_odd_2 r0 (u1 (u1 (u1 (u1 (u1 r1))))) a2) (5 : Int) == (3 : Int) then r0 else r0 else r0 else bif IntKind.wrap IntKind.i64 ((1 : Int) + g_pick r0 r1 (5 : Int)) == (3 : Int) then bif g_Vs_l20Rd_odd_0 r0 (u1 (u1 (u1 (u1 r1)))) a2 then bif g_pick r0 (g_Vs_l20Rd_odd_2 r0 (u1 (u1 (u1 (u1 r1)))) a2) (5 : Int) == (0 : Int) then r0 else bif g_pick r0 (g_Vs_l20Rd_odd_2 r0 (u1 (u1 (u1 (u1 r1)))) a2) (5 : Int) == (1 : Int) then r0 else bif g_pick r0 (g_Vs_l20Rd_odd_2 r0 (u1 (u1 (u1 (u1 r1)))) a2) (5 : Int) == (2 : Int) then r0 else bif g_pick r0 (g_Vs_l20Rd_odd_2 r0 (u1 (u1 (u1 (u1 r1)))) a2) (5 : Int) == (3 : Int) then r0 else r0 else r0 else bif g_Vs_l20Rd_odd_0 r0 (u1 (u1 (u1 r1))) a2 then bif g_pick r0 (g_Vs_l20Rd_odd_2 r0 (u1 (u1 (u1 r1))) a2) (5 : Int) == (0 : Int) then r0 else bif g_pick r0 (g_Vs_l20Rd_odd_2 r0 (u1 (u1 (u1 r1))) a2) (5 : Int) == (1 : Int) then r0 else bif g_pick r0 (g_Vs_l20Rd_odd_2 r0 (u1 (u1 (u1 r1))) a2) (5 : Int) == (2 : Int) then r0 else bif g_pick r0 (g_Vs_l20Rd_odd_2 r0 (u1 (u1 (u1 r1))) a2) (5 : Int) == (3 : Int) then r0 else r0 else r0
noncomputable def g_Vs_l20Op_8 (r0 : List Int) (r1 : Int) (a2 : Int) : Int := bif IntKind.wrap IntKind.i64 ((1 : Int) + g_pick r0 r1 (5 : Int)) == (1 : Int) then bif IntKind.wrap IntKind.i64 ((1 : Int) + g_pick r0 r1 (5 : Int)) == (1 : Int) then bif g_Vs_l20Rd_odd_0 r0 (u1 (u1 (u1 r1))) a2 then bif g_pick r0 (g_Vs_l20Rd_odd_2 r0 (u1 (u1 (u1 r1))) a2) (5 : Int) == (0 : Int) then u1 (u1 (g_Vs_l20Rd_odd_2 r0 (u1 (u1 (u1 r1))) a2)) else bif g_pick r0 (g_Vs_l20Rd_odd_2 r0 (u1 (u1 (u1 r1))) a2) (5 : Int) == (1 : Int) then u1 (u1 (g_Vs_l20Rd_odd_2 r0 (u1 (u1 (u1 r1))) a2)) else bif g_pick r0 (g_Vs_l20Rd_odd_2 r0 (u1 (u1 (u1 r1))) a2) (5 : Int) == (2 : Int) then u1 (u1 (g_Vs_l20Rd_odd_2 r0 (u1 (u1 (u1 r1))) a2)) else bif g_pick r0 (g_Vs_l20Rd_odd_2 r0 (u1 (u1 (u1 r1))) a2) (5 : Int) == (3 : Int) then u1 (u1 (g_Vs_l20Rd_odd_2 r0 (u1 (u1 (u1 r1))) a2)) else u1 (u1 (g_Vs_l20Rd_odd_2 r0 (u1 (u1 (u1 r1))) a2)) else g_Vs_l20Rd_odd_2 r0 (u1 (u1 (u1 r1))) a2 else bif IntKind.wrap IntKind.i64 ((1 : Int) + g_pick r0 r1 (5 : Int)) == (2 : Int) then bif g_Vs_l20Rd_odd_0 r0 (u1 (u1 (u1 (u1 (u1 r1))))) a2 then bif g_pick r0 (g_Vs_l20Rd_odd_2 r0 (u1 (u1 (u1 (u1 (u1 r1))))) a2) (5 : Int) == (0 : Int) then u1 (u1 (g_Vs_l20Rd_odd_2 r0 (u1 (u1 (u1 (u1 (u1 r1))))) a2)) else bif g_pick r0 (g_Vs_l20Rd_odd_2 r0 (u1 (u1 (u1 (u1 (u1 r1))))) a2) (5 : Int) == (1 : Int) then u1 (u1 (g_Vs_l20Rd_odd_2 r0 (u1 (u1 (u1 (u1 (u1 r1))))) a2)) else bif g_pick r0 (g_Vs_l20Rd_odd_2 r0 (u1 (u1 (u1 (u1 (u1 r1))))) a2) (5 : Int) == (2 : Int) then u1 (u1 (g_Vs_l20Rd_odd_2 r0 (u1 (u1 (u1 (u1 (u1 r1))))) a2)) else bif g_pick r0 (g_Vs_l20Rd_odd_2 r0 (u1 (u1 (u1 (u1 (u1 r1))))) a2) (5 : Int) == (3 : Int) then u1 (u1 (g_Vs_l20Rd_odd_2 r0 (u1 (u1 (u1 (u1 (u1 r1))))) a2)) else u1 (u1 (g_Vs_l20Rd_odd_2 r0 (u1 (u1 (u1 (u1 (u1 r1))))) a2)) else g_Vs_l20Rd_odd_2 r0 (u1 (u1 (u1 (u1 (u1 r1))))) a2 else bif IntKind.wrap IntKind.i64 ((1 : Int) + g_pick r0 r1 (5 : Int)) == (3 : Int) then bif g_Vs_l20Rd_odd_0 r0 (u1 (u1 (u1 (u1 r1)))) a2 then bif g_pick r0 (g_Vs_l20Rd_odd_2 r0 (u1 (u1 (u1 (u1 r1)))) a2) (5 : Int) == (0 : Int) then u1 (u1 (g_Vs_l20Rd_odd_2 r0 (u1 (u1 (u1 (u1 r1)))) a2)) else bif g_pick r0 (g_Vs_l20Rd_odd_2 r0 (u1 (u1 (u1 (u1 r1)))) a2) (5 : Int) == (1 : Int) then u1 (u1 (g_Vs_l20Rd_odd_2 r0 (u1 (u1 (u1 (u1 r1)))) a2)) else bif g_pick r0 (g_Vs_l20Rd_odd_2 r0 (u1 (u1 (u1 (u1 r1)))) a2) (5 : Int) == (2 : Int) then u1 (u1 (g_Vs_l20Rd_odd_2 r0 (u1 (u1 (u1 (u1 r1)))) a2)) else bif g_pick r0 (g_Vs_l20Rd_odd_2 r0 (u1 (u1 (u1 (u1 r1)))) a2) (5 : Int) == (3 : Int) then u1 (u1 (g_Vs_l20Rd_odd_2 r0 (u1 (u1 (u1 (u1 r1)))) a2)) else u1 (u1 (g_Vs_l20Rd_odd_2 r0 (u1 (u1 (u1 (u1 r1)))) a2)) else g_Vs_l20Rd_odd_2 r0 (u1 (u1 (u1 (u1 r1)))) a2 else bif g_Vs_l20Rd_odd_0 r0 (u1 (u1 (u1 r1))) a2 then bif g_pick r0 (g_Vs_l20Rd_odd_2 r0 (u1 (u1 (u1 r1))) a2) (5 : Int) == (0 : Int) then u1 (u1 (g_Vs_l20Rd_odd_2 r0 (u1 (u1 (u1 r1))) a2)) else bif g_pick r0 (g_Vs_l20Rd_odd_2 r0 (u1 (u1 (u1 r1))) a2) (5 : Int) == (1 : Int) then u1 (u1 (g_Vs_l20Rd_odd_2 r0 (u1 (u1 (u1 r1))) a2)) else bif g_pick r0 (g_Vs_l20Rd_odd_2 r0 (u1 (u1 (u1 r1))) a2) (5 : Int) == (2 : Int) then u1 (u1 (g_Vs_l20Rd_odd_2 r0 (u1 (u1 (u1 r1))) a2)) else bif g_pick r0 (g_Vs_l20Rd_odd_2 r0 (u1 (u1 (u1 r1))) a2) (5 : Int) == (3 : Int) then u1 (u1 (g_Vs_l20Rd_odd_2 r0 (u1 (u1 (u1 r1))) a2)) else u1 (u1 (g_Vs_l20Rd_odd_2 r0 (u1 (u1 (u1 r1))) a2)) else g_Vs_l20Rd_odd_2 r0 (u1 (u1 (u1 r1))) a2 else bif IntKind.wrap IntKind.i64 ((1 : Int) + g_pick r0 r1 (5 : Int)) == (5 : Int) then bif g_Vs_l20Rd_odd_0 r0 (u1 (u1 (u1 r1))) a2 then bif g_pick r0 (g_Vs_l20Rd_odd_2 r0 (u1 (u1 (u1 r1))) a2) (5 : Int) == (0 : Int) then u1 (u1 (g_Vs_l20Rd_odd_2 r0 (u1 (u1 (u1 r1))) a2)) else bif g_pick r0 (g_Vs_l20Rd_odd_2 r0 (u1 (u1 (u1 r1))) a2) (5 : Int) == (1 : Int) then u1 (u1 (g_Vs_l20Rd_odd_2 r0 (u1 (u1 (u1 r1))) a2)) else bif g_pick r0 (g_Vs_l20Rd_odd_2 r0 (u1 (u1 (u1 r1))) a2) (5 : Int) == (2 : Int) then u1 (u1 (g_Vs_l20Rd_odd_2 r0 (u1 (u1 (u1 r1))) a2)) else bif g_pick r0 (g_Vs_l20Rd_odd_2 r0 (u1 (u1 (u1 r1))) a2) (5 : Int) == (3 : Int) then u1 (u1 (g_Vs_l20Rd_odd_2 r0 (u1 (u1 (u1 r1))) a2)) else u1 (u1 (g_Vs_l20Rd_odd_2 r0 (u1 (u1 (u1 r1))) a2)) else g_Vs_l20Rd_odd_2 r0 (u1 (u1 (u1 r1))) a2 else bif IntKind.wrap IntKind.i64 ((1 : Int) + g_pick r0 r1 (5 : Int)) == (2 : Int) then bif g_Vs_l20Rd_odd_0 r0 (u1 (u1 (u1 (u1 (u1 r1))))) a2 then bif g_pick r0 (g_Vs_l20Rd_odd_2 r0 (u1 (u1 (u1 (u1 (u1 r1))))) a2) (5 : Int) == (0 : Int) then u1 (u1 (g_Vs_l20Rd_odd_2 r0 (u1 (u1 (u1 (u1 (u1 r1))))) a2)) else bif g_pick r0 (g_Vs_l20Rd_odd_2 r0 (u1 (u1 (u1 (u1 (u1 r1))))) a2) (5 : Int) == (1 : Int) then u1 (u1 (g_Vs_l20Rd_odd_2 r0 (u1 (u1 (u1 (u1 (u1 r1))))) a2)) else bif g_pick r0 (g_Vs_l20Rd_odd_2 r0 (u1 (u1 (u1 (u1 (u1 r1))))) a2) (5 : Int) == (2 : Int) then u1 (u1 (g_Vs_l20Rd_odd_2 r0 (u1 (u1 (u1 (u1 (u1 r1))))) a2)) else bif g_pick r0 (g_Vs_l20Rd_odd_2 r0 (u1 (u1 (u1 (u1 (u1 r1))))) a2) (5 : Int) == (3 : Int) then u1 (u1 (g_Vs_l20Rd_odd_2 r0 (u1 (u1 (u1 (u1 (u1 r1))))) a2)) else u1 (u1 (g_Vs_l20Rd_odd_2 r0 (u1 (u1 (u1 (u1 (u1 r1))))) a2)) else g_Vs_l20Rd_odd_2 r0 (u1 (u1 (u1 (u1 (u1 r1))))) a2 else bif IntKind.wrap IntKind.i64 ((1 : Int) + g_pick r0 r1 (5 : Int)) == (3 : Int) then bif g_Vs_l20Rd_odd_0 r0 (u1 (u1 (u1 (u1 r1)))) a2 then bif g_pick r0 (g_Vs_l20Rd_odd_2 r0 (u1 (u1 (u1 (u1 r1)))) a2) (5 : Int) == (0 : Int) then u1 (u1 (g_Vs_l20Rd_odd_2 r0 (u1 (u1 (u1 (u1 r1)))) a2)) else bif g_pick r0 (g_Vs_l20Rd_odd_2 r0 (u1 (u1 (u1 (u1 r1)))) a2) (5 : Int) == (1 : Int) then u1 (u1 (g_Vs_l20Rd_odd_2 r0 (u1 (u1 (u1 (u1 r1)))) a2)) else bif g_pick r0 (g_Vs_l20Rd_odd_2 r0 (u1 (u1 (u1 (u1 r1)))) a2) (5 : Int) == (2 : Int) then u1 (u1 (g_Vs_l20Rd_odd_2 r0 (u1 (u1 (u1 (u1 r1)))) a2)) else bif g_pick r0 (g_Vs_l20Rd_odd_2 r0 (u1 (u1 (u1 (u1 r1)))) a2) (5 : Int) == (3 : Int) then u1 (u1 (g_Vs_l20Rd_odd_2 r0 (u1 (u1 (u1 (u1 r1)))) a2)) else u1 (u1 (g_Vs_l20Rd_odd_2 r0 (u1 (u1 (u1 (u1 r1)))) a2)) else g_Vs_l20Rd_odd_2 r0 (u1 (u1 (u1 (u1 r1)))) a2 else bif g_Vs_l20Rd_odd_0 r0 (u1 (u1 (u1 r1))) a2 then bif g_pick r0 (g_Vs_l20Rd_odd_2 r0 (u1 (u1 (u1 r1))) a2) (5 : Int) == (0 : Int) then u1 (u1 (g_Vs_l20Rd_odd_2 r0 (u1 (u1 (u1 r1))) a2)) else bif g_pick r0 (g_Vs_l20Rd_odd_2 r0 (u1 (u1 (u1 r1))) a2) (5 : Int) == (1 : Int) then u1 (u1 (g_Vs_l20Rd_odd_2 r0 (u1 (u1 (u1 r1))) a2)) else bif g_pick r0 (g_Vs_l20Rd_odd_2 r0 (u1 (u1 (u1 r1))) a2) (5 : Int) == (2 : Int) then u1 (u1 (g_Vs_l20Rd_odd_2 r0 (u1 (u1 (u1 r1))) a2)) else bif g_pick r0 (g_Vs_l20Rd_odd_2 r0 (u1 (u1 (u1 r1))) a2) (5 : Int) == (3 : Int) then u1 (u1 (g_Vs_l20Rd_odd_2 r0 (u1 (u1 (u1 r1))) a2)) else u1 (u1 (g_Vs_l20Rd_odd_2 r0 (u1 (u1 (u1 r1))) a2)) else g_Vs_l20Rd_odd_2 r0 (u1 (u1 (u1 r1))) a2
noncomputable def Fs_l20Op : FSem := fun ys => match ys with
 | [.val true [.sl .any 5 (.int .u8) r0, .int .i64 r1], .val false [.int .i64 a2]] => some ((g_As_l20Op r0 r1 a2), .val true [.int .i64 (g_Vs_l20Op_0 r0 r1 a2), .int .i64 (g_Vs_l20Op_1 r0 r1 a2), .int .i64 (g_Vs_l20Op_2 r0 r1 a2), .int .i64 (g_Vs_l20Op_3 r0 r1 a2), .int .i64 (g_Vs_l20Op_4 r0 r1 a2), .int .i64 (g_Vs_l20Op_5 r0 r1 a2), .int .i64 (g_Vs_l20Op_6 r0 r1 a2)], [[.sl .any 5 (.int .u8) (g_Vs_l20Op_7 r0 r1 a2), .int .i64 (g_Vs_l20Op_8 r0 r1 a2)]])
 | _ => none
theorem vs_l20Op (r0 : List Int) (r1 : Int) (a2 : Int) : collapseH .std Es_l20Op Os_l20Op_0 (execFn Es_l20Op Tryd.f37 mss_l20Op [.val true [.sl .any 5 (.int .u8) r0, .int .i64 r1], .val false [.int .i64 a2]]) = some ((g_As_l20Op r0 r1 a2), .val true [.int .i64 (g_Vs_l20Op_0 r0 r1 a2), .int .i64 (g_Vs_l20Op_1 r0 r1 a2), .int .i64 (g_Vs_l20Op_2 r0 r1 a2), .int .i64 (g_Vs_l20Op_3 r0 r1 a2), .int .i64 (g_Vs_l20Op_4 r0 r1 a2), .int .i64 (g_Vs_l20Op_5 r0 r1 a2), .int .i64 (g_Vs_l20Op_6 r0 r1 a2)], [[.sl .any 5 (.int .u8) (g_Vs_l20Op_7 r0 r1 a2), .int .i64 (g_Vs_l20Op_8 r0 r1 a2)]]) := by kernel_rfl
theorem ss_l20Op : Sound Tryd.prog 37 mss_l20Op Fs_l20Op := by
 refine fn_gen goods_l20Op (by kernel_rfl) .std (fn := Tryd.f37) (c := (Tryd.f37.body.getD .skip)) (o := Os_l20Op_0) (k := 0) (by kernel_rfl) (by kernel_rfl) (by kernel_rfl) (by kernel_rfl) (by decide) ks_l20Op_0 ?_
 intro ys r outs h
 unfold Fs_l20Op at h
 split at h
 ·exact (vs_l20Op _ _ _).trans h
 ·cases h
noncomputable def mss_l20OpR : List PM := mss_l20Op
theorem sames_l20Op (r0 : List Int) (r1 : Int) (a2 : Int) : g_Vs_l20Op_7 r0 r1 a2 = r0 := by
 unfold g_Vs_l20Op_7
 simp only [Bool.cond_self]
noncomputable def Fs_l20OpR : FSem := fun ys => match ys with
 | [.val true [.sl .any 5 (.int .u8) r0, .int .i64 r1], .val false [.int .i64 a2]] => some ((g_As_l20Op r0 r1 a2), .val true [.int .i64 (g_Vs_l20Op_0 r0 r1 a2), .int .i64 (g_Vs_l20Op_1 r0 r1 a2), .int .i64 (g_Vs_l20Op_2 r0 r1 a2), .int .i64 (g_Vs_l20Op_3 r0 r1 a2), .int .i64 (g_Vs_l20Op_4 r0 r1 a2), .int .i64 (g_Vs_l20Op_5 r0 r1 a2), .int .i64 (g_Vs_l20Op_6 r0 r1 a2)], [[.sl .any 5 (.int .u8) r0, .int .i64 (g_Vs_l20Op_8 r0 r1 a2)]])
 | _ => none
theorem ss_l20OpR : Sound Tryd.prog 37 mss_l20OpR Fs_l20OpR := by
 refine ⟨ss_l20Op.fn, fun w S ψ ys vs r outs hF hh hg => ss_l20Op.calls w S ψ ys vs r outs (Eq.trans ?_ hF) hh hg⟩
 unfold Fs_l20OpR at hF ⊢
 split at hF
 ·rename_i  r0 r1 a2
  show (some ((g_As_l20Op r0 r1 a2), .val true [.int .i64 (g_Vs_l20Op_0 r0 r1 a2), .int .i64 (g_Vs_l20Op_1 r0 r1 a2), .int .i64 (g_Vs_l20Op_2 r0 r1 a2), .int .i64 (g_Vs_l20Op_3 r0 r1 a2), .int .i64 (g_Vs_l20Op_4 r0 r1 a2), .int .i64 (g_Vs_l20Op_5 r0 r1 a2), .int .i64 (g_Vs_l20Op_6 r0 r1 a2)], [[.sl .any 5 (.int .u8) (g_Vs_l20Op_7 r0 r1 a2), .int .i64 (g_Vs_l20Op_8 r0 r1 a2)]]) : Option (Bool × RV × List (List Cell))) = _
  rw [sames_l20Op]
 ·cases hF
noncomputable def Es_l20Open : Env where
 tt := mkTI Tryd.prog
 fn := fun _ => none
 bxf := fun _ => none
 mv := []
 keep := fun _ => []
 keepB := fun _ => []
 keepX := fun _ => []
 keepXB := fun _ => []
theorem goodFs_l20Open : ∀ f ms F, Es_l20Open.fn f = some (ms, F) → Sound Tryd.prog f ms F := fun f ms F h => by cases h
theorem goodBs_l20Open : ∀ f ms F, Es_l20Open.bxf f = some (ms, F) → SoundB Tryd.prog f ms F := fun f ms F h => by cases h
theorem goods_l20Open : Good Tryd.prog Es_l20Open := ⟨rfl, goodFs_l20Open, goodBs_l20Open⟩
noncomputable def Os_l20Open_0 : Orc := fun _ _ => none
noncomputable def mss_l20Open : List PM := [.fz]
noncomputable def lss_l20Open : List (Nat × Code) := loopsAll 0 (Tryd.f35.body.getD .skip)
theorem ks_l20Open_0 : OrcOk Es_l20Open Os_l20Open_0 lss_l20Open 0 := orcOk_none
noncomputable def g_As_l20Open (a0 : List Int) : Bool := Bool.rec (!decide ((↑(List.length a0) : Int) > (2000 : Int)) && true) true (decide ((0 : Int) ≤ (2000 : Int) ∧ (2000 : Int) ≤ (↑(List.length a0) : Int)) && true)
noncomputable def g_Vs_l20Open_0 (a0 : List Int) : List Int := bif decide ((↑(List.length a0) : Int) > (2000 : Int)) then List.drop (nat_lit 0) (List.take (nat_lit 2000) a0) else a0
noncomputable def g_Vs_l20Open_1 (a0 : List Int) : Int := bif decide ((↑(List.length a0) : Int) > (2000 : Int)) then (0 : Int) else (0 : Int)
noncomputable def Fs_l20Open : List RV → Option (Bool × List Cell × List (List Cell)) := fun ys => match ys with
 | [.val false [.sl .any 5 (.int .u8) a0]] => some ((g_As_l20Open a0), [.sl .any 5 (.int .u8) (g_Vs_l20Open_0 a0), .int .i64 (g_Vs_l20Open_1 a0)], [])
 | _ => none
theorem vs_l20Open (a0 : List Int) : collapse Es_l20Open Os_l20Open_0 (execFnB Es_l20Open Tryd.f35 mss_l20Open 2 [.val false [.sl .any 5 (.int .u8) a0]]) = some ((g_As_l20Open a0), .val true [.sl .any 5 (.int .u8) (g_Vs_l20Open_0 a0), .int .i64 (g_Vs_l20Open_1 a0)], []) := by kernel_rfl
theorem ss_l20Open : SoundB Tryd.prog 35 mss_l20Open Fs_l20Open := by
 refine fn_genB goods_l20Open (by kernel_rfl) (fn := Tryd.f35) (c := (Tryd.f35.body.getD .skip)) (o := Os_l20Open_0) (k := 0) (tr := 2) (by kernel_rfl) (by kernel_rfl) (by kernel_rfl) (by kernel_rfl) (by decide) (by kernel_rfl) (by decide) ks_l20Open_0 ?_
 intro ys r outs h
 unfold Fs_l20Open at h
 split at h
 ·simp only [Option.some.injEq, Prod.mk.injEq] at h
  obtain ⟨h1, h2, h3⟩ := h
  refine ⟨h3.symm, (vs_l20Open _).trans ?_⟩
  rw [h1, h2]
 ·cases h
noncomputable def Es_DrawGloPlay : Env where
 tt := mkTI Tryd.prog
 fn := fun f => match f with
  | 36 => some (mss_l20Rd_pick, FSem.wk mss_l20Rd_pick Fs_l20Rd_pick)
  | 37 => some (mss_l20OpR, FSem.wk mss_l20OpR Fs_l20OpR)
  | _ => none
 bxf := fun f => match f with
  | 35 => some (mss_l20Open, Fs_l20Open)
  | _ => none
 mv := []
 keep := fun b => match b with
  | 0 => [(3, false), (4, false), (5, false)]
  | _ => []
 keepB := fun b => match b with
  | 0 => [(7, false)]
  | _ => []
 keepX := fun b => match b with
  | 0 => [(4, false)]
  | _ => []
 keepXB := fun b => match b with
  | 0 => [(7, false)]
  | _ => []
theorem goodFs_DrawGloPlay : ∀ f ms F, Es_DrawGloPlay.fn f = some (ms, F) → Sound Tryd.prog f ms F := fun f ms F h => by
 unfold Es_DrawGloPlay at h
 dsimp only at h
 split at h
 ·injection h with h; injection h with e1 e2; subst e1 e2; exact Sound.wk ss_l20Rd_pick
 ·injection h with h; injection h with e1 e2; subst e1 e2; exact Sound.wk ss_l20OpR
 ·cases h
theorem goodBs_DrawGloPlay : ∀ f ms F, Es_DrawGloPlay.bxf f = some (ms, F) → SoundB Tryd.prog f ms F := fun f ms F h => by
 unfold Es_DrawGloPlay at h
 dsimp only at h
 split at h
 ·injection h with h; injection h with e1 e2; subst e1 e2; exact ss_l20Open
 ·cases h
theorem goods_DrawGloPlay : Good Tryd.prog Es_DrawGloPlay := ⟨rfl, goodFs_DrawGloPlay, goodBs_DrawGloPlay⟩
noncomputable def Os_DrawGloPlay_0 : Orc := fun _ _ => none
noncomputable def mss_DrawGloPlay : List PM := [.fz]
noncomputable def lss_DrawGloPlay : List (Nat × Code) := loopsAll 0 (Tryd.f16.body.getD .skip)
noncomputable def cs_DrawGloPlay_0 : Code := (loopOf 0 (Tryd.f16.body.getD .skip)).getD .skip
theorem lseqs_DrawGloPlay : lss_DrawGloPlay = [(0, cs_DrawGloPlay_0)] := by kernel_rfl
theorem ms_DrawGloPlay_0 : ∀ p, p ∈ lss_DrawGloPlay → p.1 = 0 → p.2 = cs_DrawGloPlay_0 := by
 intro p hp
 rw [lseqs_DrawGloPlay] at hp
 simp only [List.mem_cons, List.not_mem_nil, or_false] at hp
 subst hp; simp
theorem ks_DrawGloPlay_0 : OrcOk Es_DrawGloPlay Os_DrawGloPlay_0 lss_DrawGloPlay 0 := orcOk_none
noncomputable def hs_DrawGloPlay_0 (y0 : List (Int × (Int × (Int × (Int × (Int × (Int × Int))))))) (y1 : Int) (y2 : List Int) (y3 : Int) : List (Pl × LV) := [(.T 3, .t (.val false [.ptr 7 0 0])), (.T 4, .t (.val false [.row 4 0 0])), (.R 4 0, .r 0 (some ⟨false, .non, true, 24, (.pair (.int .i64) (.pair (.int .i64) (.pair (.int .i64) (.pair (.int .i64) (.pair (.int .i64) (.pair (.int .i64) (.int .i64))))))), y0⟩)), (.T 5, .t (.val false [.int .i64 y1])), (.B 7, .b 0 false [.sl .any 5 (.int .u8) y2, .int .i64 y3])]
noncomputable def g_Ss_DrawGloPlay_0 (y2 : List Int) : ((List (Int × (Int × (Int × (Int × (Int × (Int × Int))))))) × Int × Int) → RT ((List (Int × (Int × (Int × (Int × (Int × (Int × Int))))))) × Int × Int) (((List (Int × (Int × (Int × (Int × (Int × (Int × Int))))))) × Int))
 | (y0, y1, y3) => .br (true) (.br (decide (y1 > (0 : Int))) (.br (g_As_l20Op y2 y3 (0 : Int)) (.br (decide ((List.length y0 + List.length [(g_Vs_l20Op_0 y2 y3 (0 : Int), g_Vs_l20Op_1 y2 y3 (0 : Int), g_Vs_l20Op_2 y2 y3 (0 : Int), g_Vs_l20Op_3 y2 y3 (0 : Int), g_Vs_l20Op_4 y2 y3 (0 : Int), g_Vs_l20Op_5 y2 y3 (0 : Int), g_Vs_l20Op_6 y2 y3 (0 : Int))]) * nat_lit 56 ≤ nat_lit 140737488355328 ∧ List.length y0 + List.length [(g_Vs_l20Op_0 y2 y3 (0 : Int), g_Vs_l20Op_1 y2 y3 (0 : Int), g_Vs_l20Op_2 y2 y3 (0 : Int), g_Vs_l20Op_3 y2 y3 (0 : Int), g_Vs_l20Op_4 y2 y3 (0 : Int), g_Vs_l20Op_5 y2 y3 (0 : Int), g_Vs_l20Op_6 y2 y3 (0 : Int))] ≤ nat_lit 9223372036854775807)) (.br (true) (.go ((y0 ++ [(g_Vs_l20Op_0 y2 y3 (0 : Int), g_Vs_l20Op_1 y2 y3 (0 : Int), g_Vs_l20Op_2 y2 y3 (0 : Int), g_Vs_l20Op_3 y2 y3 (0 : Int), g_Vs_l20Op_4 y2 y3 (0 : Int), g_Vs_l20Op_5 y2 y3 (0 : Int), g_Vs_l20Op_6 y2 y3 (0 : Int))], IntKind.wrap IntKind.i64 (y1 - (1 : Int)), g_Vs_l20Op_8 y2 y3 (0 : Int)))) (.bad)) (.bad)) (.bad)) (.out ((y0, y3)))) (.bad)
noncomputable def g_Ls_DrawGloPlay_0 (y2 : List Int) (x : (List (Int × (Int × (Int × (Int × (Int × (Int × Int))))))) × Int × Int) : Option (((List (Int × (Int × (Int × (Int × (Int × (Int × Int))))))) × Int)) := loopO (g_Ss_DrawGloPlay_0 y2) x
noncomputable def xs_DrawGloPlay_0 (y2 : List Int) : (((List (Int × (Int × (Int × (Int × (Int × (Int × Int))))))) × Int)) → Ex × List (Pl × LV) := fun r => (.exit 0, [(.T 4, .t (.val false [.row 4 0 0])), (.R 4 0, .r 0 (some ⟨false, .non, true, 24, (.pair (.int .i64) (.pair (.int .i64) (.pair (.int .i64) (.pair (.int .i64) (.pair (.int .i64) (.pair (.int .i64) (.int .i64))))))), r.1⟩)), (.B 7, .b 0 false [.sl .any 5 (.int .u8) y2, .int .i64 r.2])])
noncomputable def Os_DrawGloPlay_1 : Orc := fun b h => match b, h with
 | 0, [(.T 3, .t (.val false [.ptr 7 0 0])), (.T 4, .t (.val false [.row 4 0 0])), (.R 4 0, .r 0 (some ⟨false, .non, true, 24, (.pair (.int .i64) (.pair (.int .i64) (.pair (.int .i64) (.pair (.int .i64) (.pair (.int .i64) (.pair (.int .i64) (.int .i64))))))), y0⟩)), (.T 5, .t (.val false [.int .i64 y1])), (.B 7, .b 0 false [.sl .any 5 (.int .u8) y2, .int .i64 y3])] => some (okO (g_Ls_DrawGloPlay_0 y2 (y0, y1, y3)), (.leaf (.exit 0) [(.T 4, .t (.val false [.row 4 0 0])), (.R 4 0, .r 0 (some ⟨false, .non, true, 24, (.pair (.int .i64) (.pair (.int .i64) (.pair (.int .i64) (.pair (.int .i64) (.pair (.int .i64) (.pair (.int .i64) (.int .i64))))))), (valO (g_Ls_DrawGloPlay_0 y2 (y0, y1, y3))).1⟩)), (.B 7, .b 0 false [.sl .any 5 (.int .u8) y2, .int .i64 (valO (g_Ls_DrawGloPlay_0 y2 (y0, y1, y3))).2])]))
 | b, h => Os_DrawGloPlay_0 b h
theorem bs_DrawGloPlay_0 (y0 : List (Int × (Int × (Int × (Int × (Int × (Int × Int))))))) (y1 : Int) (y2 : List Int) (y3 : Int) : Tr.bt Es_DrawGloPlay Os_DrawGloPlay_0 (exec Es_DrawGloPlay 0 cs_DrawGloPlay_0 (St.of (hs_DrawGloPlay_0 y0 y1 y2 y3)) (leafRd Es_DrawGloPlay 0)) = (g_Ss_DrawGloPlay_0 y2 (y0, y1, y3)).bt (fun ((y0, y1, y3) : (List (Int × (Int × (Int × (Int × (Int × (Int × Int))))))) × Int × Int) => (hs_DrawGloPlay_0 y0 y1 y2 y3)) (xs_DrawGloPlay_0 y2) := by kernel_rfl
theorem ks_DrawGloPlay_1 : OrcOk Es_DrawGloPlay Os_DrawGloPlay_1 lss_DrawGloPlay 1 := orc_add ks_DrawGloPlay_0 (fun n p hp h ex h' ho => by
 obtain ⟨b, c⟩ := p
 obtain ⟨xt, h1, h2⟩ := ho
 have h1 : Os_DrawGloPlay_1 b h = some (true, xt) := h1
 unfold Os_DrawGloPlay_1 at h1
 split at h1
 ·injection h1 with h1
  injection h1 with e1 e2
  subst e2
  have hc : c = cs_DrawGloPlay_0 := ms_DrawGloPlay_0 _ hp rfl
  subst hc
  right
  rename_i y0 y1 y2 y3
  have key := LT_step ks_DrawGloPlay_0 hp (fun q hq => loopsAll_in _ _ _ _ hp hq) (fun ((y0, y1, y3) : (List (Int × (Int × (Int × (Int × (Int × (Int × Int))))))) × Int × Int) => (hs_DrawGloPlay_0 y0 y1 y2 y3)) (xs_DrawGloPlay_0 y2) (g_Ss_DrawGloPlay_0 y2) (fun x => by first | exact bs_DrawGloPlay_0 x.1 x.2.1 y2 x.2.2) n (x := (y0, y1, y3)) (okO_some e1)
  have hx : ∀ r, XT.sel (.leaf (.exit 0) [(.T 4, .t (.val false [.row 4 0 0])), (.R 4 0, .r 0 (some ⟨false, .non, true, 24, (.pair (.int .i64) (.pair (.int .i64) (.pair (.int .i64) (.pair (.int .i64) (.pair (.int .i64) (.pair (.int .i64) (.int .i64))))))), r.1⟩)), (.B 7, .b 0 false [.sl .any 5 (.int .u8) y2, .int .i64 r.2])]) = xs_DrawGloPlay_0 y2 r := fun r => by first | rfl | (rcases r with r | r <;> rfl) | (rcases r with r | r | r <;> rfl) | (rcases r with r | r | r | r <;> rfl)
  have h3 := (hx (valO (g_Ls_DrawGloPlay_0 y2 (y0, y1, y3)))).symm.trans h2
  have e3 := congrArg Prod.fst h3
  have e4 := congrArg Prod.snd h3
  simp only at e3 e4
  rw [← e3, ← e4]
  exact key
 ·exact .inl ⟨xt, h1, h2⟩)
noncomputable def g_As_DrawGloPlay (a0 : List Int) : Bool := g_As_l20Open a0 && (g_pickA (g_Vs_l20Open_0 a0) (g_Vs_l20Open_1 a0) (26 : Int) && okO (g_Ls_DrawGloPlay_0 (g_Vs_l20Open_0 a0) ([], g_pick (g_Vs_l20Open_0 a0) (g_Vs_l20Open_1 a0) (26 : Int), IntKind.wrap IntKind.i64 (g_Vs_l20Open_1 a0 + (1 : Int)))))
noncomputable def g_Vs_DrawGloPlay_0 (a0 : List Int) : List (Int × (Int × (Int × (Int × (Int × (Int × Int)))))) := (valO (g_Ls_DrawGloPlay_0 (g_Vs_l20Open_0 a0) ([], g_pick (g_Vs_l20Open_0 a0) (g_Vs_l20Open_1 a0) (26 : Int), IntKind.wrap IntKind.i64 (g_Vs_l20Open_1 a0 + (1 : Int))))).1
noncomputable def Fs_DrawGloPlay : FSem := fun ys => match ys with
 | [.val false [.sl .any 5 (.int .u8) a0]] => some ((g_As_DrawGloPlay a0), .val false [.own .any true 24 (.pair (.int .i64) (.pair (.int .i64) (.pair (.int .i64) (.pair (.int .i64) (.pair (.int .i64) (.pair (.int .i64) (.int .i64))))))) (g_Vs_DrawGloPlay_0 a0)], [])
 | _ => none
theorem vs_DrawGloPlay (a0 : List Int) : collapseH .std Es_DrawGloPlay Os_DrawGloPlay_1 (execFn Es_DrawGloPlay Tryd.f16 mss_DrawGloPlay [.val false [.sl .any 5 (.int .u8) a0]]) = some ((g_As_DrawGloPlay a0), .val false [.own .any true 24 (.pair (.int .i64) (.pair (.int .i64) (.pair (.int .i64) (.pair (.int .i64) (.pair (.int .i64) (.pair (.int .i64) (.int .i64))))))) (g_Vs_DrawGloPlay_0 a0)], []) := by kernel_rfl
theorem ss_DrawGloPlay : Sound Tryd.prog 16 mss_DrawGloPlay Fs_DrawGloPlay := by
 refine fn_gen goods_DrawGloPlay (by kernel_rfl) .std (fn := Tryd.f16) (c := (Tryd.f16.body.getD .skip)) (o := Os_DrawGloPlay_1) (k := 1) (by kernel_rfl) (by kernel_rfl) (by kernel_rfl) (by kernel_rfl) (by decide) ks_DrawGloPlay_1 ?_
 intro ys r outs h
 unfold Fs_DrawGloPlay at h
 split at h
 ·exact (vs_DrawGloPlay _).trans h
 ·cases h
noncomputable def Ei_in : Env where
 tt := mkTI Tryd.prog
 fn := fun _ => none
 bxf := fun _ => none
 mv := []
 keep := fun _ => []
 keepB := fun _ => []
 keepX := fun _ => []
 keepXB := fun _ => []
theorem goodFi_in : ∀ f ms F, Ei_in.fn f = some (ms, F) → Sound Tryd.prog f ms F := fun f ms F h => by cases h
theorem goodBi_in : ∀ f ms F, Ei_in.bxf f = some (ms, F) → SoundB Tryd.prog f ms F := fun f ms F h => by cases h
theorem goodi_in : Good Tryd.prog Ei_in := ⟨rfl, goodFi_in, goodBi_in⟩
noncomputable def Oi_in_0 : Orc := fun _ _ => none
noncomputable def msi_in : List PM := [.own, .own, .own]
noncomputable def lsi_in : List (Nat × Code) := loopsAll 0 (Tryd.f56.body.getD .skip)
theorem ki_in_0 : OrcOk Ei_in Oi_in_0 lsi_in 0 := orcOk_none
noncomputable def g_Ai_in (a0 : Int) (a1 : Int) (a2 : Int) : Bool := !decide (a0 ≥ a1) || true
noncomputable def g_Vi_in_0 (a0 : Int) (a1 : Int) (a2 : Int) : Bool := bif decide (a0 ≥ a1) then decide (a0 ≤ a2) else false
noncomputable def Fi_in : FSem := fun ys => match ys with
 | [.val false [.int .i64 a0], .val false [.int .i64 a1], .val false [.int .i64 a2]] => some ((g_Ai_in a0 a1 a2), .val false [.bool (g_Vi_in_0 a0 a1 a2)], [])
 | _ => none
theorem vi_in (a0 : Int) (a1 : Int) (a2 : Int) : collapseH .std Ei_in Oi_in_0 (execFn Ei_in Tryd.f56 msi_in [.val false [.int .i64 a0], .val false [.int .i64 a1], .val false [.int .i64 a2]]) = some ((g_Ai_in a0 a1 a2), .val false [.bool (g_Vi_in_0 a0 a1 a2)], []) := by kernel_rfl
theorem si_in : Sound Tryd.prog 56 msi_in Fi_in := by
 refine fn_gen goodi_in (by kernel_rfl) .std (fn := Tryd.f56) (c := (Tryd.f56.body.getD .skip)) (o := Oi_in_0) (k := 0) (by kernel_rfl) (by kernel_rfl) (by kernel_rfl) (by kernel_rfl) (by decide) ki_in_0 ?_
 intro ys r outs h
 unfold Fi_in at h
 split at h
 ·exact (vi_in _ _ _).trans h
 ·cases h
def msstrings_Trim : List PM := [.own, .own]
def g_trim (s c : ByteArray) : ByteArray := ⟨(Lib.trimS s.data.toList c.data.toList).toArray⟩
def g_ascii (c : ByteArray) : Bool := c.data.toList.all fun b => decide (b.toNat < 128)
def Fstrings_Trim : FSem := fun ys => match ys with
 | [.val false [.str s], .val false [.str c]] => some (decide (s.size ≤ 9223372036854775807) && (decide (c.size < 4294967281) && g_ascii c), .val false [.str (g_trim s c)], [])
 | _ => none
theorem sstrings_Trim : Sound Tryd.prog 102 msstrings_Trim Fstrings_Trim := by
 refine sound_plain (by simp [msstrings_Trim]) ⟨_, Tryd.func102, by kernel_rfl, by kernel_rfl⟩ (fun w ys r outs h => ?_)
 unfold Fstrings_Trim at h
 split at h
 ·rename_i s c
  simp only [Option.some.injEq, Prod.mk.injEq, Bool.and_eq_true, decide_eq_true_eq] at h
  obtain ⟨⟨h1, h2, h3⟩, rfl, rfl⟩ := h
  refine ⟨rfl, [.string s, .string c], .string (g_trim s c), rfl, rfl, ?_⟩
  exact Tryd.strings_Trim_laid s c w h1 h2 (fun j b hb => by
   have := List.all_eq_true.1 h3 b (List.mem_of_getElem? hb)
   simpa using this)
 ·cases h
noncomputable def Ei_keyOk : Env where
 tt := mkTI Tryd.prog
 fn := fun f => match f with
  | 56 => some (msi_in, FSem.wk msi_in Fi_in)
  | 102 => some (msstrings_Trim, FSem.wk msstrings_Trim Fstrings_Trim)
  | _ => none
 bxf := fun _ => none
 mv := []
 keep := fun _ => []
 keepB := fun _ => []
 keepX := fun _ => []
 keepXB := fun _ => []
theorem goodFi_keyOk : ∀ f ms F, Ei_keyOk.fn f = some (ms, F) → Sound Tryd.prog f ms F := fun f ms F h => by
 unfold Ei_keyOk at h
 dsimp only at h
 split at h
 ·injection h with h; injection h with e1 e2; subst e1 e2; exact Sound.wk si_in
 ·injection h with h; injection h with e1 e2; subst e1 e2; exact Sound.wk sstrings_Trim
 ·cases h
theorem goodBi_keyOk : ∀ f ms F, Ei_keyOk.bxf f = some (ms, F) → SoundB Tryd.prog f ms F := fun f ms F h => by cases h
theorem goodi_keyOk : Good Tryd.prog Ei_keyOk := ⟨rfl, goodFi_keyOk, goodBi_keyOk⟩
noncomputable def Oi_keyOk_0 : Orc := fun _ _ => none
noncomputable def msi_keyOk : List PM := [.own]
noncomputable def lsi_keyOk : List (Nat × Code) := loopsAll 0 (Tryd.f73.body.getD .skip)
theorem ki_keyOk_0 : OrcOk Ei_keyOk Oi_keyOk_0 lsi_keyOk 0 := orcOk_none
noncomputable def g_Ai_keyOk (a0 : ByteArray) : Bool := g_Ai_in (↑(ByteArray.size a0) : Int) (2 : Int) (3 : Int) && (!g_Vi_in_0 (↑(ByteArray.size a0) : Int) (2 : Int) (3 : Int) || decide ((0 : Int) ≤ (0 : Int) ∧ (0 : Int) < (↑(ByteArray.size a0) : Int)) && (g_Ai_in (IntKind.wrap IntKind.i64 (byteAt a0 (nat_lit 0))) (97 : Int) (122 : Int) && (!g_Vi_in_0 (IntKind.wrap IntKind.i64 (byteAt a0 (nat_lit 0))) (97 : Int) (122 : Int) || decide ((0 : Int) ≤ (1 : Int) ∧ (1 : Int) ≤ (↑(ByteArray.size a0) : Int)) && (decide (ByteArray.size (ByteArray.extract a0 (nat_lit 1) (ByteArray.size a0)) ≤ nat_lit 9223372036854775807) && g_ascii (lit [(48 : Nat), (49 : Nat), (50 : Nat), (51 : Nat), (52 : Nat), (53 : Nat), (54 : Nat), (55 : Nat), (56 : Nat), (57 : Nat)]) && true))))
noncomputable def g_Vi_keyOk_0 (a0 : ByteArray) : Bool := bif g_Vi_in_0 (↑(ByteArray.size a0) : Int) (2 : Int) (3 : Int) then bif g_Vi_in_0 (IntKind.wrap IntKind.i64 (byteAt a0 (nat_lit 0))) (97 : Int) (122 : Int) then ByteArray.toList (g_trim (ByteArray.extract a0 (nat_lit 1) (ByteArray.size a0)) (lit [(48 : Nat), (49 : Nat), (50 : Nat), (51 : Nat), (52 : Nat), (53 : Nat), (54 : Nat), (55 : Nat), (56 : Nat), (57 : Nat)])) == [] else false else false
noncomputable def Fi_keyOk : FSem := fun ys => match ys with
 | [.val false [.str a0]] => some ((g_Ai_keyOk a0), .val false [.bool (g_Vi_keyOk_0 a0)], [])
 | _ => none
theorem vi_keyOk (a0 : ByteArray) : collapseH .std Ei_keyOk Oi_keyOk_0 (execFn Ei_keyOk Tryd.f73 msi_keyOk [.val false [.str a0]]) = some ((g_Ai_keyOk a0), .val false [.bool (g_Vi_keyOk_0 a0)], []) := by kernel_rfl
theorem si_keyOk : Sound Tryd.prog 73 msi_keyOk Fi_keyOk := by
 refine fn_gen goodi_keyOk (by kernel_rfl) .std (fn := Tryd.f73) (c := (Tryd.f73.body.getD .skip)) (o := Oi_keyOk_0) (k := 0) (by kernel_rfl) (by kernel_rfl) (by kernel_rfl) (by kernel_rfl) (by decide) ki_keyOk_0 ?_
 intro ys r outs h
 unfold Fi_keyOk at h
 split at h
 ·exact (vi_keyOk _).trans h
 ·cases h
noncomputable def Ei_valOk_1 : Env where
 tt := mkTI Tryd.prog
 fn := fun f => match f with
  | 56 => some (msi_in, FSem.wk msi_in Fi_in)
  | _ => none
 bxf := fun _ => none
 mv := []
 keep := fun _ => []
 keepB := fun _ => []
 keepX := fun _ => []
 keepXB := fun _ => []
theorem goodFi_valOk_1 : ∀ f ms F, Ei_valOk_1.fn f = some (ms, F) → Sound Tryd.prog f ms F := fun f ms F h => by
 unfold Ei_valOk_1 at h
 dsimp only at h
 split at h
 ·injection h with h; injection h with e1 e2; subst e1 e2; exact Sound.wk si_in
 ·cases h
theorem goodBi_valOk_1 : ∀ f ms F, Ei_valOk_1.bxf f = some (ms, F) → SoundB Tryd.prog f ms F := fun f ms F h => by cases h
theorem goodi_valOk_1 : Good Tryd.prog Ei_valOk_1 := ⟨rfl, goodFi_valOk_1, goodBi_valOk_1⟩
noncomputable def Oi_valOk_1_0 : Orc := fun _ _ => none
noncomputable def msi_valOk_1 : List PM := [.own]
noncomputable def lsi_valOk_1 : List (Nat × Code) := loopsAll 0 (Tryd.f104.body.getD .skip)
theorem ki_valOk_1_0 : OrcOk Ei_valOk_1 Oi_valOk_1_0 lsi_valOk_1 0 := orcOk_none
noncomputable def g_Ai_valOk_1 (a0 : Int) : Bool := g_Ai_in a0 (0 : Int) (9999 : Int)
noncomputable def g_Vi_valOk_1_0 (a0 : Int) : Bool := !g_Vi_in_0 a0 (0 : Int) (9999 : Int)
noncomputable def Fi_valOk_1 : FSem := fun ys => match ys with
 | [.val false [.int .i64 a0]] => some ((g_Ai_valOk_1 a0), .val false [.bool (g_Vi_valOk_1_0 a0)], [])
 | _ => none
theorem vi_valOk_1 (a0 : Int) : collapseH .std Ei_valOk_1 Oi_valOk_1_0 (execFn Ei_valOk_1 Tryd.f104 msi_valOk_1 [.val false [.int .i64 a0]]) = some ((g_Ai_valOk_1 a0), .val false [.bool (g_Vi_valOk_1_0 a0)], []) := by kernel_rfl
theorem si_valOk_1 : Sound Tryd.prog 104 msi_valOk_1 Fi_valOk_1 := by
 refine fn_gen goodi_valOk_1 (by kernel_rfl) .std (fn := Tryd.f104) (c := (Tryd.f104.body.getD .skip)) (o := Oi_valOk_1_0) (k := 0) (by kernel_rfl) (by kernel_rfl) (by kernel_rfl) (by kernel_rfl) (by decide) ki_valOk_1_0 ?_
 intro ys r outs h
 unfold Fi_valOk_1 at h
 split at h
 ·exact (vi_valOk_1 _).trans h
 ·cases h
noncomputable def Eslices_IndexFunc_int_int__i_valOk_1 : Env where
 tt := mkTI Tryd.prog
 fn := fun f => match f with
  | 104 => some (msi_valOk_1, FSem.wk msi_valOk_1 Fi_valOk_1)
  | _ => none
 bxf := fun _ => none
 mv := []
 keep := fun b => match b with
  | 0 => [(0, false), (1, false), (7, false), (8, false)]
  | _ => []
 keepB := fun b => match b with
  | 0 => []
  | _ => []
 keepX := fun b => match b with
  | 0 => [(4, false)]
  | _ => []
 keepXB := fun b => match b with
  | 0 => []
  | _ => []
theorem goodFslices_IndexFunc_int_int__i_valOk_1 : ∀ f ms F, Eslices_IndexFunc_int_int__i_valOk_1.fn f = some (ms, F) → Sound Tryd.prog f ms F := fun f ms F h => by
 unfold Eslices_IndexFunc_int_int__i_valOk_1 at h
 dsimp only at h
 split at h
 ·injection h with h; injection h with e1 e2; subst e1 e2; exact Sound.wk si_valOk_1
 ·cases h
theorem goodBslices_IndexFunc_int_int__i_valOk_1 : ∀ f ms F, Eslices_IndexFunc_int_int__i_valOk_1.bxf f = some (ms, F) → SoundB Tryd.prog f ms F := fun f ms F h => by cases h
theorem goodslices_IndexFunc_int_int__i_valOk_1 : Good Tryd.prog Eslices_IndexFunc_int_int__i_valOk_1 := ⟨rfl, goodFslices_IndexFunc_int_int__i_valOk_1, goodBslices_IndexFunc_int_int__i_valOk_1⟩
noncomputable def Oslices_IndexFunc_int_int__i_valOk_1_0 : Orc := fun _ _ => none
noncomputable def msslices_IndexFunc_int_int__i_valOk_1 : List PM := [.rd, .rd]
noncomputable def lsslices_IndexFunc_int_int__i_valOk_1 : List (Nat × Code) := loopsAll 0 (Tryd.f126.body.getD .skip)
noncomputable def cslices_IndexFunc_int_int__i_valOk_1_0 : Code := (loopOf 0 (Tryd.f126.body.getD .skip)).getD .skip
theorem lseqslices_IndexFunc_int_int__i_valOk_1 : lsslices_IndexFunc_int_int__i_valOk_1 = [(0, cslices_IndexFunc_int_int__i_valOk_1_0)] := by kernel_rfl
theorem mslices_IndexFunc_int_int__i_valOk_1_0 : ∀ p, p ∈ lsslices_IndexFunc_int_int__i_valOk_1 → p.1 = 0 → p.2 = cslices_IndexFunc_int_int__i_valOk_1_0 := by
 intro p hp
 rw [lseqslices_IndexFunc_int_int__i_valOk_1] at hp
 simp only [List.mem_cons, List.not_mem_nil, or_false] at hp
 subst hp; simp
theorem kslices_IndexFunc_int_int__i_valOk_1_0 : OrcOk Eslices_IndexFunc_int_int__i_valOk_1 Oslices_IndexFunc_int_int__i_valOk_1_0 lsslices_IndexFunc_int_int__i_valOk_1 0 := orcOk_none
noncomputable def hslices_IndexFunc_int_int__i_valOk_1_0 (y0 : List Int) (y1 : Int) (y2 : Int) : List (Pl × LV) := [(.T 0, .t (.val false [.sl .any 3 (.int .i64) y0])), (.T 1, .t (.val false [.fn 104 []])), (.T 7, .t (.val false [.int .i64 y1])), (.T 8, .t (.val false [.int .i64 y2]))]
noncomputable def g_Sslices_IndexFunc_int_int__i_valOk_1_0 (y0 : List Int) (y1 : Int) : (Int) → RT (Int) ((Int) ⊕ (Unit))
 | y2 => .br (true) (.br (decide (y2 < y1)) (.br (decide ((0 : Int) ≤ y2 ∧ y2 < (↑(List.length y0) : Int))) (.br (g_Ai_valOk_1 (at_ (Ty.int IntKind.i64) y0 (Int.toNat y2))) (.br (g_Vi_valOk_1_0 (at_ (Ty.int IntKind.i64) y0 (Int.toNat y2))) (.out (.inl y2)) (.br (true) (.go (IntKind.wrap IntKind.i64 (y2 + (1 : Int)))) (.bad))) (.bad)) (.bad)) (.out (.inr (())))) (.bad)
noncomputable def g_Lslices_IndexFunc_int_int__i_valOk_1_0 (y0 : List Int) (y1 : Int) (x : Int) : Option ((Int) ⊕ (Unit)) := loopO (g_Sslices_IndexFunc_int_int__i_valOk_1_0 y0 y1) x
noncomputable def xslices_IndexFunc_int_int__i_valOk_1_0 (y0 : List Int) (y1 : Int) : ((Int) ⊕ (Unit)) → Ex × List (Pl × LV) := fun
 | .inl r => (.ret, [(.T 4, .t (.val false [.int .i64 r]))])
 | .inr (r) => (.exit 0, [(.T 4, .t (.val false [.undef]))])
noncomputable def Oslices_IndexFunc_int_int__i_valOk_1_1 : Orc := fun b h => match b, h with
 | 0, [(.T 0, .t (.val false [.sl .any 3 (.int .i64) y0])), (.T 1, .t (.val false [.fn 104 []])), (.T 7, .t (.val false [.int .i64 y1])), (.T 8, .t (.val false [.int .i64 y2]))] => some (okO (g_Lslices_IndexFunc_int_int__i_valOk_1_0 y0 y1 y2), (.br (isL (valO (g_Lslices_IndexFunc_int_int__i_valOk_1_0 y0 y1 y2))) (.leaf .ret [(.T 4, .t (.val false [.int .i64 (getL (valO (g_Lslices_IndexFunc_int_int__i_valOk_1_0 y0 y1 y2)))]))]) (.leaf (.exit 0) [(.T 4, .t (.val false [.undef]))])))
 | b, h => Oslices_IndexFunc_int_int__i_valOk_1_0 b h
theorem bslices_IndexFunc_int_int__i_valOk_1_0 (y0 : List Int) (y1 : Int) (y2 : Int) : Tr.bt Eslices_IndexFunc_int_int__i_valOk_1 Oslices_IndexFunc_int_int__i_valOk_1_0 (exec Eslices_IndexFunc_int_int__i_valOk_1 0 cslices_IndexFunc_int_int__i_valOk_1_0 (St.of (hslices_IndexFunc_int_int__i_valOk_1_0 y0 y1 y2)) (leafRd Eslices_IndexFunc_int_int__i_valOk_1 0)) = (g_Sslices_IndexFunc_int_int__i_valOk_1_0 y0 y1 y2).bt (fun (y2 : Int) => (hslices_IndexFunc_int_int__i_valOk_1_0 y0 y1 y2)) (xslices_IndexFunc_int_int__i_valOk_1_0 y0 y1) := by kernel_rfl
theorem kslices_IndexFunc_int_int__i_valOk_1_1 : OrcOk Eslices_IndexFunc_int_int__i_valOk_1 Oslices_IndexFunc_int_int__i_valOk_1_1 lsslices_IndexFunc_int_int__i_valOk_1 1 := orc_add kslices_IndexFunc_int_int__i_valOk_1_0 (fun n p hp h ex h' ho => by
 obtain ⟨b, c⟩ := p
 obtain ⟨xt, h1, h2⟩ := ho
 have h1 : Oslices_IndexFunc_int_int__i_valOk_1_1 b h = some (true, xt) := h1
 unfold Oslices_IndexFunc_int_int__i_valOk_1_1 at h1
 split at h1
 ·injection h1 with h1
  injection h1 with e1 e2
  subst e2
  have hc : c = cslices_IndexFunc_int_int__i_valOk_1_0 := mslices_IndexFunc_int_int__i_valOk_1_0 _ hp rfl
  subst hc
  right
  rename_i y0 y1 y2
  have key := LT_step kslices_IndexFunc_int_int__i_valOk_1_0 hp (fun q hq => loopsAll_in _ _ _ _ hp hq) (fun (y2 : Int) => (hslices_IndexFunc_int_int__i_valOk_1_0 y0 y1 y2)) (xslices_IndexFunc_int_int__i_valOk_1_0 y0 y1) (g_Sslices_IndexFunc_int_int__i_valOk_1_0 y0 y1) (fun x => by first | exact bslices_IndexFunc_int_int__i_valOk_1_0 y0 y1 x) n (x := y2) (okO_some e1)
  have hx : ∀ r, XT.sel (.br (isL r) (.leaf .ret [(.T 4, .t (.val false [.int .i64 (getL r)]))]) (.leaf (.exit 0) [(.T 4, .t (.val false [.undef]))])) = xslices_IndexFunc_int_int__i_valOk_1_0 y0 y1 r := fun r => by first | rfl | (rcases r with r | r <;> rfl) | (rcases r with r | r | r <;> rfl) | (rcases r with r | r | r | r <;> rfl)
  have h3 := (hx (valO (g_Lslices_IndexFunc_int_int__i_valOk_1_0 y0 y1 y2))).symm.trans h2
  have e3 := congrArg Prod.fst h3
  have e4 := congrArg Prod.snd h3
  simp only at e3 e4
  rw [← e3, ← e4]
  exact key
 ·exact .inl ⟨xt, h1, h2⟩)
noncomputable def g_Aslices_IndexFunc_int_int__i_valOk_1 (a0 : List Int) : Bool := okO (g_Lslices_IndexFunc_int_int__i_valOk_1_0 a0 (↑(List.length a0) : Int) (0 : Int))
noncomputable def g_Vslices_IndexFunc_int_int__i_valOk_1_0 (a0 : List Int) : Int := bif isL (valO (g_Lslices_IndexFunc_int_int__i_valOk_1_0 a0 (↑(List.length a0) : Int) (0 : Int))) then getL (valO (g_Lslices_IndexFunc_int_int__i_valOk_1_0 a0 (↑(List.length a0) : Int) (0 : Int))) else (-1 : Int)
noncomputable def Fslices_IndexFunc_int_int__i_valOk_1 : FSem := fun ys => match ys with
 | [.val false [.sl .any 3 (.int .i64) a0], .val false [.fn 104 []]] => some ((g_Aslices_IndexFunc_int_int__i_valOk_1 a0), .val false [.int .i64 (g_Vslices_IndexFunc_int_int__i_valOk_1_0 a0)], [])
 | _ => none
theorem vslices_IndexFunc_int_int__i_valOk_1 (a0 : List Int) : collapseH .std Eslices_IndexFunc_int_int__i_valOk_1 Oslices_IndexFunc_int_int__i_valOk_1_1 (execFn Eslices_IndexFunc_int_int__i_valOk_1 Tryd.f126 msslices_IndexFunc_int_int__i_valOk_1 [.val false [.sl .any 3 (.int .i64) a0], .val false [.fn 104 []]]) = some ((g_Aslices_IndexFunc_int_int__i_valOk_1 a0), .val false [.int .i64 (g_Vslices_IndexFunc_int_int__i_valOk_1_0 a0)], []) := by kernel_rfl
theorem sslices_IndexFunc_int_int__i_valOk_1 : Sound Tryd.prog 126 msslices_IndexFunc_int_int__i_valOk_1 Fslices_IndexFunc_int_int__i_valOk_1 := by
 refine fn_gen goodslices_IndexFunc_int_int__i_valOk_1 (by kernel_rfl) .std (fn := Tryd.f126) (c := (Tryd.f126.body.getD .skip)) (o := Oslices_IndexFunc_int_int__i_valOk_1_1) (k := 1) (by kernel_rfl) (by kernel_rfl) (by kernel_rfl) (by kernel_rfl) (by decide) kslices_IndexFunc_int_int__i_valOk_1_1 ?_
 intro ys r outs h
 unfold Fslices_IndexFunc_int_int__i_valOk_1 at h
 split at h
 ·exact (vslices_IndexFunc_int_int__i_valOk_1 _).trans h
 ·cases h
noncomputable def Eslices_ContainsFunc_int_int__i_valOk_1 : Env where
 tt := mkTI Tryd.prog
 fn := fun f => match f with
  | 104 => some (msi_valOk_1, FSem.wk msi_valOk_1 Fi_valOk_1)
  | 126 => some (msslices_IndexFunc_int_int__i_valOk_1, FSem.wk msslices_IndexFunc_int_int__i_valOk_1 Fslices_IndexFunc_int_int__i_valOk_1)
  | _ => none
 bxf := fun _ => none
 mv := []
 keep := fun _ => []
 keepB := fun _ => []
 keepX := fun _ => []
 keepXB := fun _ => []
theorem goodFslices_ContainsFunc_int_int__i_valOk_1 : ∀ f ms F, Eslices_ContainsFunc_int_int__i_valOk_1.fn f = some (ms, F) → Sound Tryd.prog f ms F := fun f ms F h => by
 unfold Eslices_ContainsFunc_int_int__i_valOk_1 at h
 dsimp only at h
 split at h
 ·injection h with h; injection h with e1 e2; subst e1 e2; exact Sound.wk si_valOk_1
 ·injection h with h; injection h with e1 e2; subst e1 e2; exact Sound.wk sslices_IndexFunc_int_int__i_valOk_1
 ·cases h
theorem goodBslices_ContainsFunc_int_int__i_valOk_1 : ∀ f ms F, Eslices_ContainsFunc_int_int__i_valOk_1.bxf f = some (ms, F) → SoundB Tryd.prog f ms F := fun f ms F h => by cases h
theorem goodslices_ContainsFunc_int_int__i_valOk_1 : Good Tryd.prog Eslices_ContainsFunc_int_int__i_valOk_1 := ⟨rfl, goodFslices_ContainsFunc_int_int__i_valOk_1, goodBslices_ContainsFunc_int_int__i_valOk_1⟩
noncomputable def Oslices_ContainsFunc_int_int__i_valOk_1_0 : Orc := fun _ _ => none
noncomputable def msslices_ContainsFunc_int_int__i_valOk_1 : List PM := [.rd, .rd]
noncomputable def lsslices_ContainsFunc_int_int__i_valOk_1 : List (Nat × Code) := loopsAll 0 (Tryd.f103.body.getD .skip)
theorem kslices_ContainsFunc_int_int__i_valOk_1_0 : OrcOk Eslices_ContainsFunc_int_int__i_valOk_1 Oslices_ContainsFunc_int_int__i_valOk_1_0 lsslices_ContainsFunc_int_int__i_valOk_1 0 := orcOk_none
noncomputable def g_Aslices_ContainsFunc_int_int__i_valOk_1 (a0 : List Int) : Bool := g_Aslices_IndexFunc_int_int__i_valOk_1 a0 && true
noncomputable def g_Vslices_ContainsFunc_int_int__i_valOk_1_0 (a0 : List Int) : Bool := decide (g_Vslices_IndexFunc_int_int__i_valOk_1_0 a0 ≥ (0 : Int))
noncomputable def Fslices_ContainsFunc_int_int__i_valOk_1 : FSem := fun ys => match ys with
 | [.val false [.sl .any 3 (.int .i64) a0], .val false [.fn 104 []]] => some ((g_Aslices_ContainsFunc_int_int__i_valOk_1 a0), .val false [.bool (g_Vslices_ContainsFunc_int_int__i_valOk_1_0 a0)], [])
 | _ => none
theorem vslices_ContainsFunc_int_int__i_valOk_1 (a0 : List Int) : collapseH .std Eslices_ContainsFunc_int_int__i_valOk_1 Oslices_ContainsFunc_int_int__i_valOk_1_0 (execFn Eslices_ContainsFunc_int_int__i_valOk_1 Tryd.f103 msslices_ContainsFunc_int_int__i_valOk_1 [.val false [.sl .any 3 (.int .i64) a0], .val false [.fn 104 []]]) = some ((g_Aslices_ContainsFunc_int_int__i_valOk_1 a0), .val false [.bool (g_Vslices_ContainsFunc_int_int__i_valOk_1_0 a0)], []) := by kernel_rfl
theorem sslices_ContainsFunc_int_int__i_valOk_1 : Sound Tryd.prog 103 msslices_ContainsFunc_int_int__i_valOk_1 Fslices_ContainsFunc_int_int__i_valOk_1 := by
 refine fn_gen goodslices_ContainsFunc_int_int__i_valOk_1 (by kernel_rfl) .std (fn := Tryd.f103) (c := (Tryd.f103.body.getD .skip)) (o := Oslices_ContainsFunc_int_int__i_valOk_1_0) (k := 0) (by kernel_rfl) (by kernel_rfl) (by kernel_rfl) (by kernel_rfl) (by decide) kslices_ContainsFunc_int_int__i_valOk_1_0 ?_
 intro ys r outs h
 unfold Fslices_ContainsFunc_int_int__i_valOk_1 at h
 split at h
 ·exact (vslices_ContainsFunc_int_int__i_valOk_1 _).trans h
 ·cases h
noncomputable def Ei_valOk : Env where
 tt := mkTI Tryd.prog
 fn := fun f => match f with
  | 56 => some (msi_in, FSem.wk msi_in Fi_in)
  | 103 => some (msslices_ContainsFunc_int_int__i_valOk_1, FSem.wk msslices_ContainsFunc_int_int__i_valOk_1 Fslices_ContainsFunc_int_int__i_valOk_1)
  | _ => none
 bxf := fun _ => none
 mv := []
 keep := fun _ => []
 keepB := fun _ => []
 keepX := fun _ => []
 keepXB := fun _ => []
theorem goodFi_valOk : ∀ f ms F, Ei_valOk.fn f = some (ms, F) → Sound Tryd.prog f ms F := fun f ms F h => by
 unfold Ei_valOk at h
 dsimp only at h
 split at h
 ·injection h with h; injection h with e1 e2; subst e1 e2; exact Sound.wk si_in
 ·injection h with h; injection h with e1 e2; subst e1 e2; exact Sound.wk sslices_ContainsFunc_int_int__i_valOk_1
 ·cases h
theorem goodBi_valOk : ∀ f ms F, Ei_valOk.bxf f = some (ms, F) → SoundB Tryd.prog f ms F := fun f ms F h => by cases h
theorem goodi_valOk : Good Tryd.prog Ei_valOk := ⟨rfl, goodFi_valOk, goodBi_valOk⟩
noncomputable def Oi_valOk_0 : Orc := fun _ _ => none
noncomputable def msi_valOk : List PM := [.rd]
noncomputable def lsi_valOk : List (Nat × Code) := loopsAll 0 (Tryd.f74.body.getD .skip)
theorem ki_valOk_0 : OrcOk Ei_valOk Oi_valOk_0 lsi_valOk 0 := orcOk_none
noncomputable def g_Ai_valOk (a0 : List Int) : Bool := g_Ai_in (↑(List.length a0) : Int) (1 : Int) (3 : Int) && (!g_Vi_in_0 (↑(List.length a0) : Int) (1 : Int) (3 : Int) || g_Aslices_ContainsFunc_int_int__i_valOk_1 a0)
noncomputable def g_Vi_valOk_0 (a0 : List Int) : Bool := bif g_Vi_in_0 (↑(List.length a0) : Int) (1 : Int) (3 : Int) then !g_Vslices_ContainsFunc_int_int__i_valOk_1_0 a0 else false
noncomputable def Fi_valOk : FSem := fun ys => match ys with
 | [.val false [.sl .any 3 (.int .i64) a0]] => some ((g_Ai_valOk a0), .val false [.bool (g_Vi_valOk_0 a0)], [])
 | _ => none
theorem vi_valOk (a0 : List Int) : collapseH .std Ei_valOk Oi_valOk_0 (execFn Ei_valOk Tryd.f74 msi_valOk [.val false [.sl .any 3 (.int .i64) a0]]) = some ((g_Ai_valOk a0), .val false [.bool (g_Vi_valOk_0 a0)], []) := by kernel_rfl
theorem si_valOk : Sound Tryd.prog 74 msi_valOk Fi_valOk := by
 refine fn_gen goodi_valOk (by kernel_rfl) .std (fn := Tryd.f74) (c := (Tryd.f74.body.getD .skip)) (o := Oi_valOk_0) (k := 0) (by kernel_rfl) (by kernel_rfl) (by kernel_rfl) (by kernel_rfl) (by decide) ki_valOk_0 ?_
 intro ys r outs h
 unfold Fi_valOk at h
 split at h
 ·exact (vi_valOk _).trans h
 ·cases h
noncomputable def Ei_StoOk : Env where
 tt := mkTI Tryd.prog
 fn := fun f => match f with
  | 73 => some (msi_keyOk, FSem.wk msi_keyOk Fi_keyOk)
  | 74 => some (msi_valOk, FSem.wk msi_valOk Fi_valOk)
  | _ => none
 bxf := fun _ => none
 mv := []
 keep := fun b => match b with
  | 0 => [(1, false), (6, false), (7, false), (8, false)]
  | _ => []
 keepB := fun b => match b with
  | 0 => [(1, false)]
  | _ => []
 keepX := fun b => match b with
  | 0 => [(1, false), (2, false)]
  | _ => []
 keepXB := fun b => match b with
  | 0 => [(1, false)]
  | _ => []
theorem goodFi_StoOk : ∀ f ms F, Ei_StoOk.fn f = some (ms, F) → Sound Tryd.prog f ms F := fun f ms F h => by
 unfold Ei_StoOk at h
 dsimp only at h
 split at h
 ·injection h with h; injection h with e1 e2; subst e1 e2; exact Sound.wk si_keyOk
 ·injection h with h; injection h with e1 e2; subst e1 e2; exact Sound.wk si_valOk
 ·cases h
theorem goodBi_StoOk : ∀ f ms F, Ei_StoOk.bxf f = some (ms, F) → SoundB Tryd.prog f ms F := fun f ms F h => by cases h
theorem goodi_StoOk : Good Tryd.prog Ei_StoOk := ⟨rfl, goodFi_StoOk, goodBi_StoOk⟩
noncomputable def Oi_StoOk_0 : Orc := fun _ _ => none
noncomputable def msi_StoOk : List PM := [.rd]
noncomputable def lsi_StoOk : List (Nat × Code) := loopsAll 0 (Tryd.f39.body.getD .skip)
noncomputable def ci_StoOk_0 : Code := (loopOf 0 (Tryd.f39.body.getD .skip)).getD .skip
theorem lseqi_StoOk : lsi_StoOk = [(0, ci_StoOk_0)] := by kernel_rfl
theorem mi_StoOk_0 : ∀ p, p ∈ lsi_StoOk → p.1 = 0 → p.2 = ci_StoOk_0 := by
 intro p hp
 rw [lseqi_StoOk] at hp
 simp only [List.mem_cons, List.not_mem_nil, or_false] at hp
 subst hp; simp
theorem ki_StoOk_0 : OrcOk Ei_StoOk Oi_StoOk_0 lsi_StoOk 0 := orcOk_none
noncomputable def hi_StoOk_0 (y0 : List (ByteArray × (List Int))) (y1 : Int) (y2 : Int) (y3 : List (ByteArray × (List Int))) : List (Pl × LV) := [(.T 1, .t (.val false [.ptr 1 0 0])), (.T 6, .t (.val false [.sl .any 42 (.pair .str (.sl 3 (.int .i64))) y0])), (.T 7, .t (.val false [.int .i64 y1])), (.T 8, .t (.val false [.int .i64 y2])), (.B 1, .b 0 false [.sl .any 42 (.pair .str (.sl 3 (.int .i64))) y3])]
noncomputable def g_Si_StoOk_0 (y0 : List (ByteArray × (List Int))) (y1 : Int) (y3 : List (ByteArray × (List Int))) : (Int) → RT (Int) ((Bool) ⊕ (Unit))
 | y2 => .br (true) (.br (decide (y2 < y1)) (.br (decide ((0 : Int) ≤ y2 ∧ y2 < (↑(List.length y0) : Int))) (.br (g_Ai_keyOk (at_ (Ty.pair Ty.str (Ty.sl (nat_lit 3) (Ty.int IntKind.i64))) y0 (Int.toNat y2)).1) (.br (!g_Vi_keyOk_0 (at_ (Ty.pair Ty.str (Ty.sl (nat_lit 3) (Ty.int IntKind.i64))) y0 (Int.toNat y2)).1) (.out (.inl false)) (.br (g_Ai_valOk (at_ (Ty.pair Ty.str (Ty.sl (nat_lit 3) (Ty.int IntKind.i64))) y0 (Int.toNat y2)).2) (.br (!g_Vi_valOk_0 (at_ (Ty.pair Ty.str (Ty.sl (nat_lit 3) (Ty.int IntKind.i64))) y0 (Int.toNat y2)).2) (.out (.inl false)) (.br (true) (.br (decide (y2 > (0 : Int))) (.br (true) (.br (decide ((0 : Int) ≤ IntKind.wrap IntKind.i64 (y2 - (1 : Int)) ∧ IntKind.wrap IntKind.i64 (y2 - (1 : Int)) < (↑(List.length y3) : Int))) (.br (true) (.br (Op.bytesLess (ByteArray.toList (at_ (Ty.pair Ty.str (Ty.sl (nat_lit 3) (Ty.int IntKind.i64))) y0 (Int.toNat y2)).1) (ByteArray.toList (at_ (Ty.pair Ty.str (Ty.sl (nat_lit 3) (Ty.int IntKind.i64))) y3 (Int.toNat (IntKind.wrap IntKind.i64 (y2 - (1 : Int))))).1) || ByteArray.toList (at_ (Ty.pair Ty.str (Ty.sl (nat_lit 3) (Ty.int IntKind.i64))) y0 (Int.toNat y2)).1 == ByteArray.toList (at_ (Ty.pair Ty.str (Ty.sl (nat_lit 3) (Ty.int IntKind.i64))) y3 (Int.toNat (IntKind.wrap IntKind.i64 (y2 - (1 : Int))))).1) (.out (.inl false)) (.br (true) (.go (IntKind.wrap IntKind.i64 (y2 + (1 : Int)))) (.bad))) (.bad)) (.bad)) (.bad)) (.br (true) (.go (IntKind.wrap IntKind.i64 (y2 + (1 : Int)))) (.bad))) (.bad))) (.bad))) (.bad)) (.bad)) (.out (.inr (())))) (.bad)
noncomputable def g_Li_StoOk_0 (y0 : List (ByteArray × (List Int))) (y1 : Int) (y3 : List (ByteArray × (List Int))) (x : Int) : Option ((Bool) ⊕ (Unit)) := loopO (g_Si_StoOk_0 y0 y1 y3) x
noncomputable def xi_StoOk_0 (y0 : List (ByteArray × (List Int))) (y1 : Int) (y3 : List (ByteArray × (List Int))) : ((Bool) ⊕ (Unit)) → Ex × List (Pl × LV) := fun
 | .inl r => (.ret, [(.T 1, .t (.val false [.ptr 1 0 0])), (.T 2, .t (.val false [.bool r])), (.B 1, .b 0 false [.sl .any 42 (.pair .str (.sl 3 (.int .i64))) y3])])
 | .inr (r) => (.exit 0, [(.T 1, .t (.val false [.ptr 1 0 0])), (.T 2, .t (.val false [.undef])), (.B 1, .b 0 false [.sl .any 42 (.pair .str (.sl 3 (.int .i64))) y3])])
noncomputable def Oi_StoOk_1 : Orc := fun b h => match b, h with
 | 0, [(.T 1, .t (.val false [.ptr 1 0 0])), (.T 6, .t (.val false [.sl .any 42 (.pair .str (.sl 3 (.int .i64))) y0])), (.T 7, .t (.val false [.int .i64 y1])), (.T 8, .t (.val false [.int .i64 y2])), (.B 1, .b 0 false [.sl .any 42 (.pair .str (.sl 3 (.int .i64))) y3])] => some (okO (g_Li_StoOk_0 y0 y1 y3 y2), (.br (isL (valO (g_Li_StoOk_0 y0 y1 y3 y2))) (.leaf .ret [(.T 1, .t (.val false [.ptr 1 0 0])), (.T 2, .t (.val false [.bool (getL (valO (g_Li_StoOk_0 y0 y1 y3 y2)))])), (.B 1, .b 0 false [.sl .any 42 (.pair .str (.sl 3 (.int .i64))) y3])]) (.leaf (.exit 0) [(.T 1, .t (.val false [.ptr 1 0 0])), (.T 2, .t (.val false [.undef])), (.B 1, .b 0 false [.sl .any 42 (.pair .str (.sl 3 (.int .i64))) y3])])))
 | b, h => Oi_StoOk_0 b h
theorem bi_StoOk_0 (y0 : List (ByteArray × (List Int))) (y1 : Int) (y2 : Int) (y3 : List (ByteArray × (List Int))) : Tr.bt Ei_StoOk Oi_StoOk_0 (exec Ei_StoOk 0 ci_StoOk_0 (St.of (hi_StoOk_0 y0 y1 y2 y3)) (leafRd Ei_StoOk 0)) = (g_Si_StoOk_0 y0 y1 y3 y2).bt (fun (y2 : Int) => (hi_StoOk_0 y0 y1 y2 y3)) (xi_StoOk_0 y0 y1 y3) := by kernel_rfl
theorem ki_StoOk_1 : OrcOk Ei_StoOk Oi_StoOk_1 lsi_StoOk 1 := orc_add ki_StoOk_0 (fun n p hp h ex h' ho => by
 obtain ⟨b, c⟩ := p
 obtain ⟨xt, h1, h2⟩ := ho
 have h1 : Oi_StoOk_1 b h = some (true, xt) := h1
 unfold Oi_StoOk_1 at h1
 split at h1
 ·injection h1 with h1
  injection h1 with e1 e2
  subst e2
  have hc : c = ci_StoOk_0 := mi_StoOk_0 _ hp rfl
  subst hc
  right
  rename_i y0 y1 y2 y3
  have key := LT_step ki_StoOk_0 hp (fun q hq => loopsAll_in _ _ _ _ hp hq) (fun (y2 : Int) => (hi_StoOk_0 y0 y1 y2 y3)) (xi_StoOk_0 y0 y1 y3) (g_Si_StoOk_0 y0 y1 y3) (fun x => by first | exact bi_StoOk_0 y0 y1 x y3) n (x := y2) (okO_some e1)
  have hx : ∀ r, XT.sel (.br (isL r) (.leaf .ret [(.T 1, .t (.val false [.ptr 1 0 0])), (.T 2, .t (.val false [.bool (getL r)])), (.B 1, .b 0 false [.sl .any 42 (.pair .str (.sl 3 (.int .i64))) y3])]) (.leaf (.exit 0) [(.T 1, .t (.val false [.ptr 1 0 0])), (.T 2, .t (.val false [.undef])), (.B 1, .b 0 false [.sl .any 42 (.pair .str (.sl 3 (.int .i64))) y3])])) = xi_StoOk_0 y0 y1 y3 r := fun r => by first | rfl | (rcases r with r | r <;> rfl) | (rcases r with r | r | r <;> rfl) | (rcases r with r | r | r | r <;> rfl)
  have h3 := (hx (valO (g_Li_StoOk_0 y0 y1 y3 y2))).symm.trans h2
  have e3 := congrArg Prod.fst h3
  have e4 := congrArg Prod.snd h3
  simp only at e3 e4
  rw [← e3, ← e4]
  exact key
 ·exact .inl ⟨xt, h1, h2⟩)
noncomputable def g_Ai_StoOk (a0 : List (ByteArray × (List Int))) : Bool := okO (g_Li_StoOk_0 a0 (↑(List.length a0) : Int) a0 (0 : Int)) && (isL (valO (g_Li_StoOk_0 a0 (↑(List.length a0) : Int) a0 (0 : Int))) || true)
noncomputable def g_Vi_StoOk_0 (a0 : List (ByteArray × (List Int))) : Bool := bif isL (valO (g_Li_StoOk_0 a0 (↑(List.length a0) : Int) a0 (0 : Int))) then getL (valO (g_Li_StoOk_0 a0 (↑(List.length a0) : Int) a0 (0 : Int))) else decide ((↑(List.length a0) : Int) ≤ (40 : Int))
noncomputable def Fi_StoOk : FSem := fun ys => match ys with
 | [.val true [.sl .any 42 (.pair .str (.sl 3 (.int .i64))) a0]] => some ((g_Ai_StoOk a0), .val false [.bool (g_Vi_StoOk_0 a0)], [])
 | _ => none
theorem vi_StoOk (a0 : List (ByteArray × (List Int))) : collapseH .std Ei_StoOk Oi_StoOk_1 (execFn Ei_StoOk Tryd.f39 msi_StoOk [.val true [.sl .any 42 (.pair .str (.sl 3 (.int .i64))) a0]]) = some ((g_Ai_StoOk a0), .val false [.bool (g_Vi_StoOk_0 a0)], []) := by kernel_rfl
theorem si_StoOk : Sound Tryd.prog 39 msi_StoOk Fi_StoOk := by
 refine fn_gen goodi_StoOk (by kernel_rfl) .std (fn := Tryd.f39) (c := (Tryd.f39.body.getD .skip)) (o := Oi_StoOk_1) (k := 1) (by kernel_rfl) (by kernel_rfl) (by kernel_rfl) (by kernel_rfl) (by decide) ki_StoOk_1 ?_
 intro ys r outs h
 unfold Fi_StoOk at h
 split at h
 ·exact (vi_StoOk _).trans h
 ·cases h
noncomputable def Ei_isService : Env where
 tt := mkTI Tryd.prog
 fn := fun f => match f with
  | 56 => some (msi_in, FSem.wk msi_in Fi_in)
  | _ => none
 bxf := fun _ => none
 mv := []
 keep := fun _ => []
 keepB := fun _ => []
 keepX := fun _ => []
 keepXB := fun _ => []
theorem goodFi_isService : ∀ f ms F, Ei_isService.fn f = some (ms, F) → Sound Tryd.prog f ms F := fun f ms F h => by
 unfold Ei_isService at h
 dsimp only at h
 split at h
 ·injection h with h; injection h with e1 e2; subst e1 e2; exact Sound.wk si_in
 ·cases h
theorem goodBi_isService : ∀ f ms F, Ei_isService.bxf f = some (ms, F) → SoundB Tryd.prog f ms F := fun f ms F h => by cases h
theorem goodi_isService : Good Tryd.prog Ei_isService := ⟨rfl, goodFi_isService, goodBi_isService⟩
noncomputable def Oi_isService_0 : Orc := fun _ _ => none
noncomputable def msi_isService : List PM := [.own]
noncomputable def lsi_isService : List (Nat × Code) := loopsAll 0 (Tryd.f71.body.getD .skip)
theorem ki_isService_0 : OrcOk Ei_isService Oi_isService_0 lsi_isService 0 := orcOk_none
noncomputable def g_Ai_isService (a0 : Int) : Bool := g_Ai_in a0 (1 : Int) (3 : Int)
noncomputable def g_Vi_isService_0 (a0 : Int) : Bool := g_Vi_in_0 a0 (1 : Int) (3 : Int)
noncomputable def Fi_isService : FSem := fun ys => match ys with
 | [.val false [.int .i64 a0]] => some ((g_Ai_isService a0), .val false [.bool (g_Vi_isService_0 a0)], [])
 | _ => none
theorem vi_isService (a0 : Int) : collapseH .std Ei_isService Oi_isService_0 (execFn Ei_isService Tryd.f71 msi_isService [.val false [.int .i64 a0]]) = some ((g_Ai_isService a0), .val false [.bool (g_Vi_isService_0 a0)], []) := by kernel_rfl
theorem si_isService : Sound Tryd.prog 71 msi_isService Fi_isService := by
 refine fn_gen goodi_isService (by kernel_rfl) .std (fn := Tryd.f71) (c := (Tryd.f71.body.getD .skip)) (o := Oi_isService_0) (k := 0) (by kernel_rfl) (by kernel_rfl) (by kernel_rfl) (by kernel_rfl) (by decide) ki_isService_0 ?_
 intro ys r outs h
 unfold Fi_isService at h
 split at h
 ·exact (vi_isService _).trans h
 ·cases h
noncomputable def Ei_itemOk : Env where
 tt := mkTI Tryd.prog
 fn := fun f => match f with
  | 56 => some (msi_in, FSem.wk msi_in Fi_in)
  | _ => none
 bxf := fun _ => none
 mv := []
 keep := fun _ => []
 keepB := fun _ => []
 keepX := fun _ => []
 keepXB := fun _ => []
theorem goodFi_itemOk : ∀ f ms F, Ei_itemOk.fn f = some (ms, F) → Sound Tryd.prog f ms F := fun f ms F h => by
 unfold Ei_itemOk at h
 dsimp only at h
 split at h
 ·injection h with h; injection h with e1 e2; subst e1 e2; exact Sound.wk si_in
 ·cases h
theorem goodBi_itemOk : ∀ f ms F, Ei_itemOk.bxf f = some (ms, F) → SoundB Tryd.prog f ms F := fun f ms F h => by cases h
theorem goodi_itemOk : Good Tryd.prog Ei_itemOk := ⟨rfl, goodFi_itemOk, goodBi_itemOk⟩
noncomputable def Oi_itemOk_0 : Orc := fun _ _ => none
noncomputable def msi_itemOk : List PM := [.own, .rd]
noncomputable def lsi_itemOk : List (Nat × Code) := loopsAll 0 (Tryd.f70.body.getD .skip)
theorem ki_itemOk_0 : OrcOk Ei_itemOk Oi_itemOk_0 lsi_itemOk 0 := orcOk_none
noncomputable def g_Ai_itemOk (a0 : Int) (a1 : ByteArray) (a2 : List Int) : Bool := decide ((0 : Int) ≤ (0 : Int) ∧ (0 : Int) < (↑(ByteArray.size a1) : Int)) && (decide ((0 : Int) ≤ (0 : Int) ∧ (0 : Int) < (↑(List.length a2) : Int)) && (g_Ai_in (at_ (Ty.int IntKind.i64) a2 (nat_lit 0)) (0 : Int) (9 : Int) && bif a0 == (1 : Int) then !byteAt a1 (nat_lit 0) == (115 : Int) || (!(↑(ByteArray.size a1) : Int) == (2 : Int) || true) else bif a0 == (2 : Int) then bif byteAt a1 (nat_lit 0) == (99 : Int) then !byteAt a1 (nat_lit 0) == (102 : Int) || (!(↑(List.length a2) : Int) == (3 : Int) || decide ((0 : Int) ≤ (1 : Int) ∧ (1 : Int) < (↑(List.length a2) : Int)) && (g_Ai_in (at_ (Ty.int IntKind.i64) a2 (nat_lit 1)) (1 : Int) (99 : Int) && (!g_Vi_in_0 (at_ (Ty.int IntKind.i64) a2 (nat_lit 1)) (1 : Int) (99 : Int) || decide ((0 : Int) ≤ (2 : Int) ∧ (2 : Int) < (↑(List.length a2) : Int)) && true))) else !byteAt a1 (nat_lit 0) == (102 : Int) || (!(↑(List.length a2) : Int) == (3 : Int) || decide ((0 : Int) ≤ (1 : Int) ∧ (1 : Int) < (↑(List.length a2) : Int)) && (g_Ai_in (at_ (Ty.int IntKind.i64) a2 (nat_lit 1)) (1 : Int) (99 : Int) && (!g_Vi_in_0 (at_ (Ty.int IntKind.i64) a2 (nat_lit 1)) (1 : Int) (99 : Int) || decide ((0 : Int) ≤ (2 : Int) ∧ (2 : Int) < (↑(List.length a2) : Int)) && true))) else !a0 == (3 : Int) || (!byteAt a1 (nat_lit 0) == (97 : Int) || true)))
noncomputable def g_Vi_itemOk_0 (a0 : Int) (a1 : ByteArray) (a2 : List Int) : Bool := bif a0 == (1 : Int) then bif byteAt a1 (nat_lit 0) == (115 : Int) then bif (↑(ByteArray.size a1) : Int) == (2 : Int) then bif (↑(List.length a2) : Int) == (1 : Int) then g_Vi_in_0 (at_ (Ty.int IntKind.i64) a2 (nat_lit 0)) (0 : Int) (9 : Int) else false else false else false else bif a0 == (2 : Int) then bif byteAt a1 (nat_lit 0) == (99 : Int) then bif byteAt a1 (nat_lit 0) == (102 : Int) then bif (↑(List.length a2) : Int) == (3 : Int) then bif g_Vi_in_0 (at_ (Ty.int IntKind.i64) a2 (nat_lit 1)) (1 : Int) (99 : Int) then bif (↑(ByteArray.size a1) : Int) == (2 : Int) then bif g_Vi_in_0 (at_ (Ty.int IntKind.i64) a2 (nat_lit 0)) (0 : Int) (9 : Int) then bif (↑(List.length a2) : Int) == (2 : Int) then true else decide (at_ (Ty.int IntKind.i64) a2 (nat_lit 2) ≤ (1 : Int)) else false else false else bif (↑(ByteArray.size a1) : Int) == (2 : Int) then bif g_Vi_in_0 (at_ (Ty.int IntKind.i64) a2 (nat_lit 0)) (0 : Int) (9 : Int) then bif (↑(List.length a2) : Int) == (2 : Int) then true else false else false else false else bif (↑(ByteArray.size a1) : Int) == (2 : Int) then bif g_Vi_in_0 (at_ (Ty.int IntKind.i64) a2 (nat_lit 0)) (0 : Int) (9 : Int) then bif (↑(List.length a2) : Int) == (2 : Int) then true else false else false else false else bif (↑(ByteArray.size a1) : Int) == (2 : Int) then bif g_Vi_in_0 (at_ (Ty.int IntKind.i64) a2 (nat_lit 0)) (0 : Int) (9 : Int) then bif (↑(List.length a2) : Int) == (2 : Int) then true else false else false else false else bif byteAt a1 (nat_lit 0) == (102 : Int) then bif (↑(List.length a2) : Int) == (3 : Int) then bif g_Vi_in_0 (at_ (Ty.int IntKind.i64) a2 (nat_lit 1)) (1 : Int) (99 : Int) then bif (↑(ByteArray.size a1) : Int) == (2 : Int) then bif g_Vi_in_0 (at_ (Ty.int IntKind.i64) a2 (nat_lit 0)) (0 : Int) (9 : Int) then decide (at_ (Ty.int IntKind.i64) a2 (nat_lit 2) ≤ (1 : Int)) else false else false else bif (↑(ByteArray.size a1) : Int) == (2 : Int) then bif g_Vi_in_0 (at_ (Ty.int IntKind.i64) a2 (nat_lit 0)) (0 : Int) (9 : Int) then false else false else false else bif (↑(ByteArray.size a1) : Int) == (2 : Int) then bif g_Vi_in_0 (at_ (Ty.int IntKind.i64) a2 (nat_lit 0)) (0 : Int) (9 : Int) then false else false else false else bif (↑(ByteArray.size a1) : Int) == (2 : Int) then bif g_Vi_in_0 (at_ (Ty.int IntKind.i64) a2 (nat_lit 0)) (0 : Int) (9 : Int) then false else false else false else bif a0 == (3 : Int) then bif byteAt a1 (nat_lit 0) == (97 : Int) then (↑(List.length a2) : Int) == (1 : Int) else false else false
noncomputable def Fi_itemOk : FSem := fun ys => match ys with
 | [.val false [.int .i64 a0], .val true [.str a1, .sl .any 3 (.int .i64) a2]] => some ((g_Ai_itemOk a0 a1 a2), .val false [.bool (g_Vi_itemOk_0 a0 a1 a2)], [])
 | _ => none
theorem vi_itemOk (a0 : Int) (a1 : ByteArray) (a2 : List Int) : collapseH .std Ei_itemOk Oi_itemOk_0 (execFn Ei_itemOk Tryd.f70 msi_itemOk [.val false [.int .i64 a0], .val true [.str a1, .sl .any 3 (.int .i64) a2]]) = some ((g_Ai_itemOk a0 a1 a2), .val false [.bool (g_Vi_itemOk_0 a0 a1 a2)], []) := by kernel_rfl
theorem si_itemOk : Sound Tryd.prog 70 msi_itemOk Fi_itemOk := by
 refine fn_gen goodi_itemOk (by kernel_rfl) .std (fn := Tryd.f70) (c := (Tryd.f70.body.getD .skip)) (o := Oi_itemOk_0) (k := 0) (by kernel_rfl) (by kernel_rfl) (by kernel_rfl) (by kernel_rfl) (by decide) ki_itemOk_0 ?_
 intro ys r outs h
 unfold Fi_itemOk at h
 split at h
 ·exact (vi_itemOk _ _ _).trans h
 ·cases h
noncomputable def Ei_PlcOk_1 : Env where
 tt := mkTI Tryd.prog
 fn := fun f => match f with
  | 70 => some (msi_itemOk, FSem.wk msi_itemOk Fi_itemOk)
  | _ => none
 bxf := fun _ => none
 mv := []
 keep := fun _ => []
 keepB := fun _ => []
 keepX := fun _ => []
 keepXB := fun _ => []
theorem goodFi_PlcOk_1 : ∀ f ms F, Ei_PlcOk_1.fn f = some (ms, F) → Sound Tryd.prog f ms F := fun f ms F h => by
 unfold Ei_PlcOk_1 at h
 dsimp only at h
 split at h
 ·injection h with h; injection h with e1 e2; subst e1 e2; exact Sound.wk si_itemOk
 ·cases h
theorem goodBi_PlcOk_1 : ∀ f ms F, Ei_PlcOk_1.bxf f = some (ms, F) → SoundB Tryd.prog f ms F := fun f ms F h => by cases h
theorem goodi_PlcOk_1 : Good Tryd.prog Ei_PlcOk_1 := ⟨rfl, goodFi_PlcOk_1, goodBi_PlcOk_1⟩
noncomputable def Oi_PlcOk_1_0 : Orc := fun _ _ => none
noncomputable def msi_PlcOk_1 : List PM := [.rd, .rd]
noncomputable def lsi_PlcOk_1 : List (Nat × Code) := loopsAll 0 (Tryd.f69.body.getD .skip)
theorem ki_PlcOk_1_0 : OrcOk Ei_PlcOk_1 Oi_PlcOk_1_0 lsi_PlcOk_1 0 := orcOk_none
noncomputable def g_Ai_PlcOk_1 (a0 : ByteArray) (a1 : List Int) (c0 : Int) : Bool := g_Ai_itemOk c0 a0 a1
noncomputable def Fi_PlcOk_1 : FSem := fun ys => match ys with
 | [.val true [.str a0, .sl .any 3 (.int .i64) a1], .val false [.sptr (.int .i64) c0 0]] => some ((g_Ai_PlcOk_1 a0 a1 c0), .val false [.bool (!g_Vi_itemOk_0 c0 a0 a1)], [])
 | _ => none
theorem vi_PlcOk_1 (a0 : ByteArray) (a1 : List Int) (c0 : Int) : collapseH .std Ei_PlcOk_1 Oi_PlcOk_1_0 (execFn Ei_PlcOk_1 Tryd.f69 msi_PlcOk_1 [.val true [.str a0, .sl .any 3 (.int .i64) a1], .val false [.sptr (.int .i64) c0 0]]) = some ((g_Ai_PlcOk_1 a0 a1 c0), .val false [.bool (!g_Vi_itemOk_0 c0 a0 a1)], []) := by kernel_rfl
theorem si_PlcOk_1 : Sound Tryd.prog 69 msi_PlcOk_1 Fi_PlcOk_1 := by
 refine fn_gen goodi_PlcOk_1 (by kernel_rfl) .std (fn := Tryd.f69) (c := (Tryd.f69.body.getD .skip)) (o := Oi_PlcOk_1_0) (k := 0) (by kernel_rfl) (by kernel_rfl) (by kernel_rfl) (by kernel_rfl) (by decide) ki_PlcOk_1_0 ?_
 intro ys r outs h
 unfold Fi_PlcOk_1 at h
 split at h
 ·exact (vi_PlcOk_1 _ _ _).trans h
 ·cases h
noncomputable def Eslices_IndexFunc_i_StoItem_i_StoItem__i_PlcOk_1 : Env where
 tt := mkTI Tryd.prog
 fn := fun f => match f with
  | 69 => some (msi_PlcOk_1, FSem.wk msi_PlcOk_1 Fi_PlcOk_1)
  | _ => none
 bxf := fun _ => none
 mv := []
 keep := fun b => match b with
  | 0 => [(0, false), (1, false), (7, false), (8, false)]
  | _ => []
 keepB := fun b => match b with
  | 0 => []
  | _ => []
 keepX := fun b => match b with
  | 0 => [(4, false)]
  | _ => []
 keepXB := fun b => match b with
  | 0 => []
  | _ => []
theorem goodFslices_IndexFunc_i_StoItem_i_StoItem__i_PlcOk_1 : ∀ f ms F, Eslices_IndexFunc_i_StoItem_i_StoItem__i_PlcOk_1.fn f = some (ms, F) → Sound Tryd.prog f ms F := fun f ms F h => by
 unfold Eslices_IndexFunc_i_StoItem_i_StoItem__i_PlcOk_1 at h
 dsimp only at h
 split at h
 ·injection h with h; injection h with e1 e2; subst e1 e2; exact Sound.wk si_PlcOk_1
 ·cases h
theorem goodBslices_IndexFunc_i_StoItem_i_StoItem__i_PlcOk_1 : ∀ f ms F, Eslices_IndexFunc_i_StoItem_i_StoItem__i_PlcOk_1.bxf f = some (ms, F) → SoundB Tryd.prog f ms F := fun f ms F h => by cases h
theorem goodslices_IndexFunc_i_StoItem_i_StoItem__i_PlcOk_1 : Good Tryd.prog Eslices_IndexFunc_i_StoItem_i_StoItem__i_PlcOk_1 := ⟨rfl, goodFslices_IndexFunc_i_StoItem_i_StoItem__i_PlcOk_1, goodBslices_IndexFunc_i_StoItem_i_StoItem__i_PlcOk_1⟩
noncomputable def Oslices_IndexFunc_i_StoItem_i_StoItem__i_PlcOk_1_0 : Orc := fun _ _ => none
noncomputable def msslices_IndexFunc_i_StoItem_i_StoItem__i_PlcOk_1 : List PM := [.rd, .rd]
noncomputable def lsslices_IndexFunc_i_StoItem_i_StoItem__i_PlcOk_1 : List (Nat × Code) := loopsAll 0 (Tryd.f101.body.getD .skip)
noncomputable def cslices_IndexFunc_i_StoItem_i_StoItem__i_PlcOk_1_0 : Code := (loopOf 0 (Tryd.f101.body.getD .skip)).getD .skip
theorem lseqslices_IndexFunc_i_StoItem_i_StoItem__i_PlcOk_1 : lsslices_IndexFunc_i_StoItem_i_StoItem__i_PlcOk_1 = [(0, cslices_IndexFunc_i_StoItem_i_StoItem__i_PlcOk_1_0)] := by kernel_rfl
theorem mslices_IndexFunc_i_StoItem_i_StoItem__i_PlcOk_1_0 : ∀ p, p ∈ lsslices_IndexFunc_i_StoItem_i_StoItem__i_PlcOk_1 → p.1 = 0 → p.2 = cslices_IndexFunc_i_StoItem_i_StoItem__i_PlcOk_1_0 := by
 intro p hp
 rw [lseqslices_IndexFunc_i_StoItem_i_StoItem__i_PlcOk_1] at hp
 simp only [List.mem_cons, List.not_mem_nil, or_false] at hp
 subst hp; simp
theorem kslices_IndexFunc_i_StoItem_i_StoItem__i_PlcOk_1_0 : OrcOk Eslices_IndexFunc_i_StoItem_i_StoItem__i_PlcOk_1 Oslices_IndexFunc_i_StoItem_i_StoItem__i_PlcOk_1_0 lsslices_IndexFunc_i_StoItem_i_StoItem__i_PlcOk_1 0 := orcOk_none
noncomputable def hslices_IndexFunc_i_StoItem_i_StoItem__i_PlcOk_1_0 (y0 : List (ByteArray × (List Int))) (y1 : Int) (y2 : Int) (y3 : Int) : List (Pl × LV) := [(.T 0, .t (.val false [.sl .any 42 (.pair .str (.sl 3 (.int .i64))) y0])), (.T 1, .t (.val false [.fn 69 [.sptr (.int .i64) y1 0]])), (.T 7, .t (.val false [.int .i64 y2])), (.T 8, .t (.val false [.int .i64 y3]))]
noncomputable def g_Sslices_IndexFunc_i_StoItem_i_StoItem__i_PlcOk_1_0 (y0 : List (ByteArray × (List Int))) (y1 : Int) (y2 : Int) : (Int) → RT (Int) ((Int) ⊕ (Unit))
 | y3 => .br (true) (.br (decide (y3 < y2)) (.br (decide ((0 : Int) ≤ y3 ∧ y3 < (↑(List.length y0) : Int))) (.br (g_Ai_PlcOk_1 (at_ (Ty.pair Ty.str (Ty.sl (nat_lit 3) (Ty.int IntKind.i64))) y0 (Int.toNat y3)).1 (at_ (Ty.pair Ty.str (Ty.sl (nat_lit 3) (Ty.int IntKind.i64))) y0 (Int.toNat y3)).2 y1) (.br (!g_Vi_itemOk_0 y1 (at_ (Ty.pair Ty.str (Ty.sl (nat_lit 3) (Ty.int IntKind.i64))) y0 (Int.toNat y3)).1 (at_ (Ty.pair Ty.str (Ty.sl (nat_lit 3) (Ty.int IntKind.i64))) y0 (Int.toNat y3)).2) (.out (.inl y3)) (.br (true) (.go (IntKind.wrap IntKind.i64 (y3 + (1 : Int)))) (.bad))) (.bad)) (.bad)) (.out (.inr (())))) (.bad)
noncomputable def g_Lslices_IndexFunc_i_StoItem_i_StoItem__i_PlcOk_1_0 (y0 : List (ByteArray × (List Int))) (y1 : Int) (y2 : Int) (x : Int) : Option ((Int) ⊕ (Unit)) := loopO (g_Sslices_IndexFunc_i_StoItem_i_StoItem__i_PlcOk_1_0 y0 y1 y2) x
noncomputable def xslices_IndexFunc_i_StoItem_i_StoItem__i_PlcOk_1_0 (y0 : List (ByteArray × (List Int))) (y1 : Int) (y2 : Int) : ((Int) ⊕ (Unit)) → Ex × List (Pl × LV) := fun
 | .inl r => (.ret, [(.T 4, .t (.val false [.int .i64 r]))])
 | .inr (r) => (.exit 0, [(.T 4, .t (.val false [.undef]))])
noncomputable def Oslices_IndexFunc_i_StoItem_i_StoItem__i_PlcOk_1_1 : Orc := fun b h => match b, h with
 | 0, [(.T 0, .t (.val false [.sl .any 42 (.pair .str (.sl 3 (.int .i64))) y0])), (.T 1, .t (.val false [.fn 69 [.sptr (.int .i64) y1 0]])), (.T 7, .t (.val false [.int .i64 y2])), (.T 8, .t (.val false [.int .i64 y3]))] => some (okO (g_Lslices_IndexFunc_i_StoItem_i_StoItem__i_PlcOk_1_0 y0 y1 y2 y3), (.br (isL (valO (g_Lslices_IndexFunc_i_StoItem_i_StoItem__i_PlcOk_1_0 y0 y1 y2 y3))) (.leaf .ret [(.T 4, .t (.val false [.int .i64 (getL (valO (g_Lslices_IndexFunc_i_StoItem_i_StoItem__i_PlcOk_1_0 y0 y1 y2 y3)))]))]) (.leaf (.exit 0) [(.T 4, .t (.val false [.undef]))])))
 | b, h => Oslices_IndexFunc_i_StoItem_i_StoItem__i_PlcOk_1_0 b h
theorem bslices_IndexFunc_i_StoItem_i_StoItem__i_PlcOk_1_0 (y0 : List (ByteArray × (List Int))) (y1 : Int) (y2 : Int) (y3 : Int) : Tr.bt Eslices_IndexFunc_i_StoItem_i_StoItem__i_PlcOk_1 Oslices_IndexFunc_i_StoItem_i_StoItem__i_PlcOk_1_0 (exec Eslices_IndexFunc_i_StoItem_i_StoItem__i_PlcOk_1 0 cslices_IndexFunc_i_StoItem_i_StoItem__i_PlcOk_1_0 (St.of (hslices_IndexFunc_i_StoItem_i_StoItem__i_PlcOk_1_0 y0 y1 y2 y3)) (leafRd Eslices_IndexFunc_i_StoItem_i_StoItem__i_PlcOk_1 0)) = (g_Sslices_IndexFunc_i_StoItem_i_StoItem__i_PlcOk_1_0 y0 y1 y2 y3).bt (fun (y3 : Int) => (hslices_IndexFunc_i_StoItem_i_StoItem__i_PlcOk_1_0 y0 y1 y2 y3)) (xslices_IndexFunc_i_StoItem_i_StoItem__i_PlcOk_1_0 y0 y1 y2) := by kernel_rfl
theorem kslices_IndexFunc_i_StoItem_i_StoItem__i_PlcOk_1_1 : OrcOk Eslices_IndexFunc_i_StoItem_i_StoItem__i_PlcOk_1 Oslices_IndexFunc_i_StoItem_i_StoItem__i_PlcOk_1_1 lsslices_IndexFunc_i_StoItem_i_StoItem__i_PlcOk_1 1 := orc_add kslices_IndexFunc_i_StoItem_i_StoItem__i_PlcOk_1_0 (fun n p hp h ex h' ho => by
 obtain ⟨b, c⟩ := p
 obtain ⟨xt, h1, h2⟩ := ho
 have h1 : Oslices_IndexFunc_i_StoItem_i_StoItem__i_PlcOk_1_1 b h = some (true, xt) := h1
 unfold Oslices_IndexFunc_i_StoItem_i_StoItem__i_PlcOk_1_1 at h1
 split at h1
 ·injection h1 with h1
  injection h1 with e1 e2
  subst e2
  have hc : c = cslices_IndexFunc_i_StoItem_i_StoItem__i_PlcOk_1_0 := mslices_IndexFunc_i_StoItem_i_StoItem__i_PlcOk_1_0 _ hp rfl
  subst hc
  right
  rename_i y0 y1 y2 y3
  have key := LT_step kslices_IndexFunc_i_StoItem_i_StoItem__i_PlcOk_1_0 hp (fun q hq => loopsAll_in _ _ _ _ hp hq) (fun (y3 : Int) => (hslices_IndexFunc_i_StoItem_i_StoItem__i_PlcOk_1_0 y0 y1 y2 y3)) (xslices_IndexFunc_i_StoItem_i_StoItem__i_PlcOk_1_0 y0 y1 y2) (g_Sslices_IndexFunc_i_StoItem_i_StoItem__i_PlcOk_1_0 y0 y1 y2) (fun x => by first | exact bslices_IndexFunc_i_StoItem_i_StoItem__i_PlcOk_1_0 y0 y1 y2 x) n (x := y3) (okO_some e1)
  have hx : ∀ r, XT.sel (.br (isL r) (.leaf .ret [(.T 4, .t (.val false [.int .i64 (getL r)]))]) (.leaf (.exit 0) [(.T 4, .t (.val false [.undef]))])) = xslices_IndexFunc_i_StoItem_i_StoItem__i_PlcOk_1_0 y0 y1 y2 r := fun r => by first | rfl | (rcases r with r | r <;> rfl) | (rcases r with r | r | r <;> rfl) | (rcases r with r | r | r | r <;> rfl)
  have h3 := (hx (valO (g_Lslices_IndexFunc_i_StoItem_i_StoItem__i_PlcOk_1_0 y0 y1 y2 y3))).symm.trans h2
  have e3 := congrArg Prod.fst h3
  have e4 := congrArg Prod.snd h3
  simp only at e3 e4
  rw [← e3, ← e4]
  exact key
 ·exact .inl ⟨xt, h1, h2⟩)
noncomputable def g_Aslices_IndexFunc_i_StoItem_i_StoItem__i_PlcOk_1 (a0 : List (ByteArray × (List Int))) (c0 : Int) : Bool := okO (g_Lslices_IndexFunc_i_StoItem_i_StoItem__i_PlcOk_1_0 a0 c0 (↑(List.length a0) : Int) (0 : Int))
noncomputable def g_Vslices_IndexFunc_i_StoItem_i_StoItem__i_PlcOk_1_0 (a0 : List (ByteArray × (List Int))) (c0 : Int) : Int := bif isL (valO (g_Lslices_IndexFunc_i_StoItem_i_StoItem__i_PlcOk_1_0 a0 c0 (↑(List.length a0) : Int) (0 : Int))) then getL (valO (g_Lslices_IndexFunc_i_StoItem_i_StoItem__i_PlcOk_1_0 a0 c0 (↑(List.length a0) : Int) (0 : Int))) else (-1 : Int)
noncomputable def Fslices_IndexFunc_i_StoItem_i_StoItem__i_PlcOk_1 : FSem := fun ys => match ys with
 | [.val false [.sl .any 42 (.pair .str (.sl 3 (.int .i64))) a0], .val false [.fn 69 [.sptr (.int .i64) c0 0]]] => some ((g_Aslices_IndexFunc_i_StoItem_i_StoItem__i_PlcOk_1 a0 c0), .val false [.int .i64 (g_Vslices_IndexFunc_i_StoItem_i_StoItem__i_PlcOk_1_0 a0 c0)], [])
 | _ => none
theorem vslices_IndexFunc_i_StoItem_i_StoItem__i_PlcOk_1 (a0 : List (ByteArray × (List Int))) (c0 : Int) : collapseH .std Eslices_IndexFunc_i_StoItem_i_StoItem__i_PlcOk_1 Oslices_IndexFunc_i_StoItem_i_StoItem__i_PlcOk_1_1 (execFn Eslices_IndexFunc_i_StoItem_i_StoItem__i_PlcOk_1 Tryd.f101 msslices_IndexFunc_i_StoItem_i_StoItem__i_PlcOk_1 [.val false [.sl .any 42 (.pair .str (.sl 3 (.int .i64))) a0], .val false [.fn 69 [.sptr (.int .i64) c0 0]]]) = some ((g_Aslices_IndexFunc_i_StoItem_i_StoItem__i_PlcOk_1 a0 c0), .val false [.int .i64 (g_Vslices_IndexFunc_i_StoItem_i_StoItem__i_PlcOk_1_0 a0 c0)], []) := by kernel_rfl
theorem sslices_IndexFunc_i_StoItem_i_StoItem__i_PlcOk_1 : Sound Tryd.prog 101 msslices_IndexFunc_i_StoItem_i_StoItem__i_PlcOk_1 Fslices_IndexFunc_i_StoItem_i_StoItem__i_PlcOk_1 := by
 refine fn_gen goodslices_IndexFunc_i_StoItem_i_StoItem__i_PlcOk_1 (by kernel_rfl) .std (fn := Tryd.f101) (c := (Tryd.f101.body.getD .skip)) (o := Oslices_IndexFunc_i_StoItem_i_StoItem__i_PlcOk_1_1) (k := 1) (by kernel_rfl) (by kernel_rfl) (by kernel_rfl) (by kernel_rfl) (by decide) kslices_IndexFunc_i_StoItem_i_StoItem__i_PlcOk_1_1 ?_
 intro ys r outs h
 unfold Fslices_IndexFunc_i_StoItem_i_StoItem__i_PlcOk_1 at h
 split at h
 ·exact (vslices_IndexFunc_i_StoItem_i_StoItem__i_PlcOk_1 _ _).trans h
 ·cases h
noncomputable def Eslices_ContainsFunc_i_StoItem_i_StoItem__i_PlcOk_1 : Env where
 tt := mkTI Tryd.prog
 fn := fun f => match f with
  | 69 => some (msi_PlcOk_1, FSem.wk msi_PlcOk_1 Fi_PlcOk_1)
  | 101 => some (msslices_IndexFunc_i_StoItem_i_StoItem__i_PlcOk_1, FSem.wk msslices_IndexFunc_i_StoItem_i_StoItem__i_PlcOk_1 Fslices_IndexFunc_i_StoItem_i_StoItem__i_PlcOk_1)
  | _ => none
 bxf := fun _ => none
 mv := []
 keep := fun _ => []
 keepB := fun _ => []
 keepX := fun _ => []
 keepXB := fun _ => []
theorem goodFslices_ContainsFunc_i_StoItem_i_StoItem__i_PlcOk_1 : ∀ f ms F, Eslices_ContainsFunc_i_StoItem_i_StoItem__i_PlcOk_1.fn f = some (ms, F) → Sound Tryd.prog f ms F := fun f ms F h => by
 unfold Eslices_ContainsFunc_i_StoItem_i_StoItem__i_PlcOk_1 at h
 dsimp only at h
 split at h
 ·injection h with h; injection h with e1 e2; subst e1 e2; exact Sound.wk si_PlcOk_1
 ·injection h with h; injection h with e1 e2; subst e1 e2; exact Sound.wk sslices_IndexFunc_i_StoItem_i_StoItem__i_PlcOk_1
 ·cases h
theorem goodBslices_ContainsFunc_i_StoItem_i_StoItem__i_PlcOk_1 : ∀ f ms F, Eslices_ContainsFunc_i_StoItem_i_StoItem__i_PlcOk_1.bxf f = some (ms, F) → SoundB Tryd.prog f ms F := fun f ms F h => by cases h
theorem goodslices_ContainsFunc_i_StoItem_i_StoItem__i_PlcOk_1 : Good Tryd.prog Eslices_ContainsFunc_i_StoItem_i_StoItem__i_PlcOk_1 := ⟨rfl, goodFslices_ContainsFunc_i_StoItem_i_StoItem__i_PlcOk_1, goodBslices_ContainsFunc_i_StoItem_i_StoItem__i_PlcOk_1⟩
noncomputable def Oslices_ContainsFunc_i_StoItem_i_StoItem__i_PlcOk_1_0 : Orc := fun _ _ => none
noncomputable def msslices_ContainsFunc_i_StoItem_i_StoItem__i_PlcOk_1 : List PM := [.rd, .rd]
noncomputable def lsslices_ContainsFunc_i_StoItem_i_StoItem__i_PlcOk_1 : List (Nat × Code) := loopsAll 0 (Tryd.f72.body.getD .skip)
theorem kslices_ContainsFunc_i_StoItem_i_StoItem__i_PlcOk_1_0 : OrcOk Eslices_ContainsFunc_i_StoItem_i_StoItem__i_PlcOk_1 Oslices_ContainsFunc_i_StoItem_i_StoItem__i_PlcOk_1_0 lsslices_ContainsFunc_i_StoItem_i_StoItem__i_PlcOk_1 0 := orcOk_none
noncomputable def g_Aslices_ContainsFunc_i_StoItem_i_StoItem__i_PlcOk_1 (a0 : List (ByteArray × (List Int))) (c0 : Int) : Bool := g_Aslices_IndexFunc_i_StoItem_i_StoItem__i_PlcOk_1 a0 c0 && true
noncomputable def g_Vslices_ContainsFunc_i_StoItem_i_StoItem__i_PlcOk_1_0 (a0 : List (ByteArray × (List Int))) (c0 : Int) : Bool := decide (g_Vslices_IndexFunc_i_StoItem_i_StoItem__i_PlcOk_1_0 a0 c0 ≥ (0 : Int))
noncomputable def Fslices_ContainsFunc_i_StoItem_i_StoItem__i_PlcOk_1 : FSem := fun ys => match ys with
 | [.val false [.sl .any 42 (.pair .str (.sl 3 (.int .i64))) a0], .val false [.fn 69 [.sptr (.int .i64) c0 0]]] => some ((g_Aslices_ContainsFunc_i_StoItem_i_StoItem__i_PlcOk_1 a0 c0), .val false [.bool (g_Vslices_ContainsFunc_i_StoItem_i_StoItem__i_PlcOk_1_0 a0 c0)], [])
 | _ => none
theorem vslices_ContainsFunc_i_StoItem_i_StoItem__i_PlcOk_1 (a0 : List (ByteArray × (List Int))) (c0 : Int) : collapseH .std Eslices_ContainsFunc_i_StoItem_i_StoItem__i_PlcOk_1 Oslices_ContainsFunc_i_StoItem_i_StoItem__i_PlcOk_1_0 (execFn Eslices_ContainsFunc_i_StoItem_i_StoItem__i_PlcOk_1 Tryd.f72 msslices_ContainsFunc_i_StoItem_i_StoItem__i_PlcOk_1 [.val false [.sl .any 42 (.pair .str (.sl 3 (.int .i64))) a0], .val false [.fn 69 [.sptr (.int .i64) c0 0]]]) = some ((g_Aslices_ContainsFunc_i_StoItem_i_StoItem__i_PlcOk_1 a0 c0), .val false [.bool (g_Vslices_ContainsFunc_i_StoItem_i_StoItem__i_PlcOk_1_0 a0 c0)], []) := by kernel_rfl
theorem sslices_ContainsFunc_i_StoItem_i_StoItem__i_PlcOk_1 : Sound Tryd.prog 72 msslices_ContainsFunc_i_StoItem_i_StoItem__i_PlcOk_1 Fslices_ContainsFunc_i_StoItem_i_StoItem__i_PlcOk_1 := by
 refine fn_gen goodslices_ContainsFunc_i_StoItem_i_StoItem__i_PlcOk_1 (by kernel_rfl) .std (fn := Tryd.f72) (c := (Tryd.f72.body.getD .skip)) (o := Oslices_ContainsFunc_i_StoItem_i_StoItem__i_PlcOk_1_0) (k := 0) (by kernel_rfl) (by kernel_rfl) (by kernel_rfl) (by kernel_rfl) (by decide) kslices_ContainsFunc_i_StoItem_i_StoItem__i_PlcOk_1_0 ?_
 intro ys r outs h
 unfold Fslices_ContainsFunc_i_StoItem_i_StoItem__i_PlcOk_1 at h
 split at h
 ·exact (vslices_ContainsFunc_i_StoItem_i_StoItem__i_PlcOk_1 _ _).trans h
 ·cases h
noncomputable def Ei_PlcOk : Env where
 tt := mkTI Tryd.prog
 fn := fun f => match f with
  | 39 => some (msi_StoOk, FSem.wk msi_StoOk Fi_StoOk)
  | 71 => some (msi_isService, FSem.wk msi_isService Fi_isService)
  | 72 => some (msslices_ContainsFunc_i_StoItem_i_StoItem__i_PlcOk_1, FSem.wk msslices_ContainsFunc_i_StoItem_i_StoItem__i_PlcOk_1 Fslices_ContainsFunc_i_StoItem_i_StoItem__i_PlcOk_1)
  | _ => none
 bxf := fun _ => none
 mv := []
 keep := fun _ => []
 keepB := fun _ => []
 keepX := fun _ => []
 keepXB := fun _ => []
theorem goodFi_PlcOk : ∀ f ms F, Ei_PlcOk.fn f = some (ms, F) → Sound Tryd.prog f ms F := fun f ms F h => by
 unfold Ei_PlcOk at h
 dsimp only at h
 split at h
 ·injection h with h; injection h with e1 e2; subst e1 e2; exact Sound.wk si_StoOk
 ·injection h with h; injection h with e1 e2; subst e1 e2; exact Sound.wk si_isService
 ·injection h with h; injection h with e1 e2; subst e1 e2; exact Sound.wk sslices_ContainsFunc_i_StoItem_i_StoItem__i_PlcOk_1
 ·cases h
theorem goodBi_PlcOk : ∀ f ms F, Ei_PlcOk.bxf f = some (ms, F) → SoundB Tryd.prog f ms F := fun f ms F h => by cases h
theorem goodi_PlcOk : Good Tryd.prog Ei_PlcOk := ⟨rfl, goodFi_PlcOk, goodBi_PlcOk⟩
noncomputable def Oi_PlcOk_0 : Orc := fun _ _ => none
noncomputable def msi_PlcOk : List PM := [.own, .rd]
noncomputable def lsi_PlcOk : List (Nat × Code) := loopsAll 0 (Tryd.f34.body.getD .skip)
theorem ki_PlcOk_0 : OrcOk Ei_PlcOk Oi_PlcOk_0 lsi_PlcOk 0 := orcOk_none
noncomputable def g_Ai_PlcOk (a0 : Int) (a1 : List (ByteArray × (List Int))) : Bool := g_Ai_isService a0 && (!g_Vi_isService_0 a0 || g_Ai_StoOk a1 && (!g_Vi_StoOk_0 a1 || g_Aslices_ContainsFunc_i_StoItem_i_StoItem__i_PlcOk_1 a1 a0))
noncomputable def g_Vi_PlcOk_0 (a0 : Int) (a1 : List (ByteArray × (List Int))) : Bool := bif g_Vi_isService_0 a0 then bif g_Vi_StoOk_0 a1 then !g_Vslices_ContainsFunc_i_StoItem_i_StoItem__i_PlcOk_1_0 a1 a0 else false else false
noncomputable def Fi_PlcOk : FSem := fun ys => match ys with
 | [.val false [.int .i64 a0], .val true [.sl .any 42 (.pair .str (.sl 3 (.int .i64))) a1]] => some ((g_Ai_PlcOk a0 a1), .val false [.bool (g_Vi_PlcOk_0 a0 a1)], [])
 | _ => none
theorem vi_PlcOk (a0 : Int) (a1 : List (ByteArray × (List Int))) : collapseH .std Ei_PlcOk Oi_PlcOk_0 (execFn Ei_PlcOk Tryd.f34 msi_PlcOk [.val false [.int .i64 a0], .val true [.sl .any 42 (.pair .str (.sl 3 (.int .i64))) a1]]) = some ((g_Ai_PlcOk a0 a1), .val false [.bool (g_Vi_PlcOk_0 a0 a1)], []) := by kernel_rfl
theorem si_PlcOk : Sound Tryd.prog 34 msi_PlcOk Fi_PlcOk := by
 refine fn_gen goodi_PlcOk (by kernel_rfl) .std (fn := Tryd.f34) (c := (Tryd.f34.body.getD .skip)) (o := Oi_PlcOk_0) (k := 0) (by kernel_rfl) (by kernel_rfl) (by kernel_rfl) (by kernel_rfl) (by decide) ki_PlcOk_0 ?_
 intro ys r outs h
 unfold Fi_PlcOk at h
 split at h
 ·exact (vi_PlcOk _ _).trans h
 ·cases h
noncomputable def Ei_GloOk : Env where
 tt := mkTI Tryd.prog
 fn := fun f => match f with
  | 34 => some (msi_PlcOk, FSem.wk msi_PlcOk Fi_PlcOk)
  | _ => none
 bxf := fun _ => none
 mv := []
 keep := fun b => match b with
  | 0 => [(0, false), (5, false), (6, false), (7, false)]
  | _ => []
 keepB := fun b => match b with
  | 0 => []
  | _ => []
 keepX := fun b => match b with
  | 0 => [(0, false), (2, false)]
  | _ => []
 keepXB := fun b => match b with
  | 0 => []
  | _ => []
theorem goodFi_GloOk : ∀ f ms F, Ei_GloOk.fn f = some (ms, F) → Sound Tryd.prog f ms F := fun f ms F h => by
 unfold Ei_GloOk at h
 dsimp only at h
 split at h
 ·injection h with h; injection h with e1 e2; subst e1 e2; exact Sound.wk si_PlcOk
 ·cases h
theorem goodBi_GloOk : ∀ f ms F, Ei_GloOk.bxf f = some (ms, F) → SoundB Tryd.prog f ms F := fun f ms F h => by cases h
theorem goodi_GloOk : Good Tryd.prog Ei_GloOk := ⟨rfl, goodFi_GloOk, goodBi_GloOk⟩
noncomputable def Oi_GloOk_0 : Orc := fun _ _ => none
noncomputable def msi_GloOk : List PM := [.rd]
noncomputable def lsi_GloOk : List (Nat × Code) := loopsAll 0 (Tryd.f15.body.getD .skip)
noncomputable def ci_GloOk_0 : Code := (loopOf 0 (Tryd.f15.body.getD .skip)).getD .skip
theorem lseqi_GloOk : lsi_GloOk = [(0, ci_GloOk_0)] := by kernel_rfl
theorem mi_GloOk_0 : ∀ p, p ∈ lsi_GloOk → p.1 = 0 → p.2 = ci_GloOk_0 := by
 intro p hp
 rw [lseqi_GloOk] at hp
 simp only [List.mem_cons, List.not_mem_nil, or_false] at hp
 subst hp; simp
theorem ki_GloOk_0 : OrcOk Ei_GloOk Oi_GloOk_0 lsi_GloOk 0 := orcOk_none
noncomputable def hi_GloOk_0 (y0 : List (List (ByteArray × (List Int)))) (y1 : List (List (ByteArray × (List Int)))) (y2 : Int) (y3 : Int) : List (Pl × LV) := [(.T 0, .t (.val false [.sl .any 32 (.sl 42 (.pair .str (.sl 3 (.int .i64)))) y0])), (.T 5, .t (.val false [.sl .any 32 (.sl 42 (.pair .str (.sl 3 (.int .i64)))) y1])), (.T 6, .t (.val false [.int .i64 y2])), (.T 7, .t (.val false [.int .i64 y3]))]
noncomputable def g_Si_GloOk_0 (y0 : List (List (ByteArray × (List Int)))) (y1 : List (List (ByteArray × (List Int)))) (y2 : Int) : (Int) → RT (Int) ((Bool) ⊕ (Unit))
 | y3 => .br (true) (.br (decide (y3 < y2)) (.br (decide ((0 : Int) ≤ y3 ∧ y3 < (↑(List.length y1) : Int))) (.br (true) (.br (g_Ai_PlcOk (IntKind.wrap IntKind.i64 (y3 + (1 : Int))) (at_ (Ty.sl (nat_lit 42) (Ty.pair Ty.str (Ty.sl (nat_lit 3) (Ty.int IntKind.i64)))) y1 (Int.toNat y3))) (.br (!g_Vi_PlcOk_0 (IntKind.wrap IntKind.i64 (y3 + (1 : Int))) (at_ (Ty.sl (nat_lit 42) (Ty.pair Ty.str (Ty.sl (nat_lit 3) (Ty.int IntKind.i64)))) y1 (Int.toNat y3))) (.out (.inl false)) (.br (true) (.go (IntKind.wrap IntKind.i64 (y3 + (1 : Int)))) (.bad))) (.bad)) (.bad)) (.bad)) (.out (.inr (())))) (.bad)
noncomputable def g_Li_GloOk_0 (y0 : List (List (ByteArray × (List Int)))) (y1 : List (List (ByteArray × (List Int)))) (y2 : Int) (x : Int) : Option ((Bool) ⊕ (Unit)) := loopO (g_Si_GloOk_0 y0 y1 y2) x
noncomputable def xi_GloOk_0 (y0 : List (List (ByteArray × (List Int)))) (y1 : List (List (ByteArray × (List Int)))) (y2 : Int) : ((Bool) ⊕ (Unit)) → Ex × List (Pl × LV) := fun
 | .inl r => (.ret, [(.T 0, .t (.val false [.sl .any 32 (.sl 42 (.pair .str (.sl 3 (.int .i64)))) y0])), (.T 2, .t (.val false [.bool r]))])
 | .inr (r) => (.exit 0, [(.T 0, .t (.val false [.sl .any 32 (.sl 42 (.pair .str (.sl 3 (.int .i64)))) y0])), (.T 2, .t (.val false [.undef]))])
noncomputable def Oi_GloOk_1 : Orc := fun b h => match b, h with
 | 0, [(.T 0, .t (.val false [.sl .any 32 (.sl 42 (.pair .str (.sl 3 (.int .i64)))) y0])), (.T 5, .t (.val false [.sl .any 32 (.sl 42 (.pair .str (.sl 3 (.int .i64)))) y1])), (.T 6, .t (.val false [.int .i64 y2])), (.T 7, .t (.val false [.int .i64 y3]))] => some (okO (g_Li_GloOk_0 y0 y1 y2 y3), (.br (isL (valO (g_Li_GloOk_0 y0 y1 y2 y3))) (.leaf .ret [(.T 0, .t (.val false [.sl .any 32 (.sl 42 (.pair .str (.sl 3 (.int .i64)))) y0])), (.T 2, .t (.val false [.bool (getL (valO (g_Li_GloOk_0 y0 y1 y2 y3)))]))]) (.leaf (.exit 0) [(.T 0, .t (.val false [.sl .any 32 (.sl 42 (.pair .str (.sl 3 (.int .i64)))) y0])), (.T 2, .t (.val false [.undef]))])))
 | b, h => Oi_GloOk_0 b h
theorem bi_GloOk_0 (y0 : List (List (ByteArray × (List Int)))) (y1 : List (List (ByteArray × (List Int)))) (y2 : Int) (y3 : Int) : Tr.bt Ei_GloOk Oi_GloOk_0 (exec Ei_GloOk 0 ci_GloOk_0 (St.of (hi_GloOk_0 y0 y1 y2 y3)) (leafRd Ei_GloOk 0)) = (g_Si_GloOk_0 y0 y1 y2 y3).bt (fun (y3 : Int) => (hi_GloOk_0 y0 y1 y2 y3)) (xi_GloOk_0 y0 y1 y2) := by kernel_rfl
theorem ki_GloOk_1 : OrcOk Ei_GloOk Oi_GloOk_1 lsi_GloOk 1 := orc_add ki_GloOk_0 (fun n p hp h ex h' ho => by
 obtain ⟨b, c⟩ := p
 obtain ⟨xt, h1, h2⟩ := ho
 have h1 : Oi_GloOk_1 b h = some (true, xt) := h1
 unfold Oi_GloOk_1 at h1
 split at h1
 ·injection h1 with h1
  injection h1 with e1 e2
  subst e2
  have hc : c = ci_GloOk_0 := mi_GloOk_0 _ hp rfl
  subst hc
  right
  rename_i y0 y1 y2 y3
  have key := LT_step ki_GloOk_0 hp (fun q hq => loopsAll_in _ _ _ _ hp hq) (fun (y3 : Int) => (hi_GloOk_0 y0 y1 y2 y3)) (xi_GloOk_0 y0 y1 y2) (g_Si_GloOk_0 y0 y1 y2) (fun x => by first | exact bi_GloOk_0 y0 y1 y2 x) n (x := y3) (okO_some e1)
  have hx : ∀ r, XT.sel (.br (isL r) (.leaf .ret [(.T 0, .t (.val false [.sl .any 32 (.sl 42 (.pair .str (.sl 3 (.int .i64)))) y0])), (.T 2, .t (.val false [.bool (getL r)]))]) (.leaf (.exit 0) [(.T 0, .t (.val false [.sl .any 32 (.sl 42 (.pair .str (.sl 3 (.int .i64)))) y0])), (.T 2, .t (.val false [.undef]))])) = xi_GloOk_0 y0 y1 y2 r := fun r => by first | rfl | (rcases r with r | r <;> rfl) | (rcases r with r | r | r <;> rfl) | (rcases r with r | r | r | r <;> rfl)
  have h3 := (hx (valO (g_Li_GloOk_0 y0 y1 y2 y3))).symm.trans h2
  have e3 := congrArg Prod.fst h3
  have e4 := congrArg Prod.snd h3
  simp only at e3 e4
  rw [← e3, ← e4]
  exact key
 ·exact .inl ⟨xt, h1, h2⟩)
noncomputable def g_Ai_GloOk (a0 : List (List (ByteArray × (List Int)))) : Bool := okO (g_Li_GloOk_0 a0 a0 (↑(List.length a0) : Int) (0 : Int)) && (isL (valO (g_Li_GloOk_0 a0 a0 (↑(List.length a0) : Int) (0 : Int))) || true)
noncomputable def g_Vi_GloOk_0 (a0 : List (List (ByteArray × (List Int)))) : Bool := bif isL (valO (g_Li_GloOk_0 a0 a0 (↑(List.length a0) : Int) (0 : Int))) then getL (valO (g_Li_GloOk_0 a0 a0 (↑(List.length a0) : Int) (0 : Int))) else (↑(List.length a0) : Int) == (3 : Int)
noncomputable def Fi_GloOk : FSem := fun ys => match ys with
 | [.val false [.sl .any 32 (.sl 42 (.pair .str (.sl 3 (.int .i64)))) a0]] => some ((g_Ai_GloOk a0), .val false [.bool (g_Vi_GloOk_0 a0)], [])
 | _ => none
theorem vi_GloOk (a0 : List (List (ByteArray × (List Int)))) : collapseH .std Ei_GloOk Oi_GloOk_1 (execFn Ei_GloOk Tryd.f15 msi_GloOk [.val false [.sl .any 32 (.sl 42 (.pair .str (.sl 3 (.int .i64)))) a0]]) = some ((g_Ai_GloOk a0), .val false [.bool (g_Vi_GloOk_0 a0)], []) := by kernel_rfl
theorem si_GloOk : Sound Tryd.prog 15 msi_GloOk Fi_GloOk := by
 refine fn_gen goodi_GloOk (by kernel_rfl) .std (fn := Tryd.f15) (c := (Tryd.f15.body.getD .skip)) (o := Oi_GloOk_1) (k := 1) (by kernel_rfl) (by kernel_rfl) (by kernel_rfl) (by kernel_rfl) (by decide) ki_GloOk_1 ?_
 intro ys r outs h
 unfold Fi_GloOk at h
 split at h
 ·exact (vi_GloOk _).trans h
 ·cases h
noncomputable def Ei_OpOk_1 : Env where
 tt := mkTI Tryd.prog
 fn := fun f => match f with
  | 56 => some (msi_in, FSem.wk msi_in Fi_in)
  | _ => none
 bxf := fun _ => none
 mv := []
 keep := fun _ => []
 keepB := fun _ => []
 keepX := fun _ => []
 keepXB := fun _ => []
theorem goodFi_OpOk_1 : ∀ f ms F, Ei_OpOk_1.fn f = some (ms, F) → Sound Tryd.prog f ms F := fun f ms F h => by
 unfold Ei_OpOk_1 at h
 dsimp only at h
 split at h
 ·injection h with h; injection h with e1 e2; subst e1 e2; exact Sound.wk si_in
 ·cases h
theorem goodBi_OpOk_1 : ∀ f ms F, Ei_OpOk_1.bxf f = some (ms, F) → SoundB Tryd.prog f ms F := fun f ms F h => by cases h
theorem goodi_OpOk_1 : Good Tryd.prog Ei_OpOk_1 := ⟨rfl, goodFi_OpOk_1, goodBi_OpOk_1⟩
noncomputable def Oi_OpOk_1_0 : Orc := fun _ _ => none
noncomputable def msi_OpOk_1 : List PM := [.own]
noncomputable def lsi_OpOk_1 : List (Nat × Code) := loopsAll 0 (Tryd.f55.body.getD .skip)
theorem ki_OpOk_1_0 : OrcOk Ei_OpOk_1 Oi_OpOk_1_0 lsi_OpOk_1 0 := orcOk_none
noncomputable def g_Ai_OpOk_1 (a0 : Int) : Bool := g_Ai_in a0 (0 : Int) (9 : Int)
noncomputable def g_Vi_OpOk_1_0 (a0 : Int) : Bool := g_Vi_in_0 a0 (0 : Int) (9 : Int)
noncomputable def Fi_OpOk_1 : FSem := fun ys => match ys with
 | [.val false [.int .i64 a0]] => some ((g_Ai_OpOk_1 a0), .val false [.bool (g_Vi_OpOk_1_0 a0)], [])
 | _ => none
theorem vi_OpOk_1 (a0 : Int) : collapseH .std Ei_OpOk_1 Oi_OpOk_1_0 (execFn Ei_OpOk_1 Tryd.f55 msi_OpOk_1 [.val false [.int .i64 a0]]) = some ((g_Ai_OpOk_1 a0), .val false [.bool (g_Vi_OpOk_1_0 a0)], []) := by kernel_rfl
theorem si_OpOk_1 : Sound Tryd.prog 55 msi_OpOk_1 Fi_OpOk_1 := by
 refine fn_gen goodi_OpOk_1 (by kernel_rfl) .std (fn := Tryd.f55) (c := (Tryd.f55.body.getD .skip)) (o := Oi_OpOk_1_0) (k := 0) (by kernel_rfl) (by kernel_rfl) (by kernel_rfl) (by kernel_rfl) (by decide) ki_OpOk_1_0 ?_
 intro ys r outs h
 unfold Fi_OpOk_1 at h
 split at h
 ·exact (vi_OpOk_1 _).trans h
 ·cases h
noncomputable def Ei_OpOk_2 : Env where
 tt := mkTI Tryd.prog
 fn := fun f => match f with
  | 56 => some (msi_in, FSem.wk msi_in Fi_in)
  | _ => none
 bxf := fun _ => none
 mv := []
 keep := fun _ => []
 keepB := fun _ => []
 keepX := fun _ => []
 keepXB := fun _ => []
theorem goodFi_OpOk_2 : ∀ f ms F, Ei_OpOk_2.fn f = some (ms, F) → Sound Tryd.prog f ms F := fun f ms F h => by
 unfold Ei_OpOk_2 at h
 dsimp only at h
 split at h
 ·injection h with h; injection h with e1 e2; subst e1 e2; exact Sound.wk si_in
 ·cases h
theorem goodBi_OpOk_2 : ∀ f ms F, Ei_OpOk_2.bxf f = some (ms, F) → SoundB Tryd.prog f ms F := fun f ms F h => by cases h
theorem goodi_OpOk_2 : Good Tryd.prog Ei_OpOk_2 := ⟨rfl, goodFi_OpOk_2, goodBi_OpOk_2⟩
noncomputable def Oi_OpOk_2_0 : Orc := fun _ _ => none
noncomputable def msi_OpOk_2 : List PM := [.own]
noncomputable def lsi_OpOk_2 : List (Nat × Code) := loopsAll 0 (Tryd.f57.body.getD .skip)
theorem ki_OpOk_2_0 : OrcOk Ei_OpOk_2 Oi_OpOk_2_0 lsi_OpOk_2 0 := orcOk_none
noncomputable def g_Ai_OpOk_2 (a0 : Int) : Bool := g_Ai_in a0 (0 : Int) (99 : Int)
noncomputable def g_Vi_OpOk_2_0 (a0 : Int) : Bool := g_Vi_in_0 a0 (0 : Int) (99 : Int)
noncomputable def Fi_OpOk_2 : FSem := fun ys => match ys with
 | [.val false [.int .i64 a0]] => some ((g_Ai_OpOk_2 a0), .val false [.bool (g_Vi_OpOk_2_0 a0)], [])
 | _ => none
theorem vi_OpOk_2 (a0 : Int) : collapseH .std Ei_OpOk_2 Oi_OpOk_2_0 (execFn Ei_OpOk_2 Tryd.f57 msi_OpOk_2 [.val false [.int .i64 a0]]) = some ((g_Ai_OpOk_2 a0), .val false [.bool (g_Vi_OpOk_2_0 a0)], []) := by kernel_rfl
theorem si_OpOk_2 : Sound Tryd.prog 57 msi_OpOk_2 Fi_OpOk_2 := by
 refine fn_gen goodi_OpOk_2 (by kernel_rfl) .std (fn := Tryd.f57) (c := (Tryd.f57.body.getD .skip)) (o := Oi_OpOk_2_0) (k := 0) (by kernel_rfl) (by kernel_rfl) (by kernel_rfl) (by kernel_rfl) (by decide) ki_OpOk_2_0 ?_
 intro ys r outs h
 unfold Fi_OpOk_2 at h
 split at h
 ·exact (vi_OpOk_2 _).trans h
 ·cases h
noncomputable def Ei_OpOk : Env where
 tt := mkTI Tryd.prog
 fn := fun f => match f with
  | 55 => some (msi_OpOk_1, FSem.wk msi_OpOk_1 Fi_OpOk_1)
  | 57 => some (msi_OpOk_2, FSem.wk msi_OpOk_2 Fi_OpOk_2)
  | _ => none
 bxf := fun _ => none
 mv := []
 keep := fun _ => []
 keepB := fun _ => []
 keepX := fun _ => []
 keepXB := fun _ => []
theorem goodFi_OpOk : ∀ f ms F, Ei_OpOk.fn f = some (ms, F) → Sound Tryd.prog f ms F := fun f ms F h => by
 unfold Ei_OpOk at h
 dsimp only at h
 split at h
 ·injection h with h; injection h with e1 e2; subst e1 e2; exact Sound.wk si_OpOk_1
 ·injection h with h; injection h with e1 e2; subst e1 e2; exact Sound.wk si_OpOk_2
 ·cases h
theorem goodBi_OpOk : ∀ f ms F, Ei_OpOk.bxf f = some (ms, F) → SoundB Tryd.prog f ms F := fun f ms F h => by cases h
theorem goodi_OpOk : Good Tryd.prog Ei_OpOk := ⟨rfl, goodFi_OpOk, goodBi_OpOk⟩
noncomputable def Oi_OpOk_0 : Orc := fun _ _ => none
noncomputable def msi_OpOk : List PM := [.own]
noncomputable def lsi_OpOk : List (Nat × Code) := loopsAll 0 (Tryd.f28.body.getD .skip)
theorem ki_OpOk_0 : OrcOk Ei_OpOk Oi_OpOk_0 lsi_OpOk 0 := orcOk_none
noncomputable def g_Ai_OpOk (a0 : Int) (a1 : Int) (a2 : Int) (a3 : Int) (a4 : Int) (a5 : Int) (a6 : Int) : Bool := g_Ai_OpOk_1 a1 && (!g_Vi_OpOk_1_0 a1 || g_Ai_OpOk_1 a2 && (!g_Vi_OpOk_1_0 a2 || g_Ai_OpOk_1 a3 && (!g_Vi_OpOk_1_0 a3 || g_Ai_OpOk_1 a5 && (!g_Vi_OpOk_1_0 a5 || g_Ai_OpOk_2 a4 && (!g_Vi_OpOk_2_0 a4 || g_Ai_OpOk_2 a6 && (!g_Vi_OpOk_2_0 a6 || bif a0 == (1 : Int) then a0 == (1 : Int) || (a0 == (2 : Int) || (a0 == (3 : Int) || true)) else a0 == (5 : Int) || (a0 == (2 : Int) || (a0 == (3 : Int) || true))))))))
noncomputable def g_Vi_OpOk_0 (a0 : Int) (a1 : Int) (a2 : Int) (a3 : Int) (a4 : Int) (a5 : Int) (a6 : Int) : Bool := bif !g_Vi_OpOk_1_0 a1 then false else bif !g_Vi_OpOk_1_0 a2 then false else bif !g_Vi_OpOk_1_0 a3 then false else bif !g_Vi_OpOk_1_0 a5 then false else bif !g_Vi_OpOk_2_0 a4 then false else bif !g_Vi_OpOk_2_0 a6 then false else bif a0 == (1 : Int) then bif a0 == (1 : Int) then a0 == a0 && (a1 == a1 && (a2 == a2 && (a3 == (0 : Int) && (a4 == (0 : Int) && (a5 == (0 : Int) && (a6 == (0 : Int) && true)))))) else bif a0 == (2 : Int) then a0 == a0 && (a1 == a1 && (a2 == a2 && (a3 == a3 && (a4 == a4 && (a5 == (0 : Int) && (a6 == (0 : Int) && true)))))) else bif a0 == (3 : Int) then a0 == a0 && (a1 == (0 : Int) && (a2 == (0 : Int) && (a3 == a3 && (a4 == a4 && (a5 == a5 && (a6 == (0 : Int) && true)))))) else bif a0 == (4 : Int) then a0 == a0 && (a1 == (0 : Int) && (a2 == (0 : Int) && (a3 == (0 : Int) && (a4 == (0 : Int) && (a5 == a5 && (a6 == a6 && true)))))) else false else bif a0 == (5 : Int) then a0 == a0 && (a1 == a1 && (a2 == a2 && (a3 == (0 : Int) && (a4 == (0 : Int) && (a5 == (0 : Int) && (a6 == (0 : Int) && true)))))) else bif a0 == (2 : Int) then a0 == a0 && (a1 == a1 && (a2 == a2 && (a3 == a3 && (a4 == a4 && (a5 == (0 : Int) && (a6 == (0 : Int) && true)))))) else bif a0 == (3 : Int) then a0 == a0 && (a1 == (0 : Int) && (a2 == (0 : Int) && (a3 == a3 && (a4 == a4 && (a5 == a5 && (a6 == (0 : Int) && true)))))) else bif a0 == (4 : Int) then a0 == a0 && (a1 == (0 : Int) && (a2 == (0 : Int) && (a3 == (0 : Int) && (a4 == (0 : Int) && (a5 == a5 && (a6 == a6 && true)))))) else false
noncomputable def Fi_OpOk : FSem := fun ys => match ys with
 | [.val true [.int .i64 a0, .int .i64 a1, .int .i64 a2, .int .i64 a3, .int .i64 a4, .int .i64 a5, .int .i64 a6]] => some ((g_Ai_OpOk a0 a1 a2 a3 a4 a5 a6), .val false [.bool (g_Vi_OpOk_0 a0 a1 a2 a3 a4 a5 a6)], [])
 | _ => none
theorem vi_OpOk (a0 : Int) (a1 : Int) (a2 : Int) (a3 : Int) (a4 : Int) (a5 : Int) (a6 : Int) : collapseH .std Ei_OpOk Oi_OpOk_0 (execFn Ei_OpOk Tryd.f28 msi_OpOk [.val true [.int .i64 a0, .int .i64 a1, .int .i64 a2, .int .i64 a3, .int .i64 a4, .int .i64 a5, .int .i64 a6]]) = some ((g_Ai_OpOk a0 a1 a2 a3 a4 a5 a6), .val false [.bool (g_Vi_OpOk_0 a0 a1 a2 a3 a4 a5 a6)], []) := by kernel_rfl
theorem si_OpOk : Sound Tryd.prog 28 msi_OpOk Fi_OpOk := by
 refine fn_gen goodi_OpOk (by kernel_rfl) .std (fn := Tryd.f28) (c := (Tryd.f28.body.getD .skip)) (o := Oi_OpOk_0) (k := 0) (by kernel_rfl) (by kernel_rfl) (by kernel_rfl) (by kernel_rfl) (by decide) ki_OpOk_0 ?_
 intro ys r outs h
 unfold Fi_OpOk at h
 split at h
 ·exact (vi_OpOk _ _ _ _ _ _ _).trans h
 ·cases h
noncomputable def Ei_OpPlaces : Env where
 tt := mkTI Tryd.prog
 fn := fun f => match f with
  | 28 => some (msi_OpOk, FSem.wk msi_OpOk Fi_OpOk)
  | _ => none
 bxf := fun _ => none
 mv := []
 keep := fun _ => []
 keepB := fun _ => []
 keepX := fun _ => []
 keepXB := fun _ => []
theorem goodFi_OpPlaces : ∀ f ms F, Ei_OpPlaces.fn f = some (ms, F) → Sound Tryd.prog f ms F := fun f ms F h => by
 unfold Ei_OpPlaces at h
 dsimp only at h
 split at h
 ·injection h with h; injection h with e1 e2; subst e1 e2; exact Sound.wk si_OpOk
 ·cases h
theorem goodBi_OpPlaces : ∀ f ms F, Ei_OpPlaces.bxf f = some (ms, F) → SoundB Tryd.prog f ms F := fun f ms F h => by cases h
theorem goodi_OpPlaces : Good Tryd.prog Ei_OpPlaces := ⟨rfl, goodFi_OpPlaces, goodBi_OpPlaces⟩
noncomputable def Oi_OpPlaces_0 : Orc := fun _ _ => none
noncomputable def msi_OpPlaces : List PM := [.own]
noncomputable def lsi_OpPlaces : List (Nat × Code) := loopsAll 0 (Tryd.f31.body.getD .skip)
theorem ki_OpPlaces_0 : OrcOk Ei_OpPlaces Oi_OpPlaces_0 lsi_OpPlaces 0 := orcOk_none
noncomputable def g_Ai_OpPlaces (a0 : Int) (a1 : Int) (a2 : Int) (a3 : Int) (a4 : Int) (a5 : Int) (a6 : Int) : Bool := g_Ai_OpOk a0 a1 a2 a3 a4 a5 a6 && (!g_Vi_OpOk_0 a0 a1 a2 a3 a4 a5 a6 || (a0 == (1 : Int) || (a0 == (2 : Int) || true)))
noncomputable def g_Vi_OpPlaces_0 (a0 : Int) (a1 : Int) (a2 : Int) (a3 : Int) (a4 : Int) (a5 : Int) (a6 : Int) : List Int := bif !g_Vi_OpOk_0 a0 a1 a2 a3 a4 a5 a6 then [] else bif a0 == (1 : Int) then [(1 : Int), (3 : Int)] else bif a0 == (2 : Int) then [(1 : Int), (2 : Int), (3 : Int)] else bif a0 == (5 : Int) then [(1 : Int), (2 : Int), (3 : Int)] else [(2 : Int), (3 : Int)]
noncomputable def Fi_OpPlaces : FSem := fun ys => match ys with
 | [.val true [.int .i64 a0, .int .i64 a1, .int .i64 a2, .int .i64 a3, .int .i64 a4, .int .i64 a5, .int .i64 a6]] => some ((g_Ai_OpPlaces a0 a1 a2 a3 a4 a5 a6), .val false [.own .any true 3 (.int .i64) (g_Vi_OpPlaces_0 a0 a1 a2 a3 a4 a5 a6)], [])
 | _ => none
theorem vi_OpPlaces (a0 : Int) (a1 : Int) (a2 : Int) (a3 : Int) (a4 : Int) (a5 : Int) (a6 : Int) : collapseH .std Ei_OpPlaces Oi_OpPlaces_0 (execFn Ei_OpPlaces Tryd.f31 msi_OpPlaces [.val true [.int .i64 a0, .int .i64 a1, .int .i64 a2, .int .i64 a3, .int .i64 a4, .int .i64 a5, .int .i64 a6]]) = some ((g_Ai_OpPlaces a0 a1 a2 a3 a4 a5 a6), .val false [.own .any true 3 (.int .i64) (g_Vi_OpPlaces_0 a0 a1 a2 a3 a4 a5 a6)], []) := by kernel_rfl
theorem si_OpPlaces : Sound Tryd.prog 31 msi_OpPlaces Fi_OpPlaces := by
 refine fn_gen goodi_OpPlaces (by kernel_rfl) .std (fn := Tryd.f31) (c := (Tryd.f31.body.getD .skip)) (o := Oi_OpPlaces_0) (k := 0) (by kernel_rfl) (by kernel_rfl) (by kernel_rfl) (by kernel_rfl) (by decide) ki_OpPlaces_0 ?_
 intro ys r outs h
 unfold Fi_OpPlaces at h
 split at h
 ·exact (vi_OpPlaces _ _ _ _ _ _ _).trans h
 ·cases h
def msstrings_Compare : List PM := [.own, .own]
def g_compare (a b : ByteArray) : Int := Lib.compareBytes a.data.toList b.data.toList
def Fstrings_Compare : FSem := fun ys => match ys with
 | [.val false [.str a], .val false [.str b]] => some (true, .val false [.int .i64 (g_compare a b)], [])
 | _ => none
theorem sstrings_Compare : Sound Tryd.prog 107 msstrings_Compare Fstrings_Compare := by
 refine sound_plain (by simp [msstrings_Compare]) ⟨_, Tryd.func107, by kernel_rfl, by kernel_rfl⟩ (fun w ys r outs h => ?_)
 unfold Fstrings_Compare at h
 split at h
 ·rename_i a b
  simp only [Option.some.injEq, Prod.mk.injEq, true_and] at h
  obtain ⟨rfl, rfl⟩ := h
  refine ⟨rfl, [.string a, .string b], .int .i64 (g_compare a b), rfl, rfl, ?_⟩
  exact Calls.mono (Tryd.strings_Compare a b w) (fun e w' h => ⟨h.1, by rw [h.2]; exact RowKit.Below.refl _ _⟩)
 ·cases h
noncomputable def Ei_StoStore_find_1 : Env where
 tt := mkTI Tryd.prog
 fn := fun f => match f with
  | 107 => some (msstrings_Compare, FSem.wk msstrings_Compare Fstrings_Compare)
  | _ => none
 bxf := fun _ => none
 mv := []
 keep := fun _ => []
 keepB := fun _ => []
 keepX := fun _ => []
 keepXB := fun _ => []
theorem goodFi_StoStore_find_1 : ∀ f ms F, Ei_StoStore_find_1.fn f = some (ms, F) → Sound Tryd.prog f ms F := fun f ms F h => by
 unfold Ei_StoStore_find_1 at h
 dsimp only at h
 split at h
 ·injection h with h; injection h with e1 e2; subst e1 e2; exact Sound.wk sstrings_Compare
 ·cases h
theorem goodBi_StoStore_find_1 : ∀ f ms F, Ei_StoStore_find_1.bxf f = some (ms, F) → SoundB Tryd.prog f ms F := fun f ms F h => by cases h
theorem goodi_StoStore_find_1 : Good Tryd.prog Ei_StoStore_find_1 := ⟨rfl, goodFi_StoStore_find_1, goodBi_StoStore_find_1⟩
noncomputable def Oi_StoStore_find_1_0 : Orc := fun _ _ => none
noncomputable def msi_StoStore_find_1 : List PM := [.rd, .own]
noncomputable def lsi_StoStore_find_1 : List (Nat × Code) := loopsAll 0 (Tryd.f106.body.getD .skip)
theorem ki_StoStore_find_1_0 : OrcOk Ei_StoStore_find_1 Oi_StoStore_find_1_0 lsi_StoStore_find_1 0 := orcOk_none
noncomputable def Fi_StoStore_find_1 : FSem := fun ys => match ys with
 | [.val true [.str a0, .sl .any 3 (.int .i64) a1], .val false [.str a2]] => some (true, .val false [.int .i64 (g_compare a0 a2)], [])
 | _ => none
theorem vi_StoStore_find_1 (a0 : ByteArray) (a1 : List Int) (a2 : ByteArray) : collapseH .std Ei_StoStore_find_1 Oi_StoStore_find_1_0 (execFn Ei_StoStore_find_1 Tryd.f106 msi_StoStore_find_1 [.val true [.str a0, .sl .any 3 (.int .i64) a1], .val false [.str a2]]) = some (true, .val false [.int .i64 (g_compare a0 a2)], []) := by kernel_rfl
theorem si_StoStore_find_1 : Sound Tryd.prog 106 msi_StoStore_find_1 Fi_StoStore_find_1 := by
 refine fn_gen goodi_StoStore_find_1 (by kernel_rfl) .std (fn := Tryd.f106) (c := (Tryd.f106.body.getD .skip)) (o := Oi_StoStore_find_1_0) (k := 0) (by kernel_rfl) (by kernel_rfl) (by kernel_rfl) (by kernel_rfl) (by decide) ki_StoStore_find_1_0 ?_
 intro ys r outs h
 unfold Fi_StoStore_find_1 at h
 split at h
 ·exact (vi_StoStore_find_1 _ _ _).trans h
 ·cases h
noncomputable def Eslices_BinarySearchFunc_i_StoItem_i_StoItem_string__i_StoStore_find_1 : Env where
 tt := mkTI Tryd.prog
 fn := fun f => match f with
  | 106 => some (msi_StoStore_find_1, FSem.wk msi_StoStore_find_1 Fi_StoStore_find_1)
  | _ => none
 bxf := fun _ => none
 mv := []
 keep := fun b => match b with
  | 0 => [(0, false), (1, false), (2, false), (8, false), (9, false), (10, false)]
  | _ => []
 keepB := fun b => match b with
  | 0 => []
  | _ => []
 keepX := fun b => match b with
  | 0 => [(0, false), (1, false), (2, false), (8, false), (9, false)]
  | _ => []
 keepXB := fun b => match b with
  | 0 => []
  | _ => []
theorem goodFslices_BinarySearchFunc_i_StoItem_i_StoItem_string__i_StoStore_find_1 : ∀ f ms F, Eslices_BinarySearchFunc_i_StoItem_i_StoItem_string__i_StoStore_find_1.fn f = some (ms, F) → Sound Tryd.prog f ms F := fun f ms F h => by
 unfold Eslices_BinarySearchFunc_i_StoItem_i_StoItem_string__i_StoStore_find_1 at h
 dsimp only at h
 split at h
 ·injection h with h; injection h with e1 e2; subst e1 e2; exact Sound.wk si_StoStore_find_1
 ·cases h
theorem goodBslices_BinarySearchFunc_i_StoItem_i_StoItem_string__i_StoStore_find_1 : ∀ f ms F, Eslices_BinarySearchFunc_i_StoItem_i_StoItem_string__i_StoStore_find_1.bxf f = some (ms, F) → SoundB Tryd.prog f ms F := fun f ms F h => by cases h
theorem goodslices_BinarySearchFunc_i_StoItem_i_StoItem_string__i_StoStore_find_1 : Good Tryd.prog Eslices_BinarySearchFunc_i_StoItem_i_StoItem_string__i_StoStore_find_1 := ⟨rfl, goodFslices_BinarySearchFunc_i_StoItem_i_StoItem_string__i_StoStore_find_1, goodBslices_BinarySearchFunc_i_StoItem_i_StoItem_string__i_StoStore_find_1⟩
noncomputable def Oslices_BinarySearchFunc_i_StoItem_i_StoItem_string__i_StoStore_find_1_0 : Orc := fun _ _ => none
noncomputable def msslices_BinarySearchFunc_i_StoItem_i_StoItem_string__i_StoStore_find_1 : List PM := [.rd, .own, .rd]
noncomputable def lsslices_BinarySearchFunc_i_StoItem_i_StoItem_string__i_StoStore_find_1 : List (Nat × Code) := loopsAll 0 (Tryd.f105.body.getD .skip)
noncomputable def cslices_BinarySearchFunc_i_StoItem_i_StoItem_string__i_StoStore_find_1_0 : Code := (loopOf 0 (Tryd.f105.body.getD .skip)).getD .skip
theorem lseqslices_BinarySearchFunc_i_StoItem_i_StoItem_string__i_StoStore_find_1 : lsslices_BinarySearchFunc_i_StoItem_i_StoItem_string__i_StoStore_find_1 = [(0, cslices_BinarySearchFunc_i_StoItem_i_StoItem_string__i_StoStore_find_1_0)] := by kernel_rfl
theorem mslices_BinarySearchFunc_i_StoItem_i_StoItem_string__i_StoStore_find_1_0 : ∀ p, p ∈ lsslices_BinarySearchFunc_i_StoItem_i_StoItem_string__i_StoStore_find_1 → p.1 = 0 → p.2 = cslices_BinarySearchFunc_i_StoItem_i_StoItem_string__i_StoStore_find_1_0 := by
 intro p hp
 rw [lseqslices_BinarySearchFunc_i_StoItem_i_StoItem_string__i_StoStore_find_1] at hp
 simp only [List.mem_cons, List.not_mem_nil, or_false] at hp
 subst hp; simp
theorem kslices_BinarySearchFunc_i_StoItem_i_StoItem_string__i_StoStore_find_1_0 : OrcOk Eslices_BinarySearchFunc_i_StoItem_i_StoItem_string__i_StoStore_find_1 Oslices_BinarySearchFunc_i_StoItem_i_StoItem_string__i_StoStore_find_1_0 lsslices_BinarySearchFunc_i_StoItem_i_StoItem_string__i_StoStore_find_1 0 := orcOk_none
noncomputable def hslices_BinarySearchFunc_i_StoItem_i_StoItem_string__i_StoStore_find_1_0 (y0 : List (ByteArray × (List Int))) (y1 : ByteArray) (y2 : Int) (y3 : Int) (y4 : Int) : List (Pl × LV) := [(.T 0, .t (.val false [.sl .any 42 (.pair .str (.sl 3 (.int .i64))) y0])), (.T 1, .t (.val false [.str y1])), (.T 2, .t (.val false [.fn 106 []])), (.T 8, .t (.val false [.int .i64 y2])), (.T 9, .t (.val false [.int .i64 y3])), (.T 10, .t (.val false [.int .i64 y4]))]
noncomputable def g_Sslices_BinarySearchFunc_i_StoItem_i_StoItem_string__i_StoStore_find_1_0 (y0 : List (ByteArray × (List Int))) (y1 : ByteArray) (y2 : Int) : (Int × Int) → RT (Int × Int) ((Int))
 | (y3, y4) => .br (true) (.br (decide (y3 < y4)) (.br (true) (.br (true) (.br (decide ((0 : Int) ≤ IntKind.wrap IntKind.i64 (Int.fdiv (IntKind.wrap IntKind.u64 (IntKind.wrap IntKind.i64 (y3 + y4))) (2 : Int)) ∧ IntKind.wrap IntKind.i64 (Int.fdiv (IntKind.wrap IntKind.u64 (IntKind.wrap IntKind.i64 (y3 + y4))) (2 : Int)) < (↑(List.length y0) : Int))) (.br (true) (.br (true) (.br (decide (g_compare (at_ (Ty.pair Ty.str (Ty.sl (nat_lit 3) (Ty.int IntKind.i64))) y0 (Int.toNat (IntKind.wrap IntKind.i64 (Int.fdiv (IntKind.wrap IntKind.u64 (IntKind.wrap IntKind.i64 (y3 + y4))) (2 : Int))))).1 y1 < (0 : Int))) (.br (true) (.go ((IntKind.wrap IntKind.i64 (IntKind.wrap IntKind.i64 (Int.fdiv (IntKind.wrap IntKind.u64 (IntKind.wrap IntKind.i64 (y3 + y4))) (2 : Int)) + (1 : Int)), y4))) (.bad)) (.go ((y3, IntKind.wrap IntKind.i64 (Int.fdiv (IntKind.wrap IntKind.u64 (IntKind.wrap IntKind.i64 (y3 + y4))) (2 : Int)))))) (.bad)) (.bad)) (.bad)) (.bad)) (.bad)) (.out (y3))) (.bad)
noncomputable def g_Lslices_BinarySearchFunc_i_StoItem_i_StoItem_string__i_StoStore_find_1_0 (y0 : List (ByteArray × (List Int))) (y1 : ByteArray) (y2 : Int) (x : Int × Int) : Option ((Int)) := loopO (g_Sslices_BinarySearchFunc_i_StoItem_i_StoItem_string__i_StoStore_find_1_0 y0 y1 y2) x
noncomputable def xslices_BinarySearchFunc_i_StoItem_i_StoItem_string__i_StoStore_find_1_0 (y0 : List (ByteArray × (List Int))) (y1 : ByteArray) (y2 : Int) : ((Int)) → Ex × List (Pl × LV) := fun r => (.exit 0, [(.T 0, .t (.val false [.sl .any 42 (.pair .str (.sl 3 (.int .i64))) y0])), (.T 1, .t (.val false [.str y1])), (.T 2, .t (.val false [.fn 106 []])), (.T 8, .t (.val false [.int .i64 y2])), (.T 9, .t (.val false [.int .i64 r]))])
noncomputable def Oslices_BinarySearchFunc_i_StoItem_i_StoItem_string__i_StoStore_find_1_1 : Orc := fun b h => match b, h with
 | 0, [(.T 0, .t (.val false [.sl .any 42 (.pair .str (.sl 3 (.int .i64))) y0])), (.T 1, .t (.val false [.str y1])), (.T 2, .t (.val false [.fn 106 []])), (.T 8, .t (.val false [.int .i64 y2])), (.T 9, .t (.val false [.int .i64 y3])), (.T 10, .t (.val false [.int .i64 y4]))] => some (okO (g_Lslices_BinarySearchFunc_i_StoItem_i_StoItem_string__i_StoStore_find_1_0 y0 y1 y2 (y3, y4)), (.leaf (.exit 0) [(.T 0, .t (.val false [.sl .any 42 (.pair .str (.sl 3 (.int .i64))) y0])), (.T 1, .t (.val false [.str y1])), (.T 2, .t (.val false [.fn 106 []])), (.T 8, .t (.val false [.int .i64 y2])), (.T 9, .t (.val false [.int .i64 (valO (g_Lslices_BinarySearchFunc_i_StoItem_i_StoItem_string__i_StoStore_find_1_0 y0 y1 y2 (y3, y4)))]))]))
 | b, h => Oslices_BinarySearchFunc_i_StoItem_i_StoItem_string__i_StoStore_find_1_0 b h
theorem bslices_BinarySearchFunc_i_StoItem_i_StoItem_string__i_StoStore_find_1_0 (y0 : List (ByteArray × (List Int))) (y1 : ByteArray) (y2 : Int) (y3 : Int) (y4 : Int) : Tr.bt Eslices_BinarySearchFunc_i_StoItem_i_StoItem_string__i_StoStore_find_1 Oslices_BinarySearchFunc_i_StoItem_i_StoItem_string__i_StoStore_find_1_0 (exec Eslices_BinarySearchFunc_i_StoItem_i_StoItem_string__i_StoStore_find_1 0 cslices_BinarySearchFunc_i_StoItem_i_StoItem_string__i_StoStore_find_1_0 (St.of (hslices_BinarySearchFunc_i_StoItem_i_StoItem_string__i_StoStore_find_1_0 y0 y1 y2 y3 y4)) (leafRd Eslices_BinarySearchFunc_i_StoItem_i_StoItem_string__i_StoStore_find_1 0)) = (g_Sslices_BinarySearchFunc_i_StoItem_i_StoItem_string__i_StoStore_find_1_0 y0 y1 y2 (y3, y4)).bt (fun ((y3, y4) : Int × Int) => (hslices_BinarySearchFunc_i_StoItem_i_StoItem_string__i_StoStore_find_1_0 y0 y1 y2 y3 y4)) (xslices_BinarySearchFunc_i_StoItem_i_StoItem_string__i_StoStore_find_1_0 y0 y1 y2) := by kernel_rfl
theorem kslices_BinarySearchFunc_i_StoItem_i_StoItem_string__i_StoStore_find_1_1 : OrcOk Eslices_BinarySearchFunc_i_StoItem_i_StoItem_string__i_StoStore_find_1 Oslices_BinarySearchFunc_i_StoItem_i_StoItem_string__i_StoStore_find_1_1 lsslices_BinarySearchFunc_i_StoItem_i_StoItem_string__i_StoStore_find_1 1 := orc_add kslices_BinarySearchFunc_i_StoItem_i_StoItem_string__i_StoStore_find_1_0 (fun n p hp h ex h' ho => by
 obtain ⟨b, c⟩ := p
 obtain ⟨xt, h1, h2⟩ := ho
 have h1 : Oslices_BinarySearchFunc_i_StoItem_i_StoItem_string__i_StoStore_find_1_1 b h = some (true, xt) := h1
 unfold Oslices_BinarySearchFunc_i_StoItem_i_StoItem_string__i_StoStore_find_1_1 at h1
 split at h1
 ·injection h1 with h1
  injection h1 with e1 e2
  subst e2
  have hc : c = cslices_BinarySearchFunc_i_StoItem_i_StoItem_string__i_StoStore_find_1_0 := mslices_BinarySearchFunc_i_StoItem_i_StoItem_string__i_StoStore_find_1_0 _ hp rfl
  subst hc
  right
  rename_i y0 y1 y2 y3 y4
  have key := LT_step kslices_BinarySearchFunc_i_StoItem_i_StoItem_string__i_StoStore_find_1_0 hp (fun q hq => loopsAll_in _ _ _ _ hp hq) (fun ((y3, y4) : Int × Int) => (hslices_BinarySearchFunc_i_StoItem_i_StoItem_string__i_StoStore_find_1_0 y0 y1 y2 y3 y4)) (xslices_BinarySearchFunc_i_StoItem_i_StoItem_string__i_StoStore_find_1_0 y0 y1 y2) (g_Sslices_BinarySearchFunc_i_StoItem_i_StoItem_string__i_StoStore_find_1_0 y0 y1 y2) (fun x => by first | exact bslices_BinarySearchFunc_i_StoItem_i_StoItem_string__i_StoStore_find_1_0 y0 y1 y2 x.1 x.2) n (x := (y3, y4)) (okO_some e1)
  have hx : ∀ r, XT.sel (.leaf (.exit 0) [(.T 0, .t (.val false [.sl .any 42 (.pair .str (.sl 3 (.int .i64))) y0])), (.T 1, .t (.val false [.str y1])), (.T 2, .t (.val false [.fn 106 []])), (.T 8, .t (.val false [.int .i64 y2])), (.T 9, .t (.val false [.int .i64 r]))]) = xslices_BinarySearchFunc_i_StoItem_i_StoItem_string__i_StoStore_find_1_0 y0 y1 y2 r := fun r => by first | rfl | (rcases r with r | r <;> rfl) | (rcases r with r | r | r <;> rfl) | (rcases r with r | r | r | r <;> rfl)
  have h3 := (hx (valO (g_Lslices_BinarySearchFunc_i_StoItem_i_StoItem_string__i_StoStore_find_1_0 y0 y1 y2 (y3, y4)))).symm.trans h2
  have e3 := congrArg Prod.fst h3
  have e4 := congrArg Prod.snd h3
  simp only at e3 e4
  rw [← e3, ← e4]
  exact key
 ·exact .inl ⟨xt, h1, h2⟩)
noncomputable def g_Aslices_BinarySearchFunc_i_StoItem_i_StoItem_string__i_StoStore_find_1 (a0 : List (ByteArray × (List Int))) (a1 : ByteArray) : Bool := okO (g_Lslices_BinarySearchFunc_i_StoItem_i_StoItem_string__i_StoStore_find_1_0 a0 a1 (↑(List.length a0) : Int) ((0 : Int), (↑(List.length a0) : Int))) && (!decide (valO (g_Lslices_BinarySearchFunc_i_StoItem_i_StoItem_string__i_StoStore_find_1_0 a0 a1 (↑(List.length a0) : Int) ((0 : Int), (↑(List.length a0) : Int))) < (↑(List.length a0) : Int)) || decide ((0 : Int) ≤ valO (g_Lslices_BinarySearchFunc_i_StoItem_i_StoItem_string__i_StoStore_find_1_0 a0 a1 (↑(List.length a0) : Int) ((0 : Int), (↑(List.length a0) : Int))) ∧ valO (g_Lslices_BinarySearchFunc_i_StoItem_i_StoItem_string__i_StoStore_find_1_0 a0 a1 (↑(List.length a0) : Int) ((0 : Int), (↑(List.length a0) : Int))) < (↑(List.length a0) : Int)) && true)
noncomputable def g_Vslices_BinarySearchFunc_i_StoItem_i_StoItem_string__i_StoStore_find_1_0 (a0 : List (ByteArray × (List Int))) (a1 : ByteArray) : Int := bif decide (valO (g_Lslices_BinarySearchFunc_i_StoItem_i_StoItem_string__i_StoStore_find_1_0 a0 a1 (↑(List.length a0) : Int) ((0 : Int), (↑(List.length a0) : Int))) < (↑(List.length a0) : Int)) then valO (g_Lslices_BinarySearchFunc_i_StoItem_i_StoItem_string__i_StoStore_find_1_0 a0 a1 (↑(List.length a0) : Int) ((0 : Int), (↑(List.length a0) : Int))) else valO (g_Lslices_BinarySearchFunc_i_StoItem_i_StoItem_string__i_StoStore_find_1_0 a0 a1 (↑(List.length a0) : Int) ((0 : Int), (↑(List.length a0) : Int)))
noncomputable def g_Vslices_BinarySearchFunc_i_StoItem_i_StoItem_string__i_StoStore_find_1_1 (a0 : List (ByteArray × (List Int))) (a1 : ByteArray) : Bool := bif decide (valO (g_Lslices_BinarySearchFunc_i_StoItem_i_StoItem_string__i_StoStore_find_1_0 a0 a1 (↑(List.length a0) : Int) ((0 : Int), (↑(List.length a0) : Int))) < (↑(List.length a0) : Int)) then g_compare (at_ (Ty.pair Ty.str (Ty.sl (nat_lit 3) (Ty.int IntKind.i64))) a0 (Int.toNat (valO (g_Lslices_BinarySearchFunc_i_StoItem_i_StoItem_string__i_StoStore_find_1_0 a0 a1 (↑(List.length a0) : Int) ((0 : Int), (↑(List.length a0) : Int)))))).1 a1 == (0 : Int) else false
noncomputable def Fslices_BinarySearchFunc_i_StoItem_i_StoItem_string__i_StoStore_find_1 : FSem := fun ys => match ys with
 | [.val false [.sl .any 42 (.pair .str (.sl 3 (.int .i64))) a0], .val false [.str a1], .val false [.fn 106 []]] => some ((g_Aslices_BinarySearchFunc_i_StoItem_i_StoItem_string__i_StoStore_find_1 a0 a1), .tup [(false, [.int .i64 (g_Vslices_BinarySearchFunc_i_StoItem_i_StoItem_string__i_StoStore_find_1_0 a0 a1)]), (false, [.bool (g_Vslices_BinarySearchFunc_i_StoItem_i_StoItem_string__i_StoStore_find_1_1 a0 a1)])], [])
 | _ => none
theorem vslices_BinarySearchFunc_i_StoItem_i_StoItem_string__i_StoStore_find_1 (a0 : List (ByteArray × (List Int))) (a1 : ByteArray) : collapseH .std Eslices_BinarySearchFunc_i_StoItem_i_StoItem_string__i_StoStore_find_1 Oslices_BinarySearchFunc_i_StoItem_i_StoItem_string__i_StoStore_find_1_1 (execFn Eslices_BinarySearchFunc_i_StoItem_i_StoItem_string__i_StoStore_find_1 Tryd.f105 msslices_BinarySearchFunc_i_StoItem_i_StoItem_string__i_StoStore_find_1 [.val false [.sl .any 42 (.pair .str (.sl 3 (.int .i64))) a0], .val false [.str a1], .val false [.fn 106 []]]) = some ((g_Aslices_BinarySearchFunc_i_StoItem_i_StoItem_string__i_StoStore_find_1 a0 a1), .tup [(false, [.int .i64 (g_Vslices_BinarySearchFunc_i_StoItem_i_StoItem_string__i_StoStore_find_1_0 a0 a1)]), (false, [.bool (g_Vslices_BinarySearchFunc_i_StoItem_i_StoItem_string__i_StoStore_find_1_1 a0 a1)])], []) := by kernel_rfl
theorem sslices_BinarySearchFunc_i_StoItem_i_StoItem_string__i_StoStore_find_1 : Sound Tryd.prog 105 msslices_BinarySearchFunc_i_StoItem_i_StoItem_string__i_StoStore_find_1 Fslices_BinarySearchFunc_i_StoItem_i_StoItem_string__i_StoStore_find_1 := by
 refine fn_gen goodslices_BinarySearchFunc_i_StoItem_i_StoItem_string__i_StoStore_find_1 (by kernel_rfl) .std (fn := Tryd.f105) (c := (Tryd.f105.body.getD .skip)) (o := Oslices_BinarySearchFunc_i_StoItem_i_StoItem_string__i_StoStore_find_1_1) (k := 1) (by kernel_rfl) (by kernel_rfl) (by kernel_rfl) (by kernel_rfl) (by decide) kslices_BinarySearchFunc_i_StoItem_i_StoItem_string__i_StoStore_find_1_1 ?_
 intro ys r outs h
 unfold Fslices_BinarySearchFunc_i_StoItem_i_StoItem_string__i_StoStore_find_1 at h
 split at h
 ·exact (vslices_BinarySearchFunc_i_StoItem_i_StoItem_string__i_StoStore_find_1 _ _).trans h
 ·cases h
noncomputable def Ei_StoStore_find : Env where
 tt := mkTI Tryd.prog
 fn := fun f => match f with
  | 105 => some (msslices_BinarySearchFunc_i_StoItem_i_StoItem_string__i_StoStore_find_1, FSem.wk msslices_BinarySearchFunc_i_StoItem_i_StoItem_string__i_StoStore_find_1 Fslices_BinarySearchFunc_i_StoItem_i_StoItem_string__i_StoStore_find_1)
  | _ => none
 bxf := fun _ => none
 mv := []
 keep := fun _ => []
 keepB := fun _ => []
 keepX := fun _ => []
 keepXB := fun _ => []
theorem goodFi_StoStore_find : ∀ f ms F, Ei_StoStore_find.fn f = some (ms, F) → Sound Tryd.prog f ms F := fun f ms F h => by
 unfold Ei_StoStore_find at h
 dsimp only at h
 split at h
 ·injection h with h; injection h with e1 e2; subst e1 e2; exact Sound.wk sslices_BinarySearchFunc_i_StoItem_i_StoItem_string__i_StoStore_find_1
 ·cases h
theorem goodBi_StoStore_find : ∀ f ms F, Ei_StoStore_find.bxf f = some (ms, F) → SoundB Tryd.prog f ms F := fun f ms F h => by cases h
theorem goodi_StoStore_find : Good Tryd.prog Ei_StoStore_find := ⟨rfl, goodFi_StoStore_find, goodBi_StoStore_find⟩
noncomputable def Oi_StoStore_find_0 : Orc := fun _ _ => none
noncomputable def msi_StoStore_find : List PM := [.rd, .own]
noncomputable def lsi_StoStore_find : List (Nat × Code) := loopsAll 0 (Tryd.f75.body.getD .skip)
theorem ki_StoStore_find_0 : OrcOk Ei_StoStore_find Oi_StoStore_find_0 lsi_StoStore_find 0 := orcOk_none
noncomputable def g_Ai_StoStore_find (a0 : List (ByteArray × (List Int))) (a1 : ByteArray) : Bool := g_Aslices_BinarySearchFunc_i_StoItem_i_StoItem_string__i_StoStore_find_1 a0 a1
noncomputable def Fi_StoStore_find : FSem := fun ys => match ys with
 | [.val true [.sl .any 42 (.pair .str (.sl 3 (.int .i64))) a0], .val false [.str a1]] => some ((g_Ai_StoStore_find a0 a1), .tup [(false, [.int .i64 (g_Vslices_BinarySearchFunc_i_StoItem_i_StoItem_string__i_StoStore_find_1_0 a0 a1)]), (false, [.bool (g_Vslices_BinarySearchFunc_i_StoItem_i_StoItem_string__i_StoStore_find_1_1 a0 a1)])], [])
 | _ => none
theorem vi_StoStore_find (a0 : List (ByteArray × (List Int))) (a1 : ByteArray) : collapseH .std Ei_StoStore_find Oi_StoStore_find_0 (execFn Ei_StoStore_find Tryd.f75 msi_StoStore_find [.val true [.sl .any 42 (.pair .str (.sl 3 (.int .i64))) a0], .val false [.str a1]]) = some ((g_Ai_StoStore_find a0 a1), .tup [(false, [.int .i64 (g_Vslices_BinarySearchFunc_i_StoItem_i_StoItem_string__i_StoStore_find_1_0 a0 a1)]), (false, [.bool (g_Vslices_BinarySearchFunc_i_StoItem_i_StoItem_string__i_StoStore_find_1_1 a0 a1)])], []) := by kernel_rfl
theorem si_StoStore_find : Sound Tryd.prog 75 msi_StoStore_find Fi_StoStore_find := by
 refine fn_gen goodi_StoStore_find (by kernel_rfl) .std (fn := Tryd.f75) (c := (Tryd.f75.body.getD .skip)) (o := Oi_StoStore_find_0) (k := 0) (by kernel_rfl) (by kernel_rfl) (by kernel_rfl) (by kernel_rfl) (by decide) ki_StoStore_find_0 ?_
 intro ys r outs h
 unfold Fi_StoStore_find at h
 split at h
 ·exact (vi_StoStore_find _ _).trans h
 ·cases h
noncomputable def Eslices_Clone_int_int_nz : Env where
 tt := mkTI Tryd.prog
 fn := fun _ => none
 bxf := fun _ => none
 mv := []
 keep := fun _ => []
 keepB := fun _ => []
 keepX := fun _ => []
 keepXB := fun _ => []
theorem goodFslices_Clone_int_int_nz : ∀ f ms F, Eslices_Clone_int_int_nz.fn f = some (ms, F) → Sound Tryd.prog f ms F := fun f ms F h => by cases h
theorem goodBslices_Clone_int_int_nz : ∀ f ms F, Eslices_Clone_int_int_nz.bxf f = some (ms, F) → SoundB Tryd.prog f ms F := fun f ms F h => by cases h
theorem goodslices_Clone_int_int_nz : Good Tryd.prog Eslices_Clone_int_int_nz := ⟨rfl, goodFslices_Clone_int_int_nz, goodBslices_Clone_int_int_nz⟩
noncomputable def Oslices_Clone_int_int_nz_0 : Orc := fun _ _ => none
noncomputable def msslices_Clone_int_int_nz : List PM := [.rd]
noncomputable def lsslices_Clone_int_int_nz : List (Nat × Code) := loopsAll 0 (Tryd.f58.body.getD .skip)
theorem kslices_Clone_int_int_nz_0 : OrcOk Eslices_Clone_int_int_nz Oslices_Clone_int_int_nz_0 lsslices_Clone_int_int_nz 0 := orcOk_none
noncomputable def g_Aslices_Clone_int_int_nz (a0 : List Int) : Bool := decide (nat_lit 0 < List.length a0) && decide ((nat_lit 0 + List.length a0) * nat_lit 8 ≤ nat_lit 140737488355328 ∧ nat_lit 0 + List.length a0 ≤ nat_lit 9223372036854775807)
noncomputable def g_Vslices_Clone_int_int_nz_0 (a0 : List Int) : List Int := [] ++ a0
noncomputable def Fslices_Clone_int_int_nz : FSem := fun ys => match ys with
 | [.val false [.sl .any 3 (.int .i64) a0]] => some ((g_Aslices_Clone_int_int_nz a0), .val false [.own (.may false) true 3 (.int .i64) (g_Vslices_Clone_int_int_nz_0 a0)], [])
 | _ => none
theorem vslices_Clone_int_int_nz (a0 : List Int) : collapseH .nz Eslices_Clone_int_int_nz Oslices_Clone_int_int_nz_0 (execFn Eslices_Clone_int_int_nz Tryd.f58 msslices_Clone_int_int_nz [.val false [.sl .any 3 (.int .i64) a0]]) = some ((g_Aslices_Clone_int_int_nz a0), .val false [.own (.may false) true 3 (.int .i64) (g_Vslices_Clone_int_int_nz_0 a0)], []) := by kernel_rfl
theorem sslices_Clone_int_int_nz : Sound Tryd.prog 58 msslices_Clone_int_int_nz Fslices_Clone_int_int_nz := by
 refine fn_gen goodslices_Clone_int_int_nz (by kernel_rfl) .nz (fn := Tryd.f58) (c := (Tryd.f58.body.getD .skip)) (o := Oslices_Clone_int_int_nz_0) (k := 0) (by kernel_rfl) (by kernel_rfl) (by kernel_rfl) (by kernel_rfl) (by decide) kslices_Clone_int_int_nz_0 ?_
 intro ys r outs h
 unfold Fslices_Clone_int_int_nz at h
 split at h
 ·exact (vslices_Clone_int_int_nz _).trans h
 ·cases h
noncomputable def Ei_StoStore_get : Env where
 tt := mkTI Tryd.prog
 fn := fun f => match f with
  | 58 => some (msslices_Clone_int_int_nz, FSem.wk msslices_Clone_int_int_nz Fslices_Clone_int_int_nz)
  | 75 => some (msi_StoStore_find, FSem.wk msi_StoStore_find Fi_StoStore_find)
  | _ => none
 bxf := fun _ => none
 mv := []
 keep := fun _ => []
 keepB := fun _ => []
 keepX := fun _ => []
 keepXB := fun _ => []
theorem goodFi_StoStore_get : ∀ f ms F, Ei_StoStore_get.fn f = some (ms, F) → Sound Tryd.prog f ms F := fun f ms F h => by
 unfold Ei_StoStore_get at h
 dsimp only at h
 split at h
 ·injection h with h; injection h with e1 e2; subst e1 e2; exact Sound.wk sslices_Clone_int_int_nz
 ·injection h with h; injection h with e1 e2; subst e1 e2; exact Sound.wk si_StoStore_find
 ·cases h
theorem goodBi_StoStore_get : ∀ f ms F, Ei_StoStore_get.bxf f = some (ms, F) → SoundB Tryd.prog f ms F := fun f ms F h => by cases h
theorem goodi_StoStore_get : Good Tryd.prog Ei_StoStore_get := ⟨rfl, goodFi_StoStore_get, goodBi_StoStore_get⟩
noncomputable def Oi_StoStore_get_0 : Orc := fun _ _ => none
noncomputable def msi_StoStore_get : List PM := [.rd, .own]
noncomputable def lsi_StoStore_get : List (Nat × Code) := loopsAll 0 (Tryd.f40.body.getD .skip)
theorem ki_StoStore_get_0 : OrcOk Ei_StoStore_get Oi_StoStore_get_0 lsi_StoStore_get 0 := orcOk_none
noncomputable def g_Ai_StoStore_get (a0 : List (ByteArray × (List Int))) (a1 : ByteArray) : Bool := g_Ai_StoStore_find a0 a1 && (!g_Vslices_BinarySearchFunc_i_StoItem_i_StoItem_string__i_StoStore_find_1_1 a0 a1 || decide ((0 : Int) ≤ g_Vslices_BinarySearchFunc_i_StoItem_i_StoItem_string__i_StoStore_find_1_0 a0 a1 ∧ g_Vslices_BinarySearchFunc_i_StoItem_i_StoItem_string__i_StoStore_find_1_0 a0 a1 < (↑(List.length a0) : Int)) && g_Aslices_Clone_int_int_nz (at_ (Ty.pair Ty.str (Ty.sl (nat_lit 3) (Ty.int IntKind.i64))) a0 (Int.toNat (g_Vslices_BinarySearchFunc_i_StoItem_i_StoItem_string__i_StoStore_find_1_0 a0 a1))).2)
noncomputable def g_Vi_StoStore_get_0 (a0 : List (ByteArray × (List Int))) (a1 : ByteArray) : Bool := bif !g_Vslices_BinarySearchFunc_i_StoItem_i_StoItem_string__i_StoStore_find_1_1 a0 a1 then true else false
noncomputable def g_Vi_StoStore_get_1 (a0 : List (ByteArray × (List Int))) (a1 : ByteArray) : List Int := bif !g_Vslices_BinarySearchFunc_i_StoItem_i_StoItem_string__i_StoStore_find_1_1 a0 a1 then [] else g_Vslices_Clone_int_int_nz_0 (at_ (Ty.pair Ty.str (Ty.sl (nat_lit 3) (Ty.int IntKind.i64))) a0 (Int.toNat (g_Vslices_BinarySearchFunc_i_StoItem_i_StoItem_string__i_StoStore_find_1_0 a0 a1))).2
noncomputable def Fi_StoStore_get : FSem := fun ys => match ys with
 | [.val true [.sl .any 42 (.pair .str (.sl 3 (.int .i64))) a0], .val false [.str a1]] => some ((g_Ai_StoStore_get a0 a1), .val false [.own (.may (g_Vi_StoStore_get_0 a0 a1)) true 3 (.int .i64) (g_Vi_StoStore_get_1 a0 a1)], [])
 | _ => none
theorem vi_StoStore_get (a0 : List (ByteArray × (List Int))) (a1 : ByteArray) : collapseH .nz Ei_StoStore_get Oi_StoStore_get_0 (execFn Ei_StoStore_get Tryd.f40 msi_StoStore_get [.val true [.sl .any 42 (.pair .str (.sl 3 (.int .i64))) a0], .val false [.str a1]]) = some ((g_Ai_StoStore_get a0 a1), .val false [.own (.may (g_Vi_StoStore_get_0 a0 a1)) true 3 (.int .i64) (g_Vi_StoStore_get_1 a0 a1)], []) := by kernel_rfl
theorem si_StoStore_get : Sound Tryd.prog 40 msi_StoStore_get Fi_StoStore_get := by
 refine fn_gen goodi_StoStore_get (by kernel_rfl) .nz (fn := Tryd.f40) (c := (Tryd.f40.body.getD .skip)) (o := Oi_StoStore_get_0) (k := 0) (by kernel_rfl) (by kernel_rfl) (by kernel_rfl) (by kernel_rfl) (by decide) ki_StoStore_get_0 ?_
 intro ys r outs h
 unfold Fi_StoStore_get at h
 split at h
 ·exact (vi_StoStore_get _ _).trans h
 ·cases h
noncomputable def Ei_done : Env where
 tt := mkTI Tryd.prog
 fn := fun _ => none
 bxf := fun _ => none
 mv := []
 keep := fun _ => []
 keepB := fun _ => []
 keepX := fun _ => []
 keepXB := fun _ => []
theorem goodFi_done : ∀ f ms F, Ei_done.fn f = some (ms, F) → Sound Tryd.prog f ms F := fun f ms F h => by cases h
theorem goodBi_done : ∀ f ms F, Ei_done.bxf f = some (ms, F) → SoundB Tryd.prog f ms F := fun f ms F h => by cases h
theorem goodi_done : Good Tryd.prog Ei_done := ⟨rfl, goodFi_done, goodBi_done⟩
noncomputable def Oi_done_0 : Orc := fun _ _ => none
noncomputable def msi_done : List PM := [.own, .own]
noncomputable def lsi_done : List (Nat × Code) := loopsAll 0 (Tryd.f64.body.getD .skip)
theorem ki_done_0 : OrcOk Ei_done Oi_done_0 lsi_done 0 := orcOk_none
noncomputable def Fi_done : FSem := fun ys => match ys with
 | [.val false [.own .any true 9 .str a0], .val false [.own .any true 76 (.pair .str (.pair .bool (.sl 3 (.int .i64)))) a1]] => some (true, .val true [.bool true, .own .any true 9 .str a0, .own .any true 76 (.pair .str (.pair .bool (.sl 3 (.int .i64)))) a1], [])
 | _ => none
theorem vi_done (a0 : List ByteArray) (a1 : List (ByteArray × (Bool × (List Int)))) : collapseH .std Ei_done Oi_done_0 (execFn Ei_done Tryd.f64 msi_done [.val false [.own .any true 9 .str a0], .val false [.own .any true 76 (.pair .str (.pair .bool (.sl 3 (.int .i64)))) a1]]) = some (true, .val true [.bool true, .own .any true 9 .str a0, .own .any true 76 (.pair .str (.pair .bool (.sl 3 (.int .i64)))) a1], []) := by kernel_rfl
theorem si_done : Sound Tryd.prog 64 msi_done Fi_done := by
 refine fn_gen goodi_done (by kernel_rfl) .std (fn := Tryd.f64) (c := (Tryd.f64.body.getD .skip)) (o := Oi_done_0) (k := 0) (by kernel_rfl) (by kernel_rfl) (by kernel_rfl) (by kernel_rfl) (by decide) ki_done_0 ?_
 intro ys r outs h
 unfold Fi_done at h
 split at h
 ·exact (vi_done _ _).trans h
 ·cases h
def msstrconv_Itoa : List PM := [.own]
def g_itoa (i : Int) : ByteArray := ⟨(Lib.decDigits i.toNat).toArray⟩
def Fstrconv_Itoa : FSem := fun ys => match ys with
 | [.val false [.int .i64 i]] => some (decide (0 ≤ i ∧ i < 100), .val false [.str (g_itoa i)], [])
 | _ => none
theorem sstrconv_Itoa : Sound Tryd.prog 97 msstrconv_Itoa Fstrconv_Itoa := by
 refine sound_plain (by simp [msstrconv_Itoa]) ⟨_, Tryd.func97, by kernel_rfl, by kernel_rfl⟩ (fun w ys r outs h => ?_)
 unfold Fstrconv_Itoa at h
 split at h
 ·rename_i i
  simp only [Option.some.injEq, Prod.mk.injEq, decide_eq_true_eq] at h
  obtain ⟨h1, rfl, rfl⟩ := h
  refine ⟨rfl, [.int .i64 i], .string (g_itoa i), rfl, rfl, ?_⟩
  obtain ⟨k, rfl⟩ : ∃ k : Nat, i = (k : Int) := ⟨i.toNat, by omega⟩
  exact Calls.mono (Tryd.strconv_Itoa_small k (by omega) w) (fun e w' h => ⟨by rw [h.1]; rfl, by rw [h.2]; exact RowKit.Below.refl _ _⟩)
 ·cases h
noncomputable def Ei_named : Env where
 tt := mkTI Tryd.prog
 fn := fun f => match f with
  | 97 => some (msstrconv_Itoa, FSem.wk msstrconv_Itoa Fstrconv_Itoa)
  | _ => none
 bxf := fun _ => none
 mv := []
 keep := fun _ => []
 keepB := fun _ => []
 keepX := fun _ => []
 keepXB := fun _ => []
theorem goodFi_named : ∀ f ms F, Ei_named.fn f = some (ms, F) → Sound Tryd.prog f ms F := fun f ms F h => by
 unfold Ei_named at h
 dsimp only at h
 split at h
 ·injection h with h; injection h with e1 e2; subst e1 e2; exact Sound.wk sstrconv_Itoa
 ·cases h
theorem goodBi_named : ∀ f ms F, Ei_named.bxf f = some (ms, F) → SoundB Tryd.prog f ms F := fun f ms F h => by cases h
theorem goodi_named : Good Tryd.prog Ei_named := ⟨rfl, goodFi_named, goodBi_named⟩
noncomputable def Oi_named_0 : Orc := fun _ _ => none
noncomputable def msi_named : List PM := [.own, .own]
noncomputable def lsi_named : List (Nat × Code) := loopsAll 0 (Tryd.f62.body.getD .skip)
theorem ki_named_0 : OrcOk Ei_named Oi_named_0 lsi_named 0 := orcOk_none
noncomputable def g_Ai_named (a0 : ByteArray) (a1 : Int) : Bool := decide ((0 : Int) ≤ a1 ∧ a1 < (100 : Int)) && decide (ByteArray.size a0 + ByteArray.size (g_itoa a1) ≤ nat_lit 9223372036854775807)
noncomputable def g_Vi_named_0 (a0 : ByteArray) (a1 : Int) : ByteArray := a0 ++ g_itoa a1
noncomputable def Fi_named : FSem := fun ys => match ys with
 | [.val false [.str a0], .val false [.int .i64 a1]] => some ((g_Ai_named a0 a1), .val false [.str (g_Vi_named_0 a0 a1)], [])
 | _ => none
theorem vi_named (a0 : ByteArray) (a1 : Int) : collapseH .std Ei_named Oi_named_0 (execFn Ei_named Tryd.f62 msi_named [.val false [.str a0], .val false [.int .i64 a1]]) = some ((g_Ai_named a0 a1), .val false [.str (g_Vi_named_0 a0 a1)], []) := by kernel_rfl
theorem si_named : Sound Tryd.prog 62 msi_named Fi_named := by
 refine fn_gen goodi_named (by kernel_rfl) .std (fn := Tryd.f62) (c := (Tryd.f62.body.getD .skip)) (o := Oi_named_0) (k := 0) (by kernel_rfl) (by kernel_rfl) (by kernel_rfl) (by kernel_rfl) (by decide) ki_named_0 ?_
 intro ys r outs h
 unfold Fi_named at h
 split at h
 ·exact (vi_named _ _).trans h
 ·cases h
noncomputable def Ei_refused : Env where
 tt := mkTI Tryd.prog
 fn := fun _ => none
 bxf := fun _ => none
 mv := []
 keep := fun _ => []
 keepB := fun _ => []
 keepX := fun _ => []
 keepXB := fun _ => []
theorem goodFi_refused : ∀ f ms F, Ei_refused.fn f = some (ms, F) → Sound Tryd.prog f ms F := fun f ms F h => by cases h
theorem goodBi_refused : ∀ f ms F, Ei_refused.bxf f = some (ms, F) → SoundB Tryd.prog f ms F := fun f ms F h => by cases h
theorem goodi_refused : Good Tryd.prog Ei_refused := ⟨rfl, goodFi_refused, goodBi_refused⟩
noncomputable def Oi_refused_0 : Orc := fun _ _ => none
noncomputable def msi_refused : List PM := [.own]
noncomputable def lsi_refused : List (Nat × Code) := loopsAll 0 (Tryd.f63.body.getD .skip)
theorem ki_refused_0 : OrcOk Ei_refused Oi_refused_0 lsi_refused 0 := orcOk_none
noncomputable def g_Vi_refused_0 (a0 : List ByteArray) : List (ByteArray × (Bool × (List Int))) := []
noncomputable def Fi_refused : FSem := fun ys => match ys with
 | [.val false [.own .any true 9 .str a0]] => some (true, .val true [.bool false, .own .any true 9 .str a0, .own .any true 76 (.pair .str (.pair .bool (.sl 3 (.int .i64)))) (g_Vi_refused_0 a0)], [])
 | _ => none
theorem vi_refused (a0 : List ByteArray) : collapseH .std Ei_refused Oi_refused_0 (execFn Ei_refused Tryd.f63 msi_refused [.val false [.own .any true 9 .str a0]]) = some (true, .val true [.bool false, .own .any true 9 .str a0, .own .any true 76 (.pair .str (.pair .bool (.sl 3 (.int .i64)))) (g_Vi_refused_0 a0)], []) := by kernel_rfl
theorem si_refused : Sound Tryd.prog 63 msi_refused Fi_refused := by
 refine fn_gen goodi_refused (by kernel_rfl) .std (fn := Tryd.f63) (c := (Tryd.f63.body.getD .skip)) (o := Oi_refused_0) (k := 0) (by kernel_rfl) (by kernel_rfl) (by kernel_rfl) (by kernel_rfl) (by decide) ki_refused_0 ?_
 intro ys r outs h
 unfold Fi_refused at h
 split at h
 ·exact (vi_refused _).trans h
 ·cases h
noncomputable def Ei_set : Env where
 tt := mkTI Tryd.prog
 fn := fun _ => none
 bxf := fun _ => none
 mv := []
 keep := fun _ => []
 keepB := fun _ => []
 keepX := fun _ => []
 keepXB := fun _ => []
theorem goodFi_set : ∀ f ms F, Ei_set.fn f = some (ms, F) → Sound Tryd.prog f ms F := fun f ms F h => by cases h
theorem goodBi_set : ∀ f ms F, Ei_set.bxf f = some (ms, F) → SoundB Tryd.prog f ms F := fun f ms F h => by cases h
theorem goodi_set : Good Tryd.prog Ei_set := ⟨rfl, goodFi_set, goodBi_set⟩
noncomputable def Oi_set_0 : Orc := fun _ _ => none
noncomputable def msi_set : List PM := [.own, .own]
noncomputable def lsi_set : List (Nat × Code) := loopsAll 0 (Tryd.f65.body.getD .skip)
theorem ki_set_0 : OrcOk Ei_set Oi_set_0 lsi_set 0 := orcOk_none
noncomputable def Fi_set : FSem := fun ys => match ys with
 | [.val false [.str a0], .val false [.own .any true 3 (.int .i64) a1]] => some (true, .val true [.str a0, .bool false, .own .any true 3 (.int .i64) a1], [])
 | _ => none
theorem vi_set (a0 : ByteArray) (a1 : List Int) : collapseH .std Ei_set Oi_set_0 (execFn Ei_set Tryd.f65 msi_set [.val false [.str a0], .val false [.own .any true 3 (.int .i64) a1]]) = some (true, .val true [.str a0, .bool false, .own .any true 3 (.int .i64) a1], []) := by kernel_rfl
theorem si_set : Sound Tryd.prog 65 msi_set Fi_set := by
 refine fn_gen goodi_set (by kernel_rfl) .std (fn := Tryd.f65) (c := (Tryd.f65.body.getD .skip)) (o := Oi_set_0) (k := 0) (by kernel_rfl) (by kernel_rfl) (by kernel_rfl) (by kernel_rfl) (by decide) ki_set_0 ?_
 intro ys r outs h
 unfold Fi_set at h
 split at h
 ·exact (vi_set _ _).trans h
 ·cases h
noncomputable def Ei_atIn : Env where
 tt := mkTI Tryd.prog
 fn := fun f => match f with
  | 40 => some (msi_StoStore_get, FSem.wk msi_StoStore_get Fi_StoStore_get)
  | 62 => some (msi_named, FSem.wk msi_named Fi_named)
  | 63 => some (msi_refused, FSem.wk msi_refused Fi_refused)
  | 64 => some (msi_done, FSem.wk msi_done Fi_done)
  | 65 => some (msi_set, FSem.wk msi_set Fi_set)
  | _ => none
 bxf := fun _ => none
 mv := []
 keep := fun _ => []
 keepB := fun _ => []
 keepX := fun _ => []
 keepXB := fun _ => []
theorem goodFi_atIn : ∀ f ms F, Ei_atIn.fn f = some (ms, F) → Sound Tryd.prog f ms F := fun f ms F h => by
 unfold Ei_atIn at h
 dsimp only at h
 split at h
 ·injection h with h; injection h with e1 e2; subst e1 e2; exact Sound.wk si_StoStore_get
 ·injection h with h; injection h with e1 e2; subst e1 e2; exact Sound.wk si_named
 ·injection h with h; injection h with e1 e2; subst e1 e2; exact Sound.wk si_refused
 ·injection h with h; injection h with e1 e2; subst e1 e2; exact Sound.wk si_done
 ·injection h with h; injection h with e1 e2; subst e1 e2; exact Sound.wk si_set
 ·cases h
theorem goodBi_atIn : ∀ f ms F, Ei_atIn.bxf f = some (ms, F) → SoundB Tryd.prog f ms F := fun f ms F h => by cases h
theorem goodi_atIn : Good Tryd.prog Ei_atIn := ⟨rfl, goodFi_atIn, goodBi_atIn⟩
noncomputable def Oi_atIn_0 : Orc := fun _ _ => none
noncomputable def msi_atIn : List PM := [.rd, .own]
noncomputable def lsi_atIn : List (Nat × Code) := loopsAll 0 (Tryd.f60.body.getD .skip)
theorem ki_atIn_0 : OrcOk Ei_atIn Oi_atIn_0 lsi_atIn 0 := orcOk_none
noncomputable def g_Ai_atIn (a0 : List (ByteArray × (List Int))) (a1 : Int) (a2 : Int) (a3 : Int) (a4 : Int) (a5 : Int) (a6 : Int) (a7 : Int) : Bool := g_Ai_named (lit [(115 : Nat)]) a3 && (g_Ai_StoStore_get a0 (g_Vi_named_0 (lit [(115 : Nat)]) a3) && bif a1 == (1 : Int) then bif !g_Vi_StoStore_get_0 a0 (g_Vi_named_0 (lit [(115 : Nat)]) a3) then true else true else bif g_Vi_StoStore_get_0 a0 (g_Vi_named_0 (lit [(115 : Nat)]) a3) then true else decide ((0 : Int) ≤ (0 : Int) ∧ (0 : Int) < (↑(List.length (g_Vi_StoStore_get_1 a0 (g_Vi_named_0 (lit [(115 : Nat)]) a3))) : Int)) && (decide (nat_lit 0 < List.length (g_Vi_StoStore_get_1 a0 (g_Vi_named_0 (lit [(115 : Nat)]) a3))) && bif at_ (Ty.int IntKind.i64) (g_Vi_StoStore_get_1 a0 (g_Vi_named_0 (lit [(115 : Nat)]) a3)) (nat_lit 0) != a2 then true else bif a1 == (5 : Int) then true else true))
noncomputable def g_Vi_atIn_0 (a0 : List (ByteArray × (List Int))) (a1 : Int) (a2 : Int) (a3 : Int) (a4 : Int) (a5 : Int) (a6 : Int) (a7 : Int) : Bool := bif a1 == (1 : Int) then bif !g_Vi_StoStore_get_0 a0 (g_Vi_named_0 (lit [(115 : Nat)]) a3) then false else true else bif g_Vi_StoStore_get_0 a0 (g_Vi_named_0 (lit [(115 : Nat)]) a3) then false else bif at_ (Ty.int IntKind.i64) (g_Vi_StoStore_get_1 a0 (g_Vi_named_0 (lit [(115 : Nat)]) a3)) (nat_lit 0) != a2 then false else bif a1 == (5 : Int) then true else true
noncomputable def g_Vi_atIn_1 (a0 : List (ByteArray × (List Int))) (a1 : Int) (a2 : Int) (a3 : Int) (a4 : Int) (a5 : Int) (a6 : Int) (a7 : Int) : List ByteArray := bif a1 == (1 : Int) then bif !g_Vi_StoStore_get_0 a0 (g_Vi_named_0 (lit [(115 : Nat)]) a3) then [g_Vi_named_0 (lit [(115 : Nat)]) a3] else [g_Vi_named_0 (lit [(115 : Nat)]) a3] else bif g_Vi_StoStore_get_0 a0 (g_Vi_named_0 (lit [(115 : Nat)]) a3) then [g_Vi_named_0 (lit [(115 : Nat)]) a3] else bif at_ (Ty.int IntKind.i64) (g_Vi_StoStore_get_1 a0 (g_Vi_named_0 (lit [(115 : Nat)]) a3)) (nat_lit 0) != a2 then [g_Vi_named_0 (lit [(115 : Nat)]) a3] else bif a1 == (5 : Int) then [g_Vi_named_0 (lit [(115 : Nat)]) a3] else [g_Vi_named_0 (lit [(115 : Nat)]) a3]
noncomputable def g_Vi_atIn_2 (a0 : List (ByteArray × (List Int))) (a1 : Int) (a2 : Int) (a3 : Int) (a4 : Int) (a5 : Int) (a6 : Int) (a7 : Int) : List (ByteArray × (Bool × (List Int))) := bif a1 == (1 : Int) then bif !g_Vi_StoStore_get_0 a0 (g_Vi_named_0 (lit [(115 : Nat)]) a3) then g_Vi_refused_0 [g_Vi_named_0 (lit [(115 : Nat)]) a3] else [(g_Vi_named_0 (lit [(115 : Nat)]) a3, false, [a2])] else bif g_Vi_StoStore_get_0 a0 (g_Vi_named_0 (lit [(115 : Nat)]) a3) then g_Vi_refused_0 [g_Vi_named_0 (lit [(115 : Nat)]) a3] else bif at_ (Ty.int IntKind.i64) (g_Vi_StoStore_get_1 a0 (g_Vi_named_0 (lit [(115 : Nat)]) a3)) (nat_lit 0) != a2 then g_Vi_refused_0 [g_Vi_named_0 (lit [(115 : Nat)]) a3] else bif a1 == (5 : Int) then [(g_Vi_named_0 (lit [(115 : Nat)]) a3, true, [])] else []
noncomputable def Fi_atIn : FSem := fun ys => match ys with
 | [.val true [.sl .any 42 (.pair .str (.sl 3 (.int .i64))) a0], .val true [.int .i64 a1, .int .i64 a2, .int .i64 a3, .int .i64 a4, .int .i64 a5, .int .i64 a6, .int .i64 a7]] => some ((g_Ai_atIn a0 a1 a2 a3 a4 a5 a6 a7), .val true [.bool (g_Vi_atIn_0 a0 a1 a2 a3 a4 a5 a6 a7), .own .any true 9 .str (g_Vi_atIn_1 a0 a1 a2 a3 a4 a5 a6 a7), .own .any true 76 (.pair .str (.pair .bool (.sl 3 (.int .i64)))) (g_Vi_atIn_2 a0 a1 a2 a3 a4 a5 a6 a7)], [])
 | _ => none
theorem vi_atIn (a0 : List (ByteArray × (List Int))) (a1 : Int) (a2 : Int) (a3 : Int) (a4 : Int) (a5 : Int) (a6 : Int) (a7 : Int) : collapseH .std Ei_atIn Oi_atIn_0 (execFn Ei_atIn Tryd.f60 msi_atIn [.val true [.sl .any 42 (.pair .str (.sl 3 (.int .i64))) a0], .val true [.int .i64 a1, .int .i64 a2, .int .i64 a3, .int .i64 a4, .int .i64 a5, .int .i64 a6, .int .i64 a7]]) = some ((g_Ai_atIn a0 a1 a2 a3 a4 a5 a6 a7), .val true [.bool (g_Vi_atIn_0 a0 a1 a2 a3 a4 a5 a6 a7), .own .any true 9 .str (g_Vi_atIn_1 a0 a1 a2 a3 a4 a5 a6 a7), .own .any true 76 (.pair .str (.pair .bool (.sl 3 (.int .i64)))) (g_Vi_atIn_2 a0 a1 a2 a3 a4 a5 a6 a7)], []) := by kernel_rfl
theorem si_atIn : Sound Tryd.prog 60 msi_atIn Fi_atIn := by
 refine fn_gen goodi_atIn (by kernel_rfl) .std (fn := Tryd.f60) (c := (Tryd.f60.body.getD .skip)) (o := Oi_atIn_0) (k := 0) (by kernel_rfl) (by kernel_rfl) (by kernel_rfl) (by kernel_rfl) (by decide) ki_atIn_0 ?_
 intro ys r outs h
 unfold Fi_atIn at h
 split at h
 ·exact (vi_atIn _ _ _ _ _ _ _ _).trans h
 ·cases h
noncomputable def Ei_SecSum : Env where
 tt := mkTI Tryd.prog
 fn := fun f => match f with
  | 56 => some (msi_in, FSem.wk msi_in Fi_in)
  | _ => none
 bxf := fun _ => none
 mv := []
 keep := fun _ => []
 keepB := fun _ => []
 keepX := fun _ => []
 keepXB := fun _ => []
theorem goodFi_SecSum : ∀ f ms F, Ei_SecSum.fn f = some (ms, F) → Sound Tryd.prog f ms F := fun f ms F h => by
 unfold Ei_SecSum at h
 dsimp only at h
 split at h
 ·injection h with h; injection h with e1 e2; subst e1 e2; exact Sound.wk si_in
 ·cases h
theorem goodBi_SecSum : ∀ f ms F, Ei_SecSum.bxf f = some (ms, F) → SoundB Tryd.prog f ms F := fun f ms F h => by cases h
theorem goodi_SecSum : Good Tryd.prog Ei_SecSum := ⟨rfl, goodFi_SecSum, goodBi_SecSum⟩
noncomputable def Oi_SecSum_0 : Orc := fun _ _ => none
noncomputable def msi_SecSum : List PM := [.own]
noncomputable def lsi_SecSum : List (Nat × Code) := loopsAll 0 (Tryd.f96.body.getD .skip)
theorem ki_SecSum_0 : OrcOk Ei_SecSum Oi_SecSum_0 lsi_SecSum 0 := orcOk_none
noncomputable def g_Ai_SecSum (a0 : Int) : Bool := g_Ai_in a0 (0 : Int) (99 : Int) && (!g_Vi_in_0 a0 (0 : Int) (99 : Int) || true)
noncomputable def g_Vi_SecSum_0 (a0 : Int) : Int := bif !g_Vi_in_0 a0 (0 : Int) (99 : Int) then (-1 : Int) else Int.tmod (IntKind.wrap IntKind.i64 (IntKind.wrap IntKind.i64 ((7919 : Int) * a0) + (104 : Int))) (9973 : Int)
noncomputable def Fi_SecSum : FSem := fun ys => match ys with
 | [.val false [.int .i64 a0]] => some ((g_Ai_SecSum a0), .val false [.int .i64 (g_Vi_SecSum_0 a0)], [])
 | _ => none
theorem vi_SecSum (a0 : Int) : collapseH .std Ei_SecSum Oi_SecSum_0 (execFn Ei_SecSum Tryd.f96 msi_SecSum [.val false [.int .i64 a0]]) = some ((g_Ai_SecSum a0), .val false [.int .i64 (g_Vi_SecSum_0 a0)], []) := by kernel_rfl
theorem si_SecSum : Sound Tryd.prog 96 msi_SecSum Fi_SecSum := by
 refine fn_gen goodi_SecSum (by kernel_rfl) .std (fn := Tryd.f96) (c := (Tryd.f96.body.getD .skip)) (o := Oi_SecSum_0) (k := 0) (by kernel_rfl) (by kernel_rfl) (by kernel_rfl) (by kernel_rfl) (by decide) ki_SecSum_0 ?_
 intro ys r outs h
 unfold Fi_SecSum at h
 split at h
 ·exact (vi_SecSum _).trans h
 ·cases h
noncomputable def Ei_next : Env where
 tt := mkTI Tryd.prog
 fn := fun f => match f with
  | 40 => some (msi_StoStore_get, FSem.wk msi_StoStore_get Fi_StoStore_get)
  | 56 => some (msi_in, FSem.wk msi_in Fi_in)
  | 62 => some (msi_named, FSem.wk msi_named Fi_named)
  | 63 => some (msi_refused, FSem.wk msi_refused Fi_refused)
  | 64 => some (msi_done, FSem.wk msi_done Fi_done)
  | 65 => some (msi_set, FSem.wk msi_set Fi_set)
  | _ => none
 bxf := fun _ => none
 mv := []
 keep := fun _ => []
 keepB := fun _ => []
 keepX := fun _ => []
 keepXB := fun _ => []
theorem goodFi_next : ∀ f ms F, Ei_next.fn f = some (ms, F) → Sound Tryd.prog f ms F := fun f ms F h => by
 unfold Ei_next at h
 dsimp only at h
 split at h
 ·injection h with h; injection h with e1 e2; subst e1 e2; exact Sound.wk si_StoStore_get
 ·injection h with h; injection h with e1 e2; subst e1 e2; exact Sound.wk si_in
 ·injection h with h; injection h with e1 e2; subst e1 e2; exact Sound.wk si_named
 ·injection h with h; injection h with e1 e2; subst e1 e2; exact Sound.wk si_refused
 ·injection h with h; injection h with e1 e2; subst e1 e2; exact Sound.wk si_done
 ·injection h with h; injection h with e1 e2; subst e1 e2; exact Sound.wk si_set
 ·cases h
theorem goodBi_next : ∀ f ms F, Ei_next.bxf f = some (ms, F) → SoundB Tryd.prog f ms F := fun f ms F h => by cases h
theorem goodi_next : Good Tryd.prog Ei_next := ⟨rfl, goodFi_next, goodBi_next⟩
noncomputable def Oi_next_0 : Orc := fun _ _ => none
noncomputable def msi_next : List PM := [.rd, .own]
noncomputable def lsi_next : List (Nat × Code) := loopsAll 0 (Tryd.f94.body.getD .skip)
theorem ki_next_0 : OrcOk Ei_next Oi_next_0 lsi_next 0 := orcOk_none
noncomputable def g_Ai_next (a0 : List (ByteArray × (List Int))) (a1 : Int) (a2 : Int) (a3 : Int) (a4 : Int) (a5 : Int) (a6 : Int) (a7 : Int) : Bool := g_Ai_named (lit [(102 : Nat)]) a6 && (g_Ai_StoStore_get a0 (g_Vi_named_0 (lit [(102 : Nat)]) a6) && bif g_Vi_StoStore_get_0 a0 (g_Vi_named_0 (lit [(102 : Nat)]) a6) then true else decide ((0 : Int) ≤ (2 : Int) ∧ (2 : Int) < (↑(List.length (g_Vi_StoStore_get_1 a0 (g_Vi_named_0 (lit [(102 : Nat)]) a6))) : Int)) && (decide (nat_lit 2 < List.length (g_Vi_StoStore_get_1 a0 (g_Vi_named_0 (lit [(102 : Nat)]) a6))) && bif at_ (Ty.int IntKind.i64) (g_Vi_StoStore_get_1 a0 (g_Vi_named_0 (lit [(102 : Nat)]) a6)) (nat_lit 2) == (0 : Int) then true else decide ((0 : Int) ≤ (1 : Int) ∧ (1 : Int) < (↑(List.length (g_Vi_StoStore_get_1 a0 (g_Vi_named_0 (lit [(102 : Nat)]) a6))) : Int)) && (decide (nat_lit 1 < List.length (g_Vi_StoStore_get_1 a0 (g_Vi_named_0 (lit [(102 : Nat)]) a6))) && (g_Ai_in a7 (1 : Int) (at_ (Ty.int IntKind.i64) (g_Vi_StoStore_get_1 a0 (g_Vi_named_0 (lit [(102 : Nat)]) a6)) (nat_lit 1)) && bif !g_Vi_in_0 a7 (1 : Int) (at_ (Ty.int IntKind.i64) (g_Vi_StoStore_get_1 a0 (g_Vi_named_0 (lit [(102 : Nat)]) a6)) (nat_lit 1)) then true else decide ((0 : Int) ≤ (1 : Int) ∧ (1 : Int) < (↑(List.length (g_Vi_StoStore_get_1 a0 (g_Vi_named_0 (lit [(102 : Nat)]) a6))) : Int)) && (decide (nat_lit 1 < List.length (g_Vi_StoStore_get_1 a0 (g_Vi_named_0 (lit [(102 : Nat)]) a6))) && bif at_ (Ty.int IntKind.i64) (g_Vi_StoStore_get_1 a0 (g_Vi_named_0 (lit [(102 : Nat)]) a6)) (nat_lit 1) == (99 : Int) then true else decide ((0 : Int) ≤ (0 : Int) ∧ (0 : Int) < (↑(List.length (g_Vi_StoStore_get_1 a0 (g_Vi_named_0 (lit [(102 : Nat)]) a6))) : Int)) && (decide (nat_lit 0 < List.length (g_Vi_StoStore_get_1 a0 (g_Vi_named_0 (lit [(102 : Nat)]) a6))) && (decide ((0 : Int) ≤ (1 : Int) ∧ (1 : Int) < (↑(List.length (g_Vi_StoStore_get_1 a0 (g_Vi_named_0 (lit [(102 : Nat)]) a6))) : Int)) && (decide (nat_lit 1 < List.length (g_Vi_StoStore_get_1 a0 (g_Vi_named_0 (lit [(102 : Nat)]) a6))) && (decide ((0 : Int) ≤ (1 : Int) ∧ (1 : Int) < (↑(List.length (g_Vi_StoStore_get_1 a0 (g_Vi_named_0 (lit [(102 : Nat)]) a6))) : Int)) && (decide (nat_lit 1 < List.length (g_Vi_StoStore_get_1 a0 (g_Vi_named_0 (lit [(102 : Nat)]) a6))) && bif decide (a7 < at_ (Ty.int IntKind.i64) (g_Vi_StoStore_get_1 a0 (g_Vi_named_0 (lit [(102 : Nat)]) a6)) (nat_lit 1)) then decide ((0 : Int) ≤ (0 : Int) ∧ (0 : Int) < (↑(List.length (g_Vi_StoStore_get_1 a0 (g_Vi_named_0 (lit [(102 : Nat)]) a6))) : Int)) && (decide (nat_lit 0 < List.length (g_Vi_StoStore_get_1 a0 (g_Vi_named_0 (lit [(102 : Nat)]) a6))) && (decide ((0 : Int) ≤ (1 : Int) ∧ (1 : Int) < (↑(List.length (g_Vi_StoStore_get_1 a0 (g_Vi_named_0 (lit [(102 : Nat)]) a6))) : Int)) && (decide (nat_lit 1 < List.length (g_Vi_StoStore_get_1 a0 (g_Vi_named_0 (lit [(102 : Nat)]) a6))) && (decide ((0 : Int) ≤ (0 : Int) ∧ (0 : Int) < (↑(List.length (g_Vi_StoStore_get_1 a0 (g_Vi_named_0 (lit [(102 : Nat)]) a6))) : Int)) && (decide (nat_lit 0 < List.length (g_Vi_StoStore_get_1 a0 (g_Vi_named_0 (lit [(102 : Nat)]) a6))) && (g_Ai_named (lit [(117 : Nat)]) (at_ (Ty.int IntKind.i64) (g_Vi_StoStore_get_1 a0 (g_Vi_named_0 (lit [(102 : Nat)]) a6)) (nat_lit 0)) && true)))))) else decide ((0 : Int) ≤ (0 : Int) ∧ (0 : Int) < (↑(List.length (g_Vi_StoStore_get_1 a0 (g_Vi_named_0 (lit [(102 : Nat)]) a6))) : Int)) && (decide (nat_lit 0 < List.length (g_Vi_StoStore_get_1 a0 (g_Vi_named_0 (lit [(102 : Nat)]) a6))) && (g_Ai_named (lit [(117 : Nat)]) (at_ (Ty.int IntKind.i64) (g_Vi_StoStore_get_1 a0 (g_Vi_named_0 (lit [(102 : Nat)]) a6)) (nat_lit 0)) && true))))))))))))
noncomputable def g_Vi_next_0 (a0 : List (ByteArray × (List Int))) (a1 : Int) (a2 : Int) (a3 : Int) (a4 : Int) (a5 : Int) (a6 : Int) (a7 : Int) : Bool := bif g_Vi_StoStore_get_0 a0 (g_Vi_named_0 (lit [(102 : Nat)]) a6) then false else bif at_ (Ty.int IntKind.i64) (g_Vi_StoStore_get_1 a0 (g_Vi_named_0 (lit [(102 : Nat)]) a6)) (nat_lit 2) == (0 : Int) then false else bif !g_Vi_in_0 a7 (1 : Int) (at_ (Ty.int IntKind.i64) (g_Vi_StoStore_get_1 a0 (g_Vi_named_0 (lit [(102 : Nat)]) a6)) (nat_lit 1)) then false else bif at_ (Ty.int IntKind.i64) (g_Vi_StoStore_get_1 a0 (g_Vi_named_0 (lit [(102 : Nat)]) a6)) (nat_lit 1) == (99 : Int) then false else bif decide (a7 < at_ (Ty.int IntKind.i64) (g_Vi_StoStore_get_1 a0 (g_Vi_named_0 (lit [(102 : Nat)]) a6)) (nat_lit 1)) then true else true
noncomputable def g_Vi_next_1 (a0 : List (ByteArray × (List Int))) (a1 : Int) (a2 : Int) (a3 : Int) (a4 : Int) (a5 : Int) (a6 : Int) (a7 : Int) : List ByteArray := bif g_Vi_StoStore_get_0 a0 (g_Vi_named_0 (lit [(102 : Nat)]) a6) then [g_Vi_named_0 (lit [(102 : Nat)]) a6] else bif at_ (Ty.int IntKind.i64) (g_Vi_StoStore_get_1 a0 (g_Vi_named_0 (lit [(102 : Nat)]) a6)) (nat_lit 2) == (0 : Int) then [g_Vi_named_0 (lit [(102 : Nat)]) a6] else bif !g_Vi_in_0 a7 (1 : Int) (at_ (Ty.int IntKind.i64) (g_Vi_StoStore_get_1 a0 (g_Vi_named_0 (lit [(102 : Nat)]) a6)) (nat_lit 1)) then [g_Vi_named_0 (lit [(102 : Nat)]) a6] else bif at_ (Ty.int IntKind.i64) (g_Vi_StoStore_get_1 a0 (g_Vi_named_0 (lit [(102 : Nat)]) a6)) (nat_lit 1) == (99 : Int) then [g_Vi_named_0 (lit [(102 : Nat)]) a6] else bif decide (a7 < at_ (Ty.int IntKind.i64) (g_Vi_StoStore_get_1 a0 (g_Vi_named_0 (lit [(102 : Nat)]) a6)) (nat_lit 1)) then [g_Vi_named_0 (lit [(102 : Nat)]) a6, g_Vi_named_0 (lit [(117 : Nat)]) (at_ (Ty.int IntKind.i64) (g_Vi_StoStore_get_1 a0 (g_Vi_named_0 (lit [(102 : Nat)]) a6)) (nat_lit 0))] else [g_Vi_named_0 (lit [(102 : Nat)]) a6, g_Vi_named_0 (lit [(117 : Nat)]) (at_ (Ty.int IntKind.i64) (g_Vi_StoStore_get_1 a0 (g_Vi_named_0 (lit [(102 : Nat)]) a6)) (nat_lit 0))]
noncomputable def g_Vi_next_2 (a0 : List (ByteArray × (List Int))) (a1 : Int) (a2 : Int) (a3 : Int) (a4 : Int) (a5 : Int) (a6 : Int) (a7 : Int) : List (ByteArray × (Bool × (List Int))) := bif g_Vi_StoStore_get_0 a0 (g_Vi_named_0 (lit [(102 : Nat)]) a6) then g_Vi_refused_0 [g_Vi_named_0 (lit [(102 : Nat)]) a6] else bif at_ (Ty.int IntKind.i64) (g_Vi_StoStore_get_1 a0 (g_Vi_named_0 (lit [(102 : Nat)]) a6)) (nat_lit 2) == (0 : Int) then g_Vi_refused_0 [g_Vi_named_0 (lit [(102 : Nat)]) a6] else bif !g_Vi_in_0 a7 (1 : Int) (at_ (Ty.int IntKind.i64) (g_Vi_StoStore_get_1 a0 (g_Vi_named_0 (lit [(102 : Nat)]) a6)) (nat_lit 1)) then g_Vi_refused_0 [g_Vi_named_0 (lit [(102 : Nat)]) a6] else bif at_ (Ty.int IntKind.i64) (g_Vi_StoStore_get_1 a0 (g_Vi_named_0 (lit [(102 : Nat)]) a6)) (nat_lit 1) == (99 : Int) then g_Vi_refused_0 [g_Vi_named_0 (lit [(102 : Nat)]) a6] else bif decide (a7 < at_ (Ty.int IntKind.i64) (g_Vi_StoStore_get_1 a0 (g_Vi_named_0 (lit [(102 : Nat)]) a6)) (nat_lit 1)) then [(g_Vi_named_0 (lit [(102 : Nat)]) a6, false, [at_ (Ty.int IntKind.i64) (g_Vi_StoStore_get_1 a0 (g_Vi_named_0 (lit [(102 : Nat)]) a6)) (nat_lit 0), at_ (Ty.int IntKind.i64) (g_Vi_StoStore_get_1 a0 (g_Vi_named_0 (lit [(102 : Nat)]) a6)) (nat_lit 1), (0 : Int)])] else [(g_Vi_named_0 (lit [(102 : Nat)]) a6, false, [at_ (Ty.int IntKind.i64) (g_Vi_StoStore_get_1 a0 (g_Vi_named_0 (lit [(102 : Nat)]) a6)) (nat_lit 0), IntKind.wrap IntKind.i64 (at_ (Ty.int IntKind.i64) (g_Vi_StoStore_get_1 a0 (g_Vi_named_0 (lit [(102 : Nat)]) a6)) (nat_lit 1) + (1 : Int)), (1 : Int)])]
noncomputable def Fi_next : FSem := fun ys => match ys with
 | [.val true [.sl .any 42 (.pair .str (.sl 3 (.int .i64))) a0], .val true [.int .i64 a1, .int .i64 a2, .int .i64 a3, .int .i64 a4, .int .i64 a5, .int .i64 a6, .int .i64 a7]] => some ((g_Ai_next a0 a1 a2 a3 a4 a5 a6 a7), .val true [.bool (g_Vi_next_0 a0 a1 a2 a3 a4 a5 a6 a7), .own .any true 9 .str (g_Vi_next_1 a0 a1 a2 a3 a4 a5 a6 a7), .own .any true 76 (.pair .str (.pair .bool (.sl 3 (.int .i64)))) (g_Vi_next_2 a0 a1 a2 a3 a4 a5 a6 a7)], [])
 | _ => none
theorem vi_next (a0 : List (ByteArray × (List Int))) (a1 : Int) (a2 : Int) (a3 : Int) (a4 : Int) (a5 : Int) (a6 : Int) (a7 : Int) : collapseH .std Ei_next Oi_next_0 (execFn Ei_next Tryd.f94 msi_next [.val true [.sl .any 42 (.pair .str (.sl 3 (.int .i64))) a0], .val true [.int .i64 a1, .int .i64 a2, .int .i64 a3, .int .i64 a4, .int .i64 a5, .int .i64 a6, .int .i64 a7]]) = some ((g_Ai_next a0 a1 a2 a3 a4 a5 a6 a7), .val true [.bool (g_Vi_next_0 a0 a1 a2 a3 a4 a5 a6 a7), .own .any true 9 .str (g_Vi_next_1 a0 a1 a2 a3 a4 a5 a6 a7), .own .any true 76 (.pair .str (.pair .bool (.sl 3 (.int .i64)))) (g_Vi_next_2 a0 a1 a2 a3 a4 a5 a6 a7)], []) := by kernel_rfl
theorem si_next : Sound Tryd.prog 94 msi_next Fi_next := by
 refine fn_gen goodi_next (by kernel_rfl) .std (fn := Tryd.f94) (c := (Tryd.f94.body.getD .skip)) (o := Oi_next_0) (k := 0) (by kernel_rfl) (by kernel_rfl) (by kernel_rfl) (by kernel_rfl) (by decide) ki_next_0 ?_
 intro ys r outs h
 unfold Fi_next at h
 split at h
 ·exact (vi_next _ _ _ _ _ _ _ _).trans h
 ·cases h
noncomputable def Ei_out : Env where
 tt := mkTI Tryd.prog
 fn := fun f => match f with
  | 62 => some (msi_named, FSem.wk msi_named Fi_named)
  | 64 => some (msi_done, FSem.wk msi_done Fi_done)
  | 65 => some (msi_set, FSem.wk msi_set Fi_set)
  | _ => none
 bxf := fun _ => none
 mv := []
 keep := fun b => match b with
  | 0 => [(3, false), (4, false), (5, false), (14, false), (15, false), (16, false)]
  | _ => []
 keepB := fun b => match b with
  | 0 => [(3, false), (4, false), (5, false)]
  | _ => []
 keepX := fun b => match b with
  | 0 => [(4, false), (5, false)]
  | _ => []
 keepXB := fun b => match b with
  | 0 => [(4, false), (5, false)]
  | _ => []
theorem goodFi_out : ∀ f ms F, Ei_out.fn f = some (ms, F) → Sound Tryd.prog f ms F := fun f ms F h => by
 unfold Ei_out at h
 dsimp only at h
 split at h
 ·injection h with h; injection h with e1 e2; subst e1 e2; exact Sound.wk si_named
 ·injection h with h; injection h with e1 e2; subst e1 e2; exact Sound.wk si_done
 ·injection h with h; injection h with e1 e2; subst e1 e2; exact Sound.wk si_set
 ·cases h
theorem goodBi_out : ∀ f ms F, Ei_out.bxf f = some (ms, F) → SoundB Tryd.prog f ms F := fun f ms F h => by cases h
theorem goodi_out : Good Tryd.prog Ei_out := ⟨rfl, goodFi_out, goodBi_out⟩
noncomputable def Oi_out_0 : Orc := fun _ _ => none
noncomputable def msi_out : List PM := [.rd, .own]
noncomputable def lsi_out : List (Nat × Code) := loopsAll 0 (Tryd.f95.body.getD .skip)
noncomputable def ci_out_0 : Code := (loopOf 0 (Tryd.f95.body.getD .skip)).getD .skip
theorem lseqi_out : lsi_out = [(0, ci_out_0)] := by kernel_rfl
theorem mi_out_0 : ∀ p, p ∈ lsi_out → p.1 = 0 → p.2 = ci_out_0 := by
 intro p hp
 rw [lseqi_out] at hp
 simp only [List.mem_cons, List.not_mem_nil, or_false] at hp
 subst hp; simp
theorem ki_out_0 : OrcOk Ei_out Oi_out_0 lsi_out 0 := orcOk_none
noncomputable def hi_out_0 (y0 : List (ByteArray × (List Int))) (y1 : Int) (y2 : Int) (y3 : Int) (y4 : Int) (y5 : Int) (y6 : Int) (y7 : Int) (y8 : Int) (y9 : Int) (y10 : Bool) (y11 : List ByteArray) (y12 : List (ByteArray × (Bool × (List Int)))) (y13 : Bool) (y14 : List ByteArray) (y15 : List (ByteArray × (Bool × (List Int)))) : List (Pl × LV) := [(.T 3, .t (.val false [.ptr 3 0 0])), (.T 4, .t (.val false [.ptr 4 0 0])), (.T 5, .t (.val false [.ptr 5 0 0])), (.T 14, .t (.val false [.sl .any 42 (.pair .str (.sl 3 (.int .i64))) y0])), (.T 15, .t (.val false [.int .i64 y1])), (.T 16, .t (.val false [.int .i64 y2])), (.B 3, .b 0 false [.int .i64 y3, .int .i64 y4, .int .i64 y5, .int .i64 y6, .int .i64 y7, .int .i64 y8, .int .i64 y9]), (.B 4, .b 0 false [.bool y10, .row 4 3 0, .row 4 5 0]), (.R 4 3, .r 0 (some ⟨false, .any, true, 9, .str, y11⟩)), (.R 4 5, .r 0 (some ⟨false, .any, true, 76, (.pair .str (.pair .bool (.sl 3 (.int .i64)))), y12⟩)), (.B 5, .b 0 false [.bool y13, .row 5 3 0, .row 5 5 0]), (.R 5 3, .r 0 (some ⟨false, .any, true, 9, .str, y14⟩)), (.R 5 5, .r 0 (some ⟨false, .any, true, 76, (.pair .str (.pair .bool (.sl 3 (.int .i64)))), y15⟩))]
noncomputable def g_Si_out_0 (y0 : List (ByteArray × (List Int))) (y1 : Int) (y3 : Int) (y4 : Int) (y5 : Int) (y6 : Int) (y7 : Int) (y8 : Int) (y9 : Int) (y10 : Bool) (y11 : List ByteArray) (y12 : List (ByteArray × (Bool × (List Int)))) (y13 : Bool) : (Int × (List ByteArray) × (List (ByteArray × (Bool × (List Int))))) → RT (Int × (List ByteArray) × (List (ByteArray × (Bool × (List Int))))) (((List ByteArray) × (List (ByteArray × (Bool × (List Int))))))
 | (y2, y14, y15) => .br (true) (.br (decide (y2 < y1)) (.br (decide ((0 : Int) ≤ y2 ∧ y2 < (↑(List.length y0) : Int))) (.br (decide ((0 : Int) ≤ (0 : Int) ∧ (0 : Int) < (↑(ByteArray.size (at_ (Ty.pair Ty.str (Ty.sl (nat_lit 3) (Ty.int IntKind.i64))) y0 (Int.toNat y2)).1) : Int))) (.br (true) (.br (byteAt (at_ (Ty.pair Ty.str (Ty.sl (nat_lit 3) (Ty.int IntKind.i64))) y0 (Int.toNat y2)).1 (nat_lit 0) == (102 : Int)) (.br (decide ((0 : Int) ≤ (0 : Int) ∧ (0 : Int) < (↑(List.length (at_ (Ty.pair Ty.str (Ty.sl (nat_lit 3) (Ty.int IntKind.i64))) y0 (Int.toNat y2)).2) : Int))) (.br (true) (.br (at_ (Ty.int IntKind.i64) (at_ (Ty.pair Ty.str (Ty.sl (nat_lit 3) (Ty.int IntKind.i64))) y0 (Int.toNat y2)).2 (nat_lit 0) == y4) (.br (decide ((0 : Int) ≤ (2 : Int) ∧ (2 : Int) < (↑(List.length (at_ (Ty.pair Ty.str (Ty.sl (nat_lit 3) (Ty.int IntKind.i64))) y0 (Int.toNat y2)).2) : Int))) (.br (true) (.br (at_ (Ty.int IntKind.i64) (at_ (Ty.pair Ty.str (Ty.sl (nat_lit 3) (Ty.int IntKind.i64))) y0 (Int.toNat y2)).2 (nat_lit 2) == (1 : Int)) (.br (decide ((List.length y14 + List.length [(at_ (Ty.pair Ty.str (Ty.sl (nat_lit 3) (Ty.int IntKind.i64))) y0 (Int.toNat y2)).1]) * nat_lit 16 ≤ nat_lit 140737488355328 ∧ List.length y14 + List.length [(at_ (Ty.pair Ty.str (Ty.sl (nat_lit 3) (Ty.int IntKind.i64))) y0 (Int.toNat y2)).1] ≤ nat_lit 9223372036854775807)) (.br (decide ((0 : Int) ≤ (1 : Int) ∧ (1 : Int) < (↑(List.length (at_ (Ty.pair Ty.str (Ty.sl (nat_lit 3) (Ty.int IntKind.i64))) y0 (Int.toNat y2)).2) : Int))) (.br (true) (.br (decide ((List.length y15 + List.length [((at_ (Ty.pair Ty.str (Ty.sl (nat_lit 3) (Ty.int IntKind.i64))) y0 (Int.toNat y2)).1, false, [y4, at_ (Ty.int IntKind.i64) (at_ (Ty.pair Ty.str (Ty.sl (nat_lit 3) (Ty.int IntKind.i64))) y0 (Int.toNat y2)).2 (nat_lit 1), (0 : Int)])]) * nat_lit 48 ≤ nat_lit 140737488355328 ∧ List.length y15 + List.length [((at_ (Ty.pair Ty.str (Ty.sl (nat_lit 3) (Ty.int IntKind.i64))) y0 (Int.toNat y2)).1, false, [y4, at_ (Ty.int IntKind.i64) (at_ (Ty.pair Ty.str (Ty.sl (nat_lit 3) (Ty.int IntKind.i64))) y0 (Int.toNat y2)).2 (nat_lit 1), (0 : Int)])] ≤ nat_lit 9223372036854775807)) (.br (true) (.go ((IntKind.wrap IntKind.i64 (y2 + (1 : Int)), y14 ++ [(at_ (Ty.pair Ty.str (Ty.sl (nat_lit 3) (Ty.int IntKind.i64))) y0 (Int.toNat y2)).1], y15 ++ [((at_ (Ty.pair Ty.str (Ty.sl (nat_lit 3) (Ty.int IntKind.i64))) y0 (Int.toNat y2)).1, false, [y4, at_ (Ty.int IntKind.i64) (at_ (Ty.pair Ty.str (Ty.sl (nat_lit 3) (Ty.int IntKind.i64))) y0 (Int.toNat y2)).2 (nat_lit 1), (0 : Int)])]))) (.bad)) (.bad)) (.bad)) (.bad)) (.bad)) (.br (true) (.go ((IntKind.wrap IntKind.i64 (y2 + (1 : Int)), y14, y15))) (.bad))) (.bad)) (.bad)) (.br (true) (.go ((IntKind.wrap IntKind.i64 (y2 + (1 : Int)), y14, y15))) (.bad))) (.bad)) (.bad)) (.br (true) (.go ((IntKind.wrap IntKind.i64 (y2 + (1 : Int)), y14, y15))) (.bad))) (.bad)) (.bad)) (.bad)) (.out ((y14, y15)))) (.bad)
noncomputable def g_Li_out_0 (y0 : List (ByteArray × (List Int))) (y1 : Int) (y3 : Int) (y4 : Int) (y5 : Int) (y6 : Int) (y7 : Int) (y8 : Int) (y9 : Int) (y10 : Bool) (y11 : List ByteArray) (y12 : List (ByteArray × (Bool × (List Int)))) (y13 : Bool) (x : Int × (List ByteArray) × (List (ByteArray × (Bool × (List Int))))) : Option (((List ByteArray) × (List (ByteArray × (Bool × (List Int)))))) := loopO (g_Si_out_0 y0 y1 y3 y4 y5 y6 y7 y8 y9 y10 y11 y12 y13) x
noncomputable def xi_out_0 (y0 : List (ByteArray × (List Int))) (y1 : Int) (y3 : Int) (y4 : Int) (y5 : Int) (y6 : Int) (y7 : Int) (y8 : Int) (y9 : Int) (y10 : Bool) (y11 : List ByteArray) (y12 : List (ByteArray × (Bool × (List Int)))) (y13 : Bool) : (((List ByteArray) × (List (ByteArray × (Bool × (List Int)))))) → Ex × List (Pl × LV) := fun r => (.exit 0, [(.T 4, .t (.val false [.ptr 4 0 0])), (.T 5, .t (.val false [.ptr 5 0 0])), (.B 4, .b 0 false [.bool y10, .row 4 3 0, .row 4 5 0]), (.R 4 3, .r 0 (some ⟨false, .any, true, 9, .str, y11⟩)), (.R 4 5, .r 0 (some ⟨false, .any, true, 76, (.pair .str (.pair .bool (.sl 3 (.int .i64)))), y12⟩)), (.B 5, .b 0 false [.bool y13, .row 5 3 0, .row 5 5 0]), (.R 5 3, .r 0 (some ⟨false, .any, true, 9, .str, r.1⟩)), (.R 5 5, .r 0 (some ⟨false, .any, true, 76, (.pair .str (.pair .bool (.sl 3 (.int .i64)))), r.2⟩))])
noncomputable def Oi_out_1 : Orc := fun b h => match b, h with
 | 0, [(.T 3, .t (.val false [.ptr 3 0 0])), (.T 4, .t (.val false [.ptr 4 0 0])), (.T 5, .t (.val false [.ptr 5 0 0])), (.T 14, .t (.val false [.sl .any 42 (.pair .str (.sl 3 (.int .i64))) y0])), (.T 15, .t (.val false [.int .i64 y1])), (.T 16, .t (.val false [.int .i64 y2])), (.B 3, .b 0 false [.int .i64 y3, .int .i64 y4, .int .i64 y5, .int .i64 y6, .int .i64 y7, .int .i64 y8, .int .i64 y9]), (.B 4, .b 0 false [.bool y10, .row 4 3 0, .row 4 5 0]), (.R 4 3, .r 0 (some ⟨false, .any, true, 9, .str, y11⟩)), (.R 4 5, .r 0 (some ⟨false, .any, true, 76, (.pair .str (.pair .bool (.sl 3 (.int .i64)))), y12⟩)), (.B 5, .b 0 false [.bool y13, .row 5 3 0, .row 5 5 0]), (.R 5 3, .r 0 (some ⟨false, .any, true, 9, .str, y14⟩)), (.R 5 5, .r 0 (some ⟨false, .any, true, 76, (.pair .str (.pair .bool (.sl 3 (.int .i64)))), y15⟩))] => some (okO (g_Li_out_0 y0 y1 y3 y4 y5 y6 y7 y8 y9 y10 y11 y12 y13 (y2, y14, y15)), (.leaf (.exit 0) [(.T 4, .t (.val false [.ptr 4 0 0])), (.T 5, .t (.val false [.ptr 5 0 0])), (.B 4, .b 0 false [.bool y10, .row 4 3 0, .row 4 5 0]), (.R 4 3, .r 0 (some ⟨false, .any, true, 9, .str, y11⟩)), (.R 4 5, .r 0 (some ⟨false, .any, true, 76, (.pair .str (.pair .bool (.sl 3 (.int .i64)))), y12⟩)), (.B 5, .b 0 false [.bool y13, .row 5 3 0, .row 5 5 0]), (.R 5 3, .r 0 (some ⟨false, .any, true, 9, .str, (valO (g_Li_out_0 y0 y1 y3 y4 y5 y6 y7 y8 y9 y10 y11 y12 y13 (y2, y14, y15))).1⟩)), (.R 5 5, .r 0 (some ⟨false, .any, true, 76, (.pair .str (.pair .bool (.sl 3 (.int .i64)))), (valO (g_Li_out_0 y0 y1 y3 y4 y5 y6 y7 y8 y9 y10 y11 y12 y13 (y2, y14, y15))).2⟩))]))
 | b, h => Oi_out_0 b h
theorem bi_out_0 (y0 : List (ByteArray × (List Int))) (y1 : Int) (y2 : Int) (y3 : Int) (y4 : Int) (y5 : Int) (y6 : Int) (y7 : Int) (y8 : Int) (y9 : Int) (y10 : Bool) (y11 : List ByteArray) (y12 : List (ByteArray × (Bool × (List Int)))) (y13 : Bool) (y14 : List ByteArray) (y15 : List (ByteArray × (Bool × (List Int)))) : Tr.bt Ei_out Oi_out_0 (exec Ei_out 0 ci_out_0 (St.of (hi_out_0 y0 y1 y2 y3 y4 y5 y6 y7 y8 y9 y10 y11 y12 y13 y14 y15)) (leafRd Ei_out 0)) = (g_Si_out_0 y0 y1 y3 y4 y5 y6 y7 y8 y9 y10 y11 y12 y13 (y2, y14, y15)).bt (fun ((y2, y14, y15) : Int × (List ByteArray) × (List (ByteArray × (Bool × (List Int))))) => (hi_out_0 y0 y1 y2 y3 y4 y5 y6 y7 y8 y9 y10 y11 y12 y13 y14 y15)) (xi_out_0 y0 y1 y3 y4 y5 y6 y7 y8 y9 y10 y11 y12 y13) := by kernel_rfl
theorem ki_out_1 : OrcOk Ei_out Oi_out_1 lsi_out 1 := orc_add ki_out_0 (fun n p hp h ex h' ho => by
 obtain ⟨b, c⟩ := p
 obtain ⟨xt, h1, h2⟩ := ho
 have h1 : Oi_out_1 b h = some (true, xt) := h1
 unfold Oi_out_1 at h1
 split at h1
 ·injection h1 with h1
  injection h1 with e1 e2
  subst e2
  have hc : c = ci_out_0 := mi_out_0 _ hp rfl
  subst hc
  right
  rename_i y0 y1 y2 y3 y4 y5 y6 y7 y8 y9 y10 y11 y12 y13 y14 y15
  have key := LT_step ki_out_0 hp (fun q hq => loopsAll_in _ _ _ _ hp hq) (fun ((y2, y14, y15) : Int × (List ByteArray) × (List (ByteArray × (Bool × (List Int))))) => (hi_out_0 y0 y1 y2 y3 y4 y5 y6 y7 y8 y9 y10 y11 y12 y13 y14 y15)) (xi_out_0 y0 y1 y3 y4 y5 y6 y7 y8 y9 y10 y11 y12 y13) (g_Si_out_0 y0 y1 y3 y4 y5 y6 y7 y8 y9 y10 y11 y12 y13) (fun x => by first | exact bi_out_0 y0 y1 x.1 y3 y4 y5 y6 y7 y8 y9 y10 y11 y12 y13 x.2.1 x.2.2) n (x := (y2, y14, y15)) (okO_some e1)
  have hx : ∀ r, XT.sel (.leaf (.exit 0) [(.T 4, .t (.val false [.ptr 4 0 0])), (.T 5, .t (.val false [.ptr 5 0 0])), (.B 4, .b 0 false [.bool y10, .row 4 3 0, .row 4 5 0]), (.R 4 3, .r 0 (some ⟨false, .any, true, 9, .str, y11⟩)), (.R 4 5, .r 0 (some ⟨false, .any, true, 76, (.pair .str (.pair .bool (.sl 3 (.int .i64)))), y12⟩)), (.B 5, .b 0 false [.bool y13, .row 5 3 0, .row 5 5 0]), (.R 5 3, .r 0 (some ⟨false, .any, true, 9, .str, r.1⟩)), (.R 5 5, .r 0 (some ⟨false, .any, true, 76, (.pair .str (.pair .bool (.sl 3 (.int .i64)))), r.2⟩))]) = xi_out_0 y0 y1 y3 y4 y5 y6 y7 y8 y9 y10 y11 y12 y13 r := fun r => by first | rfl | (rcases r with r | r <;> rfl) | (rcases r with r | r | r <;> rfl) | (rcases r with r | r | r | r <;> rfl)
  have h3 := (hx (valO (g_Li_out_0 y0 y1 y3 y4 y5 y6 y7 y8 y9 y10 y11 y12 y13 (y2, y14, y15)))).symm.trans h2
  have e3 := congrArg Prod.fst h3
  have e4 := congrArg Prod.snd h3
  simp only at e3 e4
  rw [← e3, ← e4]
  exact key
 ·exact .inl ⟨xt, h1, h2⟩)
noncomputable def g_Ai_out (a0 : List (ByteArray × (List Int))) (a1 : Int) (a2 : Int) (a3 : Int) (a4 : Int) (a5 : Int) (a6 : Int) (a7 : Int) : Bool := g_Ai_named (lit [(117 : Nat)]) a2 && okO (g_Li_out_0 a0 (↑(List.length a0) : Int) a1 a2 a3 a4 a5 a6 a7 false [] [] true ((0 : Int), [g_Vi_named_0 (lit [(117 : Nat)]) a2], []))
noncomputable def g_Vi_out_0 (a0 : List (ByteArray × (List Int))) (a1 : Int) (a2 : Int) (a3 : Int) (a4 : Int) (a5 : Int) (a6 : Int) (a7 : Int) : List ByteArray := (valO (g_Li_out_0 a0 (↑(List.length a0) : Int) a1 a2 a3 a4 a5 a6 a7 false [] [] true ((0 : Int), [g_Vi_named_0 (lit [(117 : Nat)]) a2], []))).1
noncomputable def g_Vi_out_1 (a0 : List (ByteArray × (List Int))) (a1 : Int) (a2 : Int) (a3 : Int) (a4 : Int) (a5 : Int) (a6 : Int) (a7 : Int) : List (ByteArray × (Bool × (List Int))) := (valO (g_Li_out_0 a0 (↑(List.length a0) : Int) a1 a2 a3 a4 a5 a6 a7 false [] [] true ((0 : Int), [g_Vi_named_0 (lit [(117 : Nat)]) a2], []))).2
noncomputable def Fi_out : FSem := fun ys => match ys with
 | [.val true [.sl .any 42 (.pair .str (.sl 3 (.int .i64))) a0], .val true [.int .i64 a1, .int .i64 a2, .int .i64 a3, .int .i64 a4, .int .i64 a5, .int .i64 a6, .int .i64 a7]] => some ((g_Ai_out a0 a1 a2 a3 a4 a5 a6 a7), .val true [.bool true, .own .any true 9 .str (g_Vi_out_0 a0 a1 a2 a3 a4 a5 a6 a7), .own .any true 76 (.pair .str (.pair .bool (.sl 3 (.int .i64)))) (g_Vi_out_1 a0 a1 a2 a3 a4 a5 a6 a7)], [])
 | _ => none
theorem vi_out (a0 : List (ByteArray × (List Int))) (a1 : Int) (a2 : Int) (a3 : Int) (a4 : Int) (a5 : Int) (a6 : Int) (a7 : Int) : collapseH .std Ei_out Oi_out_1 (execFn Ei_out Tryd.f95 msi_out [.val true [.sl .any 42 (.pair .str (.sl 3 (.int .i64))) a0], .val true [.int .i64 a1, .int .i64 a2, .int .i64 a3, .int .i64 a4, .int .i64 a5, .int .i64 a6, .int .i64 a7]]) = some ((g_Ai_out a0 a1 a2 a3 a4 a5 a6 a7), .val true [.bool true, .own .any true 9 .str (g_Vi_out_0 a0 a1 a2 a3 a4 a5 a6 a7), .own .any true 76 (.pair .str (.pair .bool (.sl 3 (.int .i64)))) (g_Vi_out_1 a0 a1 a2 a3 a4 a5 a6 a7)], []) := by kernel_rfl
theorem si_out : Sound Tryd.prog 95 msi_out Fi_out := by
 refine fn_gen goodi_out (by kernel_rfl) .std (fn := Tryd.f95) (c := (Tryd.f95.body.getD .skip)) (o := Oi_out_1) (k := 1) (by kernel_rfl) (by kernel_rfl) (by kernel_rfl) (by kernel_rfl) (by decide) ki_out_1 ?_
 intro ys r outs h
 unfold Fi_out at h
 split at h
 ·exact (vi_out _ _ _ _ _ _ _ _).trans h
 ·cases h
noncomputable def Ei_trade : Env where
 tt := mkTI Tryd.prog
 fn := fun f => match f with
  | 40 => some (msi_StoStore_get, FSem.wk msi_StoStore_get Fi_StoStore_get)
  | 62 => some (msi_named, FSem.wk msi_named Fi_named)
  | 63 => some (msi_refused, FSem.wk msi_refused Fi_refused)
  | 64 => some (msi_done, FSem.wk msi_done Fi_done)
  | 65 => some (msi_set, FSem.wk msi_set Fi_set)
  | 96 => some (msi_SecSum, FSem.wk msi_SecSum Fi_SecSum)
  | _ => none
 bxf := fun _ => none
 mv := []
 keep := fun _ => []
 keepB := fun _ => []
 keepX := fun _ => []
 keepXB := fun _ => []
theorem goodFi_trade : ∀ f ms F, Ei_trade.fn f = some (ms, F) → Sound Tryd.prog f ms F := fun f ms F h => by
 unfold Ei_trade at h
 dsimp only at h
 split at h
 ·injection h with h; injection h with e1 e2; subst e1 e2; exact Sound.wk si_StoStore_get
 ·injection h with h; injection h with e1 e2; subst e1 e2; exact Sound.wk si_named
 ·injection h with h; injection h with e1 e2; subst e1 e2; exact Sound.wk si_refused
 ·injection h with h; injection h with e1 e2; subst e1 e2; exact Sound.wk si_done
 ·injection h with h; injection h with e1 e2; subst e1 e2; exact Sound.wk si_set
 ·injection h with h; injection h with e1 e2; subst e1 e2; exact Sound.wk si_SecSum
 ·cases h
theorem goodBi_trade : ∀ f ms F, Ei_trade.bxf f = some (ms, F) → SoundB Tryd.prog f ms F := fun f ms F h => by cases h
theorem goodi_trade : Good Tryd.prog Ei_trade := ⟨rfl, goodFi_trade, goodBi_trade⟩
noncomputable def Oi_trade_0 : Orc := fun _ _ => none
noncomputable def msi_trade : List PM := [.rd, .own]
noncomputable def lsi_trade : List (Nat × Code) := loopsAll 0 (Tryd.f93.body.getD .skip)
theorem ki_trade_0 : OrcOk Ei_trade Oi_trade_0 lsi_trade 0 := orcOk_none
noncomputable def g_Ai_trade (a0 : List (ByteArray × (List Int))) (a1 : Int) (a2 : Int) (a3 : Int) (a4 : Int) (a5 : Int) (a6 : Int) (a7 : Int) : Bool := g_Ai_named (lit [(99 : Nat)]) a4 && (g_Ai_named (lit [(102 : Nat)]) a6 && (g_Ai_StoStore_get a0 (g_Vi_named_0 (lit [(99 : Nat)]) a4) && bif g_Vi_StoStore_get_0 a0 (g_Vi_named_0 (lit [(99 : Nat)]) a4) then true else g_Ai_StoStore_get a0 (g_Vi_named_0 (lit [(102 : Nat)]) a6) && bif !g_Vi_StoStore_get_0 a0 (g_Vi_named_0 (lit [(102 : Nat)]) a6) then true else g_Ai_SecSum a5 && (decide ((0 : Int) ≤ (1 : Int) ∧ (1 : Int) < (↑(List.length (g_Vi_StoStore_get_1 a0 (g_Vi_named_0 (lit [(99 : Nat)]) a4))) : Int)) && (decide (nat_lit 1 < List.length (g_Vi_StoStore_get_1 a0 (g_Vi_named_0 (lit [(99 : Nat)]) a4))) && bif g_Vi_SecSum_0 a5 != at_ (Ty.int IntKind.i64) (g_Vi_StoStore_get_1 a0 (g_Vi_named_0 (lit [(99 : Nat)]) a4)) (nat_lit 1) then true else decide ((0 : Int) ≤ (0 : Int) ∧ (0 : Int) < (↑(List.length (g_Vi_StoStore_get_1 a0 (g_Vi_named_0 (lit [(99 : Nat)]) a4))) : Int)) && (decide (nat_lit 0 < List.length (g_Vi_StoStore_get_1 a0 (g_Vi_named_0 (lit [(99 : Nat)]) a4))) && (g_Ai_named (lit [(117 : Nat)]) (at_ (Ty.int IntKind.i64) (g_Vi_StoStore_get_1 a0 (g_Vi_named_0 (lit [(99 : Nat)]) a4)) (nat_lit 0)) && (decide ((0 : Int) ≤ (0 : Int) ∧ (0 : Int) < (↑(List.length (g_Vi_StoStore_get_1 a0 (g_Vi_named_0 (lit [(99 : Nat)]) a4))) : Int)) && (decide (nat_lit 0 < List.length (g_Vi_StoStore_get_1 a0 (g_Vi_named_0 (lit [(99 : Nat)]) a4))) && true))))))))
noncomputable def g_Vi_trade_0 (a0 : List (ByteArray × (List Int))) (a1 : Int) (a2 : Int) (a3 : Int) (a4 : Int) (a5 : Int) (a6 : Int) (a7 : Int) : Bool := bif g_Vi_StoStore_get_0 a0 (g_Vi_named_0 (lit [(99 : Nat)]) a4) then false else bif !g_Vi_StoStore_get_0 a0 (g_Vi_named_0 (lit [(102 : Nat)]) a6) then false else bif g_Vi_SecSum_0 a5 != at_ (Ty.int IntKind.i64) (g_Vi_StoStore_get_1 a0 (g_Vi_named_0 (lit [(99 : Nat)]) a4)) (nat_lit 1) then false else true
noncomputable def g_Vi_trade_1 (a0 : List (ByteArray × (List Int))) (a1 : Int) (a2 : Int) (a3 : Int) (a4 : Int) (a5 : Int) (a6 : Int) (a7 : Int) : List ByteArray := bif g_Vi_StoStore_get_0 a0 (g_Vi_named_0 (lit [(99 : Nat)]) a4) then [g_Vi_named_0 (lit [(99 : Nat)]) a4, g_Vi_named_0 (lit [(102 : Nat)]) a6] else bif !g_Vi_StoStore_get_0 a0 (g_Vi_named_0 (lit [(102 : Nat)]) a6) then [g_Vi_named_0 (lit [(99 : Nat)]) a4, g_Vi_named_0 (lit [(102 : Nat)]) a6] else bif g_Vi_SecSum_0 a5 != at_ (Ty.int IntKind.i64) (g_Vi_StoStore_get_1 a0 (g_Vi_named_0 (lit [(99 : Nat)]) a4)) (nat_lit 1) then [g_Vi_named_0 (lit [(99 : Nat)]) a4, g_Vi_named_0 (lit [(102 : Nat)]) a6] else [g_Vi_named_0 (lit [(99 : Nat)]) a4, g_Vi_named_0 (lit [(102 : Nat)]) a6, g_Vi_named_0 (lit [(117 : Nat)]) (at_ (Ty.int IntKind.i64) (g_Vi_StoStore_get_1 a0 (g_Vi_named_0 (lit [(99 : Nat)]) a4)) (nat_lit 0))]
noncomputable def g_Vi_trade_2 (a0 : List (ByteArray × (List Int))) (a1 : Int) (a2 : Int) (a3 : Int) (a4 : Int) (a5 : Int) (a6 : Int) (a7 : Int) : List (ByteArray × (Bool × (List Int))) := bif g_Vi_StoStore_get_0 a0 (g_Vi_named_0 (lit [(99 : Nat)]) a4) then g_Vi_refused_0 [g_Vi_named_0 (lit [(99 : Nat)]) a4, g_Vi_named_0 (lit [(102 : Nat)]) a6] else bif !g_Vi_StoStore_get_0 a0 (g_Vi_named_0 (lit [(102 : Nat)]) a6) then g_Vi_refused_0 [g_Vi_named_0 (lit [(99 : Nat)]) a4, g_Vi_named_0 (lit [(102 : Nat)]) a6] else bif g_Vi_SecSum_0 a5 != at_ (Ty.int IntKind.i64) (g_Vi_StoStore_get_1 a0 (g_Vi_named_0 (lit [(99 : Nat)]) a4)) (nat_lit 1) then g_Vi_refused_0 [g_Vi_named_0 (lit [(99 : Nat)]) a4, g_Vi_named_0 (lit [(102 : Nat)]) a6] else [(g_Vi_named_0 (lit [(99 : Nat)]) a4, true, []), (g_Vi_named_0 (lit [(102 : Nat)]) a6, false, [at_ (Ty.int IntKind.i64) (g_Vi_StoStore_get_1 a0 (g_Vi_named_0 (lit [(99 : Nat)]) a4)) (nat_lit 0), (1 : Int), (1 : Int)])]
noncomputable def Fi_trade : FSem := fun ys => match ys with
 | [.val true [.sl .any 42 (.pair .str (.sl 3 (.int .i64))) a0], .val true [.int .i64 a1, .int .i64 a2, .int .i64 a3, .int .i64 a4, .int .i64 a5, .int .i64 a6, .int .i64 a7]] => some ((g_Ai_trade a0 a1 a2 a3 a4 a5 a6 a7), .val true [.bool (g_Vi_trade_0 a0 a1 a2 a3 a4 a5 a6 a7), .own .any true 9 .str (g_Vi_trade_1 a0 a1 a2 a3 a4 a5 a6 a7), .own .any true 76 (.pair .str (.pair .bool (.sl 3 (.int .i64)))) (g_Vi_trade_2 a0 a1 a2 a3 a4 a5 a6 a7)], [])
 | _ => none
theorem vi_trade (a0 : List (ByteArray × (List Int))) (a1 : Int) (a2 : Int) (a3 : Int) (a4 : Int) (a5 : Int) (a6 : Int) (a7 : Int) : collapseH .std Ei_trade Oi_trade_0 (execFn Ei_trade Tryd.f93 msi_trade [.val true [.sl .any 42 (.pair .str (.sl 3 (.int .i64))) a0], .val true [.int .i64 a1, .int .i64 a2, .int .i64 a3, .int .i64 a4, .int .i64 a5, .int .i64 a6, .int .i64 a7]]) = some ((g_Ai_trade a0 a1 a2 a3 a4 a5 a6 a7), .val true [.bool (g_Vi_trade_0 a0 a1 a2 a3 a4 a5 a6 a7), .own .any true 9 .str (g_Vi_trade_1 a0 a1 a2 a3 a4 a5 a6 a7), .own .any true 76 (.pair .str (.pair .bool (.sl 3 (.int .i64)))) (g_Vi_trade_2 a0 a1 a2 a3 a4 a5 a6 a7)], []) := by kernel_rfl
theorem si_trade : Sound Tryd.prog 93 msi_trade Fi_trade := by
 refine fn_gen goodi_trade (by kernel_rfl) .std (fn := Tryd.f93) (c := (Tryd.f93.body.getD .skip)) (o := Oi_trade_0) (k := 0) (by kernel_rfl) (by kernel_rfl) (by kernel_rfl) (by kernel_rfl) (by decide) ki_trade_0 ?_
 intro ys r outs h
 unfold Fi_trade at h
 split at h
 ·exact (vi_trade _ _ _ _ _ _ _ _).trans h
 ·cases h
noncomputable def Ei_atMay : Env where
 tt := mkTI Tryd.prog
 fn := fun f => match f with
  | 40 => some (msi_StoStore_get, FSem.wk msi_StoStore_get Fi_StoStore_get)
  | 62 => some (msi_named, FSem.wk msi_named Fi_named)
  | 63 => some (msi_refused, FSem.wk msi_refused Fi_refused)
  | 64 => some (msi_done, FSem.wk msi_done Fi_done)
  | 65 => some (msi_set, FSem.wk msi_set Fi_set)
  | 93 => some (msi_trade, FSem.wk msi_trade Fi_trade)
  | 94 => some (msi_next, FSem.wk msi_next Fi_next)
  | 95 => some (msi_out, FSem.wk msi_out Fi_out)
  | 96 => some (msi_SecSum, FSem.wk msi_SecSum Fi_SecSum)
  | _ => none
 bxf := fun _ => none
 mv := []
 keep := fun _ => []
 keepB := fun _ => []
 keepX := fun _ => []
 keepXB := fun _ => []
theorem goodFi_atMay : ∀ f ms F, Ei_atMay.fn f = some (ms, F) → Sound Tryd.prog f ms F := fun f ms F h => by
 unfold Ei_atMay at h
 dsimp only at h
 split at h
 ·injection h with h; injection h with e1 e2; subst e1 e2; exact Sound.wk si_StoStore_get
 ·injection h with h; injection h with e1 e2; subst e1 e2; exact Sound.wk si_named
 ·injection h with h; injection h with e1 e2; subst e1 e2; exact Sound.wk si_refused
 ·injection h with h; injection h with e1 e2; subst e1 e2; exact Sound.wk si_done
 ·injection h with h; injection h with e1 e2; subst e1 e2; exact Sound.wk si_set
 ·injection h with h; injection h with e1 e2; subst e1 e2; exact Sound.wk si_trade
 ·injection h with h; injection h with e1 e2; subst e1 e2; exact Sound.wk si_next
 ·injection h with h; injection h with e1 e2; subst e1 e2; exact Sound.wk si_out
 ·injection h with h; injection h with e1 e2; subst e1 e2; exact Sound.wk si_SecSum
 ·cases h
theorem goodBi_atMay : ∀ f ms F, Ei_atMay.bxf f = some (ms, F) → SoundB Tryd.prog f ms F := fun f ms F h => by cases h
theorem goodi_atMay : Good Tryd.prog Ei_atMay := ⟨rfl, goodFi_atMay, goodBi_atMay⟩
noncomputable def Oi_atMay_0 : Orc := fun _ _ => none
noncomputable def msi_atMay : List PM := [.rd, .own]
noncomputable def lsi_atMay : List (Nat × Code) := loopsAll 0 (Tryd.f61.body.getD .skip)
theorem ki_atMay_0 : OrcOk Ei_atMay Oi_atMay_0 lsi_atMay 0 := orcOk_none
noncomputable def g_Ai_atMay (a0 : List (ByteArray × (List Int))) (a1 : Int) (a2 : Int) (a3 : Int) (a4 : Int) (a5 : Int) (a6 : Int) (a7 : Int) : Bool := bif a1 == (3 : Int) then g_Ai_trade a0 a1 a2 a3 a4 a5 a6 a7 else bif a1 == (4 : Int) then g_Ai_next a0 a1 a2 a3 a4 a5 a6 a7 else bif a1 == (5 : Int) then g_Ai_out a0 a1 a2 a3 a4 a5 a6 a7 else g_Ai_named (lit [(99 : Nat)]) a4 && (g_Ai_StoStore_get a0 (g_Vi_named_0 (lit [(99 : Nat)]) a4) && bif !g_Vi_StoStore_get_0 a0 (g_Vi_named_0 (lit [(99 : Nat)]) a4) then true else g_Ai_SecSum a5 && true)
noncomputable def g_Vi_atMay_0 (a0 : List (ByteArray × (List Int))) (a1 : Int) (a2 : Int) (a3 : Int) (a4 : Int) (a5 : Int) (a6 : Int) (a7 : Int) : Bool := bif a1 == (3 : Int) then g_Vi_trade_0 a0 a1 a2 a3 a4 a5 a6 a7 else bif a1 == (4 : Int) then g_Vi_next_0 a0 a1 a2 a3 a4 a5 a6 a7 else bif a1 == (5 : Int) then true else bif !g_Vi_StoStore_get_0 a0 (g_Vi_named_0 (lit [(99 : Nat)]) a4) then false else true
noncomputable def g_Vi_atMay_1 (a0 : List (ByteArray × (List Int))) (a1 : Int) (a2 : Int) (a3 : Int) (a4 : Int) (a5 : Int) (a6 : Int) (a7 : Int) : List ByteArray := bif a1 == (3 : Int) then g_Vi_trade_1 a0 a1 a2 a3 a4 a5 a6 a7 else bif a1 == (4 : Int) then g_Vi_next_1 a0 a1 a2 a3 a4 a5 a6 a7 else bif a1 == (5 : Int) then g_Vi_out_0 a0 a1 a2 a3 a4 a5 a6 a7 else bif !g_Vi_StoStore_get_0 a0 (g_Vi_named_0 (lit [(99 : Nat)]) a4) then [g_Vi_named_0 (lit [(99 : Nat)]) a4] else [g_Vi_named_0 (lit [(99 : Nat)]) a4]
noncomputable def g_Vi_atMay_2 (a0 : List (ByteArray × (List Int))) (a1 : Int) (a2 : Int) (a3 : Int) (a4 : Int) (a5 : Int) (a6 : Int) (a7 : Int) : List (ByteArray × (Bool × (List Int))) := bif a1 == (3 : Int) then g_Vi_trade_2 a0 a1 a2 a3 a4 a5 a6 a7 else bif a1 == (4 : Int) then g_Vi_next_2 a0 a1 a2 a3 a4 a5 a6 a7 else bif a1 == (5 : Int) then g_Vi_out_1 a0 a1 a2 a3 a4 a5 a6 a7 else bif !g_Vi_StoStore_get_0 a0 (g_Vi_named_0 (lit [(99 : Nat)]) a4) then g_Vi_refused_0 [g_Vi_named_0 (lit [(99 : Nat)]) a4] else [(g_Vi_named_0 (lit [(99 : Nat)]) a4, false, [a2, g_Vi_SecSum_0 a5])]
noncomputable def Fi_atMay : FSem := fun ys => match ys with
 | [.val true [.sl .any 42 (.pair .str (.sl 3 (.int .i64))) a0], .val true [.int .i64 a1, .int .i64 a2, .int .i64 a3, .int .i64 a4, .int .i64 a5, .int .i64 a6, .int .i64 a7]] => some ((g_Ai_atMay a0 a1 a2 a3 a4 a5 a6 a7), .val true [.bool (g_Vi_atMay_0 a0 a1 a2 a3 a4 a5 a6 a7), .own .any true 9 .str (g_Vi_atMay_1 a0 a1 a2 a3 a4 a5 a6 a7), .own .any true 76 (.pair .str (.pair .bool (.sl 3 (.int .i64)))) (g_Vi_atMay_2 a0 a1 a2 a3 a4 a5 a6 a7)], [])
 | _ => none
theorem vi_atMay (a0 : List (ByteArray × (List Int))) (a1 : Int) (a2 : Int) (a3 : Int) (a4 : Int) (a5 : Int) (a6 : Int) (a7 : Int) : collapseH .std Ei_atMay Oi_atMay_0 (execFn Ei_atMay Tryd.f61 msi_atMay [.val true [.sl .any 42 (.pair .str (.sl 3 (.int .i64))) a0], .val true [.int .i64 a1, .int .i64 a2, .int .i64 a3, .int .i64 a4, .int .i64 a5, .int .i64 a6, .int .i64 a7]]) = some ((g_Ai_atMay a0 a1 a2 a3 a4 a5 a6 a7), .val true [.bool (g_Vi_atMay_0 a0 a1 a2 a3 a4 a5 a6 a7), .own .any true 9 .str (g_Vi_atMay_1 a0 a1 a2 a3 a4 a5 a6 a7), .own .any true 76 (.pair .str (.pair .bool (.sl 3 (.int .i64)))) (g_Vi_atMay_2 a0 a1 a2 a3 a4 a5 a6 a7)], []) := by kernel_rfl
theorem si_atMay : Sound Tryd.prog 61 msi_atMay Fi_atMay := by
 refine fn_gen goodi_atMay (by kernel_rfl) .std (fn := Tryd.f61) (c := (Tryd.f61.body.getD .skip)) (o := Oi_atMay_0) (k := 0) (by kernel_rfl) (by kernel_rfl) (by kernel_rfl) (by kernel_rfl) (by decide) ki_atMay_0 ?_
 intro ys r outs h
 unfold Fi_atMay at h
 split at h
 ·exact (vi_atMay _ _ _ _ _ _ _ _).trans h
 ·cases h
noncomputable def Ei_isTx : Env where
 tt := mkTI Tryd.prog
 fn := fun f => match f with
  | 56 => some (msi_in, FSem.wk msi_in Fi_in)
  | _ => none
 bxf := fun _ => none
 mv := []
 keep := fun _ => []
 keepB := fun _ => []
 keepX := fun _ => []
 keepXB := fun _ => []
theorem goodFi_isTx : ∀ f ms F, Ei_isTx.fn f = some (ms, F) → Sound Tryd.prog f ms F := fun f ms F h => by
 unfold Ei_isTx at h
 dsimp only at h
 split at h
 ·injection h with h; injection h with e1 e2; subst e1 e2; exact Sound.wk si_in
 ·cases h
theorem goodBi_isTx : ∀ f ms F, Ei_isTx.bxf f = some (ms, F) → SoundB Tryd.prog f ms F := fun f ms F h => by cases h
theorem goodi_isTx : Good Tryd.prog Ei_isTx := ⟨rfl, goodFi_isTx, goodBi_isTx⟩
noncomputable def Oi_isTx_0 : Orc := fun _ _ => none
noncomputable def msi_isTx : List PM := [.own]
noncomputable def lsi_isTx : List (Nat × Code) := loopsAll 0 (Tryd.f29.body.getD .skip)
theorem ki_isTx_0 : OrcOk Ei_isTx Oi_isTx_0 lsi_isTx 0 := orcOk_none
noncomputable def g_Ai_isTx (a0 : Int) : Bool := g_Ai_in a0 (0 : Int) (29 : Int)
noncomputable def g_Vi_isTx_0 (a0 : Int) : Bool := g_Vi_in_0 a0 (0 : Int) (29 : Int)
noncomputable def Fi_isTx : FSem := fun ys => match ys with
 | [.val false [.int .i64 a0]] => some ((g_Ai_isTx a0), .val false [.bool (g_Vi_isTx_0 a0)], [])
 | _ => none
theorem vi_isTx (a0 : Int) : collapseH .std Ei_isTx Oi_isTx_0 (execFn Ei_isTx Tryd.f29 msi_isTx [.val false [.int .i64 a0]]) = some ((g_Ai_isTx a0), .val false [.bool (g_Vi_isTx_0 a0)], []) := by kernel_rfl
theorem si_isTx : Sound Tryd.prog 29 msi_isTx Fi_isTx := by
 refine fn_gen goodi_isTx (by kernel_rfl) .std (fn := Tryd.f29) (c := (Tryd.f29.body.getD .skip)) (o := Oi_isTx_0) (k := 0) (by kernel_rfl) (by kernel_rfl) (by kernel_rfl) (by kernel_rfl) (by decide) ki_isTx_0 ?_
 intro ys r outs h
 unfold Fi_isTx at h
 split at h
 ·exact (vi_isTx _).trans h
 ·cases h
noncomputable def Eslices_Index_int_int : Env where
 tt := mkTI Tryd.prog
 fn := fun _ => none
 bxf := fun _ => none
 mv := []
 keep := fun b => match b with
  | 0 => [(0, false), (1, false), (7, false), (8, false)]
  | _ => []
 keepB := fun b => match b with
  | 0 => []
  | _ => []
 keepX := fun b => match b with
  | 0 => [(4, false)]
  | _ => []
 keepXB := fun b => match b with
  | 0 => []
  | _ => []
theorem goodFslices_Index_int_int : ∀ f ms F, Eslices_Index_int_int.fn f = some (ms, F) → Sound Tryd.prog f ms F := fun f ms F h => by cases h
theorem goodBslices_Index_int_int : ∀ f ms F, Eslices_Index_int_int.bxf f = some (ms, F) → SoundB Tryd.prog f ms F := fun f ms F h => by cases h
theorem goodslices_Index_int_int : Good Tryd.prog Eslices_Index_int_int := ⟨rfl, goodFslices_Index_int_int, goodBslices_Index_int_int⟩
noncomputable def Oslices_Index_int_int_0 : Orc := fun _ _ => none
noncomputable def msslices_Index_int_int : List PM := [.rd, .own]
noncomputable def lsslices_Index_int_int : List (Nat × Code) := loopsAll 0 (Tryd.f92.body.getD .skip)
noncomputable def cslices_Index_int_int_0 : Code := (loopOf 0 (Tryd.f92.body.getD .skip)).getD .skip
theorem lseqslices_Index_int_int : lsslices_Index_int_int = [(0, cslices_Index_int_int_0)] := by kernel_rfl
theorem mslices_Index_int_int_0 : ∀ p, p ∈ lsslices_Index_int_int → p.1 = 0 → p.2 = cslices_Index_int_int_0 := by
 intro p hp
 rw [lseqslices_Index_int_int] at hp
 simp only [List.mem_cons, List.not_mem_nil, or_false] at hp
 subst hp; simp
theorem kslices_Index_int_int_0 : OrcOk Eslices_Index_int_int Oslices_Index_int_int_0 lsslices_Index_int_int 0 := orcOk_none
noncomputable def hslices_Index_int_int_0 (y0 : List Int) (y1 : Int) (y2 : Int) (y3 : Int) : List (Pl × LV) := [(.T 0, .t (.val false [.sl .any 3 (.int .i64) y0])), (.T 1, .t (.val false [.int .i64 y1])), (.T 7, .t (.val false [.int .i64 y2])), (.T 8, .t (.val false [.int .i64 y3]))]
noncomputable def g_Sslices_Index_int_int_0 (y0 : List Int) (y1 : Int) (y2 : Int) : (Int) → RT (Int) ((Int) ⊕ (Unit))
 | y3 => .br (true) (.br (decide (y3 < y2)) (.br (decide ((0 : Int) ≤ y3 ∧ y3 < (↑(List.length y0) : Int))) (.br (true) (.br (y1 == at_ (Ty.int IntKind.i64) y0 (Int.toNat y3)) (.out (.inl y3)) (.br (true) (.go (IntKind.wrap IntKind.i64 (y3 + (1 : Int)))) (.bad))) (.bad)) (.bad)) (.out (.inr (())))) (.bad)
noncomputable def g_Lslices_Index_int_int_0 (y0 : List Int) (y1 : Int) (y2 : Int) (x : Int) : Option ((Int) ⊕ (Unit)) := loopO (g_Sslices_Index_int_int_0 y0 y1 y2) x
noncomputable def xslices_Index_int_int_0 (y0 : List Int) (y1 : Int) (y2 : Int) : ((Int) ⊕ (Unit)) → Ex × List (Pl × LV) := fun
 | .inl r => (.ret, [(.T 4, .t (.val false [.int .i64 r]))])
 | .inr (r) => (.exit 0, [(.T 4, .t (.val false [.undef]))])
noncomputable def Oslices_Index_int_int_1 : Orc := fun b h => match b, h with
 | 0, [(.T 0, .t (.val false [.sl .any 3 (.int .i64) y0])), (.T 1, .t (.val false [.int .i64 y1])), (.T 7, .t (.val false [.int .i64 y2])), (.T 8, .t (.val false [.int .i64 y3]))] => some (okO (g_Lslices_Index_int_int_0 y0 y1 y2 y3), (.br (isL (valO (g_Lslices_Index_int_int_0 y0 y1 y2 y3))) (.leaf .ret [(.T 4, .t (.val false [.int .i64 (getL (valO (g_Lslices_Index_int_int_0 y0 y1 y2 y3)))]))]) (.leaf (.exit 0) [(.T 4, .t (.val false [.undef]))])))
 | b, h => Oslices_Index_int_int_0 b h
theorem bslices_Index_int_int_0 (y0 : List Int) (y1 : Int) (y2 : Int) (y3 : Int) : Tr.bt Eslices_Index_int_int Oslices_Index_int_int_0 (exec Eslices_Index_int_int 0 cslices_Index_int_int_0 (St.of (hslices_Index_int_int_0 y0 y1 y2 y3)) (leafRd Eslices_Index_int_int 0)) = (g_Sslices_Index_int_int_0 y0 y1 y2 y3).bt (fun (y3 : Int) => (hslices_Index_int_int_0 y0 y1 y2 y3)) (xslices_Index_int_int_0 y0 y1 y2) := by kernel_rfl
theorem kslices_Index_int_int_1 : OrcOk Eslices_Index_int_int Oslices_Index_int_int_1 lsslices_Index_int_int 1 := orc_add kslices_Index_int_int_0 (fun n p hp h ex h' ho => by
 obtain ⟨b, c⟩ := p
 obtain ⟨xt, h1, h2⟩ := ho
 have h1 : Oslices_Index_int_int_1 b h = some (true, xt) := h1
 unfold Oslices_Index_int_int_1 at h1
 split at h1
 ·injection h1 with h1
  injection h1 with e1 e2
  subst e2
  have hc : c = cslices_Index_int_int_0 := mslices_Index_int_int_0 _ hp rfl
  subst hc
  right
  rename_i y0 y1 y2 y3
  have key := LT_step kslices_Index_int_int_0 hp (fun q hq => loopsAll_in _ _ _ _ hp hq) (fun (y3 : Int) => (hslices_Index_int_int_0 y0 y1 y2 y3)) (xslices_Index_int_int_0 y0 y1 y2) (g_Sslices_Index_int_int_0 y0 y1 y2) (fun x => by first | exact bslices_Index_int_int_0 y0 y1 y2 x) n (x := y3) (okO_some e1)
  have hx : ∀ r, XT.sel (.br (isL r) (.leaf .ret [(.T 4, .t (.val false [.int .i64 (getL r)]))]) (.leaf (.exit 0) [(.T 4, .t (.val false [.undef]))])) = xslices_Index_int_int_0 y0 y1 y2 r := fun r => by first | rfl | (rcases r with r | r <;> rfl) | (rcases r with r | r | r <;> rfl) | (rcases r with r | r | r | r <;> rfl)
  have h3 := (hx (valO (g_Lslices_Index_int_int_0 y0 y1 y2 y3))).symm.trans h2
  have e3 := congrArg Prod.fst h3
  have e4 := congrArg Prod.snd h3
  simp only at e3 e4
  rw [← e3, ← e4]
  exact key
 ·exact .inl ⟨xt, h1, h2⟩)
noncomputable def g_Aslices_Index_int_int (a0 : List Int) (a1 : Int) : Bool := okO (g_Lslices_Index_int_int_0 a0 a1 (↑(List.length a0) : Int) (0 : Int))
noncomputable def g_Vslices_Index_int_int_0 (a0 : List Int) (a1 : Int) : Int := bif isL (valO (g_Lslices_Index_int_int_0 a0 a1 (↑(List.length a0) : Int) (0 : Int))) then getL (valO (g_Lslices_Index_int_int_0 a0 a1 (↑(List.length a0) : Int) (0 : Int))) else (-1 : Int)
noncomputable def Fslices_Index_int_int : FSem := fun ys => match ys with
 | [.val false [.sl .any 3 (.int .i64) a0], .val false [.int .i64 a1]] => some ((g_Aslices_Index_int_int a0 a1), .val false [.int .i64 (g_Vslices_Index_int_int_0 a0 a1)], [])
 | _ => none
theorem vslices_Index_int_int (a0 : List Int) (a1 : Int) : collapseH .std Eslices_Index_int_int Oslices_Index_int_int_1 (execFn Eslices_Index_int_int Tryd.f92 msslices_Index_int_int [.val false [.sl .any 3 (.int .i64) a0], .val false [.int .i64 a1]]) = some ((g_Aslices_Index_int_int a0 a1), .val false [.int .i64 (g_Vslices_Index_int_int_0 a0 a1)], []) := by kernel_rfl
theorem sslices_Index_int_int : Sound Tryd.prog 92 msslices_Index_int_int Fslices_Index_int_int := by
 refine fn_gen goodslices_Index_int_int (by kernel_rfl) .std (fn := Tryd.f92) (c := (Tryd.f92.body.getD .skip)) (o := Oslices_Index_int_int_1) (k := 1) (by kernel_rfl) (by kernel_rfl) (by kernel_rfl) (by kernel_rfl) (by decide) kslices_Index_int_int_1 ?_
 intro ys r outs h
 unfold Fslices_Index_int_int at h
 split at h
 ·exact (vslices_Index_int_int _ _).trans h
 ·cases h
noncomputable def Eslices_Contains_int_int : Env where
 tt := mkTI Tryd.prog
 fn := fun f => match f with
  | 92 => some (msslices_Index_int_int, FSem.wk msslices_Index_int_int Fslices_Index_int_int)
  | _ => none
 bxf := fun _ => none
 mv := []
 keep := fun _ => []
 keepB := fun _ => []
 keepX := fun _ => []
 keepXB := fun _ => []
theorem goodFslices_Contains_int_int : ∀ f ms F, Eslices_Contains_int_int.fn f = some (ms, F) → Sound Tryd.prog f ms F := fun f ms F h => by
 unfold Eslices_Contains_int_int at h
 dsimp only at h
 split at h
 ·injection h with h; injection h with e1 e2; subst e1 e2; exact Sound.wk sslices_Index_int_int
 ·cases h
theorem goodBslices_Contains_int_int : ∀ f ms F, Eslices_Contains_int_int.bxf f = some (ms, F) → SoundB Tryd.prog f ms F := fun f ms F h => by cases h
theorem goodslices_Contains_int_int : Good Tryd.prog Eslices_Contains_int_int := ⟨rfl, goodFslices_Contains_int_int, goodBslices_Contains_int_int⟩
noncomputable def Oslices_Contains_int_int_0 : Orc := fun _ _ => none
noncomputable def msslices_Contains_int_int : List PM := [.rd, .own]
noncomputable def lsslices_Contains_int_int : List (Nat × Code) := loopsAll 0 (Tryd.f59.body.getD .skip)
theorem kslices_Contains_int_int_0 : OrcOk Eslices_Contains_int_int Oslices_Contains_int_int_0 lsslices_Contains_int_int 0 := orcOk_none
noncomputable def g_Aslices_Contains_int_int (a0 : List Int) (a1 : Int) : Bool := g_Aslices_Index_int_int a0 a1 && true
noncomputable def g_Vslices_Contains_int_int_0 (a0 : List Int) (a1 : Int) : Bool := decide (g_Vslices_Index_int_int_0 a0 a1 ≥ (0 : Int))
noncomputable def Fslices_Contains_int_int : FSem := fun ys => match ys with
 | [.val false [.sl .any 3 (.int .i64) a0], .val false [.int .i64 a1]] => some ((g_Aslices_Contains_int_int a0 a1), .val false [.bool (g_Vslices_Contains_int_int_0 a0 a1)], [])
 | _ => none
theorem vslices_Contains_int_int (a0 : List Int) (a1 : Int) : collapseH .std Eslices_Contains_int_int Oslices_Contains_int_int_0 (execFn Eslices_Contains_int_int Tryd.f59 msslices_Contains_int_int [.val false [.sl .any 3 (.int .i64) a0], .val false [.int .i64 a1]]) = some ((g_Aslices_Contains_int_int a0 a1), .val false [.bool (g_Vslices_Contains_int_int_0 a0 a1)], []) := by kernel_rfl
theorem sslices_Contains_int_int : Sound Tryd.prog 59 msslices_Contains_int_int Fslices_Contains_int_int := by
 refine fn_gen goodslices_Contains_int_int (by kernel_rfl) .std (fn := Tryd.f59) (c := (Tryd.f59.body.getD .skip)) (o := Oslices_Contains_int_int_0) (k := 0) (by kernel_rfl) (by kernel_rfl) (by kernel_rfl) (by kernel_rfl) (by decide) kslices_Contains_int_int_0 ?_
 intro ys r outs h
 unfold Fslices_Contains_int_int at h
 split at h
 ·exact (vslices_Contains_int_int _ _).trans h
 ·cases h
end Go.Proofs.YtliagpcoflhphaaDoor.E
