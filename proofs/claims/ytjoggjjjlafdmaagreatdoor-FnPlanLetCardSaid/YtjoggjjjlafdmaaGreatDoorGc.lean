/- What the functions that are reached do, by the engine: for the proof (laws.FnPlanLet): part 3. No conditions. -/
import Derived.Test.YtjoggjjjlafdmaaGreatDoorGb
import Derived.Test.YtjoggjjjlafdmaaGreatDoorProg
set_option linter.all false
namespace Go.Proofs.YtjoggjjjlafdmaaGreatDoor.E
open Go
set_option maxRecDepth 100000
set_option maxHeartbeats 0
noncomputable def Es_l20Op : Env where
 tt := mkTI Tryz.prog
 fn := fun f => match f with
  | 42 => some (mss_l20Rd_pick, FSem.wk mss_l20Rd_pick Fs_l20Rd_pick)
  | 43 => some (mss_l20Rd_oddR, FSem.wk mss_l20Rd_oddR Fs_l20Rd_oddR)
  | _ => none
 bxf := fun _ => none
 mv := []
 keep := fun _ => []
 keepB := fun _ => []
 keepX := fun _ => []
 keepXB := fun _ => []
theorem goodFs_l20Op : ∀ f ms F, Es_l20Op.fn f = some (ms, F) → Sound Tryz.prog f ms F := fun f ms F h => by
 unfold Es_l20Op at h
 dsimp only at h
 split at h
 ·injection h with h; injection h with e1 e2; subst e1 e2; exact Sound.wk ss_l20Rd_pick
 ·injection h with h; injection h with e1 e2; subst e1 e2; exact Sound.wk ss_l20Rd_oddR
 ·cases h
theorem goodBs_l20Op : ∀ f ms F, Es_l20Op.bxf f = some (ms, F) → SoundB Tryz.prog f ms F := fun f ms F h => by cases h
theorem goods_l20Op : Good Tryz.prog Es_l20Op := ⟨rfl, goodFs_l20Op, goodBs_l20Op⟩
noncomputable def Os_l20Op_0 : Orc := fun _ _ => none
noncomputable def mss_l20Op : List PM := [.bx, .own]
noncomputable def lss_l20Op : List (Nat × Code) := loopsAll 0 (Tryz.f40.body.getD .skip)
theorem ks_l20Op_0 : OrcOk Es_l20Op Os_l20Op_0 lss_l20Op 0 := orcOk_none
noncomputable def g_As_l20Op (r0 : List Int) (r1 : Int) (a2 : Int) : Bool := g_pickA r0 r1 (5 : Int) && bif IntKind.wrap IntKind.i64 ((1 : Int) + g_pick r0 r1 (5 : Int)) == (1 : Int) then bif IntKind.wrap IntKind.i64 ((1 : Int) + g_pick r0 r1 (5 : Int)) == (1 : Int) then g_pickA r0 (u1 r1) (2 : Int) && (g_pickA r0 (u1 (u1 r1)) (3 : Int) && (g_As_l20Rd_odd r0 (u1 (u1 (u1 r1))) a2 && (!g_Vs_l20Rd_odd_0 r0 (u1 (u1 (u1 r1))) a2 || g_pickA r0 (g_Vs_l20Rd_odd_2 r0 (u1 (u1 (u1 r1))) a2) (5 : Int) && bif g_pick r0 (g_Vs_l20Rd_odd_2 r0 (u1 (u1 (u1 r1))) a2) (5 : Int) == (0 : Int) then g_pickA r0 (u1 (g_Vs_l20Rd_odd_2 r0 (u1 (u1 (u1 r1))) a2)) (2 : Int) && (decide ((0 : Int) ≤ g_pick r0 (u1 (g_Vs_l20Rd_odd_2 r0 (u1 (u1 (u1 r1))) a2)) (2 : Int) ∧ g_pick r0 (u1 (g_Vs_l20Rd_odd_2 r0 (u1 (u1 (u1 r1))) a2)) (2 : Int) < (2 : Int)) && decide (Int.toNat (g_pick r0 (u1 (g_Vs_l20Rd_odd_2 r0 (u1 (u1 (u1 r1))) a2)) (2 : Int)) < nat_lit 2)) else bif g_pick r0 (g_Vs_l20Rd_odd_2 r0 (u1 (u1 (u1 r1))) a2) (5 : Int) == (1 : Int) then g_pickA r0 (u1 (g_Vs_l20Rd_odd_2 r0 (u1 (u1 (u1 r1))) a2)) (3 : Int) && (decide ((0 : Int) ≤ g_pick r0 (u1 (g_Vs_l20Rd_odd_2 r0 (u1 (u1 (u1 r1))) a2)) (3 : Int) ∧ g_pick r0 (u1 (g_Vs_l20Rd_odd_2 r0 (u1 (u1 (u1 r1))) a2)) (3 : Int) < (3 : Int)) && decide (Int.toNat (g_pick r0 (u1 (g_Vs_l20Rd_odd_2 r0 (u1 (u1 (u1 r1))) a2)) (3 : Int)) < nat_lit 3)) else bif g_pick r0 (g_Vs_l20Rd_odd_2 r0 (u1 (u1 (u1 r1))) a2) (5 : Int) == (2 : Int) then g_pickA r0 (u1 (g_Vs_l20Rd_odd_2 r0 (u1 (u1 (u1 r1))) a2)) (3 : Int) && (decide ((0 : Int) ≤ g_pick r0 (u1 (g_Vs_l20Rd_odd_2 r0 (u1 (u1 (u1 r1))) a2)) (3 : Int) ∧ g_pick r0 (u1 (g_Vs_l20Rd_odd_2 r0 (u1 (u1 (u1 r1))) a2)) (3 : Int) < (3 : Int)) && decide (Int.toNat (g_pick r0 (u1 (g_Vs_l20Rd_odd_2 r0 (u1 (u1 (u1 r1))) a2)) (3 : Int)) < nat_lit 3)) else bif g_pick r0 (g_Vs_l20Rd_odd_2 r0 (u1 (u1 (u1 r1))) a2) (5 : Int) == (3 : Int) then g_pickA r0 (u1 (g_Vs_l20Rd_odd_2 r0 (u1 (u1 (u1 r1))) a2)) (3 : Int) && (decide ((0 : Int) ≤ g_pick r0 (u1 (g_Vs_l20Rd_odd_2 r0 (u1 (u1 (u1 r1))) a2)) (3 : Int) ∧ g_pick r0 (u1 (g_Vs_l20Rd_odd_2 r0 (u1 (u1 (u1 r1))) a2)) (3 : Int) < (3 : Int)) && decide (Int.toNat (g_pick r0 (u1 (g_Vs_l20Rd_odd_2 r0 (u1 (u1 (u1 r1))) a2)) (3 : Int)) < nat_lit 3)) else g_pickA r0 (u1 (g_Vs_l20Rd_odd_2 r0 (u1 (u1 (u1 r1))) a2)) (3 : Int) && (decide ((0 : Int) ≤ g_pick r0 (u1 (g_Vs_l20Rd_odd_2 r0 (u1 (u1 (u1 r1))) a2)) (3 : Int) ∧ g_pick r0 (u1 (g_Vs_l20Rd_odd_2 r0 (u1 (u1 (u1 r1))) a2)) (3 : Int) < (3 : Int)) && decide (Int.toNat (g_pick r0 (u1 (g_Vs_l20Rd_odd_2 r0 (u1 (u1 (u1 r1))) a2)) (3 : Int)) < nat_lit 3))))) else bif IntKind.wrap IntKind.i64 ((1 : Int) + g_pick r0 r1 (5 : Int)) == (2 : Int) then g_pickA r0 (u1 r1) (2 : Int) && (g_pickA r0 (u1 (u1 r1)) (3 : Int) && (g_pickA r0 (u1 (u1 (u1 r1))) (3 : Int) && (g_pickA r0 (u1 (u1 (u1 (u1 r1)))) (3 : Int) && (g_As_l20Rd_odd r0 (u1 (u1 (u1 (u1 (u1 r1))))) a2 && (!g_Vs_l20Rd_odd_0 r0 (u1 (u1 (u1 (u1 (u1 r1))))) a2 || g_pickA r0 (g_Vs_l20Rd_odd_2 r0 (u1 (u1 (u1 (u1 (u1 r1))))) a2) (5 : Int) && bif g_pick r0 (g_Vs_l20Rd_odd_2 r0 (u1 (u1 (u1 (u1 (u1 r1))))) a2) (5 : Int) == (0 : Int) then g_pickA r0 (u1 (g_Vs_l20Rd_odd_2 r0 (u1 (u1 (u1 (u1 (u1 r1))))) a2)) (2 : Int) && (decide ((0 : Int) ≤ g_pick r0 (u1 (g_Vs_l20Rd_odd_2 r0 (u1 (u1 (u1 (u1 (u1 r1))))) a2)) (2 : Int) ∧ g_pick r0 (u1 (g_Vs_l20Rd_odd_2 r0 (u1 (u1 (u1 (u1 (u1 r1))))) a2)) (2 : Int) < (2 : Int)) && decide (Int.toNat (g_pick r0 (u1 (g_Vs_l20Rd_odd_2 r0 (u1 (u1 (u1 (u1 (u1 r1))))) a2)) (2 : Int)) < nat_lit 2)) else bif g_pick r0 (g_Vs_l20Rd_odd_2 r0 (u1 (u1 (u1 (u1 (u1 r1))))) a2) (5 : Int) == (1 : Int) then g_pickA r0 (u1 (g_Vs_l20Rd_odd_2 r0 (u1 (u1 (u1 (u1 (u1 r1))))) a2)) (3 : Int) && (decide ((0 : Int) ≤ g_pick r0 (u1 (g_Vs_l20Rd_odd_2 r0 (u1 (u1 (u1 (u1 (u1 r1))))) a2)) (3 : Int) ∧ g_pick r0 (u1 (g_Vs_l20Rd_odd_2 r0 (u1 (u1 (u1 (u1 (u1 r1))))) a2)) (3 : Int) < (3 : Int)) && decide (Int.toNat (g_pick r0 (u1 (g_Vs_l20Rd_odd_2 r0 (u1 (u1 (u1 (u1 (u1 r1))))) a2)) (3 : Int)) < nat_lit 3)) else bif g_pick r0 (g_Vs_l20Rd_odd_2 r0 (u1 (u1 (u1 (u1 (u1 r1))))) a2) (5 : Int) == (2 : Int) then g_pickA r0 (u1 (g_Vs_l20Rd_odd_2 r0 (u1 (u1 (u1 (u1 (u1 r1))))) a2)) (3 : Int) && (decide ((0 : Int) ≤ g_pick r0 (u1 (g_Vs_l20Rd_odd_2 r0 (u1 (u1 (u1 (u1 (u1 r1))))) a2)) (3 : Int) ∧ g_pick r0 (u1 (g_Vs_l20Rd_odd_2 r0 (u1 (u1 (u1 (u1 (u1 r1))))) a2)) (3 : Int) < (3 : Int)) && decide (Int.toNat (g_pick r0 (u1 (g_Vs_l20Rd_odd_2 r0 (u1 (u1 (u1 (u1 (u1 r1))))) a2)) (3 : Int)) < nat_lit 3)) else bif g_pick r0 (g_Vs_l20Rd_odd_2 r0 (u1 (u1 (u1 (u1 (u1 r1))))) a2) (5 : Int) == (3 : Int) then g_pickA r0 (u1 (g_Vs_l20Rd_odd_2 r0 (u1 (u1 (u1 (u1 (u1 r1))))) a2)) (3 : Int) && (decide ((0 : Int) ≤ g_pick r0 (u1 (g_Vs_l20Rd_odd_2 r0 (u1 (u1 (u1 (u1 (u1 r1))))) a2)) (3 : Int) ∧ g_pick r0 (u1 (g_Vs_l20Rd_odd_2 r0 (u1 (u1 (u1 (u1 (u1 r1))))) a2)) (3 : Int) < (3 : Int)) && decide (Int.toNat (g_pick r0 (u1 (g_Vs_l20Rd_odd_2 r0 (u1 (u1 (u1 (u1 (u1 r1))))) a2)) (3 : Int)) < nat_lit 3)) else g_pickA r0 (u1 (g_Vs_l20Rd_odd_2 r0 (u1 (u1 (u1 (u1 (u1 r1))))) a2)) (3 : Int) && (decide ((0 : Int) ≤ g_pick r0 (u1 (g_Vs_l20Rd_odd_2 r0 (u1 (u1 (u1 (u1 (u1 r1))))) a2)) (3 : Int) ∧ g_pick r0 (u1 (g_Vs_l20Rd_odd_2 r0 (u1 (u1 (u1 (u1 (u1 r1))))) a2)) (3 : Int) < (3 : Int)) && decide (Int.toNat (g_pick r0 (u1 (g_Vs_l20Rd_odd_2 r0 (u1 (u1 (u1 (u1 (u1 r1))))) a2)) (3 : Int)) < nat_lit 3))))))) else bif IntKind.wrap IntKind.i64 ((1 : Int) + g_pick r0 r1 (5 : Int)) == (3 : Int) then g_pickA r0 (u1 r1) (3 : Int) && (g_pickA r0 (u1 (u1 r1)) (3 : Int) && (g_pickA r0 (u1 (u1 (u1 r1))) (3 : Int) && (g_As_l20Rd_odd r0 (u1 (u1 (u1 (u1 r1)))) a2 && (!g_Vs_l20Rd_odd_0 r0 (u1 (u1 (u1 (u1 r1)))) a2 || g_pickA r0 (g_Vs_l20Rd_odd_2 r0 (u1 (u1 (u1 (u1 r1)))) a2) (5 : Int) && bif g_pick r0 (g_Vs_l20Rd_odd_2 r0 (u1 (u1 (u1 (u1 r1)))) a2) (5 : Int) == (0 : Int) then g_pickA r0 (u1 (g_Vs_l20Rd_odd_2 r0 (u1 (u1 (u1 (u1 r1)))) a2)) (2 : Int) && (decide ((0 : Int) ≤ g_pick r0 (u1 (g_Vs_l20Rd_odd_2 r0 (u1 (u1 (u1 (u1 r1)))) a2)) (2 : Int) ∧ g_pick r0 (u1 (g_Vs_l20Rd_odd_2 r0 (u1 (u1 (u1 (u1 r1)))) a2)) (2 : Int) < (2 : Int)) && decide (Int.toNat (g_pick r0 (u1 (g_Vs_l20Rd_odd_2 r0 (u1 (u1 (u1 (u1 r1)))) a2)) (2 : Int)) < nat_lit 2)) else bif g_pick r0 (g_Vs_l20Rd_odd_2 r0 (u1 (u1 (u1 (u1 r1)))) a2) (5 : Int) == (1 : Int) then g_pickA r0 (u1 (g_Vs_l20Rd_odd_2 r0 (u1 (u1 (u1 (u1 r1)))) a2)) (3 : Int) && (decide ((0 : Int) ≤ g_pick r0 (u1 (g_Vs_l20Rd_odd_2 r0 (u1 (u1 (u1 (u1 r1)))) a2)) (3 : Int) ∧ g_pick r0 (u1 (g_Vs_l20Rd_odd_2 r0 (u1 (u1 (u1 (u1 r1)))) a2)) (3 : Int) < (3 : Int)) && decide (Int.toNat (g_pick r0 (u1 (g_Vs_l20Rd_odd_2 r0 (u1 (u1 (u1 (u1 r1)))) a2)) (3 : Int)) < nat_lit 3)) else bif g_pick r0 (g_Vs_l20Rd_odd_2 r0 (u1 (u1 (u1 (u1 r1)))) a2) (5 : Int) == (2 : Int) then g_pickA r0 (u1 (g_Vs_l20Rd_odd_2 r0 (u1 (u1 (u1 (u1 r1)))) a2)) (3 : Int) && (decide ((0 : Int) ≤ g_pick r0 (u1 (g_Vs_l20Rd_odd_2 r0 (u1 (u1 (u1 (u1 r1)))) a2)) (3 : Int) ∧ g_pick r0 (u1 (g_Vs_l20Rd_odd_2 r0 (u1 (u1 (u1 (u1 r1)))) a2)) (3 : Int) < (3 : Int)) && decide (Int.toNat (g_pick r0 (u1 (g_Vs_l20Rd_odd_2 r0 (u1 (u1 (u1 (u1 r1)))) a2)) (3 : Int)) < nat_lit 3)) else bif g_pick r0 (g_Vs_l20Rd_odd_2 r0 (u1 (u1 (u1 (u1 r1)))) a2) (5 : Int) == (3 : Int) then g_pickA r0 (u1 (g_Vs_l20Rd_odd_2 r0 (u1 (u1 (u1 (u1 r1)))) a2)) (3 : Int) && (decide ((0 : Int) ≤ g_pick r0 (u1 (g_Vs_l20Rd_odd_2 r0 (u1 (u1 (u1 (u1 r1)))) a2)) (3 : Int) ∧ g_pick r0 (u1 (g_Vs_l20Rd_odd_2 r0 (u1 (u1 (u1 (u1 r1)))) a2)) (3 : Int) < (3 : Int)) && decide (Int.toNat (g_pick r0 (u1 (g_Vs_l20Rd_odd_2 r0 (u1 (u1 (u1 (u1 r1)))) a2)) (3 : Int)) < nat_lit 3)) else g_pickA r0 (u1 (g_Vs_l20Rd_odd_2 r0 (u1 (u1 (u1 (u1 r1)))) a2)) (3 : Int) && (decide ((0 : Int) ≤ g_pick r0 (u1 (g_Vs_l20Rd_odd_2 r0 (u1 (u1 (u1 (u1 r1)))) a2)) (3 : Int) ∧ g_pick r0 (u1 (g_Vs_l20Rd_odd_2 r0 (u1 (u1 (u1 (u1 r1)))) a2)) (3 : Int) < (3 : Int)) && decide (Int.toNat (g_pick r0 (u1 (g_Vs_l20Rd_odd_2 r0 (u1 (u1 (u1 (u1 r1)))) a2)) (3 : Int)) < nat_lit 3)))))) else g_pickA r0 (u1 r1) (3 : Int) && (g_pickA r0 (u1 (u1 r1)) (3 : Int) && (g_As_l20Rd_odd r0 (u1 (u1 (u1 r1))) a2 && (!g_Vs_l20Rd_odd_0 r0 (u1 (u1 (u1 r1))) a2 || g_pickA r0 (g_Vs_l20Rd_odd_2 r0 (u1 (u1 (u1 r1))) a2) (5 : Int) && bif g_pick r0 (g_Vs_l20Rd_odd_2 r0 (u1 (u1 (u1 r1))) a2) (5 : Int) == (0 : Int) then g_pickA r0 (u1 (g_Vs_l20Rd_odd_2 r0 (u1 (u1 (u1 r1))) a2)) (2 : Int) && (decide ((0 : Int) ≤ g_pick r0 (u1 (g_Vs_l20Rd_odd_2 r0 (u1 (u1 (u1 r1))) a2)) (2 : Int) ∧ g_pick r0 (u1 (g_Vs_l20Rd_odd_2 r0 (u1 (u1 (u1 r1))) a2)) (2 : Int) < (2 : Int)) && decide (Int.toNat (g_pick r0 (u1 (g_Vs_l20Rd_odd_2 r0 (u1 (u1 (u1 r1))) a2)) (2 : Int)) < nat_lit 2)) else bif g_pick r0 (g_Vs_l20Rd_odd_2 r0 (u1 (u1 (u1 r1))) a2) (5 : Int) == (1 : Int) then g_pickA r0 (u1 (g_Vs_l20Rd_odd_2 r0 (u1 (u1 (u1 r1))) a2)) (3 : Int) && (decide ((0 : Int) ≤ g_pick r0 (u1 (g_Vs_l20Rd_odd_2 r0 (u1 (u1 (u1 r1))) a2)) (3 : Int) ∧ g_pick r0 (u1 (g_Vs_l20Rd_odd_2 r0 (u1 (u1 (u1 r1))) a2)) (3 : Int) < (3 : Int)) && decide (Int.toNat (g_pick r0 (u1 (g_Vs_l20Rd_odd_2 r0 (u1 (u1 (u1 r1))) a2)) (3 : Int)) < nat_lit 3)) else bif g_pick r0 (g_Vs_l20Rd_odd_2 r0 (u1 (u1 (u1 r1))) a2) (5 : Int) == (2 : Int) then g_pickA r0 (u1 (g_Vs_l20Rd_odd_2 r0 (u1 (u1 (u1 r1))) a2)) (3 : Int) && (decide ((0 : Int) ≤ g_pick r0 (u1 (g_Vs_l20Rd_odd_2 r0 (u1 (u1 (u1 r1))) a2)) (3 : Int) ∧ g_pick r0 (u1 (g_Vs_l20Rd_odd_2 r0 (u1 (u1 (u1 r1))) a2)) (3 : Int) < (3 : Int)) && decide (Int.toNat (g_pick r0 (u1 (g_Vs_l20Rd_odd_2 r0 (u1 (u1 (u1 r1))) a2)) (3 : Int)) < nat_lit 3)) else bif g_pick r0 (g_Vs_l20Rd_odd_2 r0 (u1 (u1 (u1 r1))) a2) (5 : Int) == (3 : Int) then g_pickA r0 (u1 (g_Vs_l20Rd_odd_2 r0 (u1 (u1 (u1 r1))) a2)) (3 : Int) && (decide ((0 : Int) ≤ g_pick r0 (u1 (g_Vs_l20Rd_odd_2 r0 (u1 (u1 (u1 r1))) a2)) (3 : Int) ∧ g_pick r0 (u1 (g_Vs_l20Rd_odd_2 r0 (u1 (u1 (u1 r1))) a2)) (3 : Int) < (3 : Int)) && decide (Int.toNat (g_pick r0 (u1 (g_Vs_l20Rd_odd_2 r0 (u1 (u1 (u1 r1))) a2)) (3 : Int)) < nat_lit 3)) else g_pickA r0 (u1 (g_Vs_l20Rd_odd_2 r0 (u1 (u1 (u1 r1))) a2)) (3 : Int) && (decide ((0 : Int) ≤ g_pick r0 (u1 (g_Vs_l20Rd_odd_2 r0 (u1 (u1 (u1 r1))) a2)) (3 : Int) ∧ g_pick r0 (u1 (g_Vs_l20Rd_odd_2 r0 (u1 (u1 (u1 r1))) a2)) (3 : Int) < (3 : Int)) && decide (Int.toNat (g_pick r0 (u1 (g_Vs_l20Rd_odd_2 r0 (u1 (u1 (u1 r1))) a2)) (3 : Int)) < nat_lit 3))))) else bif IntKind.wrap IntKind.i64 ((1 : Int) + g_pick r0 r1 (5 : Int)) == (5 : Int) then g_pickA r0 (u1 r1) (2 : Int) && (g_pickA r0 (u1 (u1 r1)) (3 : Int) && (g_As_l20Rd_odd r0 (u1 (u1 (u1 r1))) a2 && (!g_Vs_l20Rd_odd_0 r0 (u1 (u1 (u1 r1))) a2 || g_pickA r0 (g_Vs_l20Rd_odd_2 r0 (u1 (u1 (u1 r1))) a2) (5 : Int) && bif g_pick r0 (g_Vs_l20Rd_odd_2 r0 (u1 (u1 (u1 r1))) a2) (5 : Int) == (0 : Int) then g_pickA r0 (u1 (g_Vs_l20Rd_odd_2 r0 (u1 (u1 (u1 r1))) a2)) (2 : Int) && (decide ((0 : Int) ≤ g_pick r0 (u1 (g_Vs_l20Rd_odd_2 r0 (u1 (u1 (u1 r1))) a2)) (2 : Int) ∧ g_pick r0 (u1 (g_Vs_l20Rd_odd_2 r0 (u1 (u1 (u1 r1))) a2)) (2 : Int) < (2 : Int)) && decide (Int.toNat (g_pick r0 (u1 (g_Vs_l20Rd_odd_2 r0 (u1 (u1 (u1 r1))) a2)) (2 : Int)) < nat_lit 2)) else bif g_pick r0 (g_Vs_l20Rd_odd_2 r0 (u1 (u1 (u1 r1))) a2) (5 : Int) == (1 : Int) then g_pickA r0 (u1 (g_Vs_l20Rd_odd_2 r0 (u1 (u1 (u1 r1))) a2)) (3 : Int) && (decide ((0 : Int) ≤ g_pick r0 (u1 (g_Vs_l20Rd_odd_2 r0 (u1 (u1 (u1 r1))) a2)) (3 : Int) ∧ g_pick r0 (u1 (g_Vs_l20Rd_odd_2 r0 (u1 (u1 (u1 r1))) a2)) (3 : Int) < (3 : Int)) && decide (Int.toNat (g_pick r0 (u1 (g_Vs_l20Rd_odd_2 r0 (u1 (u1 (u1 r1))) a2)) (3 : Int)) < nat_lit 3)) else bif g_pick r0 (g_Vs_l20Rd_odd_2 r0 (u1 (u1 (u1 r1))) a2) (5 : Int) == (2 : Int) then g_pickA r0 (u1 (g_Vs_l20Rd_odd_2 r0 (u1 (u1 (u1 r1))) a2)) (3 : Int) && (decide ((0 : Int) ≤ g_pick r0 (u1 (g_Vs_l20Rd_odd_2 r0 (u1 (u1 (u1 r1))) a2)) (3 : Int) ∧ g_pick r0 (u1 (g_Vs_l20Rd_odd_2 r0 (u1 (u1 (u1 r1))) a2)) (3 : Int) < (3 : Int)) && decide (Int.toNat (g_pick r0 (u1 (g_Vs_l20Rd_odd_2 r0 (u1 (u1 (u1 r1))) a2)) (3 : Int)) < nat_lit 3)) else bif g_pick r0 (g_Vs_l20Rd_odd_2 r0 (u1 (u1 (u1 r1))) a2) (5 : Int) == (3 : Int) then g_pickA r0 (u1 (g_Vs_l20Rd_odd_2 r0 (u1 (u1 (u1 r1))) a2)) (3 : Int) && (decide ((0 : Int) ≤ g_pick r0 (u1 (g_Vs_l20Rd_odd_2 r0 (u1 (u1 (u1 r1))) a2)) (3 : Int) ∧ g_pick r0 (u1 (g_Vs_l20Rd_odd_2 r0 (u1 (u1 (u1 r1))) a2)) (3 : Int) < (3 : Int)) && decide (Int.toNat (g_pick r0 (u1 (g_Vs_l20Rd_odd_2 r0 (u1 (u1 (u1 r1))) a2)) (3 : Int)) < nat_lit 3)) else g_pickA r0 (u1 (g_Vs_l20Rd_odd_2 r0 (u1 (u1 (u1 r1))) a2)) (3 : Int) && (decide ((0 : Int) ≤ g_pick r0 (u1 (g_Vs_l20Rd_odd_2 r0 (u1 (u1 (u1 r1))) a2)) (3 : Int) ∧ g_pick r0 (u1 (g_Vs_l20Rd_odd_2 r0 (u1 (u1 (u1 r1))) a2)) (3 : Int) < (3 : Int)) && decide (Int.toNat (g_pick r0 (u1 (g_Vs_l20Rd_odd_2 r0 (u1 (u1 (u1 r1))) a2)) (3 : Int)) < nat_lit 3))))) else bif IntKind.wrap IntKind.i64 ((1 : Int) + g_pick r0 r1 (5 : Int)) == (2 : Int) then g_pickA r0 (u1 r1) (2 : Int) && (g_pickA r0 (u1 (u1 r1)) (3 : Int) && (g_pickA r0 (u1 (u1 (u1 r1))) (3 : Int) && (g_pickA r0 (u1 (u1 (u1 (u1 r1)))) (3 : Int) && (g_As_l20Rd_odd r0 (u1 (u1 (u1 (u1 (u1 r1))))) a2 && (!g_Vs_l20Rd_odd_0 r0 (u1 (u1 (u1 (u1 (u1 r1))))) a2 || g_pickA r0 (g_Vs_l20Rd_odd_2 r0 (u1 (u1 (u1 (u1 (u1 r1))))) a2) (5 : Int) && bif g_pick r0 (g_Vs_l20Rd_odd_2 r0 (u1 (u1 (u1 (u1 (u1 r1))))) a2) (5 : Int) == (0 : Int) then g_pickA r0 (u1 (g_Vs_l20Rd_odd_2 r0 (u1 (u1 (u1 (u1 (u1 r1))))) a2)) (2 : Int) && (decide ((0 : Int) ≤ g_pick r0 (u1 (g_Vs_l20Rd_odd_2 r0 (u1 (u1 (u1 (u1 (u1 r1))))) a2)) (2 : Int) ∧ g_pick r0 (u1 (g_Vs_l20Rd_odd_2 r0 (u1 (u1 (u1 (u1 (u1 r1))))) a2)) (2 : Int) < (2 : Int)) && decide (Int.toNat (g_pick r0 (u1 (g_Vs_l20Rd_odd_2 r0 (u1 (u1 (u1 (u1 (u1 r1))))) a2)) (2 : Int)) < nat_lit 2)) else bif g_pick r0 (g_Vs_l20Rd_odd_2 r0 (u1 (u1 (u1 (u1 (u1 r1))))) a2) (5 : Int) == (1 : Int) then g_pickA r0 (u1 (g_Vs_l20Rd_odd_2 r0 (u1 (u1 (u1 (u1 (u1 r1))))) a2)) (3 : Int) && (decide ((0 : Int) ≤ g_pick r0 (u1 (g_Vs_l20Rd_odd_2 r0 (u1 (u1 (u1 (u1 (u1 r1))))) a2)) (3 : Int) ∧ g_pick r0 (u1 (g_Vs_l20Rd_odd_2 r0 (u1 (u1 (u1 (u1 (u1 r1))))) a2)) (3 : Int) < (3 : Int)) && decide (Int.toNat (g_pick r0 (u1 (g_Vs_l20Rd_odd_2 r0 (u1 (u1 (u1 (u1 (u1 r1))))) a2)) (3 : Int)) < nat_lit 3)) else bif g_pick r0 (g_Vs_l20Rd_odd_2 r0 (u1 (u1 (u1 (u1 (u1 r1))))) a2) (5 : Int) == (2 : Int) then g_pickA r0 (u1 (g_Vs_l20Rd_odd_2 r0 (u1 (u1 (u1 (u1 (u1 r1))))) a2)) (3 : Int) && (decide ((0 : Int) ≤ g_pick r0 (u1 (g_Vs_l20Rd_odd_2 r0 (u1 (u1 (u1 (u1 (u1 r1))))) a2)) (3 : Int) ∧ g_pick r0 (u1 (g_Vs_l20Rd_odd_2 r0 (u1 (u1 (u1 (u1 (u1 r1))))) a2)) (3 : Int) < (3 : Int)) && decide (Int.toNat (g_pick r0 (u1 (g_Vs_l20Rd_odd_2 r0 (u1 (u1 (u1 (u1 (u1 r1))))) a2)) (3 : Int)) < nat_lit 3)) else bif g_pick r0 (g_Vs_l20Rd_odd_2 r0 (u1 (u1 (u1 (u1 (u1 r1))))) a2) (5 : Int) == (3 : Int) then g_pickA r0 (u1 (g_Vs_l20Rd_odd_2 r0 (u1 (u1 (u1 (u1 (u1 r1))))) a2)) (3 : Int) && (decide ((0 : Int) ≤ g_pick r0 (u1 (g_Vs_l20Rd_odd_2 r0 (u1 (u1 (u1 (u1 (u1 r1))))) a2)) (3 : Int) ∧ g_pick r0 (u1 (g_Vs_l20Rd_odd_2 r0 (u1 (u1 (u1 (u1 (u1 r1))))) a2)) (3 : Int) < (3 : Int)) && decide (Int.toNat (g_pick r0 (u1 (g_Vs_l20Rd_odd_2 r0 (u1 (u1 (u1 (u1 (u1 r1))))) a2)) (3 : Int)) < nat_lit 3)) else g_pickA r0 (u1 (g_Vs_l20Rd_odd_2 r0 (u1 (u1 (u1 (u1 (u1 r1))))) a2)) (3 : Int) && (decide ((0 : Int) ≤ g_pick r0 (u1 (g_Vs_l20Rd_odd_2 r0 (u1 (u1 (u1 (u1 (u1 r1))))) a2)) (3 : Int) ∧ g_pick r0 (u1 (g_Vs_l20Rd_odd_2 r0 (u1 (u1 (u1 (u1 (u1 r1))))) a2)) (3 : Int) < (3 : Int)) && decide (Int.toNat (g_pick r0 (u1 (g_Vs_l20Rd_odd_2 r0 (u1 (u1 (u1 (u1 (u1 r1))))) a2)) (3 : Int)) < nat_lit 3))))))) else bif IntKind.wrap IntKind.i64 ((1 : Int) + g_pick r0 r1 (5 : Int)) == (3 : Int) then g_pickA r0 (u1 r1) (3 : Int) && (g_pickA r0 (u1 (u1 r1)) (3 : Int) && (g_pickA r0 (u1 (u1 (u1 r1))) (3 : Int) && (g_As_l20Rd_odd r0 (u1 (u1 (u1 (u1 r1)))) a2 && (!g_Vs_l20Rd_odd_0 r0 (u1 (u1 (u1 (u1 r1)))) a2 || g_pickA r0 (g_Vs_l20Rd_odd_2 r0 (u1 (u1 (u1 (u1 r1)))) a2) (5 : Int) && bif g_pick r0 (g_Vs_l20Rd_odd_2 r0 (u1 (u1 (u1 (u1 r1)))) a2) (5 : Int) == (0 : Int) then g_pickA r0 (u1 (g_Vs_l20Rd_odd_2 r0 (u1 (u1 (u1 (u1 r1)))) a2)) (2 : Int) && (decide ((0 : Int) ≤ g_pick r0 (u1 (g_Vs_l20Rd_odd_2 r0 (u1 (u1 (u1 (u1 r1)))) a2)) (2 : Int) ∧ g_pick r0 (u1 (g_Vs_l20Rd_odd_2 r0 (u1 (u1 (u1 (u1 r1)))) a2)) (2 : Int) < (2 : Int)) && decide (Int.toNat (g_pick r0 (u1 (g_Vs_l20Rd_odd_2 r0 (u1 (u1 (u1 (u1 r1)))) a2)) (2 : Int)) < nat_lit 2)) else bif g_pick r0 (g_Vs_l20Rd_odd_2 r0 (u1 (u1 (u1 (u1 r1)))) a2) (5 : Int) == (1 : Int) then g_pickA r0 (u1 (g_Vs_l20Rd_odd_2 r0 (u1 (u1 (u1 (u1 r1)))) a2)) (3 : Int) && (decide ((0 : Int) ≤ g_pick r0 (u1 (g_Vs_l20Rd_odd_2 r0 (u1 (u1 (u1 (u1 r1)))) a2)) (3 : Int) ∧ g_pick r0 (u1 (g_Vs_l20Rd_odd_2 r0 (u1 (u1 (u1 (u1 r1)))) a2)) (3 : Int) < (3 : Int)) && decide (Int.toNat (g_pick r0 (u1 (g_Vs_l20Rd_odd_2 r0 (u1 (u1 (u1 (u1 r1)))) a2)) (3 : Int)) < nat_lit 3)) else bif g_pick r0 (g_Vs_l20Rd_odd_2 r0 (u1 (u1 (u1 (u1 r1)))) a2) (5 : Int) == (2 : Int) then g_pickA r0 (u1 (g_Vs_l20Rd_odd_2 r0 (u1 (u1 (u1 (u1 r1)))) a2)) (3 : Int) && (decide ((0 : Int) ≤ g_pick r0 (u1 (g_Vs_l20Rd_odd_2 r0 (u1 (u1 (u1 (u1 r1)))) a2)) (3 : Int) ∧ g_pick r0 (u1 (g_Vs_l20Rd_odd_2 r0 (u1 (u1 (u1 (u1 r1)))) a2)) (3 : Int) < (3 : Int)) && decide (Int.toNat (g_pick r0 (u1 (g_Vs_l20Rd_odd_2 r0 (u1 (u1 (u1 (u1 r1)))) a2)) (3 : Int)) < nat_lit 3)) else bif g_pick r0 (g_Vs_l20Rd_odd_2 r0 (u1 (u1 (u1 (u1 r1)))) a2) (5 : Int) == (3 : Int) then g_pickA r0 (u1 (g_Vs_l20Rd_odd_2 r0 (u1 (u1 (u1 (u1 r1)))) a2)) (3 : Int) && (decide ((0 : Int) ≤ g_pick r0 (u1 (g_Vs_l20Rd_odd_2 r0 (u1 (u1 (u1 (u1 r1)))) a2)) (3 : Int) ∧ g_pick r0 (u1 (g_Vs_l20Rd_odd_2 r0 (u1 (u1 (u1 (u1 r1)))) a2)) (3 : Int) < (3 : Int)) && decide (Int.toNat (g_pick r0 (u1 (g_Vs_l20Rd_odd_2 r0 (u1 (u1 (u1 (u1 r1)))) a2)) (3 : Int)) < nat_lit 3)) else g_pickA r0 (u1 (g_Vs_l20Rd_odd_2 r0 (u1 (u1 (u1 (u1 r1)))) a2)) (3 : Int) && (decide ((0 : Int) ≤ g_pick r0 (u1 (g_Vs_l20Rd_odd_2 r0 (u1 (u1 (u1 (u1 r1)))) a2)) (3 : Int) ∧ g_pick r0 (u1 (g_Vs_l20Rd_odd_2 r0 (u1 (u1 (u1 (u1 r1)))) a2)) (3 : Int) < (3 : Int)) && decide (Int.toNat (g_pick r0 (u1 (g_Vs_l20Rd_odd_2 r0 (u1 (u1 (u1 (u1 r1)))) a2)) (3 : Int)) < nat_lit 3)))))) else g_pickA r0 (u1 r1) (3 : Int) && (g_pickA r0 (u1 (u1 r1)) (3 : Int) && (g_As_l20Rd_odd r0 (u1 (u1 (u1 r1))) a2 && (!g_Vs_l20Rd_odd_0 r0 (u1 (u1 (u1 r1))) a2 || g_pickA r0 (g_Vs_l20Rd_odd_2 r0 (u1 (u1 (u1 r1))) a2) (5 : Int) && bif g_pick r0 (g_Vs_l20Rd_odd_2 r0 (u1 (u1 (u1 r1))) a2) (5 : Int) == (0 : Int) then g_pickA r0 (u1 (g_Vs_l20Rd_odd_2 r0 (u1 (u1 (u1 r1))) a2)) (2 : Int) && (decide ((0 : Int) ≤ g_pick r0 (u1 (g_Vs_l20Rd_odd_2 r0 (u1 (u1 (u1 r1))) a2)) (2 : Int) ∧ g_pick r0 (u1 (g_Vs_l20Rd_odd_2 r0 (u1 (u1 (u1 r1))) a2)) (2 : Int) < (2 : Int)) && decide (Int.toNat (g_pick r0 (u1 (g_Vs_l20Rd_odd_2 r0 (u1 (u1 (u1 r1))) a2)) (2 : Int)) < nat_lit 2)) else bif g_pick r0 (g_Vs_l20Rd_odd_2 r0 (u1 (u1 (u1 r1))) a2) (5 : Int) == (1 : Int) then g_pickA r0 (u1 (g_Vs_l20Rd_odd_2 r0 (u1 (u1 (u1 r1))) a2)) (3 : Int) && (decide ((0 : Int) ≤ g_pick r0 (u1 (g_Vs_l20Rd_odd_2 r0 (u1 (u1 (u1 r1))) a2)) (3 : Int) ∧ g_pick r0 (u1 (g_Vs_l20Rd_odd_2 r0 (u1 (u1 (u1 r1))) a2)) (3 : Int) < (3 : Int)) && decide (Int.toNat (g_pick r0 (u1 (g_Vs_l20Rd_odd_2 r0 (u1 (u1 (u1 r1))) a2)) (3 : Int)) < nat_lit 3)) else bif g_pick r0 (g_Vs_l20Rd_odd_2 r0 (u1 (u1 (u1 r1))) a2) (5 : Int) == (2 : Int) then g_pickA r0 (u1 (g_Vs_l20Rd_odd_2 r0 (u1 (u1 (u1 r1))) a2)) (3 : Int) && (decide ((0 : Int) ≤ g_pick r0 (u1 (g_Vs_l20Rd_odd_2 r0 (u1 (u1 (u1 r1))) a2)) (3 : Int) ∧ g_pick r0 (u1 (g_Vs_l20Rd_odd_2 r0 (u1 (u1 (u1 r1))) a2)) (3 : Int) < (3 : Int)) && decide (Int.toNat (g_pick r0 (u1 (g_Vs_l20Rd_odd_2 r0 (u1 (u1 (u1 r1))) a2)) (3 : Int)) < nat_lit 3)) else bif g_pick r0 (g_Vs_l20Rd_odd_2 r0 (u1 (u1 (u1 r1))) a2) (5 : Int) == (3 : Int) then g_pickA r0 (u1 (g_Vs_l20Rd_odd_2 r0 (u1 (u1 (u1 r1))) a2)) (3 : Int) && (decide ((0 : Int) ≤ g_pick r0 (u1 (g_Vs_l20Rd_odd_2 r0 (u1 (u1 (u1 r1))) a2)) (3 : Int) ∧ g_pick r0 (u1 (g_Vs_l20Rd_odd_2 r0 (u1 (u1 (u1 r1))) a2)) (3 : Int) < (3 : Int)) && decide (Int.toNat (g_pick r0 (u1 (g_Vs_l20Rd_odd_2 r0 (u1 (u1 (u1 r1))) a2)) (3 : Int)) < nat_lit 3)) else g_pickA r0 (u1 (g_Vs_l20Rd_odd_2 r0 (u1 (u1 (u1 r1))) a2)) (3 : Int) && (decide ((0 : Int) ≤ g_pick r0 (u1 (g_Vs_l20Rd_odd_2 r0 (u1 (u1 (u1 r1))) a2)) (3 : Int) ∧ g_pick r0 (u1 (g_Vs_l20Rd_odd_2 r0 (u1 (u1 (u1 r1))) a2)) (3 : Int) < (3 : Int)) && decide (Int.toNat (g_pick r0 (u1 (g_Vs_l20Rd_odd_2 r0 (u1 (u1 (u1 r1))) a2)) (3 : Int)) < nat_lit 3)))))
noncomputable def g_Vs_l20Op_0 (r0 : List Int) (r1 : Int) (a2 : Int) : Int := bif IntKind.wrap IntKind.i64 ((1 : Int) + g_pick r0 r1 (5 : Int)) == (1 : Int) then bif IntKind.wrap IntKind.i64 ((1 : Int) + g_pick r0 r1 (5 : Int)) == (1 : Int) then bif g_Vs_l20Rd_odd_0 r0 (u1 (u1 (u1 r1))) a2 then bif g_pick r0 (g_Vs_l20Rd_odd_2 r0 (u1 (u1 (u1 r1))) a2) (5 : Int) == (0 : Int) then at_ (Ty.int IntKind.i64) [(0 : Int), (6 : Int)] (Int.toNat (g_pick r0 (u1 (g_Vs_l20Rd_odd_2 r0 (u1 (u1 (u1 r1))) a2)) (2 : Int))) else bif g_pick r0 (g_Vs_l20Rd_odd_2 r0 (u1 (u1 (u1 r1))) a2) (5 : Int) == (1 : Int) then IntKind.wrap IntKind.i64 ((1 : Int) + g_pick r0 r1 (5 : Int)) else bif g_pick r0 (g_Vs_l20Rd_odd_2 r0 (u1 (u1 (u1 r1))) a2) (5 : Int) == (2 : Int) then IntKind.wrap IntKind.i64 ((1 : Int) + g_pick r0 r1 (5 : Int)) else bif g_pick r0 (g_Vs_l20Rd_odd_2 r0 (u1 (u1 (u1 r1))) a2) (5 : Int) == (3 : Int) then IntKind.wrap IntKind.i64 ((1 : Int) + g_pick r0 r1 (5 : Int)) else IntKind.wrap IntKind.i64 ((1 : Int) + g_pick r0 r1 (5 : Int)) else IntKind.wrap IntKind.i64 ((1 : Int) + g_pick r0 r1 (5 : Int)) else bif IntKind.wrap IntKind.i64 ((1 : Int) + g_pick r0 r1 (5 : Int)) == (2 : Int) then bif g_Vs_l20Rd_odd_0 r0 (u1 (u1 (u1 (u1 (u1 r1))))) a2 then bif g_pick r0 (g_Vs_l20Rd_odd_2 r0 (u1 (u1 (u1 (u1 (u1 r1))))) a2) (5 : Int) == (0 : Int) then at_ (Ty.int IntKind.i64) [(0 : Int), (6 : Int)] (Int.toNat (g_pick r0 (u1 (g_Vs_l20Rd_odd_2 r0 (u1 (u1 (u1 (u1 (u1 r1))))) a2)) (2 : Int))) else bif g_pick r0 (g_Vs_l20Rd_odd_2 r0 (u1 (u1 (u1 (u1 (u1 r1))))) a2) (5 : Int) == (1 : Int) then (2 : Int) else bif g_pick r0 (g_Vs_l20Rd_odd_2 r0 (u1 (u1 (u1 (u1 (u1 r1))))) a2) (5 : Int) == (2 : Int) then (2 : Int) else bif g_pick r0 (g_Vs_l20Rd_odd_2 r0 (u1 (u1 (u1 (u1 (u1 r1))))) a2) (5 : Int) == (3 : Int) then (2 : Int) else (2 : Int) else (2 : Int) else bif IntKind.wrap IntKind.i64 ((1 : Int) + g_pick r0 r1 (5 : Int)) == (3 : Int) then bif g_Vs_l20Rd_odd_0 r0 (u1 (u1 (u1 (u1 r1)))) a2 then bif g_pick r0 (g_Vs_l20Rd_odd_2 r0 (u1 (u1 (u1 (u1 r1)))) a2) (5 : Int) == (0 : Int) then at_ (Ty.int IntKind.i64) [(0 : Int), (6 : Int)] (Int.toNat (g_pick r0 (u1 (g_Vs_l20Rd_odd_2 r0 (u1 (u1 (u1 (u1 r1)))) a2)) (2 : Int))) else bif g_pick r0 (g_Vs_l20Rd_odd_2 r0 (u1 (u1 (u1 (u1 r1)))) a2) (5 : Int) == (1 : Int) then (3 : Int) else bif g_pick r0 (g_Vs_l20Rd_odd_2 r0 (u1 (u1 (u1 (u1 r1)))) a2) (5 : Int) == (2 : Int) then (3 : Int) else bif g_pick r0 (g_Vs_l20Rd_odd_2 r0 (u1 (u1 (u1 (u1 r1)))) a2) (5 : Int) == (3 : Int) then (3 : Int) else (3 : Int) else (3 : Int) else bif g_Vs_l20Rd_odd_0 r0 (u1 (u1 (u1 r1))) a2 then bif g_pick r0 (g_Vs_l20Rd_odd_2 r0 (u1 (u1 (u1 r1))) a2) (5 : Int) == (0 : Int) then at_ (Ty.int IntKind.i64) [(0 : Int), (6 : Int)] (Int.toNat (g_pick r0 (u1 (g_Vs_l20Rd_odd_2 r0 (u1 (u1 (u1 r1))) a2)) (2 : Int))) else bif g_pick r0 (g_Vs_l20Rd_odd_2 r0 (u1 (u1 (u1 r1))) a2) (5 : Int) == (1 : Int) then (4 : Int) else bif g_pick r0 (g_Vs_l20Rd_odd_2 r0 (u1 (u1 (u1 r1))) a2) (5 : Int) == (2 : Int) then (4 : Int) else bif g_pick r0 (g_Vs_l20Rd_odd_2 r0 (u1 (u1 (u1 r1))) a2) (5 : Int) == (3 : Int) then (4 : Int) else (4 : Int) else (4 : Int) else bif IntKind.wrap IntKind.i64 ((1 : Int) + g_pick r0 r1 (5 : Int)) == (5 : Int) then bif g_Vs_l20Rd_odd_0 r0 (u1 (u1 (u1 r1))) a2 then bif g_pick r0 (g_Vs_l20Rd_odd_2 r0 (u1 (u1 (u1 r1))) a2) (5 : Int) == (0 : Int) then at_ (Ty.int IntKind.i64) [(0 : Int), (6 : Int)] (Int.toNat (g_pick r0 (u1 (g_Vs_l20Rd_odd_2 r0 (u1 (u1 (u1 r1))) a2)) (2 : Int))) else bif g_pick r0 (g_Vs_l20Rd_odd_2 r0 (u1 (u1 (u1 r1))) a2) (5 : Int) == (1 : Int) then IntKind.wrap IntKind.i64 ((1 : Int) + g_pick r0 r1 (5 : Int)) else bif g_pick r0 (g_Vs_l20Rd_odd_2 r0 (u1 (u1 (u1 r1))) a2) (5 : Int) == (2 : Int) then IntKind.wrap IntKind.i64 ((1 : Int) + g_pick r0 r1 (5 : Int)) else bif g_pick r0 (g_Vs_l20Rd_odd_2 r0 (u1 (u1 (u1 r1))) a2) (5 : Int) == (3 : Int) then IntKind.wrap IntKind.i64 ((1 : Int) + g_pick r0 r1 (5 : Int)) else IntKind.wrap IntKind.i64 ((1 : Int) + g_pick r0 r1 (5 : Int)) else IntKind.wrap IntKind.i64 ((1 : Int) + g_pick r0 r1 (5 : Int)) else bif IntKind.wrap IntKind.i64 ((1 : Int) + g_pick r0 r1 (5 : Int)) == (2 : Int) then bif g_Vs_l20Rd_odd_0 r0 (u1 (u1 (u1 (u1 (u1 r1))))) a2 then bif g_pick r0 (g_Vs_l20Rd_odd_2 r0 (u1 (u1 (u1 (u1 (u1 r1))))) a2) (5 : Int) == (0 : Int) then at_ (Ty.int IntKind.i64) [(0 : Int), (6 : Int)] (Int.toNat (g_pick r0 (u1 (g_Vs_l20Rd_odd_2 r0 (u1 (u1 (u1 (u1 (u1 r1))))) a2)) (2 : Int))) else bif g_pick r0 (g_Vs_l20Rd_odd_2 r0 (u1 (u1 (u1 (u1 (u1 r1))))) a2) (5 : Int) == (1 : Int) then (2 : Int) else bif g_pick r0 (g_Vs_l20Rd_odd_2 r0 (u1 (u1 (u1 (u1 (u1 r1))))) a2) (5 : Int) == (2 : Int) then (2 : Int) else bif g_pick r0 (g_Vs_l20Rd_odd_2 r0 (u1 (u1 (u1 (u1 (u1 r1))))) a2) (5 : Int) == (3 : Int) then (2 : Int) else (2 : Int) else (2 : Int) else bif IntKind.wrap IntKind.i64 ((1 : Int) + g_pick r0 r1 (5 : Int)) == (3 : Int) then bif g_Vs_l20Rd_odd_0 r0 (u1 (u1 (u1 (u1 r1)))) a2 then bif g_pick r0 (g_Vs_l20Rd_odd_2 r0 (u1 (u1 (u1 (u1 r1)))) a2) (5 : Int) == (0 : Int) then at_ (Ty.int IntKind.i64) [(0 : Int), (6 : Int)] (Int.toNat (g_pick r0 (u1 (g_Vs_l20Rd_odd_2 r0 (u1 (u1 (u1 (u1 r1)))) a2)) (2 : Int))) else bif g_pick r0 (g_Vs_l20Rd_odd_2 r0 (u1 (u1 (u1 (u1 r1)))) a2) (5 : Int) == (1 : Int) then (3 : Int) else bif g_pick r0 (g_Vs_l20Rd_odd_2 r0 (u1 (u1 (u1 (u1 r1)))) a2) (5 : Int) == (2 : Int) then (3 : Int) else bif g_pick r0 (g_Vs_l20Rd_odd_2 r0 (u1 (u1 (u1 (u1 r1)))) a2) (5 : Int) == (3 : Int) then (3 : Int) else (3 : Int) else (3 : Int) else bif g_Vs_l20Rd_odd_0 r0 (u1 (u1 (u1 r1))) a2 then bif g_pick r0 (g_Vs_l20Rd_odd_2 r0 (u1 (u1 (u1 r1))) a2) (5 : Int) == (0 : Int) then at_ (Ty.int IntKind.i64) [(0 : Int), (6 : Int)] (Int.toNat (g_pick r0 (u1 (g_Vs_l20Rd_odd_2 r0 (u1 (u1 (u1 r1))) a2)) (2 : Int))) else bif g_pick r0 (g_Vs_l20Rd_odd_2 r0 (u1 (u1 (u1 r1))) a2) (5 : Int) == (1 : Int) then (4 : Int) else bif g_pick r0 (g_Vs_l20Rd_odd_2 r0 (u1 (u1 (u1 r1))) a2) (5 : Int) == (2 : Int) then (4 : Int) else bif g_pick r0 (g_Vs_l20Rd_odd_2 r0 (u1 (u1 (u1 r1))) a2) (5 : Int) == (3 : Int) then (4 : Int) else (4 : Int) else (4 : Int)
noncomputable def g_Vs_l20Op_1 (r0 : List Int) (r1 : Int) (a2 : Int) : Int := bif IntKind.wrap IntKind.i64 ((1 : Int) + g_pick r0 r1 (5 : Int)) == (1 : Int) then bif IntKind.wrap IntKind.i64 ((1 : Int) + g_pick r0 r1 (5 : Int)) == (1 : Int) then bif g_Vs_l20Rd_odd_0 r0 (u1 (u1 (u1 r1))) a2 then bif g_pick r0 (g_Vs_l20Rd_odd_2 r0 (u1 (u1 (u1 r1))) a2) (5 : Int) == (0 : Int) then g_pick r0 (u1 r1) (2 : Int) else bif g_pick r0 (g_Vs_l20Rd_odd_2 r0 (u1 (u1 (u1 r1))) a2) (5 : Int) == (1 : Int) then at_ (Ty.int IntKind.i64) [(-1 : Int), (10 : Int), (1 : Int)] (Int.toNat (g_pick r0 (u1 (g_Vs_l20Rd_odd_2 r0 (u1 (u1 (u1 r1))) a2)) (3 : Int))) else bif g_pick r0 (g_Vs_l20Rd_odd_2 r0 (u1 (u1 (u1 r1))) a2) (5 : Int) == (2 : Int) then g_pick r0 (u1 r1) (2 : Int) else bif g_pick r0 (g_Vs_l20Rd_odd_2 r0 (u1 (u1 (u1 r1))) a2) (5 : Int) == (3 : Int) then g_pick r0 (u1 r1) (2 : Int) else g_pick r0 (u1 r1) (2 : Int) else g_pick r0 (u1 r1) (2 : Int) else bif IntKind.wrap IntKind.i64 ((1 : Int) + g_pick r0 r1 (5 : Int)) == (2 : Int) then bif g_Vs_l20Rd_odd_0 r0 (u1 (u1 (u1 (u1 (u1 r1))))) a2 then bif g_pick r0 (g_Vs_l20Rd_odd_2 r0 (u1 (u1 (u1 (u1 (u1 r1))))) a2) (5 : Int) == (0 : Int) then g_pick r0 (u1 r1) (2 : Int) else bif g_pick r0 (g_Vs_l20Rd_odd_2 r0 (u1 (u1 (u1 (u1 (u1 r1))))) a2) (5 : Int) == (1 : Int) then at_ (Ty.int IntKind.i64) [(-1 : Int), (10 : Int), (1 : Int)] (Int.toNat (g_pick r0 (u1 (g_Vs_l20Rd_odd_2 r0 (u1 (u1 (u1 (u1 (u1 r1))))) a2)) (3 : Int))) else bif g_pick r0 (g_Vs_l20Rd_odd_2 r0 (u1 (u1 (u1 (u1 (u1 r1))))) a2) (5 : Int) == (2 : Int) then g_pick r0 (u1 r1) (2 : Int) else bif g_pick r0 (g_Vs_l20Rd_odd_2 r0 (u1 (u1 (u1 (u1 (u1 r1))))) a2) (5 : Int) == (3 : Int) then g_pick r0 (u1 r1) (2 : Int) else g_pick r0 (u1 r1) (2 : Int) else g_pick r0 (u1 r1) (2 : Int) else bif IntKind.wrap IntKind.i64 ((1 : Int) + g_pick r0 r1 (5 : Int)) == (3 : Int) then bif g_Vs_l20Rd_odd_0 r0 (u1 (u1 (u1 (u1 r1)))) a2 then bif g_pick r0 (g_Vs_l20Rd_odd_2 r0 (u1 (u1 (u1 (u1 r1)))) a2) (5 : Int) == (0 : Int) then (0 : Int) else bif g_pick r0 (g_Vs_l20Rd_odd_2 r0 (u1 (u1 (u1 (u1 r1)))) a2) (5 : Int) == (1 : Int) then at_ (Ty.int IntKind.i64) [(-1 : Int), (10 : Int), (1 : Int)] (Int.toNat (g_pick r0 (u1 (g_Vs_l20Rd_odd_2 r0 (u1 (u1 (u1 (u1 r1)))) a2)) (3 : Int))) else bif g_pick r0 (g_Vs_l20Rd_odd_2 r0 (u1 (u1 (u1 (u1 r1)))) a2) (5 : Int) == (2 : Int) then (0 : Int) else bif g_pick r0 (g_Vs_l20Rd_odd_2 r0 (u1 (u1 (u1 (u1 r1)))) a2) (5 : Int) == (3 : Int) then (0 : Int) else (0 : Int) else (0 : Int) else bif g_Vs_l20Rd_odd_0 r0 (u1 (u1 (u1 r1))) a2 then bif g_pick r0 (g_Vs_l20Rd_odd_2 r0 (u1 (u1 (u1 r1))) a2) (5 : Int) == (0 : Int) then (0 : Int) else bif g_pick r0 (g_Vs_l20Rd_odd_2 r0 (u1 (u1 (u1 r1))) a2) (5 : Int) == (1 : Int) then at_ (Ty.int IntKind.i64) [(-1 : Int), (10 : Int), (1 : Int)] (Int.toNat (g_pick r0 (u1 (g_Vs_l20Rd_odd_2 r0 (u1 (u1 (u1 r1))) a2)) (3 : Int))) else bif g_pick r0 (g_Vs_l20Rd_odd_2 r0 (u1 (u1 (u1 r1))) a2) (5 : Int) == (2 : Int) then (0 : Int) else bif g_pick r0 (g_Vs_l20Rd_odd_2 r0 (u1 (u1 (u1 r1))) a2) (5 : Int) == (3 : Int) then (0 : Int) else (0 : Int) else (0 : Int) else bif IntKind.wrap IntKind.i64 ((1 : Int) + g_pick r0 r1 (5 : Int)) == (5 : Int) then bif g_Vs_l20Rd_odd_0 r0 (u1 (u1 (u1 r1))) a2 then bif g_pick r0 (g_Vs_l20Rd_odd_2 r0 (u1 (u1 (u1 r1))) a2) (5 : Int) == (0 : Int) then g_pick r0 (u1 r1) (2 : Int) else bif g_pick r0 (g_Vs_l20Rd_odd_2 r0 (u1 (u1 (u1 r1))) a2) (5 : Int) == (1 : Int) then at_ (Ty.int IntKind.i64) [(-1 : Int), (10 : Int), (1 : Int)] (Int.toNat (g_pick r0 (u1 (g_Vs_l20Rd_odd_2 r0 (u1 (u1 (u1 r1))) a2)) (3 : Int))) else bif g_pick r0 (g_Vs_l20Rd_odd_2 r0 (u1 (u1 (u1 r1))) a2) (5 : Int) == (2 : Int) then g_pick r0 (u1 r1) (2 : Int) else bif g_pick r0 (g_Vs_l20Rd_odd_2 r0 (u1 (u1 (u1 r1))) a2) (5 : Int) == (3 : Int) then g_pick r0 (u1 r1) (2 : Int) else g_pick r0 (u1 r1) (2 : Int) else g_pick r0 (u1 r1) (2 : Int) else bif IntKind.wrap IntKind.i64 ((1 : Int) + g_pick r0 r1 (5 : Int)) == (2 : Int) then bif g_Vs_l20Rd_odd_0 r0 (u1 (u1 (u1 (u1 (u1 r1))))) a2 then bif g_pick r0 (g_Vs_l20Rd_odd_2 r0 (u1 (u1 (u1 (u1 (u1 r1))))) a2) (5 : Int) == (0 : Int) then g_pick r0 (u1 r1) (2 : Int) else bif g_pick r0 (g_Vs_l20Rd_odd_2 r0 (u1 (u1 (u1 (u1 (u1 r1))))) a2) (5 : Int) == (1 : Int) then at_ (Ty.int IntKind.i64) [(-1 : Int), (10 : Int), (1 : Int)] (Int.toNat (g_pick r0 (u1 (g_Vs_l20Rd_odd_2 r0 (u1 (u1 (u1 (u1 (u1 r1))))) a2)) (3 : Int))) else bif g_pick r0 (g_Vs_l20Rd_odd_2 r0 (u1 (u1 (u1 (u1 (u1 r1))))) a2) (5 : Int) == (2 : Int) then g_pick r0 (u1 r1) (2 : Int) else bif g_pick r0 (g_Vs_l20Rd_odd_2 r0 (u1 (u1 (u1 (u1 (u1 r1))))) a2) (5 : Int) == (3 : Int) then g_pick r0 (u1 r1) (2 : Int) else g_pick r0 (u1 r1) (2 : Int) else g_pick r0 (u1 r1) (2 : Int) else bif IntKind.wrap IntKind.i64 ((1 : Int) + g_pick r0 r1 (5 : Int)) == (3 : Int) then bif g_Vs_l20Rd_odd_0 r0 (u1 (u1 (u1 (u1 r1)))) a2 then bif g_pick r0 (g_Vs_l20Rd_odd_2 r0 (u1 (u1 (u1 (u1 r1)))) a2) (5 : Int) == (0 : Int) then (0 : Int) else bif g_pick r0 (g_Vs_l20Rd_odd_2 r0 (u1 (u1 (u1 (u1 r1)))) a2) (5 : Int) == (1 : Int) then at_ (Ty.int IntKind.i64) [(-1 : Int), (10 : Int), (1 : Int)] (Int.toNat (g_pick r0 (u1 (g_Vs_l20Rd_odd_2 r0 (u1 (u1 (u1 (u1 r1)))) a2)) (3 : Int))) else bif g_pick r0 (g_Vs_l20Rd_odd_2 r0 (u1 (u1 (u1 (u1 r1)))) a2) (5 : Int) == (2 : Int) then (0 : Int) else bif g_pick r0 (g_Vs_l20Rd_odd_2 r0 (u1 (u1 (u1 (u1 r1)))) a2) (5 : Int) == (3 : Int) then (0 : Int) else (0 : Int) else (0 : Int) else bif g_Vs_l20Rd_odd_0 r0 (u1 (u1 (u1 r1))) a2 then bif g_pick r0 (g_Vs_l20Rd_odd_2 r0 (u1 (u1 (u1 r1))) a2) (5 : Int) == (0 : Int) then (0 : Int) else bif g_pick r0 (g_Vs_l20Rd_odd_2 r0 (u1 (u1 (u1 r1))) a2) (5 : Int) == (1 : Int) then at_ (Ty.int IntKind.i64) [(-1 : Int), (10 : Int), (1 : Int)] (Int.toNat (g_pick r0 (u1 (g_Vs_l20Rd_odd_2 r0 (u1 (u1 (u1 r1))) a2)) (3 : Int))) else bif g_pick r0 (g_Vs_l20Rd_odd_2 r0 (u1 (u1 (u1 r1))) a2) (5 : Int) == (2 : Int) then (0 : Int) else bif g_pick r0 (g_Vs_l20Rd_odd_2 r0 (u1 (u1 (u1 r1))) a2) (5 : Int) == (3 : Int) then (0 : Int) else (0 : Int) else (0 : Int)
noncomputable def g_Vs_l20Op_2 (r0 : List Int) (r1 : Int) (a2 : Int) : Int := bif IntKind.wrap IntKind.i64 ((1 : Int) + g_pick r0 r1 (5 : Int)) == (1 : Int) then bif IntKind.wrap IntKind.i64 ((1 : Int) + g_pick r0 r1 (5 : Int)) == (1 : Int) then bif g_Vs_l20Rd_odd_0 r0 (u1 (u1 (u1 r1))) a2 then bif g_pick r0 (g_Vs_l20Rd_odd_2 r0 (u1 (u1 (u1 r1))) a2) (5 : Int) == (0 : Int) then g_pick r0 (u1 (u1 r1)) (3 : Int) else bif g_pick r0 (g_Vs_l20Rd_odd_2 r0 (u1 (u1 (u1 r1))) a2) (5 : Int) == (1 : Int) then g_pick r0 (u1 (u1 r1)) (3 : Int) else bif g_pick r0 (g_Vs_l20Rd_odd_2 r0 (u1 (u1 (u1 r1))) a2) (5 : Int) == (2 : Int) then g_pick r0 (u1 (u1 r1)) (3 : Int) else bif g_pick r0 (g_Vs_l20Rd_odd_2 r0 (u1 (u1 (u1 r1))) a2) (5 : Int) == (3 : Int) then g_pick r0 (u1 (u1 r1)) (3 : Int) else g_pick r0 (u1 (u1 r1)) (3 : Int) else g_pick r0 (u1 (u1 r1)) (3 : Int) else bif IntKind.wrap IntKind.i64 ((1 : Int) + g_pick r0 r1 (5 : Int)) == (2 : Int) then bif g_Vs_l20Rd_odd_0 r0 (u1 (u1 (u1 (u1 (u1 r1))))) a2 then bif g_pick r0 (g_Vs_l20Rd_odd_2 r0 (u1 (u1 (u1 (u1 (u1 r1))))) a2) (5 : Int) == (0 : Int) then g_pick r0 (u1 (u1 r1)) (3 : Int) else bif g_pick r0 (g_Vs_l20Rd_odd_2 r0 (u1 (u1 (u1 (u1 (u1 r1))))) a2) (5 : Int) == (1 : Int) then g_pick r0 (u1 (u1 r1)) (3 : Int) else bif g_pick r0 (g_Vs_l20Rd_odd_2 r0 (u1 (u1 (u1 (u1 (u1 r1))))) a2) (5 : Int) == (2 : Int) then g_pick r0 (u1 (u1 r1)) (3 : Int) else bif g_pick r0 (g_Vs_l20Rd_odd_2 r0 (u1 (u1 (u1 (u1 (u1 r1))))) a2) (5 : Int) == (3 : Int) then g_pick r0 (u1 (u1 r1)) (3 : Int) else g_pick r0 (u1 (u1 r1)) (3 : Int) else g_pick r0 (u1 (u1 r1)) (3 : Int) else bif IntKind.wrap IntKind.i64 ((1 : Int) + g_pick r0 r1 (5 : Int)) == (3 : Int) then bif g_Vs_l20Rd_odd_0 r0 (u1 (u1 (u1 (u1 r1)))) a2 then bif g_pick r0 (g_Vs_l20Rd_odd_2 r0 (u1 (u1 (u1 (u1 r1)))) a2) (5 : Int) == (0 : Int) then (0 : Int) else bif g_pick r0 (g_Vs_l20Rd_odd_2 r0 (u1 (u1 (u1 (u1 r1)))) a2) (5 : Int) == (1 : Int) then (0 : Int) else bif g_pick r0 (g_Vs_l20Rd_odd_2 r0 (u1 (u1 (u1 (u1 r1)))) a2) (5 : Int) == (2 : Int) then (0 : Int) else bif g_pick r0 (g_Vs_l20Rd_odd_2 r0 (u1 (u1 (u1 (u1 r1)))) a2) (5 : Int) == (3 : Int) then (0 : Int) else (0 : Int) else (0 : Int) else bif g_Vs_l20Rd_odd_0 r0 (u1 (u1 (u1 r1))) a2 then bif g_pick r0 (g_Vs_l20Rd_odd_2 r0 (u1 (u1 (u1 r1))) a2) (5 : Int) == (0 : Int) then (0 : Int) else bif g_pick r0 (g_Vs_l20Rd_odd_2 r0 (u1 (u1 (u1 r1))) a2) (5 : Int) == (1 : Int) then (0 : Int) else bif g_pick r0 (g_Vs_l20Rd_odd_2 r0 (u1 (u1 (u1 r1))) a2) (5 : Int) == (2 : Int) then (0 : Int) else bif g_pick r0 (g_Vs_l20Rd_odd_2 r0 (u1 (u1 (u1 r1))) a2) (5 : Int) == (3 : Int) then (0 : Int) else (0 : Int) else (0 : Int) else bif IntKind.wrap IntKind.i64 ((1 : Int) + g_pick r0 r1 (5 : Int)) == (5 : Int) then bif g_Vs_l20Rd_odd_0 r0 (u1 (u1 (u1 r1))) a2 then bif g_pick r0 (g_Vs_l20Rd_odd_2 r0 (u1 (u1 (u1 r1))) a2) (5 : Int) == (0 : Int) then g_pick r0 (u1 (u1 r1)) (3 : Int) else bif g_pick r0 (g_Vs_l20Rd_odd_2 r0 (u1 (u1 (u1 r1))) a2) (5 : Int) == (1 : Int) then g_pick r0 (u1 (u1 r1)) (3 : Int) else bif g_pick r0 (g_Vs_l20Rd_odd_2 r0 (u1 (u1 (u1 r1))) a2) (5 : Int) == (2 : Int) then g_pick r0 (u1 (u1 r1)) (3 : Int) else bif g_pick r0 (g_Vs_l20Rd_odd_2 r0 (u1 (u1 (u1 r1))) a2) (5 : Int) == (3 : Int) then g_pick r0 (u1 (u1 r1)) (3 : Int) else g_pick r0 (u1 (u1 r1)) (3 : Int) else g_pick r0 (u1 (u1 r1)) (3 : Int) else bif IntKind.wrap IntKind.i64 ((1 : Int) + g_pick r0 r1 (5 : Int)) == (2 : Int) then bif g_Vs_l20Rd_odd_0 r0 (u1 (u1 (u1 (u1 (u1 r1))))) a2 then bif g_pick r0 (g_Vs_l20Rd_odd_2 r0 (u1 (u1 (u1 (u1 (u1 r1))))) a2) (5 : Int) == (0 : Int) then g_pick r0 (u1 (u1 r1)) (3 : Int) else bif g_pick r0 (g_Vs_l20Rd_odd_2 r0 (u1 (u1 (u1 (u1 (u1 r1))))) a2) (5 : Int) == (1 : Int) then g_pick r0 (u1 (u1 r1)) (3 : Int) else bif g_pick r0 (g_Vs_l20Rd_odd_2 r0 (u1 (u1 (u1 (u1 (u1 r1))))) a2) (5 : Int) == (2 : Int) then g_pick r0 (u1 (u1 r1)) (3 : Int) else bif g_pick r0 (g_Vs_l20Rd_odd_2 r0 (u1 (u1 (u1 (u1 (u1 r1))))) a2) (5 : Int) == (3 : Int) then g_pick r0 (u1 (u1 r1)) (3 : Int) else g_pick r0 (u1 (u1 r1)) (3 : Int) else g_pick r0 (u1 (u1 r1)) (3 : Int) else bif IntKind.wrap IntKind.i64 ((1 : Int) + g_pick r0 r1 (5 : Int)) == (3 : Int) then bif g_Vs_l20Rd_odd_0 r0 (u1 (u1 (u1 (u1 r1)))) a2 then bif g_pick r0 (g_Vs_l20Rd_odd_2 r0 (u1 (u1 (u1 (u1 r1)))) a2) (5 : Int) == (0 : Int) then (0 : Int) else bif g_pick r0 (g_Vs_l20Rd_odd_2 r0 (u1 (u1 (u1 (u1 r1)))) a2) (5 : Int) == (1 : Int) then (0 : Int) else bif g_pick r0 (g_Vs_l20Rd_odd_2 r0 (u1 (u1 (u1 (u1 r1)))) a2) (5 : Int) == (2 : Int) then (0 : Int) else bif g_pick r0 (g_Vs_l20Rd_odd_2 r0 (u1 (u1 (u1 (u1 r1)))) a2) (5 : Int) == (3 : Int) then (0 : Int) else (0 : Int) else (0 : Int) else bif g_Vs_l20Rd_odd_0 r0 (u1 (u1 (u1 r1))) a2 then bif g_pick r0 (g_Vs_l20Rd_odd_2 r0 (u1 (u1 (u1 r1))) a2) (5 : Int) == (0 : Int) then (0 : Int) else bif g_pick r0 (g_Vs_l20Rd_odd_2 r0 (u1 (u1 (u1 r1))) a2) (5 : Int) == (1 : Int) then (0 : Int) else bif g_pick r0 (g_Vs_l20Rd_odd_2 r0 (u1 (u1 (u1 r1))) a2) (5 : Int) == (2 : Int) then (0 : Int) else bif g_pick r0 (g_Vs_l20Rd_odd_2 r0 (u1 (u1 (u1 r1))) a2) (5 : Int) == (3 : Int) then (0 : Int) else (0 : Int) else (0 : Int)
noncomputable def g_Vs_l20Op_3 (r0 : List Int) (r1 : Int) (a2 : Int) : Int := bif IntKind.wrap IntKind.i64 ((1 : Int) + g_pick r0 r1 (5 : Int)) == (1 : Int) then bif IntKind.wrap IntKind.i64 ((1 : Int) + g_pick r0 r1 (5 : Int)) == (1 : Int) then bif g_Vs_l20Rd_odd_0 r0 (u1 (u1 (u1 r1))) a2 then bif g_pick r0 (g_Vs_l20Rd_odd_2 r0 (u1 (u1 (u1 r1))) a2) (5 : Int) == (0 : Int) then (0 : Int) else bif g_pick r0 (g_Vs_l20Rd_odd_2 r0 (u1 (u1 (u1 r1))) a2) (5 : Int) == (1 : Int) then (0 : Int) else bif g_pick r0 (g_Vs_l20Rd_odd_2 r0 (u1 (u1 (u1 r1))) a2) (5 : Int) == (2 : Int) then at_ (Ty.int IntKind.i64) [(-1 : Int), (10 : Int), (1 : Int)] (Int.toNat (g_pick r0 (u1 (g_Vs_l20Rd_odd_2 r0 (u1 (u1 (u1 r1))) a2)) (3 : Int))) else bif g_pick r0 (g_Vs_l20Rd_odd_2 r0 (u1 (u1 (u1 r1))) a2) (5 : Int) == (3 : Int) then (0 : Int) else (0 : Int) else (0 : Int) else bif IntKind.wrap IntKind.i64 ((1 : Int) + g_pick r0 r1 (5 : Int)) == (2 : Int) then bif g_Vs_l20Rd_odd_0 r0 (u1 (u1 (u1 (u1 (u1 r1))))) a2 then bif g_pick r0 (g_Vs_l20Rd_odd_2 r0 (u1 (u1 (u1 (u1 (u1 r1))))) a2) (5 : Int) == (0 : Int) then g_pick r0 (u1 (u1 (u1 r1))) (3 : Int) else bif g_pick r0 (g_Vs_l20Rd_odd_2 r0 (u1 (u1 (u1 (u1 (u1 r1))))) a2) (5 : Int) == (1 : Int) then g_pick r0 (u1 (u1 (u1 r1))) (3 : Int) else bif g_pick r0 (g_Vs_l20Rd_odd_2 r0 (u1 (u1 (u1 (u1 (u1 r1))))) a2) (5 : Int) == (2 : Int) then at_ (Ty.int IntKind.i64) [(-1 : Int), (10 : Int), (1 : Int)] (Int.toNat (g_pick r0 (u1 (g_Vs_l20Rd_odd_2 r0 (u1 (u1 (u1 (u1 (u1 r1))))) a2)) (3 : Int))) else bif g_pick r0 (g_Vs_l20Rd_odd_2 r0 (u1 (u1 (u1 (u1 (u1 r1))))) a2) (5 : Int) == (3 : Int) then g_pick r0 (u1 (u1 (u1 r1))) (3 : Int) else g_pick r0 (u1 (u1 (u1 r1))) (3 : Int) else g_pick r0 (u1 (u1 (u1 r1))) (3 : Int) else bif IntKind.wrap IntKind.i64 ((1 : Int) + g_pick r0 r1 (5 : Int)) == (3 : Int) then bif g_Vs_l20Rd_odd_0 r0 (u1 (u1 (u1 (u1 r1)))) a2 then bif g_pick r0 (g_Vs_l20Rd_odd_2 r0 (u1 (u1 (u1 (u1 r1)))) a2) (5 : Int) == (0 : Int) then g_pick r0 (u1 r1) (3 : Int) else bif g_pick r0 (g_Vs_l20Rd_odd_2 r0 (u1 (u1 (u1 (u1 r1)))) a2) (5 : Int) == (1 : Int) then g_pick r0 (u1 r1) (3 : Int) else bif g_pick r0 (g_Vs_l20Rd_odd_2 r0 (u1 (u1 (u1 (u1 r1)))) a2) (5 : Int) == (2 : Int) then at_ (Ty.int IntKind.i64) [(-1 : Int), (10 : Int), (1 : Int)] (Int.toNat (g_pick r0 (u1 (g_Vs_l20Rd_odd_2 r0 (u1 (u1 (u1 (u1 r1)))) a2)) (3 : Int))) else bif g_pick r0 (g_Vs_l20Rd_odd_2 r0 (u1 (u1 (u1 (u1 r1)))) a2) (5 : Int) == (3 : Int) then g_pick r0 (u1 r1) (3 : Int) else g_pick r0 (u1 r1) (3 : Int) else g_pick r0 (u1 r1) (3 : Int) else bif g_Vs_l20Rd_odd_0 r0 (u1 (u1 (u1 r1))) a2 then bif g_pick r0 (g_Vs_l20Rd_odd_2 r0 (u1 (u1 (u1 r1))) a2) (5 : Int) == (0 : Int) then (0 : Int) else bif g_pick r0 (g_Vs_l20Rd_odd_2 r0 (u1 (u1 (u1 r1))) a2) (5 : Int) == (1 : Int) then (0 : Int) else bif g_pick r0 (g_Vs_l20Rd_odd_2 r0 (u1 (u1 (u1 r1))) a2) (5 : Int) == (2 : Int) then at_ (Ty.int IntKind.i64) [(-1 : Int), (10 : Int), (1 : Int)] (Int.toNat (g_pick r0 (u1 (g_Vs_l20Rd_odd_2 r0 (u1 (u1 (u1 r1))) a2)) (3 : Int))) else bif g_pick r0 (g_Vs_l20Rd_odd_2 r0 (u1 (u1 (u1 r1))) a2) (5 : Int) == (3 : Int) then (0 : Int) else (0 : Int) else (0 : Int) else bif IntKind.wrap IntKind.i64 ((1 : Int) + g_pick r0 r1 (5 : Int)) == (5 : Int) then bif g_Vs_l20Rd_odd_0 r0 (u1 (u1 (u1 r1))) a2 then bif g_pick r0 (g_Vs_l20Rd_odd_2 r0 (u1 (u1 (u1 r1))) a2) (5 : Int) == (0 : Int) then (0 : Int) else bif g_pick r0 (g_Vs_l20Rd_odd_2 r0 (u1 (u1 (u1 r1))) a2) (5 : Int) == (1 : Int) then (0 : Int) else bif g_pick r0 (g_Vs_l20Rd_odd_2 r0 (u1 (u1 (u1 r1))) a2) (5 : Int) == (2 : Int) then at_ (Ty.int IntKind.i64) [(-1 : Int), (10 : Int), (1 : Int)] (Int.toNat (g_pick r0 (u1 (g_Vs_l20Rd_odd_2 r0 (u1 (u1 (u1 r1))) a2)) (3 : Int))) else bif g_pick r0 (g_Vs_l20Rd_odd_2 r0 (u1 (u1 (u1 r1))) a2) (5 : Int) == (3 : Int) then (0 : Int) else (0 : Int) else (0 : Int) else bif IntKind.wrap IntKind.i64 ((1 : Int) + g_pick r0 r1 (5 : Int)) == (2 : Int) then bif g_Vs_l20Rd_odd_0 r0 (u1 (u1 (u1 (u1 (u1 r1))))) a2 then bif g_pick r0 (g_Vs_l20Rd_odd_2 r0 (u1 (u1 (u1 (u1 (u1 r1))))) a2) (5 : Int) == (0 : Int) then g_pick r0 (u1 (u1 (u1 r1))) (3 : Int) else bif g_pick r0 (g_Vs_l20Rd_odd_2 r0 (u1 (u1 (u1 (u1 (u1 r1))))) a2) (5 : Int) == (1 : Int) then g_pick r0 (u1 (u1 (u1 r1))) (3 : Int) else bif g_pick r0 (g_Vs_l20Rd_odd_2 r0 (u1 (u1 (u1 (u1 (u1 r1))))) a2) (5 : Int) == (2 : Int) then at_ (Ty.int IntKind.i64) [(-1 : Int), (10 : Int), (1 : Int)] (Int.toNat (g_pick r0 (u1 (g_Vs_l20Rd_odd_2 r0 (u1 (u1 (u1 (u1 (u1 r1))))) a2)) (3 : Int))) else bif g_pick r0 (g_Vs_l20Rd_odd_2 r0 (u1 (u1 (u1 (u1 (u1 r1))))) a2) (5 : Int) == (3 : Int) then g_pick r0 (u1 (u1 (u1 r1))) (3 : Int) else g_pick r0 (u1 (u1 (u1 r1))) (3 : Int) else g_pick r0 (u1 (u1 (u1 r1))) (3 : Int) else bif IntKind.wrap IntKind.i64 ((1 : Int) + g_pick r0 r1 (5 : Int)) == (3 : Int) then bif g_Vs_l20Rd_odd_0 r0 (u1 (u1 (u1 (u1 r1)))) a2 then bif g_pick r0 (g_Vs_l20Rd_odd_2 r0 (u1 (u1 (u1 (u1 r1)))) a2) (5 : Int) == (0 : Int) then g_pick r0 (u1 r1) (3 : Int) else bif g_pick r0 (g_Vs_l20Rd_odd_2 r0 (u1 (u1 (u1 (u1 r1)))) a2) (5 : Int) == (1 : Int) then g_pick r0 (u1 r1) (3 : Int) else bif g_pick r0 (g_Vs_l20Rd_odd_2 r0 (u1 (u1 (u1 (u1 r1)))) a2) (5 : Int) == (2 : Int) then at_ (Ty.int IntKind.i64) [(-1 : Int), (10 : Int), (1 : Int)] (Int.toNat (g_pick r0 (u1 (g_Vs_l20Rd_odd_2 r0 (u1 (u1 (u1 (u1 r1)))) a2)) (3 : Int))) else bif g_pick r0 (g_Vs_l20Rd_odd_2 r0 (u1 (u1 (u1 (u1 r1)))) a2) (5 : Int) == (3 : Int) then g_pick r0 (u1 r1) (3 : Int) else g_pick r0 (u1 r1) (3 : Int) else g_pick r0 (u1 r1) (3 : Int) else bif g_Vs_l20Rd_odd_0 r0 (u1 (u1 (u1 r1))) a2 then bif g_pick r0 (g_Vs_l20Rd_odd_2 r0 (u1 (u1 (u1 r1))) a2) (5 : Int) == (0 : Int) then (0 : Int) else bif g_pick r0 (g_Vs_l20Rd_odd_2 r0 (u1 (u1 (u1 r1))) a2) (5 : Int) == (1 : Int) then (0 : Int) else bif g_pick r0 (g_Vs_l20Rd_odd_2 r0 (u1 (u1 (u1 r1))) a2) (5 : Int) == (2 : Int) then at_ (Ty.int IntKind.i64) [(-1 : Int), (10 : Int), (1 : Int)] (Int.toNat (g_pick r0 (u1 (g_Vs_l20Rd_odd_2 r0 (u1 (u1 (u1 r1))) a2)) (3 : Int))) else bif g_pick r0 (g_Vs_l20Rd_odd_2 r0 (u1 (u1 (u1 r1))) a2) (5 : Int) == (3 : Int) then (0 : Int) else (0 : Int) else (0 : Int)
noncomputable def g_Vs_l20Op_4 (r0 : List Int) (r1 : Int) (a2 : Int) : Int := bif IntKind.wrap IntKind.i64 ((1 : Int) + g_pick r0 r1 (5 : Int)) == (1 : Int) then bif IntKind.wrap IntKind.i64 ((1 : Int) + g_pick r0 r1 (5 : Int)) == (1 : Int) then bif g_Vs_l20Rd_odd_0 r0 (u1 (u1 (u1 r1))) a2 then bif g_pick r0 (g_Vs_l20Rd_odd_2 r0 (u1 (u1 (u1 r1))) a2) (5 : Int) == (0 : Int) then (0 : Int) else bif g_pick r0 (g_Vs_l20Rd_odd_2 r0 (u1 (u1 (u1 r1))) a2) (5 : Int) == (1 : Int) then (0 : Int) else bif g_pick r0 (g_Vs_l20Rd_odd_2 r0 (u1 (u1 (u1 r1))) a2) (5 : Int) == (2 : Int) then (0 : Int) else bif g_pick r0 (g_Vs_l20Rd_odd_2 r0 (u1 (u1 (u1 r1))) a2) (5 : Int) == (3 : Int) then (0 : Int) else at_ (Ty.int IntKind.i64) [(-1 : Int), (100 : Int), (99 : Int)] (Int.toNat (g_pick r0 (u1 (g_Vs_l20Rd_odd_2 r0 (u1 (u1 (u1 r1))) a2)) (3 : Int))) else (0 : Int) else bif IntKind.wrap IntKind.i64 ((1 : Int) + g_pick r0 r1 (5 : Int)) == (2 : Int) then bif g_Vs_l20Rd_odd_0 r0 (u1 (u1 (u1 (u1 (u1 r1))))) a2 then bif g_pick r0 (g_Vs_l20Rd_odd_2 r0 (u1 (u1 (u1 (u1 (u1 r1))))) a2) (5 : Int) == (0 : Int) then g_pick r0 (u1 (u1 (u1 (u1 r1)))) (3 : Int) else bif g_pick r0 (g_Vs_l20Rd_odd_2 r0 (u1 (u1 (u1 (u1 (u1 r1))))) a2) (5 : Int) == (1 : Int) then g_pick r0 (u1 (u1 (u1 (u1 r1)))) (3 : Int) else bif g_pick r0 (g_Vs_l20Rd_odd_2 r0 (u1 (u1 (u1 (u1 (u1 r1))))) a2) (5 : Int) == (2 : Int) then g_pick r0 (u1 (u1 (u1 (u1 r1)))) (3 : Int) else bif g_pick r0 (g_Vs_l20Rd_odd_2 r0 (u1 (u1 (u1 (u1 (u1 r1))))) a2) (5 : Int) == (3 : Int) then g_pick r0 (u1 (u1 (u1 (u1 r1)))) (3 : Int) else at_ (Ty.int IntKind.i64) [(-1 : Int), (100 : Int), (99 : Int)] (Int.toNat (g_pick r0 (u1 (g_Vs_l20Rd_odd_2 r0 (u1 (u1 (u1 (u1 (u1 r1))))) a2)) (3 : Int))) else g_pick r0 (u1 (u1 (u1 (u1 r1)))) (3 : Int) else bif IntKind.wrap IntKind.i64 ((1 : Int) + g_pick r0 r1 (5 : Int)) == (3 : Int) then bif g_Vs_l20Rd_odd_0 r0 (u1 (u1 (u1 (u1 r1)))) a2 then bif g_pick r0 (g_Vs_l20Rd_odd_2 r0 (u1 (u1 (u1 (u1 r1)))) a2) (5 : Int) == (0 : Int) then g_pick r0 (u1 (u1 r1)) (3 : Int) else bif g_pick r0 (g_Vs_l20Rd_odd_2 r0 (u1 (u1 (u1 (u1 r1)))) a2) (5 : Int) == (1 : Int) then g_pick r0 (u1 (u1 r1)) (3 : Int) else bif g_pick r0 (g_Vs_l20Rd_odd_2 r0 (u1 (u1 (u1 (u1 r1)))) a2) (5 : Int) == (2 : Int) then g_pick r0 (u1 (u1 r1)) (3 : Int) else bif g_pick r0 (g_Vs_l20Rd_odd_2 r0 (u1 (u1 (u1 (u1 r1)))) a2) (5 : Int) == (3 : Int) then g_pick r0 (u1 (u1 r1)) (3 : Int) else at_ (Ty.int IntKind.i64) [(-1 : Int), (100 : Int), (99 : Int)] (Int.toNat (g_pick r0 (u1 (g_Vs_l20Rd_odd_2 r0 (u1 (u1 (u1 (u1 r1)))) a2)) (3 : Int))) else g_pick r0 (u1 (u1 r1)) (3 : Int) else bif g_Vs_l20Rd_odd_0 r0 (u1 (u1 (u1 r1))) a2 then bif g_pick r0 (g_Vs_l20Rd_odd_2 r0 (u1 (u1 (u1 r1))) a2) (5 : Int) == (0 : Int) then (0 : Int) else bif g_pick r0 (g_Vs_l20Rd_odd_2 r0 (u1 (u1 (u1 r1))) a2) (5 : Int) == (1 : Int) then (0 : Int) else bif g_pick r0 (g_Vs_l20Rd_odd_2 r0 (u1 (u1 (u1 r1))) a2) (5 : Int) == (2 : Int) then (0 : Int) else bif g_pick r0 (g_Vs_l20Rd_odd_2 r0 (u1 (u1 (u1 r1))) a2) (5 : Int) == (3 : Int) then (0 : Int) else at_ (Ty.int IntKind.i64) [(-1 : Int), (100 : Int), (99 : Int)] (Int.toNat (g_pick r0 (u1 (g_Vs_l20Rd_odd_2 r0 (u1 (u1 (u1 r1))) a2)) (3 : Int))) else (0 : Int) else bif IntKind.wrap IntKind.i64 ((1 : Int) + g_pick r0 r1 (5 : Int)) == (5 : Int) then bif g_Vs_l20Rd_odd_0 r0 (u1 (u1 (u1 r1))) a2 then bif g_pick r0 (g_Vs_l20Rd_odd_2 r0 (u1 (u1 (u1 r1))) a2) (5 : Int) == (0 : Int) then (0 : Int) else bif g_pick r0 (g_Vs_l20Rd_odd_2 r0 (u1 (u1 (u1 r1))) a2) (5 : Int) == (1 : Int) then (0 : Int) else bif g_pick r0 (g_Vs_l20Rd_odd_2 r0 (u1 (u1 (u1 r1))) a2) (5 : Int) == (2 : Int) then (0 : Int) else bif g_pick r0 (g_Vs_l20Rd_odd_2 r0 (u1 (u1 (u1 r1))) a2) (5 : Int) == (3 : Int) then (0 : Int) else at_ (Ty.int IntKind.i64) [(-1 : Int), (100 : Int), (99 : Int)] (Int.toNat (g_pick r0 (u1 (g_Vs_l20Rd_odd_2 r0 (u1 (u1 (u1 r1))) a2)) (3 : Int))) else (0 : Int) else bif IntKind.wrap IntKind.i64 ((1 : Int) + g_pick r0 r1 (5 : Int)) == (2 : Int) then bif g_Vs_l20Rd_odd_0 r0 (u1 (u1 (u1 (u1 (u1 r1))))) a2 then bif g_pick r0 (g_Vs_l20Rd_odd_2 r0 (u1 (u1 (u1 (u1 (u1 r1))))) a2) (5 : Int) == (0 : Int) then g_pick r0 (u1 (u1 (u1 (u1 r1)))) (3 : Int) else bif g_pick r0 (g_Vs_l20Rd_odd_2 r0 (u1 (u1 (u1 (u1 (u1 r1))))) a2) (5 : Int) == (1 : Int) then g_pick r0 (u1 (u1 (u1 (u1 r1)))) (3 : Int) else bif g_pick r0 (g_Vs_l20Rd_odd_2 r0 (u1 (u1 (u1 (u1 (u1 r1))))) a2) (5 : Int) == (2 : Int) then g_pick r0 (u1 (u1 (u1 (u1 r1)))) (3 : Int) else bif g_pick r0 (g_Vs_l20Rd_odd_2 r0 (u1 (u1 (u1 (u1 (u1 r1))))) a2) (5 : Int) == (3 : Int) then g_pick r0 (u1 (u1 (u1 (u1 r1)))) (3 : Int) else at_ (Ty.int IntKind.i64) [(-1 : Int), (100 : Int), (99 : Int)] (Int.toNat (g_pick r0 (u1 (g_Vs_l20Rd_odd_2 r0 (u1 (u1 (u1 (u1 (u1 r1))))) a2)) (3 : Int))) else g_pick r0 (u1 (u1 (u1 (u1 r1)))) (3 : Int) else bif IntKind.wrap IntKind.i64 ((1 : Int) + g_pick r0 r1 (5 : Int)) == (3 : Int) then bif g_Vs_l20Rd_odd_0 r0 (u1 (u1 (u1 (u1 r1)))) a2 then bif g_pick r0 (g_Vs_l20Rd_odd_2 r0 (u1 (u1 (u1 (u1 r1)))) a2) (5 : Int) == (0 : Int) then g_pick r0 (u1 (u1 r1)) (3 : Int) else bif g_pick r0 (g_Vs_l20Rd_odd_2 r0 (u1 (u1 (u1 (u1 r1)))) a2) (5 : Int) == (1 : Int) then g_pick r0 (u1 (u1 r1)) (3 : Int) else bif g_pick r0 (g_Vs_l20Rd_odd_2 r0 (u1 (u1 (u1 (u1 r1)))) a2) (5 : Int) == (2 : Int) then g_pick r0 (u1 (u1 r1)) (3 : Int) else bif g_pick r0 (g_Vs_l20Rd_odd_2 r0 (u1 (u1 (u1 (u1 r1)))) a2) (5 : Int) == (3 : Int) then g_pick r0 (u1 (u1 r1)) (3 : Int) else at_ (Ty.int IntKind.i64) [(-1 : Int), (100 : Int), (99 : Int)] (Int.toNat (g_pick r0 (u1 (g_Vs_l20Rd_odd_2 r0 (u1 (u1 (u1 (u1 r1)))) a2)) (3 : Int))) else g_pick r0 (u1 (u1 r1)) (3 : Int) else bif g_Vs_l20Rd_odd_0 r0 (u1 (u1 (u1 r1))) a2 then bif g_pick r0 (g_Vs_l20Rd_odd_2 r0 (u1 (u1 (u1 r1))) a2) (5 : Int) == (0 : Int) then (0 : Int) else bif g_pick r0 (g_Vs_l20Rd_odd_2 r0 (u1 (u1 (u1 r1))) a2) (5 : Int) == (1 : Int) then (0 : Int) else bif g_pick r0 (g_Vs_l20Rd_odd_2 r0 (u1 (u1 (u1 r1))) a2) (5 : Int) == (2 : Int) then (0 : Int) else bif g_pick r0 (g_Vs_l20Rd_odd_2 r0 (u1 (u1 (u1 r1))) a2) (5 : Int) == (3 : Int) then (0 : Int) else at_ (Ty.int IntKind.i64) [(-1 : Int), (100 : Int), (99 : Int)] (Int.toNat (g_pick r0 (u1 (g_Vs_l20Rd_odd_2 r0 (u1 (u1 (u1 r1))) a2)) (3 : Int))) else (0 : Int)
noncomputable def g_Vs_l20Op_5 (r0 : List Int) (r1 : Int) (a2 : Int) : Int := bif IntKind.wrap IntKind.i64 ((1 : Int) + g_pick r0 r1 (5 : Int)) == (1 : Int) then bif IntKind.wrap IntKind.i64 ((1 : Int) + g_pick r0 r1 (5 : Int)) == (1 : Int) then bif g_Vs_l20Rd_odd_0 r0 (u1 (u1 (u1 r1))) a2 then bif g_pick r0 (g_Vs_l20Rd_odd_2 r0 (u1 (u1 (u1 r1))) a2) (5 : Int) == (0 : Int) then (0 : Int) else bif g_pick r0 (g_Vs_l20Rd_odd_2 r0 (u1 (u1 (u1 r1))) a2) (5 : Int) == (1 : Int) then (0 : Int) else bif g_pick r0 (g_Vs_l20Rd_odd_2 r0 (u1 (u1 (u1 r1))) a2) (5 : Int) == (2 : Int) then (0 : Int) else bif g_pick r0 (g_Vs_l20Rd_odd_2 r0 (u1 (u1 (u1 r1))) a2) (5 : Int) == (3 : Int) then (0 : Int) else (0 : Int) else (0 : Int) else bif IntKind.wrap IntKind.i64 ((1 : Int) + g_pick r0 r1 (5 : Int)) == (2 : Int) then bif g_Vs_l20Rd_odd_0 r0 (u1 (u1 (u1 (u1 (u1 r1))))) a2 then bif g_pick r0 (g_Vs_l20Rd_odd_2 r0 (u1 (u1 (u1 (u1 (u1 r1))))) a2) (5 : Int) == (0 : Int) then (0 : Int) else bif g_pick r0 (g_Vs_l20Rd_odd_2 r0 (u1 (u1 (u1 (u1 (u1 r1))))) a2) (5 : Int) == (1 : Int) then (0 : Int) else bif g_pick r0 (g_Vs_l20Rd_odd_2 r0 (u1 (u1 (u1 (u1 (u1 r1))))) a2) (5 : Int) == (2 : Int) then (0 : Int) else bif g_pick r0 (g_Vs_l20Rd_odd_2 r0 (u1 (u1 (u1 (u1 (u1 r1))))) a2) (5 : Int) == (3 : Int) then (0 : Int) else (0 : Int) else (0 : Int) else bif IntKind.wrap IntKind.i64 ((1 : Int) + g_pick r0 r1 (5 : Int)) == (3 : Int) then bif g_Vs_l20Rd_odd_0 r0 (u1 (u1 (u1 (u1 r1)))) a2 then bif g_pick r0 (g_Vs_l20Rd_odd_2 r0 (u1 (u1 (u1 (u1 r1)))) a2) (5 : Int) == (0 : Int) then g_pick r0 (u1 (u1 (u1 r1))) (3 : Int) else bif g_pick r0 (g_Vs_l20Rd_odd_2 r0 (u1 (u1 (u1 (u1 r1)))) a2) (5 : Int) == (1 : Int) then g_pick r0 (u1 (u1 (u1 r1))) (3 : Int) else bif g_pick r0 (g_Vs_l20Rd_odd_2 r0 (u1 (u1 (u1 (u1 r1)))) a2) (5 : Int) == (2 : Int) then g_pick r0 (u1 (u1 (u1 r1))) (3 : Int) else bif g_pick r0 (g_Vs_l20Rd_odd_2 r0 (u1 (u1 (u1 (u1 r1)))) a2) (5 : Int) == (3 : Int) then g_pick r0 (u1 (u1 (u1 r1))) (3 : Int) else g_pick r0 (u1 (u1 (u1 r1))) (3 : Int) else g_pick r0 (u1 (u1 (u1 r1))) (3 : Int) else bif g_Vs_l20Rd_odd_0 r0 (u1 (u1 (u1 r1))) a2 then bif g_pick r0 (g_Vs_l20Rd_odd_2 r0 (u1 (u1 (u1 r1))) a2) (5 : Int) == (0 : Int) then g_pick r0 (u1 r1) (3 : Int) else bif g_pick r0 (g_Vs_l20Rd_odd_2 r0 (u1 (u1 (u1 r1))) a2) (5 : Int) == (1 : Int) then g_pick r0 (u1 r1) (3 : Int) else bif g_pick r0 (g_Vs_l20Rd_odd_2 r0 (u1 (u1 (u1 r1))) a2) (5 : Int) == (2 : Int) then g_pick r0 (u1 r1) (3 : Int) else bif g_pick r0 (g_Vs_l20Rd_odd_2 r0 (u1 (u1 (u1 r1))) a2) (5 : Int) == (3 : Int) then g_pick r0 (u1 r1) (3 : Int) else g_pick r0 (u1 r1) (3 : Int) else g_pick r0 (u1 r1) (3 : Int) else bif IntKind.wrap IntKind.i64 ((1 : Int) + g_pick r0 r1 (5 : Int)) == (5 : Int) then bif g_Vs_l20Rd_odd_0 r0 (u1 (u1 (u1 r1))) a2 then bif g_pick r0 (g_Vs_l20Rd_odd_2 r0 (u1 (u1 (u1 r1))) a2) (5 : Int) == (0 : Int) then (0 : Int) else bif g_pick r0 (g_Vs_l20Rd_odd_2 r0 (u1 (u1 (u1 r1))) a2) (5 : Int) == (1 : Int) then (0 : Int) else bif g_pick r0 (g_Vs_l20Rd_odd_2 r0 (u1 (u1 (u1 r1))) a2) (5 : Int) == (2 : Int) then (0 : Int) else bif g_pick r0 (g_Vs_l20Rd_odd_2 r0 (u1 (u1 (u1 r1))) a2) (5 : Int) == (3 : Int) then (0 : Int) else (0 : Int) else (0 : Int) else bif IntKind.wrap IntKind.i64 ((1 : Int) + g_pick r0 r1 (5 : Int)) == (2 : Int) then bif g_Vs_l20Rd_odd_0 r0 (u1 (u1 (u1 (u1 (u1 r1))))) a2 then bif g_pick r0 (g_Vs_l20Rd_odd_2 r0 (u1 (u1 (u1 (u1 (u1 r1))))) a2) (5 : Int) == (0 : Int) then (0 : Int) else bif g_pick r0 (g_Vs_l20Rd_odd_2 r0 (u1 (u1 (u1 (u1 (u1 r1))))) a2) (5 : Int) == (1 : Int) then (0 : Int) else bif g_pick r0 (g_Vs_l20Rd_odd_2 r0 (u1 (u1 (u1 (u1 (u1 r1))))) a2) (5 : Int) == (2 : Int) then (0 : Int) else bif g_pick r0 (g_Vs_l20Rd_odd_2 r0 (u1 (u1 (u1 (u1 (u1 r1))))) a2) (5 : Int) == (3 : Int) then (0 : Int) else (0 : Int) else (0 : Int) else bif IntKind.wrap IntKind.i64 ((1 : Int) + g_pick r0 r1 (5 : Int)) == (3 : Int) then bif g_Vs_l20Rd_odd_0 r0 (u1 (u1 (u1 (u1 r1)))) a2 then bif g_pick r0 (g_Vs_l20Rd_odd_2 r0 (u1 (u1 (u1 (u1 r1)))) a2) (5 : Int) == (0 : Int) then g_pick r0 (u1 (u1 (u1 r1))) (3 : Int) else bif g_pick r0 (g_Vs_l20Rd_odd_2 r0 (u1 (u1 (u1 (u1 r1)))) a2) (5 : Int) == (1 : Int) then g_pick r0 (u1 (u1 (u1 r1))) (3 : Int) else bif g_pick r0 (g_Vs_l20Rd_odd_2 r0 (u1 (u1 (u1 (u1 r1)))) a2) (5 : Int) == (2 : Int) then g_pick r0 (u1 (u1 (u1 r1))) (3 : Int) else bif g_pick r0 (g_Vs_l20Rd_odd_2 r0 (u1 (u1 (u1 (u1 r1)))) a2) (5 : Int) == (3 : Int) then g_pick r0 (u1 (u1 (u1 r1))) (3 : Int) else g_pick r0 (u1 (u1 (u1 r1))) (3 : Int) else g_pick r0 (u1 (u1 (u1 r1))) (3 : Int) else bif g_Vs_l20Rd_odd_0 r0 (u1 (u1 (u1 r1))) a2 then bif g_pick r0 (g_Vs_l20Rd_odd_2 r0 (u1 (u1 (u1 r1))) a2) (5 : Int) == (0 : Int) then g_pick r0 (u1 r1) (3 : Int) else bif g_pick r0 (g_Vs_l20Rd_odd_2 r0 (u1 (u1 (u1 r1))) a2) (5 : Int) == (1 : Int) then g_pick r0 (u1 r1) (3 : Int) else bif g_pick r0 (g_Vs_l20Rd_odd_2 r0 (u1 (u1 (u1 r1))) a2) (5 : Int) == (2 : Int) then g_pick r0 (u1 r1) (3 : Int) else bif g_pick r0 (g_Vs_l20Rd_odd_2 r0 (u1 (u1 (u1 r1))) a2) (5 : Int) == (3 : Int) then g_pick r0 (u1 r1) (3 : Int) else g_pick r0 (u1 r1) (3 : Int) else g_pick r0 (u1 r1) (3 : Int)
noncomputable def g_Vs_l20Op_6 (r0 : List Int) (r1 : Int) (a2 : Int) : Int := bif IntKind.wrap IntKind.i64 ((1 : Int) + g_pick r0 r1 (5 : Int)) == (1 : Int) then bif IntKind.wrap IntKind.i64 ((1 : Int) + g_pick r0 r1 (5 : Int)) == (1 : Int) then bif g_Vs_l20Rd_odd_0 r0 (u1 (u1 (u1 r1))) a2 then bif g_pick r0 (g_Vs_l20Rd_odd_2 r0 (u1 (u1 (u1 r1))) a2) (5 : Int) == (0 : Int) then (0 : Int) else bif g_pick r0 (g_Vs_l20Rd_odd_2 r0 (u1 (u1 (u1 r1))) a2) (5 : Int) == (1 : Int) then (0 : Int) else bif g_pick r0 (g_Vs_l20Rd_odd_2 r0 (u1 (u1 (u1 r1))) a2) (5 : Int) == (2 : Int) then (0 : Int) else bif g_pick r0 (g_Vs_l20Rd_odd_2 r0 (u1 (u1 (u1 r1))) a2) (5 : Int) == (3 : Int) then at_ (Ty.int IntKind.i64) [(-1 : Int), (100 : Int), (1 : Int)] (Int.toNat (g_pick r0 (u1 (g_Vs_l20Rd_odd_2 r0 (u1 (u1 (u1 r1))) a2)) (3 : Int))) else (0 : Int) else (0 : Int) else bif IntKind.wrap IntKind.i64 ((1 : Int) + g_pick r0 r1 (5 : Int)) == (2 : Int) then bif g_Vs_l20Rd_odd_0 r0 (u1 (u1 (u1 (u1 (u1 r1))))) a2 then bif g_pick r0 (g_Vs_l20Rd_odd_2 r0 (u1 (u1 (u1 (u1 (u1 r1))))) a2) (5 : Int) == (0 : Int) then (0 : Int) else bif g_pick r0 (g_Vs_l20Rd_odd_2 r0 (u1 (u1 (u1 (u1 (u1 r1))))) a2) (5 : Int) == (1 : Int) then (0 : Int) else bif g_pick r0 (g_Vs_l20Rd_odd_2 r0 (u1 (u1 (u1 (u1 (u1 r1))))) a2) (5 : Int) == (2 : Int) then (0 : Int) else bif g_pick r0 (g_Vs_l20Rd_odd_2 r0 (u1 (u1 (u1 (u1 (u1 r1))))) a2) (5 : Int) == (3 : Int) then at_ (Ty.int IntKind.i64) [(-1 : Int), (100 : Int), (1 : Int)] (Int.toNat (g_pick r0 (u1 (g_Vs_l20Rd_odd_2 r0 (u1 (u1 (u1 (u1 (u1 r1))))) a2)) (3 : Int))) else (0 : Int) else (0 : Int) else bif IntKind.wrap IntKind.i64 ((1 : Int) + g_pick r0 r1 (5 : Int)) == (3 : Int) then bif g_Vs_l20Rd_odd_0 r0 (u1 (u1 (u1 (u1 r1)))) a2 then bif g_pick r0 (g_Vs_l20Rd_odd_2 r0 (u1 (u1 (u1 (u1 r1)))) a2) (5 : Int) == (0 : Int) then (0 : Int) else bif g_pick r0 (g_Vs_l20Rd_odd_2 r0 (u1 (u1 (u1 (u1 r1)))) a2) (5 : Int) == (1 : Int) then (0 : Int) else bif g_pick r0 (g_Vs_l20Rd_odd_2 r0 (u1 (u1 (u1 (u1 r1)))) a2) (5 : Int) == (2 : Int) then (0 : Int) else bif g_pick r0 (g_Vs_l20Rd_odd_2 r0 (u1 (u1 (u1 (u1 r1)))) a2) (5 : Int) == (3 : Int) then at_ (Ty.int IntKind.i64) [(-1 : Int), (100 : Int), (1 : Int)] (Int.toNat (g_pick r0 (u1 (g_Vs_l20Rd_odd_2 r0 (u1 (u1 (u1 (u1 r1)))) a2)) (3 : Int))) else (0 : Int) else (0 : Int) else bif g_Vs_l20Rd_odd_0 r0 (u1 (u1 (u1 r1))) a2 then bif g_pick r0 (g_Vs_l20Rd_odd_2 r0 (u1 (u1 (u1 r1))) a2) (5 : Int) == (0 : Int) then IntKind.wrap IntKind.i64 ((1 : Int) + g_pick r0 (u1 (u1 r1)) (3 : Int)) else bif g_pick r0 (g_Vs_l20Rd_odd_2 r0 (u1 (u1 (u1 r1))) a2) (5 : Int) == (1 : Int) then IntKind.wrap IntKind.i64 ((1 : Int) + g_pick r0 (u1 (u1 r1)) (3 : Int)) else bif g_pick r0 (g_Vs_l20Rd_odd_2 r0 (u1 (u1 (u1 r1))) a2) (5 : Int) == (2 : Int) then IntKind.wrap IntKind.i64 ((1 : Int) + g_pick r0 (u1 (u1 r1)) (3 : Int)) else bif g_pick r0 (g_Vs_l20Rd_odd_2 r0 (u1 (u1 (u1 r1))) a2) (5 : Int) == (3 : Int) then at_ (Ty.int IntKind.i64) [(-1 : Int), (100 : Int), (1 : Int)] (Int.toNat (g_pick r0 (u1 (g_Vs_l20Rd_odd_2 r0 (u1 (u1 (u1 r1))) a2)) (3 : Int))) else IntKind.wrap IntKind.i64 ((1 : Int) + g_pick r0 (u1 (u1 r1)) (3 : Int)) else IntKind.wrap IntKind.i64 ((1 : Int) + g_pick r0 (u1 (u1 r1)) (3 : Int)) else bif IntKind.wrap IntKind.i64 ((1 : Int) + g_pick r0 r1 (5 : Int)) == (5 : Int) then bif g_Vs_l20Rd_odd_0 r0 (u1 (u1 (u1 r1))) a2 then bif g_pick r0 (g_Vs_l20Rd_odd_2 r0 (u1 (u1 (u1 r1))) a2) (5 : Int) == (0 : Int) then (0 : Int) else bif g_pick r0 (g_Vs_l20Rd_odd_2 r0 (u1 (u1 (u1 r1))) a2) (5 : Int) == (1 : Int) then (0 : Int) else bif g_pick r0 (g_Vs_l20Rd_odd_2 r0 (u1 (u1 (u1 r1))) a2) (5 : Int) == (2 : Int) then (0 : Int) else bif g_pick r0 (g_Vs_l20Rd_odd_2 r0 (u1 (u1 (u1 r1))) a2) (5 : Int) == (3 : Int) then at_ (Ty.int IntKind.i64) [(-1 : Int), (100 : Int), (1 : Int)] (Int.toNat (g_pick r0 (u1 (g_Vs_l20Rd_odd_2 r0 (u1 (u1 (u1 r1))) a2)) (3 : Int))) else (0 : Int) else (0 : Int) else bif IntKind.wrap IntKind.i64 ((1 : Int) + g_pick r0 r1 (5 : Int)) == (2 : Int) then bif g_Vs_l20Rd_odd_0 r0 (u1 (u1 (u1 (u1 (u1 r1))))) a2 then bif g_pick r0 (g_Vs_l20Rd_odd_2 r0 (u1 (u1 (u1 (u1 (u1 r1))))) a2) (5 : Int) == (0 : Int) then (0 : Int) else bif g_pick r0 (g_Vs_l20Rd_odd_2 r0 (u1 (u1 (u1 (u1 (u1 r1))))) a2) (5 : Int) == (1 : Int) then (0 : Int) else bif g_pick r0 (g_Vs_l20Rd_odd_2 r0 (u1 (u1 (u1 (u1 (u1 r1))))) a2) (5 : Int) == (2 : Int) then (0 : Int) else bif g_pick r0 (g_Vs_l20Rd_odd_2 r0 (u1 (u1 (u1 (u1 (u1 r1))))) a2) (5 : Int) == (3 : Int) then at_ (Ty.int IntKind.i64) [(-1 : Int), (100 : Int), (1 : Int)] (Int.toNat (g_pick r0 (u1 (g_Vs_l20Rd_odd_2 r0 (u1 (u1 (u1 (u1 (u1 r1))))) a2)) (3 : Int))) else (0 : Int) else (0 : Int) else bif IntKind.wrap IntKind.i64 ((1 : Int) + g_pick r0 r1 (5 : Int)) == (3 : Int) then bif g_Vs_l20Rd_odd_0 r0 (u1 (u1 (u1 (u1 r1)))) a2 then bif g_pick r0 (g_Vs_l20Rd_odd_2 r0 (u1 (u1 (u1 (u1 r1)))) a2) (5 : Int) == (0 : Int) then (0 : Int) else bif g_pick r0 (g_Vs_l20Rd_odd_2 r0 (u1 (u1 (u1 (u1 r1)))) a2) (5 : Int) == (1 : Int) then (0 : Int) else bif g_pick r0 (g_Vs_l20Rd_odd_2 r0 (u1 (u1 (u1 (u1 r1)))) a2) (5 : Int) == (2 : Int) then (0 : Int) else bif g_pick r0 (g_Vs_l20Rd_odd_2 r0 (u1 (u1 (u1 (u1 r1)))) a2) (5 : Int) == (3 : Int) then at_ (Ty.int IntKind.i64) [(-1 : Int), (100 : Int), (1 : Int)] (Int.toNat (g_pick r0 (u1 (g_Vs_l20Rd_odd_2 r0 (u1 (u1 (u1 (u1 r1)))) a2)) (3 : Int))) else (0 : Int) else (0 : Int) else bif g_Vs_l20Rd_odd_0 r0 (u1 (u1 (u1 r1))) a2 then bif g_pick r0 (g_Vs_l20Rd_odd_2 r0 (u1 (u1 (u1 r1))) a2) (5 : Int) == (0 : Int) then IntKind.wrap IntKind.i64 ((1 : Int) + g_pick r0 (u1 (u1 r1)) (3 : Int)) else bif g_pick r0 (g_Vs_l20Rd_odd_2 r0 (u1 (u1 (u1 r1))) a2) (5 : Int) == (1 : Int) then IntKind.wrap IntKind.i64 ((1 : Int) + g_pick r0 (u1 (u1 r1)) (3 : Int)) else bif g_pick r0 (g_Vs_l20Rd_odd_2 r0 (u1 (u1 (u1 r1))) a2) (5 : Int) == (2 : Int) then IntKind.wrap IntKind.i64 ((1 : Int) + g_pick r0 (u1 (u1 r1)) (3 : Int)) else bif g_pick r0 (g_Vs_l20Rd_odd_2 r0 (u1 (u1 (u1 r1))) a2) (5 : Int) == (3 : Int) then at_ (Ty.int IntKind.i64) [(-1 : Int), (100 : Int), (1 : Int)] (Int.toNat (g_pick r0 (u1 (g_Vs_l20Rd_odd_2 r0 (u1 (u1 (u1 r1))) a2)) (3 : Int))) else IntKind.wrap IntKind.i64 ((1 : Int) + g_pick r0 (u1 (u1 r1)) (3 : Int)) else IntKind.wrap IntKind.i64 ((1 : Int) + g_pick r0 (u1 (u1 r1)) (3 : Int))
noncomputable def g_Vs_l20Op_7 (r0 : List Int) (r1 : Int) (a2 : Int) : List Int := bif IntKind.wrap IntKind.i64 ((1 : Int) + g_pick r0 r1 (5 : Int)) == (1 : Int) then bif IntKind.wrap IntKind.i64 ((1 : Int) + g_pick r0 r1 (5 : Int)) == (1 : Int) then bif g_Vs_l20Rd_odd_0 r0 (u1 (u1 (u1 r1))) a2 then bif g_pick r0 (g_Vs_l20Rd_odd_2 r0 (u1 (u1 (u1 r1))) a2) (5 : Int) == (0 : Int) then r0 else bif g_pick r0 (g_Vs_l20Rd_odd_2 r0 (u1 (u1 (u1 r1))) a2) (5 : Int) == (1 : Int) then r0 else bif g_pick r0 (g_Vs_l20Rd_odd_2 r0 (u1 (u1 (u1 r1))) a2) (5 : Int) == (2 : Int) then r0 else bif g_pick r0 (g_Vs_l20Rd_odd_2 r0 (u1 (u1 (u1 r1))) a2) (5 : Int) == (3 : Int) then r0 else r0 else r0 else bif IntKind.wrap IntKind.i64 ((1 : Int) + g_pick r0 r1 (5 : Int)) == (2 : Int) then bif g_Vs_l20Rd_odd_0 r0 (u1 (u1 (u1 (u1 (u1 r1))))) a2 then bif g_pick r0 (g_Vs_l20Rd_odd_2 r0 (u1 (u1 (u1 (u1 (u1 r1))))) a2) (5 : Int) == (0 : Int) then r0 else bif g_pick r0 (g_Vs_l20Rd_odd_2 r0 (u1 (u1 (u1 (u1 (u1 r1))))) a2) (5 : Int) == (1 : Int) then r0 else bif g_pick r0 (g_Vs_l20Rd_odd_2 r0 (u1 (u1 (u1 (u1 (u1 r1))))) a2) (5 : Int) == (2 : Int) then r0 else bif g_pick r0 (g_Vs_l20Rd_odd_2 r0 (u1 (u1 (u1 (u1 (u1 r1))))) a2) (5 : Int) == (3 : Int) then r0 else r0 else r0 else bif IntKind.wrap IntKind.i64 ((1 : Int) + g_pick r0 r1 (5 : Int)) == (3 : Int) then bif g_Vs_l20Rd_odd_0 r0 (u1 (u1 (u1 (u1 r1)))) a2 then bif g_pick r0 (g_Vs_l20Rd_odd_2 r0 (u1 (u1 (u1 (u1 r1)))) a2) (5 : Int) == (0 : Int) then r0 else bif g_pick r0 (g_Vs_l20Rd_odd_2 r0 (u1 (u1 (u1 (u1 r1)))) a2) (5 : Int) == (1 : Int) then r0 else bif g_pick r0 (g_Vs_l20Rd_odd_2 r0 (u1 (u1 (u1 (u1 r1)))) a2) (5 : Int) == (2 : Int) then r0 else bif g_pick r0 (g_Vs_l20Rd_odd_2 r0 (u1 (u1 (u1 (u1 r1)))) a2) (5 : Int) == (3 : Int) then r0 else r0 else r0 else bif g_Vs_l20Rd_odd_0 r0 (u1 (u1 (u1 r1))) a2 then bif g_pick r0 (g_Vs_l20Rd_odd_2 r0 (u1 (u1 (u1 r1))) a2) (5 : Int) == (0 : Int) then r0 else bif g_pick r0 (g_Vs_l20Rd_odd_2 r0 (u1 (u1 (u1 r1))) a2) (5 : Int) == (1 : Int) then r0 else bif g_pick r0 (g_Vs_l20Rd_odd_2 r0 (u1 (u1 (u1 r1))) a2) (5 : Int) == (2 : Int) then r0 else bif g_pick r0 (g_Vs_l20Rd_odd_2 r0 (u1 (u1 (u1 r1))) a2) (5 : Int) == (3 : Int) then r0 else r0 else r0 else bif IntKind.wrap IntKind.i64 ((1 : Int) + g_pick r0 r1 (5 : Int)) == (5 : Int) then bif g_Vs_l20Rd_odd_0 r0 (u1 (u1 (u1 r1))) a2 then bif g_pick r0 (g_Vs_l20Rd_odd_2 r0 (u1 (u1 (u1 r1))) a2) (5 : Int) == (0 : Int) then r0 else bif g_pick r0 (g_Vs_l20Rd_odd_2 r0 (u1 (u1 (u1 r1))) a2) (5 : Int) == (1 : Int) then r0 else bif g_pick r0 (g_Vs_l20Rd_odd_2 r0 (u1 (u1 (u1 r1))) a2) (5 : Int) == (2 : Int) then r0 else bif g_pick r0 (g_Vs_l20Rd_odd_2 r0 (u1 (u1 (u1 r1))) a2) (5 : Int) == (3 : Int) then r0 else r0 else r0 else bif IntKind.wrap IntKind.i64 ((1 : Int) + g_pick r0 r1 (5 : Int)) == (2 : Int) then bif g_Vs_l20Rd_odd_0 r0 (u1 (u1 (u1 (u1 (u1 r1))))) a2 then bif g_pick r0 (g_Vs_l20Rd_odd_2 r0 (u1 (u1 (u1 (u1 (u1 r1))))) a2) (5 : Int) == (0 : Int) then r0 else bif g_pick r0 (g_Vs_l20Rd_odd_2 r0 (u1 (u1 (u1 (u1 (u1 r1))))) a2) (5 : Int) == (1 : Int) then r0 else bif g_pick r0 (g_Vs_l20Rd_odd_2 r0 (u1 (u1 (u1 (u1 (u1 r1))))) a2) (5 : Int) == (2 : Int) then r0 else bif g_pick r0 (g_Vs_l20Rd_odd_2 r0 (u1 (u1 (u1 (u1 (u1 r1))))) a2) (5 : Int) == (3 : Int) then r0 else r0 else r0 else bif IntKind.wrap IntKind.i64 ((1 : Int) + g_pick r0 r1 (5 : Int)) == (3 : Int) then bif g_Vs_l20Rd_odd_0 r0 (u1 (u1 (u1 (u1 r1)))) a2 then bif g_pick r0 (g_Vs_l20Rd_odd_2 r0 (u1 (u1 (u1 (u1 r1)))) a2) (5 : Int) == (0 : Int) then r0 else bif g_pick r0 (g_Vs_l20Rd_odd_2 r0 (u1 (u1 (u1 (u1 r1)))) a2) (5 : Int) == (1 : Int) then r0 else bif g_pick r0 (g_Vs_l20Rd_odd_2 r0 (u1 (u1 (u1 (u1 r1)))) a2) (5 : Int) == (2 : Int) then r0 else bif g_pick r0 (g_Vs_l20Rd_odd_2 r0 (u1 (u1 (u1 (u1 r1)))) a2) (5 : Int) == (3 : Int) then r0 else r0 else r0 else bif g_Vs_l20Rd_odd_0 r0 (u1 (u1 (u1 r1))) a2 then bif g_pick r0 (g_Vs_l20Rd_odd_2 r0 (u1 (u1 (u1 r1))) a2) (5 : Int) == (0 : Int) then r0 else bif g_pick r0 (g_Vs_l20Rd_odd_2 r0 (u1 (u1 (u1 r1))) a2) (5 : Int) == (1 : Int) then r0 else bif g_pick r0 (g_Vs_l20Rd_odd_2 r0 (u1 (u1 (u1 r1))) a2) (5 : Int) == (2 : Int) then r0 else bif g_pick r0 (g_Vs_l20Rd_odd_2 r0 (u1 (u1 (u1 r1))) a2) (5 : Int) == (3 : Int) then r0 else r0 else r0
noncomputable def g_Vs_l20Op_8 (r0 : List Int) (r1 : Int) (a2 : Int) : Int := bif IntKind.wrap IntKind.i64 ((1 : Int) + g_pick r0 r1 (5 : Int)) == (1 : Int) then bif IntKind.wrap IntKind.i64 ((1 : Int) + g_pick r0 r1 (5 : Int)) == (1 : Int) then bif g_Vs_l20Rd_odd_0 r0 (u1 (u1 (u1 r1))) a2 then bif g_pick r0 (g_Vs_l20Rd_odd_2 r0 (u1 (u1 (u1 r1))) a2) (5 : Int) == (0 : Int) then u1 (u1 (g_Vs_l20Rd_odd_2 r0 (u1 (u1 (u1 r1))) a2)) else bif g_pick r0 (g_Vs_l20Rd_odd_2 r0 (u1 (u1 (u1 r1))) a2) (5 : Int) == (1 : Int) then u1 (u1 (g_Vs_l20Rd_odd_2 r0 (u1 (u1 (u1 r1))) a2)) else bif g_pick r0 (g_Vs_l20Rd_odd_2 r0 (u1 (u1 (u1 r1))) a2) (5 : Int) == (2 : Int) then u1 (u1 (g_Vs_l20Rd_odd_2 r0 (u1 (u1 (u1 r1))) a2)) else bif g_pick r0 (g_Vs_l20Rd_odd_2 r0 (u1 (u1 (u1 r1))) a2) (5 : Int) == (3 : Int) then u1 (u1 (g_Vs_l20Rd_odd_2 r0 (u1 (u1 (u1 r1))) a2)) else u1 (u1 (g_Vs_l20Rd_odd_2 r0 (u1 (u1 (u1 r1))) a2)) else g_Vs_l20Rd_odd_2 r0 (u1 (u1 (u1 r1))) a2 else bif IntKind.wrap IntKind.i64 ((1 : Int) + g_pick r0 r1 (5 : Int)) == (2 : Int) then bif g_Vs_l20Rd_odd_0 r0 (u1 (u1 (u1 (u1 (u1 r1))))) a2 then bif g_pick r0 (g_Vs_l20Rd_odd_2 r0 (u1 (u1 (u1 (u1 (u1 r1))))) a2) (5 : Int) == (0 : Int) then u1 (u1 (g_Vs_l20Rd_odd_2 r0 (u1 (u1 (u1 (u1 (u1 r1))))) a2)) else bif g_pick r0 (g_Vs_l20Rd_odd_2 r0 (u1 (u1 (u1 (u1 (u1 r1))))) a2) (5 : Int) == (1 : Int) then u1 (u1 (g_Vs_l20Rd_odd_2 r0 (u1 (u1 (u1 (u1 (u1 r1))))) a2)) else bif g_pick r0 (g_Vs_l20Rd_odd_2 r0 (u1 (u1 (u1 (u1 (u1 r1))))) a2) (5 : Int) == (2 : Int) then u1 (u1 (g_Vs_l20Rd_odd_2 r0 (u1 (u1 (u1 (u1 (u1 r1))))) a2)) else bif g_pick r0 (g_Vs_l20Rd_odd_2 r0 (u1 (u1 (u1 (u1 (u1 r1))))) a2) (5 : Int) == (3 : Int) then u1 (u1 (g_Vs_l20Rd_odd_2 r0 (u1 (u1 (u1 (u1 (u1 r1))))) a2)) else u1 (u1 (g_Vs_l20Rd_odd_2 r0 (u1 (u1 (u1 (u1 (u1 r1))))) a2)) else g_Vs_l20Rd_odd_2 r0 (u1 (u1 (u1 (u1 (u1 r1))))) a2 else bif IntKind.wrap IntKind.i64 ((1 : Int) + g_pick r0 r1 (5 : Int)) == (3 : Int) then bif g_Vs_l20Rd_odd_0 r0 (u1 (u1 (u1 (u1 r1)))) a2 then bif g_pick r0 (g_Vs_l20Rd_odd_2 r0 (u1 (u1 (u1 (u1 r1)))) a2) (5 : Int) == (0 : Int) then u1 (u1 (g_Vs_l20Rd_odd_2 r0 (u1 (u1 (u1 (u1 r1)))) a2)) else bif g_pick r0 (g_Vs_l20Rd_odd_2 r0 (u1 (u1 (u1 (u1 r1)))) a2) (5 : Int) == (1 : Int) then u1 (u1 (g_Vs_l20Rd_odd_2 r0 (u1 (u1 (u1 (u1 r1)))) a2)) else bif g_pick r0 (g_Vs_l20Rd_odd_2 r0 (u1 (u1 (u1 (u1 r1)))) a2) (5 : Int) == (2 : Int) then u1 (u1 (g_Vs_l20Rd_odd_2 r0 (u1 (u1 (u1 (u1 r1)))) a2)) else bif g_pick r0 (g_Vs_l20Rd_odd_2 r0 (u1 (u1 (u1 (u1 r1)))) a2) (5 : Int) == (3 : Int) then u1 (u1 (g_Vs_l20Rd_odd_2 r0 (u1 (u1 (u1 (u1 r1)))) a2)) else u1 (u1 (g_Vs_l20Rd_odd_2 r0 (u1 (u1 (u1 (u1 r1)))) a2)) else g_Vs_l20Rd_odd_2 r0 (u1 (u1 (u1 (u1 r1)))) a2 else bif g_Vs_l20Rd_odd_0 r0 (u1 (u1 (u1 r1))) a2 then bif g_pick r0 (g_Vs_l20Rd_odd_2 r0 (u1 (u1 (u1 r1))) a2) (5 : Int) == (0 : Int) then u1 (u1 (g_Vs_l20Rd_odd_2 r0 (u1 (u1 (u1 r1))) a2)) else bif g_pick r0 (g_Vs_l20Rd_odd_2 r0 (u1 (u1 (u1 r1))) a2) (5 : Int) == (1 : Int) then u1 (u1 (g_Vs_l20Rd_odd_2 r0 (u1 (u1 (u1 r1))) a2)) else bif g_pick r0 (g_Vs_l20Rd_odd_2 r0 (u1 (u1 (u1 r1))) a2) (5 : Int) == (2 : Int) then u1 (u1 (g_Vs_l20Rd_odd_2 r0 (u1 (u1 (u1 r1))) a2)) else bif g_pick r0 (g_Vs_l20Rd_odd_2 r0 (u1 (u1 (u1 r1))) a2) (5 : Int) == (3 : Int) then u1 (u1 (g_Vs_l20Rd_odd_2 r0 (u1 (u1 (u1 r1))) a2)) else u1 (u1 (g_Vs_l20Rd_odd_2 r0 (u1 (u1 (u1 r1))) a2)) else g_Vs_l20Rd_odd_2 r0 (u1 (u1 (u1 r1))) a2 else bif IntKind.wrap IntKind.i64 ((1 : Int) + g_pick r0 r1 (5 : Int)) == (5 : Int) then bif g_Vs_l20Rd_odd_0 r0 (u1 (u1 (u1 r1))) a2 then bif g_pick r0 (g_Vs_l20Rd_odd_2 r0 (u1 (u1 (u1 r1))) a2) (5 : Int) == (0 : Int) then u1 (u1 (g_Vs_l20Rd_odd_2 r0 (u1 (u1 (u1 r1))) a2)) else bif g_pick r0 (g_Vs_l20Rd_odd_2 r0 (u1 (u1 (u1 r1))) a2) (5 : Int) == (1 : Int) then u1 (u1 (g_Vs_l20Rd_odd_2 r0 (u1 (u1 (u1 r1))) a2)) else bif g_pick r0 (g_Vs_l20Rd_odd_2 r0 (u1 (u1 (u1 r1))) a2) (5 : Int) == (2 : Int) then u1 (u1 (g_Vs_l20Rd_odd_2 r0 (u1 (u1 (u1 r1))) a2)) else bif g_pick r0 (g_Vs_l20Rd_odd_2 r0 (u1 (u1 (u1 r1))) a2) (5 : Int) == (3 : Int) then u1 (u1 (g_Vs_l20Rd_odd_2 r0 (u1 (u1 (u1 r1))) a2)) else u1 (u1 (g_Vs_l20Rd_odd_2 r0 (u1 (u1 (u1 r1))) a2)) else g_Vs_l20Rd_odd_2 r0 (u1 (u1 (u1 r1))) a2 else bif IntKind.wrap IntKind.i64 ((1 : Int) + g_pick r0 r1 (5 : Int)) == (2 : Int) then bif g_Vs_l20Rd_odd_0 r0 (u1 (u1 (u1 (u1 (u1 r1))))) a2 then bif g_pick r0 (g_Vs_l20Rd_odd_2 r0 (u1 (u1 (u1 (u1 (u1 r1))))) a2) (5 : Int) == (0 : Int) then u1 (u1 (g_Vs_l20Rd_odd_2 r0 (u1 (u1 (u1 (u1 (u1 r1))))) a2)) else bif g_pick r0 (g_Vs_l20Rd_odd_2 r0 (u1 (u1 (u1 (u1 (u1 r1))))) a2) (5 : Int) == (1 : Int) then u1 (u1 (g_Vs_l20Rd_odd_2 r0 (u1 (u1 (u1 (u1 (u1 r1))))) a2)) else bif g_pick r0 (g_Vs_l20Rd_odd_2 r0 (u1 (u1 (u1 (u1 (u1 r1))))) a2) (5 : Int) == (2 : Int) then u1 (u1 (g_Vs_l20Rd_odd_2 r0 (u1 (u1 (u1 (u1 (u1 r1))))) a2)) else bif g_pick r0 (g_Vs_l20Rd_odd_2 r0 (u1 (u1 (u1 (u1 (u1 r1))))) a2) (5 : Int) == (3 : Int) then u1 (u1 (g_Vs_l20Rd_odd_2 r0 (u1 (u1 (u1 (u1 (u1 r1))))) a2)) else u1 (u1 (g_Vs_l20Rd_odd_2 r0 (u1 (u1 (u1 (u1 (u1 r1))))) a2)) else g_Vs_l20Rd_odd_2 r0 (u1 (u1 (u1 (u1 (u1 r1))))) a2 else bif IntKind.wrap IntKind.i64 ((1 : Int) + g_pick r0 r1 (5 : Int)) == (3 : Int) then bif g_Vs_l20Rd_odd_0 r0 (u1 (u1 (u1 (u1 r1)))) a2 then bif g_pick r0 (g_Vs_l20Rd_odd_2 r0 (u1 (u1 (u1 (u1 r1)))) a2) (5 : Int) == (0 : Int) then u1 (u1 (g_Vs_l20Rd_odd_2 r0 (u1 (u1 (u1 (u1 r1)))) a2)) else bif g_pick r0 (g_Vs_l20Rd_odd_2 r0 (u1 (u1 (u1 (u1 r1)))) a2) (5 : Int) == (1 : Int) then u1 (u1 (g_Vs_l20Rd_odd_2 r0 (u1 (u1 (u1 (u1 r1)))) a2)) else bif g_pick r0 (g_Vs_l20Rd_odd_2 r0 (u1 (u1 (u1 (u1 r1)))) a2) (5 : Int) == (2 : Int) then u1 (u1 (g_Vs_l20Rd_odd_2 r0 (u1 (u1 (u1 (u1 r1)))) a2)) else bif g_pick r0 (g_Vs_l20Rd_odd_2 r0 (u1 (u1 (u1 (u1 r1)))) a2) (5 : Int) == (3 : Int) then u1 (u1 (g_Vs_l20Rd_odd_2 r0 (u1 (u1 (u1 (u1 r1)))) a2)) else u1 (u1 (g_Vs_l20Rd_odd_2 r0 (u1 (u1 (u1 (u1 r1)))) a2)) else g_Vs_l20Rd_odd_2 r0 (u1 (u1 (u1 (u1 r1)))) a2 else bif g_Vs_l20Rd_odd_0 r0 (u1 (u1 (u1 r1))) a2 then bif g_pick r0 (g_Vs_l20Rd_odd_2 r0 (u1 (u1 (u1 r1))) a2) (5 : Int) == (0 : Int) then u1 (u1 (g_Vs_l20Rd_odd_2 r0 (u1 (u1 (u1 r1))) a2)) else bif g_pick r0 (g_Vs_l20Rd_odd_2 r0 (u1 (u1 (u1 r1))) a2) (5 : Int) == (1 : Int) then u1 (u1 (g_Vs_l20Rd_odd_2 r0 (u1 (u1 (u1 r1))) a2)) else bif g_pick r0 (g_Vs_l20Rd_odd_2 r0 (u1 (u1 (u1 r1))) a2) (5 : Int) == (2 : Int) then u1 (u1 (g_Vs_l20Rd_odd_2 r0 (u1 (u1 (u1 r1))) a2)) else bif g_pick r0 (g_Vs_l20Rd_odd_2 r0 (u1 (u1 (u1 r1))) a2) (5 : Int) == (3 : Int) then u1 (u1 (g_Vs_l20Rd_odd_2 r0 (u1 (u1 (u1 r1))) a2)) else u1 (u1 (g_Vs_l20Rd_odd_2 r0 (u1 (u1 (u1 r1))) a2)) else g_Vs_l20Rd_odd_2 r0 (u1 (u1 (u1 r1))) a2
noncomputable def Fs_l20Op : FSem := fun ys => match ys with
 | [.val true [.sl .any 5 (.int .u8) r0, .int .i64 r1], .val false [.int .i64 a2]] => some ((g_As_l20Op r0 r1 a2), .val true [.int .i64 (g_Vs_l20Op_0 r0 r1 a2), .int .i64 (g_Vs_l20Op_1 r0 r1 a2), .int .i64 (g_Vs_l20Op_2 r0 r1 a2), .int .i64 (g_Vs_l20Op_3 r0 r1 a2), .int .i64 (g_Vs_l20Op_4 r0 r1 a2), .int .i64 (g_Vs_l20Op_5 r0 r1 a2), .int .i64 (g_Vs_l20Op_6 r0 r1 a2)], [[.sl .any 5 (.int .u8) (g_Vs_l20Op_7 r0 r1 a2), .int .i64 (g_Vs_l20Op_8 r0 r1 a2)]])
 | _ => none
theorem vs_l20Op (r0 : List Int) (r1 : Int) (a2 : Int) : collapseH .std Es_l20Op Os_l20Op_0 (execFn Es_l20Op Tryz.f40 mss_l20Op [.val true [.sl .any 5 (.int .u8) r0, .int .i64 r1], .val false [.int .i64 a2]]) = some ((g_As_l20Op r0 r1 a2), .val true [.int .i64 (g_Vs_l20Op_0 r0 r1 a2), .int .i64 (g_Vs_l20Op_1 r0 r1 a2), .int .i64 (g_Vs_l20Op_2 r0 r1 a2), .int .i64 (g_Vs_l20Op_3 r0 r1 a2), .int .i64 (g_Vs_l20Op_4 r0 r1 a2), .int .i64 (g_Vs_l20Op_5 r0 r1 a2), .int .i64 (g_Vs_l20Op_6 r0 r1 a2)], [[.sl .any 5 (.int .u8) (g_Vs_l20Op_7 r0 r1 a2), .int .i64 (g_Vs_l20Op_8 r0 r1 a2)]]) := by kernel_rfl
theorem ss_l20Op : Sound Tryz.prog 40 mss_l20Op Fs_l20Op := by
 refine fn_gen goods_l20Op (by kernel_rfl) .std (fn := Tryz.f40) (c := (Tryz.f40.body.getD .skip)) (o := Os_l20Op_0) (k := 0) (by kernel_rfl) (by kernel_rfl) (by kernel_rfl) (by kernel_rfl) (by decide) ks_l20Op_0 ?_
 intro ys r outs h
 unfold Fs_l20Op at h
 split at h
 ·exact (vs_l20Op _ _ _).trans h
 ·cases h
noncomputable def mss_l20OpR : List PM := mss_l20Op
theorem sames_l20Op (r0 : List Int) (r1 : Int) (a2 : Int) : g_Vs_l20Op_7 r0 r1 a2 = r0 := by
 unfold g_Vs_l20Op_7
 simp only [Bool.cond_self]
noncomputable def Fs_l20OpR : FSem := fun ys => match ys with
 | [.val true [.sl .any 5 (.int .u8) r0, .int .i64 r1], .val false [.int .i64 a2]] => some ((g_As_l20Op r0 r1 a2), .val true [.int .i64 (g_Vs_l20Op_0 r0 r1 a2), .int .i64 (g_Vs_l20Op_1 r0 r1 a2), .int .i64 (g_Vs_l20Op_2 r0 r1 a2), .int .i64 (g_Vs_l20Op_3 r0 r1 a2), .int .i64 (g_Vs_l20Op_4 r0 r1 a2), .int .i64 (g_Vs_l20Op_5 r0 r1 a2), .int .i64 (g_Vs_l20Op_6 r0 r1 a2)], [[.sl .any 5 (.int .u8) r0, .int .i64 (g_Vs_l20Op_8 r0 r1 a2)]])
 | _ => none
theorem ss_l20OpR : Sound Tryz.prog 40 mss_l20OpR Fs_l20OpR := by
 refine ⟨ss_l20Op.fn, fun w S ψ ys vs r outs hF hh hg => ss_l20Op.calls w S ψ ys vs r outs (Eq.trans ?_ hF) hh hg⟩
 unfold Fs_l20OpR at hF ⊢
 split at hF
 ·rename_i  r0 r1 a2
  show (some ((g_As_l20Op r0 r1 a2), .val true [.int .i64 (g_Vs_l20Op_0 r0 r1 a2), .int .i64 (g_Vs_l20Op_1 r0 r1 a2), .int .i64 (g_Vs_l20Op_2 r0 r1 a2), .int .i64 (g_Vs_l20Op_3 r0 r1 a2), .int .i64 (g_Vs_l20Op_4 r0 r1 a2), .int .i64 (g_Vs_l20Op_5 r0 r1 a2), .int .i64 (g_Vs_l20Op_6 r0 r1 a2)], [[.sl .any 5 (.int .u8) (g_Vs_l20Op_7 r0 r1 a2), .int .i64 (g_Vs_l20Op_8 r0 r1 a2)]]) : Option (Bool × RV × List (List Cell))) = _
  rw [sames_l20Op]
 ·cases hF
noncomputable def Es_l20Glo : Env where
 tt := mkTI Tryz.prog
 fn := fun f => match f with
  | 37 => some (mss_GloDo, FSem.wk mss_GloDo Fs_GloDo)
  | 40 => some (mss_l20OpR, FSem.wk mss_l20OpR Fs_l20OpR)
  | 42 => some (mss_l20Rd_pick, FSem.wk mss_l20Rd_pick Fs_l20Rd_pick)
  | 88 => some (mss_GloNew, FSem.wk mss_GloNew Fs_GloNew)
  | _ => none
 bxf := fun _ => none
 mv := []
 keep := fun b => match b with
  | 0 => [(0, false), (3, false), (4, false)]
  | _ => []
 keepB := fun b => match b with
  | 0 => [(0, false)]
  | _ => []
 keepX := fun b => match b with
  | 0 => [(0, false), (3, false)]
  | _ => []
 keepXB := fun b => match b with
  | 0 => [(0, false)]
  | _ => []
theorem goodFs_l20Glo : ∀ f ms F, Es_l20Glo.fn f = some (ms, F) → Sound Tryz.prog f ms F := fun f ms F h => by
 unfold Es_l20Glo at h
 dsimp only at h
 split at h
 ·injection h with h; injection h with e1 e2; subst e1 e2; exact Sound.wk ss_GloDo
 ·injection h with h; injection h with e1 e2; subst e1 e2; exact Sound.wk ss_l20OpR
 ·injection h with h; injection h with e1 e2; subst e1 e2; exact Sound.wk ss_l20Rd_pick
 ·injection h with h; injection h with e1 e2; subst e1 e2; exact Sound.wk ss_GloNew
 ·cases h
theorem goodBs_l20Glo : ∀ f ms F, Es_l20Glo.bxf f = some (ms, F) → SoundB Tryz.prog f ms F := fun f ms F h => by cases h
theorem goods_l20Glo : Good Tryz.prog Es_l20Glo := ⟨rfl, goodFs_l20Glo, goodBs_l20Glo⟩
noncomputable def Os_l20Glo_0 : Orc := fun _ _ => none
noncomputable def mss_l20Glo : List PM := [.bx]
noncomputable def lss_l20Glo : List (Nat × Code) := loopsAll 0 (Tryz.f39.body.getD .skip)
noncomputable def cs_l20Glo_0 : Code := (loopOf 0 (Tryz.f39.body.getD .skip)).getD .skip
theorem lseqs_l20Glo : lss_l20Glo = [(0, cs_l20Glo_0)] := by kernel_rfl
theorem ms_l20Glo_0 : ∀ p, p ∈ lss_l20Glo → p.1 = 0 → p.2 = cs_l20Glo_0 := by
 intro p hp
 rw [lseqs_l20Glo] at hp
 simp only [List.mem_cons, List.not_mem_nil, or_false] at hp
 subst hp; simp
theorem ks_l20Glo_0 : OrcOk Es_l20Glo Os_l20Glo_0 lss_l20Glo 0 := orcOk_none
noncomputable def hs_l20Glo_0 (y0 : List (List (ByteArray × (List Int)))) (y1 : Int) (y2 : List Int) (y3 : Int) : List (Pl × LV) := [(.T 0, .t (.val false [.ptr 0 0 0])), (.T 3, .t (.val false [.row 3 0 0])), (.R 3 0, .r 0 (some ⟨false, .any, true, 25, (.sl 49 (.pair .str (.sl 3 (.int .i64)))), y0⟩)), (.T 4, .t (.val false [.int .i64 y1])), (.B 0, .b 0 false [.sl .any 5 (.int .u8) y2, .int .i64 y3])]
noncomputable def g_Ss_l20Glo_0 (y2 : List Int) : ((List (List (ByteArray × (List Int)))) × Int × Int) → RT ((List (List (ByteArray × (List Int)))) × Int × Int) (((List (List (ByteArray × (List Int)))) × Int))
 | (y0, y1, y3) => .br (true) (.br (decide (y1 > (0 : Int))) (.br (g_As_l20Op y2 y3 (0 : Int)) (.br (g_As_GloDo y0 y1 (g_Vs_l20Op_0 y2 y3 (0 : Int)) (g_Vs_l20Op_1 y2 y3 (0 : Int)) (g_Vs_l20Op_2 y2 y3 (0 : Int)) (g_Vs_l20Op_3 y2 y3 (0 : Int)) (g_Vs_l20Op_4 y2 y3 (0 : Int)) (g_Vs_l20Op_5 y2 y3 (0 : Int)) (g_Vs_l20Op_6 y2 y3 (0 : Int))) (.br (g_Vs_GloDo_1 y0 y1 (g_Vs_l20Op_0 y2 y3 (0 : Int)) (g_Vs_l20Op_1 y2 y3 (0 : Int)) (g_Vs_l20Op_2 y2 y3 (0 : Int)) (g_Vs_l20Op_3 y2 y3 (0 : Int)) (g_Vs_l20Op_4 y2 y3 (0 : Int)) (g_Vs_l20Op_5 y2 y3 (0 : Int)) (g_Vs_l20Op_6 y2 y3 (0 : Int))) (.br (true) (.go ((g_Vs_GloDo_0 y0 y1 (g_Vs_l20Op_0 y2 y3 (0 : Int)) (g_Vs_l20Op_1 y2 y3 (0 : Int)) (g_Vs_l20Op_2 y2 y3 (0 : Int)) (g_Vs_l20Op_3 y2 y3 (0 : Int)) (g_Vs_l20Op_4 y2 y3 (0 : Int)) (g_Vs_l20Op_5 y2 y3 (0 : Int)) (g_Vs_l20Op_6 y2 y3 (0 : Int)), IntKind.wrap IntKind.i64 (y1 - (1 : Int)), g_Vs_l20Op_8 y2 y3 (0 : Int)))) (.bad)) (.br (true) (.go ((y0, IntKind.wrap IntKind.i64 (y1 - (1 : Int)), g_Vs_l20Op_8 y2 y3 (0 : Int)))) (.bad))) (.bad)) (.bad)) (.out ((y0, y3)))) (.bad)
noncomputable def g_Ls_l20Glo_0 (y2 : List Int) (x : (List (List (ByteArray × (List Int)))) × Int × Int) : Option (((List (List (ByteArray × (List Int)))) × Int)) := loopO (g_Ss_l20Glo_0 y2) x
noncomputable def xs_l20Glo_0 (y2 : List Int) : (((List (List (ByteArray × (List Int)))) × Int)) → Ex × List (Pl × LV) := fun r => (.exit 0, [(.T 0, .t (.val false [.ptr 0 0 0])), (.T 3, .t (.val false [.row 3 0 0])), (.R 3 0, .r 0 (some ⟨false, .any, true, 25, (.sl 49 (.pair .str (.sl 3 (.int .i64)))), r.1⟩)), (.B 0, .b 0 false [.sl .any 5 (.int .u8) y2, .int .i64 r.2])])
noncomputable def Os_l20Glo_1 : Orc := fun b h => match b, h with
 | 0, [(.T 0, .t (.val false [.ptr 0 0 0])), (.T 3, .t (.val false [.row 3 0 0])), (.R 3 0, .r 0 (some ⟨false, .any, true, 25, (.sl 49 (.pair .str (.sl 3 (.int .i64)))), y0⟩)), (.T 4, .t (.val false [.int .i64 y1])), (.B 0, .b 0 false [.sl .any 5 (.int .u8) y2, .int .i64 y3])] => some (okO (g_Ls_l20Glo_0 y2 (y0, y1, y3)), (.leaf (.exit 0) [(.T 0, .t (.val false [.ptr 0 0 0])), (.T 3, .t (.val false [.row 3 0 0])), (.R 3 0, .r 0 (some ⟨false, .any, true, 25, (.sl 49 (.pair .str (.sl 3 (.int .i64)))), (valO (g_Ls_l20Glo_0 y2 (y0, y1, y3))).1⟩)), (.B 0, .b 0 false [.sl .any 5 (.int .u8) y2, .int .i64 (valO (g_Ls_l20Glo_0 y2 (y0, y1, y3))).2])]))
 | b, h => Os_l20Glo_0 b h
theorem bs_l20Glo_0 (y0 : List (List (ByteArray × (List Int)))) (y1 : Int) (y2 : List Int) (y3 : Int) : Tr.bt Es_l20Glo Os_l20Glo_0 (exec Es_l20Glo 0 cs_l20Glo_0 (St.of (hs_l20Glo_0 y0 y1 y2 y3)) (leafRd Es_l20Glo 0)) = (g_Ss_l20Glo_0 y2 (y0, y1, y3)).bt (fun ((y0, y1, y3) : (List (List (ByteArray × (List Int)))) × Int × Int) => (hs_l20Glo_0 y0 y1 y2 y3)) (xs_l20Glo_0 y2) := by kernel_rfl
theorem ks_l20Glo_1 : OrcOk Es_l20Glo Os_l20Glo_1 lss_l20Glo 1 := orc_add ks_l20Glo_0 (fun n p hp h ex h' ho => by
 obtain ⟨b, c⟩ := p
 obtain ⟨xt, h1, h2⟩ := ho
 have h1 : Os_l20Glo_1 b h = some (true, xt) := h1
 unfold Os_l20Glo_1 at h1
 split at h1
 ·injection h1 with h1
  injection h1 with e1 e2
  subst e2
  have hc : c = cs_l20Glo_0 := ms_l20Glo_0 _ hp rfl
  subst hc
  right
  rename_i y0 y1 y2 y3
  have key := LT_step ks_l20Glo_0 hp (fun q hq => loopsAll_in _ _ _ _ hp hq) (fun ((y0, y1, y3) : (List (List (ByteArray × (List Int)))) × Int × Int) => (hs_l20Glo_0 y0 y1 y2 y3)) (xs_l20Glo_0 y2) (g_Ss_l20Glo_0 y2) (fun x => by first | exact bs_l20Glo_0 x.1 x.2.1 y2 x.2.2) n (x := (y0, y1, y3)) (okO_some e1)
  have hx : ∀ r, XT.sel (.leaf (.exit 0) [(.T 0, .t (.val false [.ptr 0 0 0])), (.T 3, .t (.val false [.row 3 0 0])), (.R 3 0, .r 0 (some ⟨false, .any, true, 25, (.sl 49 (.pair .str (.sl 3 (.int .i64)))), r.1⟩)), (.B 0, .b 0 false [.sl .any 5 (.int .u8) y2, .int .i64 r.2])]) = xs_l20Glo_0 y2 r := fun r => by first | rfl | (rcases r with r | r <;> rfl) | (rcases r with r | r | r <;> rfl) | (rcases r with r | r | r | r <;> rfl)
  have h3 := (hx (valO (g_Ls_l20Glo_0 y2 (y0, y1, y3)))).symm.trans h2
  have e3 := congrArg Prod.fst h3
  have e4 := congrArg Prod.snd h3
  simp only at e3 e4
  rw [← e3, ← e4]
  exact key
 ·exact .inl ⟨xt, h1, h2⟩)
noncomputable def g_As_l20Glo (r0 : List Int) (r1 : Int) : Bool := g_pickA r0 r1 (14 : Int) && okO (g_Ls_l20Glo_0 r0 (g_Vs_GloNew_0, g_pick r0 r1 (14 : Int), IntKind.wrap IntKind.i64 (r1 + (1 : Int))))
noncomputable def g_Vs_l20Glo_0 (r0 : List Int) (r1 : Int) : List (List (ByteArray × (List Int))) := (valO (g_Ls_l20Glo_0 r0 (g_Vs_GloNew_0, g_pick r0 r1 (14 : Int), IntKind.wrap IntKind.i64 (r1 + (1 : Int))))).1
noncomputable def g_Vs_l20Glo_1 (r0 : List Int) (r1 : Int) : Int := (valO (g_Ls_l20Glo_0 r0 (g_Vs_GloNew_0, g_pick r0 r1 (14 : Int), IntKind.wrap IntKind.i64 (r1 + (1 : Int))))).2
noncomputable def Fs_l20Glo : FSem := fun ys => match ys with
 | [.val true [.sl .any 5 (.int .u8) r0, .int .i64 r1]] => some ((g_As_l20Glo r0 r1), .val false [.own .any true 25 (.sl 49 (.pair .str (.sl 3 (.int .i64)))) (g_Vs_l20Glo_0 r0 r1)], [[.sl .any 5 (.int .u8) r0, .int .i64 (g_Vs_l20Glo_1 r0 r1)]])
 | _ => none
theorem vs_l20Glo (r0 : List Int) (r1 : Int) : collapseH .std Es_l20Glo Os_l20Glo_1 (execFn Es_l20Glo Tryz.f39 mss_l20Glo [.val true [.sl .any 5 (.int .u8) r0, .int .i64 r1]]) = some ((g_As_l20Glo r0 r1), .val false [.own .any true 25 (.sl 49 (.pair .str (.sl 3 (.int .i64)))) (g_Vs_l20Glo_0 r0 r1)], [[.sl .any 5 (.int .u8) r0, .int .i64 (g_Vs_l20Glo_1 r0 r1)]]) := by kernel_rfl
theorem ss_l20Glo : Sound Tryz.prog 39 mss_l20Glo Fs_l20Glo := by
 refine fn_gen goods_l20Glo (by kernel_rfl) .std (fn := Tryz.f39) (c := (Tryz.f39.body.getD .skip)) (o := Os_l20Glo_1) (k := 1) (by kernel_rfl) (by kernel_rfl) (by kernel_rfl) (by kernel_rfl) (by decide) ks_l20Glo_1 ?_
 intro ys r outs h
 unfold Fs_l20Glo at h
 split at h
 ·exact (vs_l20Glo _ _).trans h
 ·cases h
noncomputable def mss_l20GloR : List PM := mss_l20Glo
noncomputable def Fs_l20GloR : FSem := Fs_l20Glo
theorem ss_l20GloR : Sound Tryz.prog 39 mss_l20GloR Fs_l20GloR := ss_l20Glo
noncomputable def Es_l20Open : Env where
 tt := mkTI Tryz.prog
 fn := fun _ => none
 bxf := fun _ => none
 mv := []
 keep := fun _ => []
 keepB := fun _ => []
 keepX := fun _ => []
 keepXB := fun _ => []
theorem goodFs_l20Open : ∀ f ms F, Es_l20Open.fn f = some (ms, F) → Sound Tryz.prog f ms F := fun f ms F h => by cases h
theorem goodBs_l20Open : ∀ f ms F, Es_l20Open.bxf f = some (ms, F) → SoundB Tryz.prog f ms F := fun f ms F h => by cases h
theorem goods_l20Open : Good Tryz.prog Es_l20Open := ⟨rfl, goodFs_l20Open, goodBs_l20Open⟩
noncomputable def Os_l20Open_0 : Orc := fun _ _ => none
noncomputable def mss_l20Open : List PM := [.fz]
noncomputable def lss_l20Open : List (Nat × Code) := loopsAll 0 (Tryz.f38.body.getD .skip)
theorem ks_l20Open_0 : OrcOk Es_l20Open Os_l20Open_0 lss_l20Open 0 := orcOk_none
noncomputable def g_As_l20Open (a0 : List Int) : Bool := Bool.rec (!decide ((↑(List.length a0) : Int) > (2000 : Int)) && true) true (decide ((0 : Int) ≤ (2000 : Int) ∧ (2000 : Int) ≤ (↑(List.length a0) : Int)) && true)
noncomputable def g_Vs_l20Open_0 (a0 : List Int) : List Int := bif decide ((↑(List.length a0) : Int) > (2000 : Int)) then List.drop (nat_lit 0) (List.take (nat_lit 2000) a0) else a0
noncomputable def g_Vs_l20Open_1 (a0 : List Int) : Int := bif decide ((↑(List.length a0) : Int) > (2000 : Int)) then (0 : Int) else (0 : Int)
noncomputable def Fs_l20Open : List RV → Option (Bool × List Cell × List (List Cell)) := fun ys => match ys with
 | [.val false [.sl .any 5 (.int .u8) a0]] => some ((g_As_l20Open a0), [.sl .any 5 (.int .u8) (g_Vs_l20Open_0 a0), .int .i64 (g_Vs_l20Open_1 a0)], [])
 | _ => none
theorem vs_l20Open (a0 : List Int) : collapse Es_l20Open Os_l20Open_0 (execFnB Es_l20Open Tryz.f38 mss_l20Open 2 [.val false [.sl .any 5 (.int .u8) a0]]) = some ((g_As_l20Open a0), .val true [.sl .any 5 (.int .u8) (g_Vs_l20Open_0 a0), .int .i64 (g_Vs_l20Open_1 a0)], []) := by kernel_rfl
theorem ss_l20Open : SoundB Tryz.prog 38 mss_l20Open Fs_l20Open := by
 refine fn_genB goods_l20Open (by kernel_rfl) (fn := Tryz.f38) (c := (Tryz.f38.body.getD .skip)) (o := Os_l20Open_0) (k := 0) (tr := 2) (by kernel_rfl) (by kernel_rfl) (by kernel_rfl) (by kernel_rfl) (by decide) (by kernel_rfl) (by decide) ks_l20Open_0 ?_
 intro ys r outs h
 unfold Fs_l20Open at h
 split at h
 ·simp only [Option.some.injEq, Prod.mk.injEq] at h
  obtain ⟨h1, h2, h3⟩ := h
  refine ⟨h3.symm, (vs_l20Open _).trans ?_⟩
  rw [h1, h2]
 ·cases h
noncomputable def Es_l20Val : Env where
 tt := mkTI Tryz.prog
 fn := fun f => match f with
  | 42 => some (mss_l20Rd_pick, FSem.wk mss_l20Rd_pick Fs_l20Rd_pick)
  | 43 => some (mss_l20Rd_oddR, FSem.wk mss_l20Rd_oddR Fs_l20Rd_oddR)
  | _ => none
 bxf := fun _ => none
 mv := []
 keep := fun b => match b with
  | 0 => [(0, false), (1, false), (5, false), (6, false)]
  | _ => []
 keepB := fun b => match b with
  | 0 => [(0, false)]
  | _ => []
 keepX := fun b => match b with
  | 0 => [(0, false), (1, false), (5, false)]
  | _ => []
 keepXB := fun b => match b with
  | 0 => [(0, false)]
  | _ => []
theorem goodFs_l20Val : ∀ f ms F, Es_l20Val.fn f = some (ms, F) → Sound Tryz.prog f ms F := fun f ms F h => by
 unfold Es_l20Val at h
 dsimp only at h
 split at h
 ·injection h with h; injection h with e1 e2; subst e1 e2; exact Sound.wk ss_l20Rd_pick
 ·injection h with h; injection h with e1 e2; subst e1 e2; exact Sound.wk ss_l20Rd_oddR
 ·cases h
theorem goodBs_l20Val : ∀ f ms F, Es_l20Val.bxf f = some (ms, F) → SoundB Tryz.prog f ms F := fun f ms F h => by cases h
theorem goods_l20Val : Good Tryz.prog Es_l20Val := ⟨rfl, goodFs_l20Val, goodBs_l20Val⟩
noncomputable def Os_l20Val_0 : Orc := fun _ _ => none
noncomputable def mss_l20Val : List PM := [.bx, .own]
noncomputable def lss_l20Val : List (Nat × Code) := loopsAll 0 (Tryz.f90.body.getD .skip)
noncomputable def cs_l20Val_0 : Code := (loopOf 0 (Tryz.f90.body.getD .skip)).getD .skip
theorem lseqs_l20Val : lss_l20Val = [(0, cs_l20Val_0)] := by kernel_rfl
theorem ms_l20Val_0 : ∀ p, p ∈ lss_l20Val → p.1 = 0 → p.2 = cs_l20Val_0 := by
 intro p hp
 rw [lseqs_l20Val] at hp
 simp only [List.mem_cons, List.not_mem_nil, or_false] at hp
 subst hp; simp
theorem ks_l20Val_0 : OrcOk Es_l20Val Os_l20Val_0 lss_l20Val 0 := orcOk_none
noncomputable def hs_l20Val_0 (y0 : Int) (y1 : List Int) (y2 : Int) (y3 : List Int) (y4 : Int) : List (Pl × LV) := [(.T 0, .t (.val false [.ptr 0 0 0])), (.T 1, .t (.val false [.int .i64 y0])), (.T 5, .t (.val false [.row 5 0 0])), (.R 5 0, .r 0 (some ⟨false, .non, true, 3, (.int .i64), y1⟩)), (.T 6, .t (.val false [.int .i64 y2])), (.B 0, .b 0 false [.sl .any 5 (.int .u8) y3, .int .i64 y4])]
noncomputable def g_Ss_l20Val_0 (y0 : Int) (y3 : List Int) : ((List Int) × Int × Int) → RT ((List Int) × Int × Int) (((List Int) × Int))
 | (y1, y2, y4) => .br (true) (.br (decide (y2 > (0 : Int))) (.br (g_pickA y3 y4 (12 : Int)) (.br (decide ((List.length y1 + List.length [g_pick y3 y4 (12 : Int)]) * nat_lit 8 ≤ nat_lit 140737488355328 ∧ List.length y1 + List.length [g_pick y3 y4 (12 : Int)] ≤ nat_lit 9223372036854775807)) (.br (true) (.go ((y1 ++ [g_pick y3 y4 (12 : Int)], IntKind.wrap IntKind.i64 (y2 - (1 : Int)), IntKind.wrap IntKind.i64 (y4 + (1 : Int))))) (.bad)) (.bad)) (.bad)) (.out ((y1, y4)))) (.bad)
noncomputable def g_Ls_l20Val_0 (y0 : Int) (y3 : List Int) (x : (List Int) × Int × Int) : Option (((List Int) × Int)) := loopO (g_Ss_l20Val_0 y0 y3) x
noncomputable def xs_l20Val_0 (y0 : Int) (y3 : List Int) : (((List Int) × Int)) → Ex × List (Pl × LV) := fun r => (.exit 0, [(.T 0, .t (.val false [.ptr 0 0 0])), (.T 1, .t (.val false [.int .i64 y0])), (.T 5, .t (.val false [.row 5 0 0])), (.R 5 0, .r 0 (some ⟨false, .non, true, 3, (.int .i64), r.1⟩)), (.B 0, .b 0 false [.sl .any 5 (.int .u8) y3, .int .i64 r.2])])
noncomputable def Os_l20Val_1 : Orc := fun b h => match b, h with
 | 0, [(.T 0, .t (.val false [.ptr 0 0 0])), (.T 1, .t (.val false [.int .i64 y0])), (.T 5, .t (.val false [.row 5 0 0])), (.R 5 0, .r 0 (some ⟨false, .non, true, 3, (.int .i64), y1⟩)), (.T 6, .t (.val false [.int .i64 y2])), (.B 0, .b 0 false [.sl .any 5 (.int .u8) y3, .int .i64 y4])] => some (okO (g_Ls_l20Val_0 y0 y3 (y1, y2, y4)), (.leaf (.exit 0) [(.T 0, .t (.val false [.ptr 0 0 0])), (.T 1, .t (.val false [.int .i64 y0])), (.T 5, .t (.val false [.row 5 0 0])), (.R 5 0, .r 0 (some ⟨false, .non, true, 3, (.int .i64), (valO (g_Ls_l20Val_0 y0 y3 (y1, y2, y4))).1⟩)), (.B 0, .b 0 false [.sl .any 5 (.int .u8) y3, .int .i64 (valO (g_Ls_l20Val_0 y0 y3 (y1, y2, y4))).2])]))
 | b, h => Os_l20Val_0 b h
theorem bs_l20Val_0 (y0 : Int) (y1 : List Int) (y2 : Int) (y3 : List Int) (y4 : Int) : Tr.bt Es_l20Val Os_l20Val_0 (exec Es_l20Val 0 cs_l20Val_0 (St.of (hs_l20Val_0 y0 y1 y2 y3 y4)) (leafRd Es_l20Val 0)) = (g_Ss_l20Val_0 y0 y3 (y1, y2, y4)).bt (fun ((y1, y2, y4) : (List Int) × Int × Int) => (hs_l20Val_0 y0 y1 y2 y3 y4)) (xs_l20Val_0 y0 y3) := by kernel_rfl
theorem ks_l20Val_1 : OrcOk Es_l20Val Os_l20Val_1 lss_l20Val 1 := orc_add ks_l20Val_0 (fun n p hp h ex h' ho => by
 obtain ⟨b, c⟩ := p
 obtain ⟨xt, h1, h2⟩ := ho
 have h1 : Os_l20Val_1 b h = some (true, xt) := h1
 unfold Os_l20Val_1 at h1
 split at h1
 ·injection h1 with h1
  injection h1 with e1 e2
  subst e2
  have hc : c = cs_l20Val_0 := ms_l20Val_0 _ hp rfl
  subst hc
  right
  rename_i y0 y1 y2 y3 y4
  have key := LT_step ks_l20Val_0 hp (fun q hq => loopsAll_in _ _ _ _ hp hq) (fun ((y1, y2, y4) : (List Int) × Int × Int) => (hs_l20Val_0 y0 y1 y2 y3 y4)) (xs_l20Val_0 y0 y3) (g_Ss_l20Val_0 y0 y3) (fun x => by first | exact bs_l20Val_0 y0 x.1 x.2.1 y3 x.2.2) n (x := (y1, y2, y4)) (okO_some e1)
  have hx : ∀ r, XT.sel (.leaf (.exit 0) [(.T 0, .t (.val false [.ptr 0 0 0])), (.T 1, .t (.val false [.int .i64 y0])), (.T 5, .t (.val false [.row 5 0 0])), (.R 5 0, .r 0 (some ⟨false, .non, true, 3, (.int .i64), r.1⟩)), (.B 0, .b 0 false [.sl .any 5 (.int .u8) y3, .int .i64 r.2])]) = xs_l20Val_0 y0 y3 r := fun r => by first | rfl | (rcases r with r | r <;> rfl) | (rcases r with r | r | r <;> rfl) | (rcases r with r | r | r | r <;> rfl)
  have h3 := (hx (valO (g_Ls_l20Val_0 y0 y3 (y1, y2, y4)))).symm.trans h2
  have e3 := congrArg Prod.fst h3
  have e4 := congrArg Prod.snd h3
  simp only at e3 e4
  rw [← e3, ← e4]
  exact key
 ·exact .inl ⟨xt, h1, h2⟩)
noncomputable def g_As_l20Val (r0 : List Int) (r1 : Int) (a2 : Int) : Bool := g_pickA r0 r1 (4 : Int) && (g_pickA r0 (IntKind.wrap IntKind.i64 (r1 + (1 : Int))) (3 : Int) && (okO (g_Ls_l20Val_0 a2 r0 ([g_pick r0 r1 (4 : Int)], g_pick r0 (IntKind.wrap IntKind.i64 (r1 + (1 : Int))) (3 : Int), IntKind.wrap IntKind.i64 (IntKind.wrap IntKind.i64 (r1 + (1 : Int)) + (1 : Int)))) && (g_As_l20Rd_odd r0 (valO (g_Ls_l20Val_0 a2 r0 ([g_pick r0 r1 (4 : Int)], g_pick r0 (IntKind.wrap IntKind.i64 (r1 + (1 : Int))) (3 : Int), IntKind.wrap IntKind.i64 (IntKind.wrap IntKind.i64 (r1 + (1 : Int)) + (1 : Int))))).2 a2 && (!g_Vs_l20Rd_odd_0 r0 (valO (g_Ls_l20Val_0 a2 r0 ([g_pick r0 r1 (4 : Int)], g_pick r0 (IntKind.wrap IntKind.i64 (r1 + (1 : Int))) (3 : Int), IntKind.wrap IntKind.i64 (IntKind.wrap IntKind.i64 (r1 + (1 : Int)) + (1 : Int))))).2 a2 || g_pickA r0 (g_Vs_l20Rd_odd_2 r0 (valO (g_Ls_l20Val_0 a2 r0 ([g_pick r0 r1 (4 : Int)], g_pick r0 (IntKind.wrap IntKind.i64 (r1 + (1 : Int))) (3 : Int), IntKind.wrap IntKind.i64 (IntKind.wrap IntKind.i64 (r1 + (1 : Int)) + (1 : Int))))).2 a2) (4 : Int) && (decide ((0 : Int) ≤ g_pick r0 (g_Vs_l20Rd_odd_2 r0 (valO (g_Ls_l20Val_0 a2 r0 ([g_pick r0 r1 (4 : Int)], g_pick r0 (IntKind.wrap IntKind.i64 (r1 + (1 : Int))) (3 : Int), IntKind.wrap IntKind.i64 (IntKind.wrap IntKind.i64 (r1 + (1 : Int)) + (1 : Int))))).2 a2) (4 : Int) ∧ g_pick r0 (g_Vs_l20Rd_odd_2 r0 (valO (g_Ls_l20Val_0 a2 r0 ([g_pick r0 r1 (4 : Int)], g_pick r0 (IntKind.wrap IntKind.i64 (r1 + (1 : Int))) (3 : Int), IntKind.wrap IntKind.i64 (IntKind.wrap IntKind.i64 (r1 + (1 : Int)) + (1 : Int))))).2 a2) (4 : Int) < (4 : Int)) && decide (Int.toNat (g_pick r0 (g_Vs_l20Rd_odd_2 r0 (valO (g_Ls_l20Val_0 a2 r0 ([g_pick r0 r1 (4 : Int)], g_pick r0 (IntKind.wrap IntKind.i64 (r1 + (1 : Int))) (3 : Int), IntKind.wrap IntKind.i64 (IntKind.wrap IntKind.i64 (r1 + (1 : Int)) + (1 : Int))))).2 a2) (4 : Int)) < nat_lit 4))))))
noncomputable def g_Vs_l20Val_0 (r0 : List Int) (r1 : Int) (a2 : Int) : List Int := bif g_Vs_l20Rd_odd_0 r0 (valO (g_Ls_l20Val_0 a2 r0 ([g_pick r0 r1 (4 : Int)], g_pick r0 (IntKind.wrap IntKind.i64 (r1 + (1 : Int))) (3 : Int), IntKind.wrap IntKind.i64 (IntKind.wrap IntKind.i64 (r1 + (1 : Int)) + (1 : Int))))).2 a2 then at_ (Ty.sl (nat_lit 3) (Ty.int IntKind.i64)) [[], [(-1 : Int)], [(10000 : Int)], [(1 : Int), (2 : Int), (3 : Int), (4 : Int)]] (Int.toNat (g_pick r0 (g_Vs_l20Rd_odd_2 r0 (valO (g_Ls_l20Val_0 a2 r0 ([g_pick r0 r1 (4 : Int)], g_pick r0 (IntKind.wrap IntKind.i64 (r1 + (1 : Int))) (3 : Int), IntKind.wrap IntKind.i64 (IntKind.wrap IntKind.i64 (r1 + (1 : Int)) + (1 : Int))))).2 a2) (4 : Int))) else (valO (g_Ls_l20Val_0 a2 r0 ([g_pick r0 r1 (4 : Int)], g_pick r0 (IntKind.wrap IntKind.i64 (r1 + (1 : Int))) (3 : Int), IntKind.wrap IntKind.i64 (IntKind.wrap IntKind.i64 (r1 + (1 : Int)) + (1 : Int))))).1
noncomputable def g_Vs_l20Val_1 (r0 : List Int) (r1 : Int) (a2 : Int) : List Int := bif g_Vs_l20Rd_odd_0 r0 (valO (g_Ls_l20Val_0 a2 r0 ([g_pick r0 r1 (4 : Int)], g_pick r0 (IntKind.wrap IntKind.i64 (r1 + (1 : Int))) (3 : Int), IntKind.wrap IntKind.i64 (IntKind.wrap IntKind.i64 (r1 + (1 : Int)) + (1 : Int))))).2 a2 then r0 else r0
noncomputable def g_Vs_l20Val_2 (r0 : List Int) (r1 : Int) (a2 : Int) : Int := bif g_Vs_l20Rd_odd_0 r0 (valO (g_Ls_l20Val_0 a2 r0 ([g_pick r0 r1 (4 : Int)], g_pick r0 (IntKind.wrap IntKind.i64 (r1 + (1 : Int))) (3 : Int), IntKind.wrap IntKind.i64 (IntKind.wrap IntKind.i64 (r1 + (1 : Int)) + (1 : Int))))).2 a2 then IntKind.wrap IntKind.i64 (g_Vs_l20Rd_odd_2 r0 (valO (g_Ls_l20Val_0 a2 r0 ([g_pick r0 r1 (4 : Int)], g_pick r0 (IntKind.wrap IntKind.i64 (r1 + (1 : Int))) (3 : Int), IntKind.wrap IntKind.i64 (IntKind.wrap IntKind.i64 (r1 + (1 : Int)) + (1 : Int))))).2 a2 + (1 : Int)) else g_Vs_l20Rd_odd_2 r0 (valO (g_Ls_l20Val_0 a2 r0 ([g_pick r0 r1 (4 : Int)], g_pick r0 (IntKind.wrap IntKind.i64 (r1 + (1 : Int))) (3 : Int), IntKind.wrap IntKind.i64 (IntKind.wrap IntKind.i64 (r1 + (1 : Int)) + (1 : Int))))).2 a2
noncomputable def Fs_l20Val : FSem := fun ys => match ys with
 | [.val true [.sl .any 5 (.int .u8) r0, .int .i64 r1], .val false [.int .i64 a2]] => some ((g_As_l20Val r0 r1 a2), .val false [.sl .any 3 (.int .i64) (g_Vs_l20Val_0 r0 r1 a2)], [[.sl .any 5 (.int .u8) (g_Vs_l20Val_1 r0 r1 a2), .int .i64 (g_Vs_l20Val_2 r0 r1 a2)]])
 | _ => none
theorem vs_l20Val (r0 : List Int) (r1 : Int) (a2 : Int) : collapseH .fr Es_l20Val Os_l20Val_1 (execFn Es_l20Val Tryz.f90 mss_l20Val [.val true [.sl .any 5 (.int .u8) r0, .int .i64 r1], .val false [.int .i64 a2]]) = some ((g_As_l20Val r0 r1 a2), .val false [.sl .any 3 (.int .i64) (g_Vs_l20Val_0 r0 r1 a2)], [[.sl .any 5 (.int .u8) (g_Vs_l20Val_1 r0 r1 a2), .int .i64 (g_Vs_l20Val_2 r0 r1 a2)]]) := by kernel_rfl
theorem ss_l20Val : Sound Tryz.prog 90 mss_l20Val Fs_l20Val := by
 refine fn_gen goods_l20Val (by kernel_rfl) .fr (fn := Tryz.f90) (c := (Tryz.f90.body.getD .skip)) (o := Os_l20Val_1) (k := 1) (by kernel_rfl) (by kernel_rfl) (by kernel_rfl) (by kernel_rfl) (by decide) ks_l20Val_1 ?_
 intro ys r outs h
 unfold Fs_l20Val at h
 split at h
 ·exact (vs_l20Val _ _ _).trans h
 ·cases h
noncomputable def mss_l20ValR : List PM := mss_l20Val
theorem sames_l20Val (r0 : List Int) (r1 : Int) (a2 : Int) : g_Vs_l20Val_1 r0 r1 a2 = r0 := by
 unfold g_Vs_l20Val_1
 simp only [Bool.cond_self]
noncomputable def Fs_l20ValR : FSem := fun ys => match ys with
 | [.val true [.sl .any 5 (.int .u8) r0, .int .i64 r1], .val false [.int .i64 a2]] => some ((g_As_l20Val r0 r1 a2), .val false [.sl .any 3 (.int .i64) (g_Vs_l20Val_0 r0 r1 a2)], [[.sl .any 5 (.int .u8) r0, .int .i64 (g_Vs_l20Val_2 r0 r1 a2)]])
 | _ => none
theorem ss_l20ValR : Sound Tryz.prog 90 mss_l20ValR Fs_l20ValR := by
 refine ⟨ss_l20Val.fn, fun w S ψ ys vs r outs hF hh hg => ss_l20Val.calls w S ψ ys vs r outs (Eq.trans ?_ hF) hh hg⟩
 unfold Fs_l20ValR at hF ⊢
 split at hF
 ·rename_i  r0 r1 a2
  show (some ((g_As_l20Val r0 r1 a2), .val false [.sl .any 3 (.int .i64) (g_Vs_l20Val_0 r0 r1 a2)], [[.sl .any 5 (.int .u8) (g_Vs_l20Val_1 r0 r1 a2), .int .i64 (g_Vs_l20Val_2 r0 r1 a2)]]) : Option (Bool × RV × List (List Cell))) = _
  rw [sames_l20Val]
 ·cases hF
noncomputable def Es_l20Key : Env where
 tt := mkTI Tryz.prog
 fn := fun f => match f with
  | 42 => some (mss_l20Rd_pick, FSem.wk mss_l20Rd_pick Fs_l20Rd_pick)
  | 43 => some (mss_l20Rd_oddR, FSem.wk mss_l20Rd_oddR Fs_l20Rd_oddR)
  | 106 => some (mss_l3Plain, FSem.wk mss_l3Plain Fs_l3Plain)
  | _ => none
 bxf := fun _ => none
 mv := []
 keep := fun _ => []
 keepB := fun _ => []
 keepX := fun _ => []
 keepXB := fun _ => []
theorem goodFs_l20Key : ∀ f ms F, Es_l20Key.fn f = some (ms, F) → Sound Tryz.prog f ms F := fun f ms F h => by
 unfold Es_l20Key at h
 dsimp only at h
 split at h
 ·injection h with h; injection h with e1 e2; subst e1 e2; exact Sound.wk ss_l20Rd_pick
 ·injection h with h; injection h with e1 e2; subst e1 e2; exact Sound.wk ss_l20Rd_oddR
 ·injection h with h; injection h with e1 e2; subst e1 e2; exact Sound.wk ss_l3Plain
 ·cases h
theorem goodBs_l20Key : ∀ f ms F, Es_l20Key.bxf f = some (ms, F) → SoundB Tryz.prog f ms F := fun f ms F h => by cases h
theorem goods_l20Key : Good Tryz.prog Es_l20Key := ⟨rfl, goodFs_l20Key, goodBs_l20Key⟩
noncomputable def Os_l20Key_0 : Orc := fun _ _ => none
noncomputable def mss_l20Key : List PM := [.bx, .own]
noncomputable def lss_l20Key : List (Nat × Code) := loopsAll 0 (Tryz.f166.body.getD .skip)
theorem ks_l20Key_0 : OrcOk Es_l20Key Os_l20Key_0 lss_l20Key 0 := orcOk_none
noncomputable def g_As_l20Key (r0 : List Int) (r1 : Int) (a2 : Int) : Bool := g_pickA r0 r1 (5 : Int) && (decide ((0 : Int) ≤ g_pick r0 r1 (5 : Int) ∧ g_pick r0 r1 (5 : Int) < (5 : Int)) && (decide (Int.toNat (g_pick r0 r1 (5 : Int)) < nat_lit 5) && (g_pickA r0 (IntKind.wrap IntKind.i64 (r1 + (1 : Int))) (4 : Int) && (g_pickA r0 (IntKind.wrap IntKind.i64 (IntKind.wrap IntKind.i64 (r1 + (1 : Int)) + (1 : Int))) (30 : Int) && (g_pickA r0 (IntKind.wrap IntKind.i64 (IntKind.wrap IntKind.i64 (IntKind.wrap IntKind.i64 (r1 + (1 : Int)) + (1 : Int)) + (1 : Int))) (2 : Int) && (decide ((0 : Int) ≤ g_pick r0 (IntKind.wrap IntKind.i64 (IntKind.wrap IntKind.i64 (IntKind.wrap IntKind.i64 (r1 + (1 : Int)) + (1 : Int)) + (1 : Int))) (2 : Int) ∧ g_pick r0 (IntKind.wrap IntKind.i64 (IntKind.wrap IntKind.i64 (IntKind.wrap IntKind.i64 (r1 + (1 : Int)) + (1 : Int)) + (1 : Int))) (2 : Int) < (↑(List.length [g_pick r0 (IntKind.wrap IntKind.i64 (r1 + (1 : Int))) (4 : Int), g_pick r0 (IntKind.wrap IntKind.i64 (IntKind.wrap IntKind.i64 (r1 + (1 : Int)) + (1 : Int))) (30 : Int)]) : Int)) && (decide (Int.toNat (g_pick r0 (IntKind.wrap IntKind.i64 (IntKind.wrap IntKind.i64 (IntKind.wrap IntKind.i64 (r1 + (1 : Int)) + (1 : Int)) + (1 : Int))) (2 : Int)) < List.length [g_pick r0 (IntKind.wrap IntKind.i64 (r1 + (1 : Int))) (4 : Int), g_pick r0 (IntKind.wrap IntKind.i64 (IntKind.wrap IntKind.i64 (r1 + (1 : Int)) + (1 : Int))) (30 : Int)]) && (g_As_l3Plain (at_ (Ty.int IntKind.i64) [g_pick r0 (IntKind.wrap IntKind.i64 (r1 + (1 : Int))) (4 : Int), g_pick r0 (IntKind.wrap IntKind.i64 (IntKind.wrap IntKind.i64 (r1 + (1 : Int)) + (1 : Int))) (30 : Int)] (Int.toNat (g_pick r0 (IntKind.wrap IntKind.i64 (IntKind.wrap IntKind.i64 (IntKind.wrap IntKind.i64 (r1 + (1 : Int)) + (1 : Int)) + (1 : Int))) (2 : Int)))) && (decide (ByteArray.size (at_ Ty.str [lit [(115 : Nat)], lit [(99 : Nat)], lit [(102 : Nat)], lit [(117 : Nat)], lit [(97 : Nat)]] (Int.toNat (g_pick r0 r1 (5 : Int)))) + ByteArray.size (g_Vs_l3Plain_0 (at_ (Ty.int IntKind.i64) [g_pick r0 (IntKind.wrap IntKind.i64 (r1 + (1 : Int))) (4 : Int), g_pick r0 (IntKind.wrap IntKind.i64 (IntKind.wrap IntKind.i64 (r1 + (1 : Int)) + (1 : Int))) (30 : Int)] (Int.toNat (g_pick r0 (IntKind.wrap IntKind.i64 (IntKind.wrap IntKind.i64 (IntKind.wrap IntKind.i64 (r1 + (1 : Int)) + (1 : Int)) + (1 : Int))) (2 : Int))))) ≤ nat_lit 9223372036854775807) && (g_As_l20Rd_odd r0 (IntKind.wrap IntKind.i64 (IntKind.wrap IntKind.i64 (IntKind.wrap IntKind.i64 (IntKind.wrap IntKind.i64 (r1 + (1 : Int)) + (1 : Int)) + (1 : Int)) + (1 : Int))) a2 && (!g_Vs_l20Rd_odd_0 r0 (IntKind.wrap IntKind.i64 (IntKind.wrap IntKind.i64 (IntKind.wrap IntKind.i64 (IntKind.wrap IntKind.i64 (r1 + (1 : Int)) + (1 : Int)) + (1 : Int)) + (1 : Int))) a2 || g_pickA r0 (g_Vs_l20Rd_odd_2 r0 (IntKind.wrap IntKind.i64 (IntKind.wrap IntKind.i64 (IntKind.wrap IntKind.i64 (IntKind.wrap IntKind.i64 (r1 + (1 : Int)) + (1 : Int)) + (1 : Int)) + (1 : Int))) a2) (6 : Int) && (decide ((0 : Int) ≤ g_pick r0 (g_Vs_l20Rd_odd_2 r0 (IntKind.wrap IntKind.i64 (IntKind.wrap IntKind.i64 (IntKind.wrap IntKind.i64 (IntKind.wrap IntKind.i64 (r1 + (1 : Int)) + (1 : Int)) + (1 : Int)) + (1 : Int))) a2) (6 : Int) ∧ g_pick r0 (g_Vs_l20Rd_odd_2 r0 (IntKind.wrap IntKind.i64 (IntKind.wrap IntKind.i64 (IntKind.wrap IntKind.i64 (IntKind.wrap IntKind.i64 (r1 + (1 : Int)) + (1 : Int)) + (1 : Int)) + (1 : Int))) a2) (6 : Int) < (6 : Int)) && decide (Int.toNat (g_pick r0 (g_Vs_l20Rd_odd_2 r0 (IntKind.wrap IntKind.i64 (IntKind.wrap IntKind.i64 (IntKind.wrap IntKind.i64 (IntKind.wrap IntKind.i64 (r1 + (1 : Int)) + (1 : Int)) + (1 : Int)) + (1 : Int))) a2) (6 : Int)) < nat_lit 6)))))))))))))
noncomputable def g_Vs_l20Key_0 (r0 : List Int) (r1 : Int) (a2 : Int) : ByteArray := bif g_Vs_l20Rd_odd_0 r0 (IntKind.wrap IntKind.i64 (IntKind.wrap IntKind.i64 (IntKind.wrap IntKind.i64 (IntKind.wrap IntKind.i64 (r1 + (1 : Int)) + (1 : Int)) + (1 : Int)) + (1 : Int))) a2 then at_ Ty.str [lit [], lit [(115 : Nat)], lit [(83 : Nat), (49 : Nat)], lit [(115 : Nat), (49 : Nat), (50 : Nat), (51 : Nat)], lit [(49 : Nat), (115 : Nat)], lit [(115 : Nat), (97 : Nat)]] (Int.toNat (g_pick r0 (g_Vs_l20Rd_odd_2 r0 (IntKind.wrap IntKind.i64 (IntKind.wrap IntKind.i64 (IntKind.wrap IntKind.i64 (IntKind.wrap IntKind.i64 (r1 + (1 : Int)) + (1 : Int)) + (1 : Int)) + (1 : Int))) a2) (6 : Int))) else at_ Ty.str [lit [(115 : Nat)], lit [(99 : Nat)], lit [(102 : Nat)], lit [(117 : Nat)], lit [(97 : Nat)]] (Int.toNat (g_pick r0 r1 (5 : Int))) ++ g_Vs_l3Plain_0 (at_ (Ty.int IntKind.i64) [g_pick r0 (IntKind.wrap IntKind.i64 (r1 + (1 : Int))) (4 : Int), g_pick r0 (IntKind.wrap IntKind.i64 (IntKind.wrap IntKind.i64 (r1 + (1 : Int)) + (1 : Int))) (30 : Int)] (Int.toNat (g_pick r0 (IntKind.wrap IntKind.i64 (IntKind.wrap IntKind.i64 (IntKind.wrap IntKind.i64 (r1 + (1 : Int)) + (1 : Int)) + (1 : Int))) (2 : Int))))
noncomputable def g_Vs_l20Key_1 (r0 : List Int) (r1 : Int) (a2 : Int) : List Int := bif g_Vs_l20Rd_odd_0 r0 (IntKind.wrap IntKind.i64 (IntKind.wrap IntKind.i64 (IntKind.wrap IntKind.i64 (IntKind.wrap IntKind.i64 (r1 + (1 : Int)) + (1 : Int)) + (1 : Int)) + (1 : Int))) a2 then r0 else r0
noncomputable def g_Vs_l20Key_2 (r0 : List Int) (r1 : Int) (a2 : Int) : Int := bif g_Vs_l20Rd_odd_0 r0 (IntKind.wrap IntKind.i64 (IntKind.wrap IntKind.i64 (IntKind.wrap IntKind.i64 (IntKind.wrap IntKind.i64 (r1 + (1 : Int)) + (1 : Int)) + (1 : Int)) + (1 : Int))) a2 then IntKind.wrap IntKind.i64 (g_Vs_l20Rd_odd_2 r0 (IntKind.wrap IntKind.i64 (IntKind.wrap IntKind.i64 (IntKind.wrap IntKind.i64 (IntKind.wrap IntKind.i64 (r1 + (1 : Int)) + (1 : Int)) + (1 : Int)) + (1 : Int))) a2 + (1 : Int)) else g_Vs_l20Rd_odd_2 r0 (IntKind.wrap IntKind.i64 (IntKind.wrap IntKind.i64 (IntKind.wrap IntKind.i64 (IntKind.wrap IntKind.i64 (r1 + (1 : Int)) + (1 : Int)) + (1 : Int)) + (1 : Int))) a2
noncomputable def Fs_l20Key : FSem := fun ys => match ys with
 | [.val true [.sl .any 5 (.int .u8) r0, .int .i64 r1], .val false [.int .i64 a2]] => some ((g_As_l20Key r0 r1 a2), .val false [.str (g_Vs_l20Key_0 r0 r1 a2)], [[.sl .any 5 (.int .u8) (g_Vs_l20Key_1 r0 r1 a2), .int .i64 (g_Vs_l20Key_2 r0 r1 a2)]])
 | _ => none
theorem vs_l20Key (r0 : List Int) (r1 : Int) (a2 : Int) : collapseH .std Es_l20Key Os_l20Key_0 (execFn Es_l20Key Tryz.f166 mss_l20Key [.val true [.sl .any 5 (.int .u8) r0, .int .i64 r1], .val false [.int .i64 a2]]) = some ((g_As_l20Key r0 r1 a2), .val false [.str (g_Vs_l20Key_0 r0 r1 a2)], [[.sl .any 5 (.int .u8) (g_Vs_l20Key_1 r0 r1 a2), .int .i64 (g_Vs_l20Key_2 r0 r1 a2)]]) := by kernel_rfl
theorem ss_l20Key : Sound Tryz.prog 166 mss_l20Key Fs_l20Key := by
 refine fn_gen goods_l20Key (by kernel_rfl) .std (fn := Tryz.f166) (c := (Tryz.f166.body.getD .skip)) (o := Os_l20Key_0) (k := 0) (by kernel_rfl) (by kernel_rfl) (by kernel_rfl) (by kernel_rfl) (by decide) ks_l20Key_0 ?_
 intro ys r outs h
 unfold Fs_l20Key at h
 split at h
 ·exact (vs_l20Key _ _ _).trans h
 ·cases h
noncomputable def mss_l20KeyR : List PM := mss_l20Key
theorem sames_l20Key (r0 : List Int) (r1 : Int) (a2 : Int) : g_Vs_l20Key_1 r0 r1 a2 = r0 := by
 unfold g_Vs_l20Key_1
 simp only [Bool.cond_self]
noncomputable def Fs_l20KeyR : FSem := fun ys => match ys with
 | [.val true [.sl .any 5 (.int .u8) r0, .int .i64 r1], .val false [.int .i64 a2]] => some ((g_As_l20Key r0 r1 a2), .val false [.str (g_Vs_l20Key_0 r0 r1 a2)], [[.sl .any 5 (.int .u8) r0, .int .i64 (g_Vs_l20Key_2 r0 r1 a2)]])
 | _ => none
theorem ss_l20KeyR : Sound Tryz.prog 166 mss_l20KeyR Fs_l20KeyR := by
 refine ⟨ss_l20Key.fn, fun w S ψ ys vs r outs hF hh hg => ss_l20Key.calls w S ψ ys vs r outs (Eq.trans ?_ hF) hh hg⟩
 unfold Fs_l20KeyR at hF ⊢
 split at hF
 ·rename_i  r0 r1 a2
  show (some ((g_As_l20Key r0 r1 a2), .val false [.str (g_Vs_l20Key_0 r0 r1 a2)], [[.sl .any 5 (.int .u8) (g_Vs_l20Key_1 r0 r1 a2), .int .i64 (g_Vs_l20Key_2 r0 r1 a2)]]) : Option (Bool × RV × List (List Cell))) = _
  rw [sames_l20Key]
 ·cases hF
noncomputable def Es_l20Write : Env where
 tt := mkTI Tryz.prog
 fn := fun f => match f with
  | 42 => some (mss_l20Rd_pick, FSem.wk mss_l20Rd_pick Fs_l20Rd_pick)
  | 43 => some (mss_l20Rd_oddR, FSem.wk mss_l20Rd_oddR Fs_l20Rd_oddR)
  | 90 => some (mss_l20ValR, FSem.wk mss_l20ValR Fs_l20ValR)
  | 166 => some (mss_l20KeyR, FSem.wk mss_l20KeyR Fs_l20KeyR)
  | _ => none
 bxf := fun _ => none
 mv := []
 keep := fun _ => []
 keepB := fun _ => []
 keepX := fun _ => []
 keepXB := fun _ => []
theorem goodFs_l20Write : ∀ f ms F, Es_l20Write.fn f = some (ms, F) → Sound Tryz.prog f ms F := fun f ms F h => by
 unfold Es_l20Write at h
 dsimp only at h
 split at h
 ·injection h with h; injection h with e1 e2; subst e1 e2; exact Sound.wk ss_l20Rd_pick
 ·injection h with h; injection h with e1 e2; subst e1 e2; exact Sound.wk ss_l20Rd_oddR
 ·injection h with h; injection h with e1 e2; subst e1 e2; exact Sound.wk ss_l20ValR
 ·injection h with h; injection h with e1 e2; subst e1 e2; exact Sound.wk ss_l20KeyR
 ·cases h
theorem goodBs_l20Write : ∀ f ms F, Es_l20Write.bxf f = some (ms, F) → SoundB Tryz.prog f ms F := fun f ms F h => by cases h
theorem goods_l20Write : Good Tryz.prog Es_l20Write := ⟨rfl, goodFs_l20Write, goodBs_l20Write⟩
noncomputable def Os_l20Write_0 : Orc := fun _ _ => none
noncomputable def mss_l20Write : List PM := [.bx, .own]
noncomputable def lss_l20Write : List (Nat × Code) := loopsAll 0 (Tryz.f140.body.getD .skip)
theorem ks_l20Write_0 : OrcOk Es_l20Write Os_l20Write_0 lss_l20Write 0 := orcOk_none
noncomputable def g_As_l20Write (r0 : List Int) (r1 : Int) (a2 : Int) : Bool := g_As_l20Key r0 r1 a2 && (g_pickA r0 (g_Vs_l20Key_2 r0 r1 a2) (3 : Int) && bif g_pick r0 (g_Vs_l20Key_2 r0 r1 a2) (3 : Int) == (0 : Int) then g_As_l20Rd_odd r0 (IntKind.wrap IntKind.i64 (g_Vs_l20Key_2 r0 r1 a2 + (1 : Int))) a2 else g_As_l20Val r0 (IntKind.wrap IntKind.i64 (g_Vs_l20Key_2 r0 r1 a2 + (1 : Int))) a2)
noncomputable def g_Vs_l20Write_0 (r0 : List Int) (r1 : Int) (a2 : Int) : ByteArray := bif g_pick r0 (g_Vs_l20Key_2 r0 r1 a2) (3 : Int) == (0 : Int) then bif g_Vs_l20Rd_odd_0 r0 (IntKind.wrap IntKind.i64 (g_Vs_l20Key_2 r0 r1 a2 + (1 : Int))) a2 then g_Vs_l20Key_0 r0 r1 a2 else g_Vs_l20Key_0 r0 r1 a2 else g_Vs_l20Key_0 r0 r1 a2
noncomputable def g_Vs_l20Write_1 (r0 : List Int) (r1 : Int) (a2 : Int) : Bool := bif g_pick r0 (g_Vs_l20Key_2 r0 r1 a2) (3 : Int) == (0 : Int) then bif g_Vs_l20Rd_odd_0 r0 (IntKind.wrap IntKind.i64 (g_Vs_l20Key_2 r0 r1 a2 + (1 : Int))) a2 then true else true else false
noncomputable def g_Vs_l20Write_2 (r0 : List Int) (r1 : Int) (a2 : Int) : List Int := bif g_pick r0 (g_Vs_l20Key_2 r0 r1 a2) (3 : Int) == (0 : Int) then bif g_Vs_l20Rd_odd_0 r0 (IntKind.wrap IntKind.i64 (g_Vs_l20Key_2 r0 r1 a2 + (1 : Int))) a2 then [(1 : Int)] else [] else g_Vs_l20Val_0 r0 (IntKind.wrap IntKind.i64 (g_Vs_l20Key_2 r0 r1 a2 + (1 : Int))) a2
noncomputable def g_Vs_l20Write_3 (r0 : List Int) (r1 : Int) (a2 : Int) : List Int := bif g_pick r0 (g_Vs_l20Key_2 r0 r1 a2) (3 : Int) == (0 : Int) then bif g_Vs_l20Rd_odd_0 r0 (IntKind.wrap IntKind.i64 (g_Vs_l20Key_2 r0 r1 a2 + (1 : Int))) a2 then r0 else r0 else r0
noncomputable def g_Vs_l20Write_4 (r0 : List Int) (r1 : Int) (a2 : Int) : Int := bif g_pick r0 (g_Vs_l20Key_2 r0 r1 a2) (3 : Int) == (0 : Int) then bif g_Vs_l20Rd_odd_0 r0 (IntKind.wrap IntKind.i64 (g_Vs_l20Key_2 r0 r1 a2 + (1 : Int))) a2 then g_Vs_l20Rd_odd_2 r0 (IntKind.wrap IntKind.i64 (g_Vs_l20Key_2 r0 r1 a2 + (1 : Int))) a2 else g_Vs_l20Rd_odd_2 r0 (IntKind.wrap IntKind.i64 (g_Vs_l20Key_2 r0 r1 a2 + (1 : Int))) a2 else g_Vs_l20Val_2 r0 (IntKind.wrap IntKind.i64 (g_Vs_l20Key_2 r0 r1 a2 + (1 : Int))) a2
noncomputable def Fs_l20Write : FSem := fun ys => match ys with
 | [.val true [.sl .any 5 (.int .u8) r0, .int .i64 r1], .val false [.int .i64 a2]] => some ((g_As_l20Write r0 r1 a2), .val true [.str (g_Vs_l20Write_0 r0 r1 a2), .bool (g_Vs_l20Write_1 r0 r1 a2), .sl .any 3 (.int .i64) (g_Vs_l20Write_2 r0 r1 a2)], [[.sl .any 5 (.int .u8) (g_Vs_l20Write_3 r0 r1 a2), .int .i64 (g_Vs_l20Write_4 r0 r1 a2)]])
 | _ => none
theorem vs_l20Write (r0 : List Int) (r1 : Int) (a2 : Int) : collapseH .fr Es_l20Write Os_l20Write_0 (execFn Es_l20Write Tryz.f140 mss_l20Write [.val true [.sl .any 5 (.int .u8) r0, .int .i64 r1], .val false [.int .i64 a2]]) = some ((g_As_l20Write r0 r1 a2), .val true [.str (g_Vs_l20Write_0 r0 r1 a2), .bool (g_Vs_l20Write_1 r0 r1 a2), .sl .any 3 (.int .i64) (g_Vs_l20Write_2 r0 r1 a2)], [[.sl .any 5 (.int .u8) (g_Vs_l20Write_3 r0 r1 a2), .int .i64 (g_Vs_l20Write_4 r0 r1 a2)]]) := by kernel_rfl
theorem ss_l20Write : Sound Tryz.prog 140 mss_l20Write Fs_l20Write := by
 refine fn_gen goods_l20Write (by kernel_rfl) .fr (fn := Tryz.f140) (c := (Tryz.f140.body.getD .skip)) (o := Os_l20Write_0) (k := 0) (by kernel_rfl) (by kernel_rfl) (by kernel_rfl) (by kernel_rfl) (by decide) ks_l20Write_0 ?_
 intro ys r outs h
 unfold Fs_l20Write at h
 split at h
 ·exact (vs_l20Write _ _ _).trans h
 ·cases h
noncomputable def mss_l20WriteR : List PM := mss_l20Write
theorem sames_l20Write (r0 : List Int) (r1 : Int) (a2 : Int) : g_Vs_l20Write_3 r0 r1 a2 = r0 := by
 unfold g_Vs_l20Write_3
 simp only [Bool.cond_self]
noncomputable def Fs_l20WriteR : FSem := fun ys => match ys with
 | [.val true [.sl .any 5 (.int .u8) r0, .int .i64 r1], .val false [.int .i64 a2]] => some ((g_As_l20Write r0 r1 a2), .val true [.str (g_Vs_l20Write_0 r0 r1 a2), .bool (g_Vs_l20Write_1 r0 r1 a2), .sl .any 3 (.int .i64) (g_Vs_l20Write_2 r0 r1 a2)], [[.sl .any 5 (.int .u8) r0, .int .i64 (g_Vs_l20Write_4 r0 r1 a2)]])
 | _ => none
theorem ss_l20WriteR : Sound Tryz.prog 140 mss_l20WriteR Fs_l20WriteR := by
 refine ⟨ss_l20Write.fn, fun w S ψ ys vs r outs hF hh hg => ss_l20Write.calls w S ψ ys vs r outs (Eq.trans ?_ hF) hh hg⟩
 unfold Fs_l20WriteR at hF ⊢
 split at hF
 ·rename_i  r0 r1 a2
  show (some ((g_As_l20Write r0 r1 a2), .val true [.str (g_Vs_l20Write_0 r0 r1 a2), .bool (g_Vs_l20Write_1 r0 r1 a2), .sl .any 3 (.int .i64) (g_Vs_l20Write_2 r0 r1 a2)], [[.sl .any 5 (.int .u8) (g_Vs_l20Write_3 r0 r1 a2), .int .i64 (g_Vs_l20Write_4 r0 r1 a2)]]) : Option (Bool × RV × List (List Cell))) = _
  rw [sames_l20Write]
 ·cases hF
noncomputable def Es_l20Writes : Env where
 tt := mkTI Tryz.prog
 fn := fun f => match f with
  | 42 => some (mss_l20Rd_pick, FSem.wk mss_l20Rd_pick Fs_l20Rd_pick)
  | 43 => some (mss_l20Rd_oddR, FSem.wk mss_l20Rd_oddR Fs_l20Rd_oddR)
  | 140 => some (mss_l20WriteR, FSem.wk mss_l20WriteR Fs_l20WriteR)
  | _ => none
 bxf := fun _ => none
 mv := []
 keep := fun b => match b with
  | 0 => [(0, false), (1, false), (5, true), (6, false)]
  | _ => []
 keepB := fun b => match b with
  | 0 => [(0, false)]
  | _ => []
 keepX := fun b => match b with
  | 0 => [(0, false), (1, false), (5, true)]
  | _ => []
 keepXB := fun b => match b with
  | 0 => [(0, false)]
  | _ => []
theorem goodFs_l20Writes : ∀ f ms F, Es_l20Writes.fn f = some (ms, F) → Sound Tryz.prog f ms F := fun f ms F h => by
 unfold Es_l20Writes at h
 dsimp only at h
 split at h
 ·injection h with h; injection h with e1 e2; subst e1 e2; exact Sound.wk ss_l20Rd_pick
 ·injection h with h; injection h with e1 e2; subst e1 e2; exact Sound.wk ss_l20Rd_oddR
 ·injection h with h; injection h with e1 e2; subst e1 e2; exact Sound.wk ss_l20WriteR
 ·cases h
theorem goodBs_l20Writes : ∀ f ms F, Es_l20Writes.bxf f = some (ms, F) → SoundB Tryz.prog f ms F := fun f ms F h => by cases h
theorem goods_l20Writes : Good Tryz.prog Es_l20Writes := ⟨rfl, goodFs_l20Writes, goodBs_l20Writes⟩
noncomputable def Os_l20Writes_0 : Orc := fun _ _ => none
noncomputable def mss_l20Writes : List PM := [.bx, .own]
noncomputable def lss_l20Writes : List (Nat × Code) := loopsAll 0 (Tryz.f89.body.getD .skip)
noncomputable def cs_l20Writes_0 : Code := (loopOf 0 (Tryz.f89.body.getD .skip)).getD .skip
theorem lseqs_l20Writes : lss_l20Writes = [(0, cs_l20Writes_0)] := by kernel_rfl
theorem ms_l20Writes_0 : ∀ p, p ∈ lss_l20Writes → p.1 = 0 → p.2 = cs_l20Writes_0 := by
 intro p hp
 rw [lseqs_l20Writes] at hp
 simp only [List.mem_cons, List.not_mem_nil, or_false] at hp
 subst hp; simp
theorem ks_l20Writes_0 : OrcOk Es_l20Writes Os_l20Writes_0 lss_l20Writes 0 := orcOk_none
noncomputable def hs_l20Writes_0 (y0 : Int) (y1 : List (ByteArray × (Bool × (List Int)))) (y2 : Int) (y3 : List Int) (y4 : Int) : List (Pl × LV) := [(.T 0, .t (.val false [.ptr 0 0 0])), (.T 1, .t (.val false [.int .i64 y0])), (.T 5, .t (.val false [.row 5 0 0])), (.R 5 0, .r 0 (some ⟨false, .non, false, 39, (.pair .str (.pair .bool (.sl 3 (.int .i64)))), y1⟩)), (.T 6, .t (.val false [.int .i64 y2])), (.B 0, .b 0 false [.sl .any 5 (.int .u8) y3, .int .i64 y4])]
noncomputable def g_Ss_l20Writes_0 (y0 : Int) (y3 : List Int) : ((List (ByteArray × (Bool × (List Int)))) × Int × Int) → RT ((List (ByteArray × (Bool × (List Int)))) × Int × Int) (((List (ByteArray × (Bool × (List Int)))) × Int))
 | (y1, y2, y4) => .br (true) (.br (decide (y2 > (0 : Int))) (.br (g_As_l20Write y3 y4 (0 : Int)) (.br (decide ((List.length y1 + List.length [(g_Vs_l20Write_0 y3 y4 (0 : Int), g_Vs_l20Write_1 y3 y4 (0 : Int), g_Vs_l20Write_2 y3 y4 (0 : Int))]) * nat_lit 48 ≤ nat_lit 140737488355328 ∧ List.length y1 + List.length [(g_Vs_l20Write_0 y3 y4 (0 : Int), g_Vs_l20Write_1 y3 y4 (0 : Int), g_Vs_l20Write_2 y3 y4 (0 : Int))] ≤ nat_lit 9223372036854775807)) (.br (true) (.go ((y1 ++ [(g_Vs_l20Write_0 y3 y4 (0 : Int), g_Vs_l20Write_1 y3 y4 (0 : Int), g_Vs_l20Write_2 y3 y4 (0 : Int))], IntKind.wrap IntKind.i64 (y2 - (1 : Int)), g_Vs_l20Write_4 y3 y4 (0 : Int)))) (.bad)) (.bad)) (.bad)) (.out ((y1, y4)))) (.bad)
noncomputable def g_Ls_l20Writes_0 (y0 : Int) (y3 : List Int) (x : (List (ByteArray × (Bool × (List Int)))) × Int × Int) : Option (((List (ByteArray × (Bool × (List Int)))) × Int)) := loopO (g_Ss_l20Writes_0 y0 y3) x
noncomputable def xs_l20Writes_0 (y0 : Int) (y3 : List Int) : (((List (ByteArray × (Bool × (List Int)))) × Int)) → Ex × List (Pl × LV) := fun r => (.exit 0, [(.T 0, .t (.val false [.ptr 0 0 0])), (.T 1, .t (.val false [.int .i64 y0])), (.T 5, .t (.val false [.row 5 0 0])), (.R 5 0, .r 0 (some ⟨false, .non, false, 39, (.pair .str (.pair .bool (.sl 3 (.int .i64)))), r.1⟩)), (.B 0, .b 0 false [.sl .any 5 (.int .u8) y3, .int .i64 r.2])])
noncomputable def Os_l20Writes_1 : Orc := fun b h => match b, h with
 | 0, [(.T 0, .t (.val false [.ptr 0 0 0])), (.T 1, .t (.val false [.int .i64 y0])), (.T 5, .t (.val false [.row 5 0 0])), (.R 5 0, .r 0 (some ⟨false, .non, false, 39, (.pair .str (.pair .bool (.sl 3 (.int .i64)))), y1⟩)), (.T 6, .t (.val false [.int .i64 y2])), (.B 0, .b 0 false [.sl .any 5 (.int .u8) y3, .int .i64 y4])] => some (okO (g_Ls_l20Writes_0 y0 y3 (y1, y2, y4)), (.leaf (.exit 0) [(.T 0, .t (.val false [.ptr 0 0 0])), (.T 1, .t (.val false [.int .i64 y0])), (.T 5, .t (.val false [.row 5 0 0])), (.R 5 0, .r 0 (some ⟨false, .non, false, 39, (.pair .str (.pair .bool (.sl 3 (.int .i64)))), (valO (g_Ls_l20Writes_0 y0 y3 (y1, y2, y4))).1⟩)), (.B 0, .b 0 false [.sl .any 5 (.int .u8) y3, .int .i64 (valO (g_Ls_l20Writes_0 y0 y3 (y1, y2, y4))).2])]))
 | b, h => Os_l20Writes_0 b h
theorem bs_l20Writes_0 (y0 : Int) (y1 : List (ByteArray × (Bool × (List Int)))) (y2 : Int) (y3 : List Int) (y4 : Int) : Tr.bt Es_l20Writes Os_l20Writes_0 (exec Es_l20Writes 0 cs_l20Writes_0 (St.of (hs_l20Writes_0 y0 y1 y2 y3 y4)) (leafRd Es_l20Writes 0)) = (g_Ss_l20Writes_0 y0 y3 (y1, y2, y4)).bt (fun ((y1, y2, y4) : (List (ByteArray × (Bool × (List Int)))) × Int × Int) => (hs_l20Writes_0 y0 y1 y2 y3 y4)) (xs_l20Writes_0 y0 y3) := by kernel_rfl
theorem ks_l20Writes_1 : OrcOk Es_l20Writes Os_l20Writes_1 lss_l20Writes 1 := orc_add ks_l20Writes_0 (fun n p hp h ex h' ho => by
 obtain ⟨b, c⟩ := p
 obtain ⟨xt, h1, h2⟩ := ho
 have h1 : Os_l20Writes_1 b h = some (true, xt) := h1
 unfold Os_l20Writes_1 at h1
 split at h1
 ·injection h1 with h1
  injection h1 with e1 e2
  subst e2
  have hc : c = cs_l20Writes_0 := ms_l20Writes_0 _ hp rfl
  subst hc
  right
  rename_i y0 y1 y2 y3 y4
  have key := LT_step ks_l20Writes_0 hp (fun q hq => loopsAll_in _ _ _ _ hp hq) (fun ((y1, y2, y4) : (List (ByteArray × (Bool × (List Int)))) × Int × Int) => (hs_l20Writes_0 y0 y1 y2 y3 y4)) (xs_l20Writes_0 y0 y3) (g_Ss_l20Writes_0 y0 y3) (fun x => by first | exact bs_l20Writes_0 y0 x.1 x.2.1 y3 x.2.2) n (x := (y1, y2, y4)) (okO_some e1)
  have hx : ∀ r, XT.sel (.leaf (.exit 0) [(.T 0, .t (.val false [.ptr 0 0 0])), (.T 1, .t (.val false [.int .i64 y0])), (.T 5, .t (.val false [.row 5 0 0])), (.R 5 0, .r 0 (some ⟨false, .non, false, 39, (.pair .str (.pair .bool (.sl 3 (.int .i64)))), r.1⟩)), (.B 0, .b 0 false [.sl .any 5 (.int .u8) y3, .int .i64 r.2])]) = xs_l20Writes_0 y0 y3 r := fun r => by first | rfl | (rcases r with r | r <;> rfl) | (rcases r with r | r | r <;> rfl) | (rcases r with r | r | r | r <;> rfl)
  have h3 := (hx (valO (g_Ls_l20Writes_0 y0 y3 (y1, y2, y4)))).symm.trans h2
  have e3 := congrArg Prod.fst h3
  have e4 := congrArg Prod.snd h3
  simp only at e3 e4
  rw [← e3, ← e4]
  exact key
 ·exact .inl ⟨xt, h1, h2⟩)
noncomputable def g_As_l20Writes (r0 : List Int) (r1 : Int) (a2 : Int) : Bool := g_pickA r0 r1 (6 : Int) && (okO (g_Ls_l20Writes_0 a2 r0 ([], g_pick r0 r1 (6 : Int), IntKind.wrap IntKind.i64 (r1 + (1 : Int)))) && (g_As_l20Rd_odd r0 (valO (g_Ls_l20Writes_0 a2 r0 ([], g_pick r0 r1 (6 : Int), IntKind.wrap IntKind.i64 (r1 + (1 : Int))))).2 a2 && (!g_Vs_l20Rd_odd_0 r0 (valO (g_Ls_l20Writes_0 a2 r0 ([], g_pick r0 r1 (6 : Int), IntKind.wrap IntKind.i64 (r1 + (1 : Int))))).2 a2 || g_As_l20Write r0 (g_Vs_l20Rd_odd_2 r0 (valO (g_Ls_l20Writes_0 a2 r0 ([], g_pick r0 r1 (6 : Int), IntKind.wrap IntKind.i64 (r1 + (1 : Int))))).2 a2) (2 : Int) && decide ((List.length (valO (g_Ls_l20Writes_0 a2 r0 ([], g_pick r0 r1 (6 : Int), IntKind.wrap IntKind.i64 (r1 + (1 : Int))))).1 + List.length [(g_Vs_l20Write_0 r0 (g_Vs_l20Rd_odd_2 r0 (valO (g_Ls_l20Writes_0 a2 r0 ([], g_pick r0 r1 (6 : Int), IntKind.wrap IntKind.i64 (r1 + (1 : Int))))).2 a2) (2 : Int), g_Vs_l20Write_1 r0 (g_Vs_l20Rd_odd_2 r0 (valO (g_Ls_l20Writes_0 a2 r0 ([], g_pick r0 r1 (6 : Int), IntKind.wrap IntKind.i64 (r1 + (1 : Int))))).2 a2) (2 : Int), g_Vs_l20Write_2 r0 (g_Vs_l20Rd_odd_2 r0 (valO (g_Ls_l20Writes_0 a2 r0 ([], g_pick r0 r1 (6 : Int), IntKind.wrap IntKind.i64 (r1 + (1 : Int))))).2 a2) (2 : Int))]) * nat_lit 48 ≤ nat_lit 140737488355328 ∧ List.length (valO (g_Ls_l20Writes_0 a2 r0 ([], g_pick r0 r1 (6 : Int), IntKind.wrap IntKind.i64 (r1 + (1 : Int))))).1 + List.length [(g_Vs_l20Write_0 r0 (g_Vs_l20Rd_odd_2 r0 (valO (g_Ls_l20Writes_0 a2 r0 ([], g_pick r0 r1 (6 : Int), IntKind.wrap IntKind.i64 (r1 + (1 : Int))))).2 a2) (2 : Int), g_Vs_l20Write_1 r0 (g_Vs_l20Rd_odd_2 r0 (valO (g_Ls_l20Writes_0 a2 r0 ([], g_pick r0 r1 (6 : Int), IntKind.wrap IntKind.i64 (r1 + (1 : Int))))).2 a2) (2 : Int), g_Vs_l20Write_2 r0 (g_Vs_l20Rd_odd_2 r0 (valO (g_Ls_l20Writes_0 a2 r0 ([], g_pick r0 r1 (6 : Int), IntKind.wrap IntKind.i64 (r1 + (1 : Int))))).2 a2) (2 : Int))] ≤ nat_lit 9223372036854775807))))
noncomputable def g_Vs_l20Writes_0 (r0 : List Int) (r1 : Int) (a2 : Int) : List (ByteArray × (Bool × (List Int))) := bif g_Vs_l20Rd_odd_0 r0 (valO (g_Ls_l20Writes_0 a2 r0 ([], g_pick r0 r1 (6 : Int), IntKind.wrap IntKind.i64 (r1 + (1 : Int))))).2 a2 then (valO (g_Ls_l20Writes_0 a2 r0 ([], g_pick r0 r1 (6 : Int), IntKind.wrap IntKind.i64 (r1 + (1 : Int))))).1 ++ [(g_Vs_l20Write_0 r0 (g_Vs_l20Rd_odd_2 r0 (valO (g_Ls_l20Writes_0 a2 r0 ([], g_pick r0 r1 (6 : Int), IntKind.wrap IntKind.i64 (r1 + (1 : Int))))).2 a2) (2 : Int), g_Vs_l20Write_1 r0 (g_Vs_l20Rd_odd_2 r0 (valO (g_Ls_l20Writes_0 a2 r0 ([], g_pick r0 r1 (6 : Int), IntKind.wrap IntKind.i64 (r1 + (1 : Int))))).2 a2) (2 : Int), g_Vs_l20Write_2 r0 (g_Vs_l20Rd_odd_2 r0 (valO (g_Ls_l20Writes_0 a2 r0 ([], g_pick r0 r1 (6 : Int), IntKind.wrap IntKind.i64 (r1 + (1 : Int))))).2 a2) (2 : Int))] else (valO (g_Ls_l20Writes_0 a2 r0 ([], g_pick r0 r1 (6 : Int), IntKind.wrap IntKind.i64 (r1 + (1 : Int))))).1
noncomputable def g_Vs_l20Writes_1 (r0 : List Int) (r1 : Int) (a2 : Int) : List Int := bif g_Vs_l20Rd_odd_0 r0 (valO (g_Ls_l20Writes_0 a2 r0 ([], g_pick r0 r1 (6 : Int), IntKind.wrap IntKind.i64 (r1 + (1 : Int))))).2 a2 then r0 else r0
noncomputable def g_Vs_l20Writes_2 (r0 : List Int) (r1 : Int) (a2 : Int) : Int := bif g_Vs_l20Rd_odd_0 r0 (valO (g_Ls_l20Writes_0 a2 r0 ([], g_pick r0 r1 (6 : Int), IntKind.wrap IntKind.i64 (r1 + (1 : Int))))).2 a2 then g_Vs_l20Write_4 r0 (g_Vs_l20Rd_odd_2 r0 (valO (g_Ls_l20Writes_0 a2 r0 ([], g_pick r0 r1 (6 : Int), IntKind.wrap IntKind.i64 (r1 + (1 : Int))))).2 a2) (2 : Int) else g_Vs_l20Rd_odd_2 r0 (valO (g_Ls_l20Writes_0 a2 r0 ([], g_pick r0 r1 (6 : Int), IntKind.wrap IntKind.i64 (r1 + (1 : Int))))).2 a2
noncomputable def Fs_l20Writes : FSem := fun ys => match ys with
 | [.val true [.sl .any 5 (.int .u8) r0, .int .i64 r1], .val false [.int .i64 a2]] => some ((g_As_l20Writes r0 r1 a2), .val false [.own .any false 39 (.pair .str (.pair .bool (.sl 3 (.int .i64)))) (g_Vs_l20Writes_0 r0 r1 a2)], [[.sl .any 5 (.int .u8) (g_Vs_l20Writes_1 r0 r1 a2), .int .i64 (g_Vs_l20Writes_2 r0 r1 a2)]])
 | _ => none
theorem vs_l20Writes (r0 : List Int) (r1 : Int) (a2 : Int) : collapseH .std Es_l20Writes Os_l20Writes_1 (execFn Es_l20Writes Tryz.f89 mss_l20Writes [.val true [.sl .any 5 (.int .u8) r0, .int .i64 r1], .val false [.int .i64 a2]]) = some ((g_As_l20Writes r0 r1 a2), .val false [.own .any false 39 (.pair .str (.pair .bool (.sl 3 (.int .i64)))) (g_Vs_l20Writes_0 r0 r1 a2)], [[.sl .any 5 (.int .u8) (g_Vs_l20Writes_1 r0 r1 a2), .int .i64 (g_Vs_l20Writes_2 r0 r1 a2)]]) := by kernel_rfl
theorem ss_l20Writes : Sound Tryz.prog 89 mss_l20Writes Fs_l20Writes := by
 refine fn_gen goods_l20Writes (by kernel_rfl) .std (fn := Tryz.f89) (c := (Tryz.f89.body.getD .skip)) (o := Os_l20Writes_1) (k := 1) (by kernel_rfl) (by kernel_rfl) (by kernel_rfl) (by kernel_rfl) (by decide) ks_l20Writes_1 ?_
 intro ys r outs h
 unfold Fs_l20Writes at h
 split at h
 ·exact (vs_l20Writes _ _ _).trans h
 ·cases h
noncomputable def mss_l20WritesR : List PM := mss_l20Writes
theorem sames_l20Writes (r0 : List Int) (r1 : Int) (a2 : Int) : g_Vs_l20Writes_1 r0 r1 a2 = r0 := by
 unfold g_Vs_l20Writes_1
 simp only [Bool.cond_self]
noncomputable def Fs_l20WritesR : FSem := fun ys => match ys with
 | [.val true [.sl .any 5 (.int .u8) r0, .int .i64 r1], .val false [.int .i64 a2]] => some ((g_As_l20Writes r0 r1 a2), .val false [.own .any false 39 (.pair .str (.pair .bool (.sl 3 (.int .i64)))) (g_Vs_l20Writes_0 r0 r1 a2)], [[.sl .any 5 (.int .u8) r0, .int .i64 (g_Vs_l20Writes_2 r0 r1 a2)]])
 | _ => none
theorem ss_l20WritesR : Sound Tryz.prog 89 mss_l20WritesR Fs_l20WritesR := by
 refine ⟨ss_l20Writes.fn, fun w S ψ ys vs r outs hF hh hg => ss_l20Writes.calls w S ψ ys vs r outs (Eq.trans ?_ hF) hh hg⟩
 unfold Fs_l20WritesR at hF ⊢
 split at hF
 ·rename_i  r0 r1 a2
  show (some ((g_As_l20Writes r0 r1 a2), .val false [.own .any false 39 (.pair .str (.pair .bool (.sl 3 (.int .i64)))) (g_Vs_l20Writes_0 r0 r1 a2)], [[.sl .any 5 (.int .u8) (g_Vs_l20Writes_1 r0 r1 a2), .int .i64 (g_Vs_l20Writes_2 r0 r1 a2)]]) : Option (Bool × RV × List (List Cell))) = _
  rw [sames_l20Writes]
 ·cases hF
noncomputable def Es_l20Sto : Env where
 tt := mkTI Tryz.prog
 fn := fun f => match f with
  | 42 => some (mss_l20Rd_pick, FSem.wk mss_l20Rd_pick Fs_l20Rd_pick)
  | 43 => some (mss_l20Rd_oddR, FSem.wk mss_l20Rd_oddR Fs_l20Rd_oddR)
  | 67 => some (mss_StoDo, FSem.wk mss_StoDo Fs_StoDo)
  | 89 => some (mss_l20WritesR, FSem.wk mss_l20WritesR Fs_l20WritesR)
  | 90 => some (mss_l20ValR, FSem.wk mss_l20ValR Fs_l20ValR)
  | _ => none
 bxf := fun _ => none
 mv := []
 keep := fun b => match b with
  | 1 => [(0, false), (4, false), (5, false)]
  | _ => []
 keepB := fun b => match b with
  | 1 => [(4, false), (5, false), (0, false)]
  | _ => []
 keepX := fun b => match b with
  | 1 => [(0, false), (4, false), (5, false)]
  | _ => []
 keepXB := fun b => match b with
  | 1 => [(4, false), (5, false), (0, false)]
  | _ => []
theorem goodFs_l20Sto : ∀ f ms F, Es_l20Sto.fn f = some (ms, F) → Sound Tryz.prog f ms F := fun f ms F h => by
 unfold Es_l20Sto at h
 dsimp only at h
 split at h
 ·injection h with h; injection h with e1 e2; subst e1 e2; exact Sound.wk ss_l20Rd_pick
 ·injection h with h; injection h with e1 e2; subst e1 e2; exact Sound.wk ss_l20Rd_oddR
 ·injection h with h; injection h with e1 e2; subst e1 e2; exact Sound.wk ss_StoDo
 ·injection h with h; injection h with e1 e2; subst e1 e2; exact Sound.wk ss_l20WritesR
 ·injection h with h; injection h with e1 e2; subst e1 e2; exact Sound.wk ss_l20ValR
 ·cases h
theorem goodBs_l20Sto : ∀ f ms F, Es_l20Sto.bxf f = some (ms, F) → SoundB Tryz.prog f ms F := fun f ms F h => by cases h
theorem goods_l20Sto : Good Tryz.prog Es_l20Sto := ⟨rfl, goodFs_l20Sto, goodBs_l20Sto⟩
noncomputable def Os_l20Sto_0 : Orc := fun _ _ => none
noncomputable def mss_l20Sto : List PM := [.bx, .own]
noncomputable def lss_l20Sto : List (Nat × Code) := loopsAll 0 (Tryz.f44.body.getD .skip)
noncomputable def cs_l20Sto_1 : Code := (loopOf 1 (Tryz.f44.body.getD .skip)).getD .skip
theorem lseqs_l20Sto : lss_l20Sto = [(1, cs_l20Sto_1)] := by kernel_rfl
theorem ms_l20Sto_1 : ∀ p, p ∈ lss_l20Sto → p.1 = 1 → p.2 = cs_l20Sto_1 := by
 intro p hp
 rw [lseqs_l20Sto] at hp
 simp only [List.mem_cons, List.not_mem_nil, or_false] at hp
 subst hp; simp
theorem ks_l20Sto_0 : OrcOk Es_l20Sto Os_l20Sto_0 lss_l20Sto 0 := orcOk_none
noncomputable def hs_l20Sto_1 (y0 : List (ByteArray × (List Int))) (y1 : List (ByteArray × (List Int))) (y2 : List Int) (y3 : Int) : List (Pl × LV) := [(.T 0, .t (.val false [.ptr 0 0 0])), (.T 4, .t (.val false [.ptr 4 0 0])), (.T 5, .t (.val false [.ptr 5 0 0])), (.B 4, .b 0 false [.row 4 1 0]), (.R 4 1, .r 0 (some ⟨false, .any, true, 49, (.pair .str (.sl 3 (.int .i64))), y0⟩)), (.B 5, .b 0 false [.row 5 1 0]), (.R 5 1, .r 0 (some ⟨false, .any, true, 49, (.pair .str (.sl 3 (.int .i64))), y1⟩)), (.B 0, .b 0 false [.sl .any 5 (.int .u8) y2, .int .i64 y3])]
noncomputable def g_Ss_l20Sto_1 (y0 : List (ByteArray × (List Int))) (y2 : List Int) (y3 : Int) : ((List (ByteArray × (List Int)))) → RT ((List (ByteArray × (List Int)))) (((List (ByteArray × (List Int)))))
 | y1 => .br (true) (.br (decide ((↑(List.length y1) : Int) ≤ (40 : Int))) (.br (decide ((List.length y1 + nat_lit 1) * nat_lit 40 ≤ nat_lit 140737488355328 ∧ List.length y1 + nat_lit 1 ≤ nat_lit 9223372036854775807)) (.go (y1 ++ [(lit [(122 : Nat), (57 : Nat)], [(1 : Int)])])) (.bad)) (.out (y1))) (.bad)
noncomputable def g_Ls_l20Sto_1 (y0 : List (ByteArray × (List Int))) (y2 : List Int) (y3 : Int) (x : (List (ByteArray × (List Int)))) : Option (((List (ByteArray × (List Int))))) := loopO (g_Ss_l20Sto_1 y0 y2 y3) x
noncomputable def xs_l20Sto_1 (y0 : List (ByteArray × (List Int))) (y2 : List Int) (y3 : Int) : (((List (ByteArray × (List Int))))) → Ex × List (Pl × LV) := fun r => (.exit 1, [(.T 0, .t (.val false [.ptr 0 0 0])), (.T 4, .t (.val false [.ptr 4 0 0])), (.T 5, .t (.val false [.ptr 5 0 0])), (.B 4, .b 0 false [.row 4 1 0]), (.R 4 1, .r 0 (some ⟨false, .any, true, 49, (.pair .str (.sl 3 (.int .i64))), y0⟩)), (.B 5, .b 0 false [.row 5 1 0]), (.R 5 1, .r 0 (some ⟨false, .any, true, 49, (.pair .str (.sl 3 (.int .i64))), r⟩)), (.B 0, .b 0 false [.sl .any 5 (.int .u8) y2, .int .i64 y3])])
noncomputable def Os_l20Sto_1 : Orc := fun b h => match b, h with
 | 1, [(.T 0, .t (.val false [.ptr 0 0 0])), (.T 4, .t (.val false [.ptr 4 0 0])), (.T 5, .t (.val false [.ptr 5 0 0])), (.B 4, .b 0 false [.row 4 1 0]), (.R 4 1, .r 0 (some ⟨false, .any, true, 49, (.pair .str (.sl 3 (.int .i64))), y0⟩)), (.B 5, .b 0 false [.row 5 1 0]), (.R 5 1, .r 0 (some ⟨false, .any, true, 49, (.pair .str (.sl 3 (.int .i64))), y1⟩)), (.B 0, .b 0 false [.sl .any 5 (.int .u8) y2, .int .i64 y3])] => some (okO (g_Ls_l20Sto_1 y0 y2 y3 y1), (.leaf (.exit 1) [(.T 0, .t (.val false [.ptr 0 0 0])), (.T 4, .t (.val false [.ptr 4 0 0])), (.T 5, .t (.val false [.ptr 5 0 0])), (.B 4, .b 0 false [.row 4 1 0]), (.R 4 1, .r 0 (some ⟨false, .any, true, 49, (.pair .str (.sl 3 (.int .i64))), y0⟩)), (.B 5, .b 0 false [.row 5 1 0]), (.R 5 1, .r 0 (some ⟨false, .any, true, 49, (.pair .str (.sl 3 (.int .i64))), (valO (g_Ls_l20Sto_1 y0 y2 y3 y1))⟩)), (.B 0, .b 0 false [.sl .any 5 (.int .u8) y2, .int .i64 y3])]))
 | b, h => Os_l20Sto_0 b h
theorem bs_l20Sto_1 (y0 : List (ByteArray × (List Int))) (y1 : List (ByteArray × (List Int))) (y2 : List Int) (y3 : Int) : Tr.bt Es_l20Sto Os_l20Sto_0 (exec Es_l20Sto 1 cs_l20Sto_1 (St.of (hs_l20Sto_1 y0 y1 y2 y3)) (leafRd Es_l20Sto 1)) = (g_Ss_l20Sto_1 y0 y2 y3 y1).bt (fun (y1 : (List (ByteArray × (List Int)))) => (hs_l20Sto_1 y0 y1 y2 y3)) (xs_l20Sto_1 y0 y2 y3) := by kernel_rfl
theorem ks_l20Sto_1 : OrcOk Es_l20Sto Os_l20Sto_1 lss_l20Sto 1 := orc_add ks_l20Sto_0 (fun n p hp h ex h' ho => by
 obtain ⟨b, c⟩ := p
 obtain ⟨xt, h1, h2⟩ := ho
 have h1 : Os_l20Sto_1 b h = some (true, xt) := h1
 unfold Os_l20Sto_1 at h1
 split at h1
 ·injection h1 with h1
  injection h1 with e1 e2
  subst e2
  have hc : c = cs_l20Sto_1 := ms_l20Sto_1 _ hp rfl
  subst hc
  right
  rename_i y0 y1 y2 y3
  have key := LT_step ks_l20Sto_0 hp (fun q hq => loopsAll_in _ _ _ _ hp hq) (fun (y1 : (List (ByteArray × (List Int)))) => (hs_l20Sto_1 y0 y1 y2 y3)) (xs_l20Sto_1 y0 y2 y3) (g_Ss_l20Sto_1 y0 y2 y3) (fun x => by first | exact bs_l20Sto_1 y0 x y2 y3) n (x := y1) (okO_some e1)
  have hx : ∀ r, XT.sel (.leaf (.exit 1) [(.T 0, .t (.val false [.ptr 0 0 0])), (.T 4, .t (.val false [.ptr 4 0 0])), (.T 5, .t (.val false [.ptr 5 0 0])), (.B 4, .b 0 false [.row 4 1 0]), (.R 4 1, .r 0 (some ⟨false, .any, true, 49, (.pair .str (.sl 3 (.int .i64))), y0⟩)), (.B 5, .b 0 false [.row 5 1 0]), (.R 5 1, .r 0 (some ⟨false, .any, true, 49, (.pair .str (.sl 3 (.int .i64))), r⟩)), (.B 0, .b 0 false [.sl .any 5 (.int .u8) y2, .int .i64 y3])]) = xs_l20Sto_1 y0 y2 y3 r := fun r => by first | rfl | (rcases r with r | r <;> rfl) | (rcases r with r | r | r <;> rfl) | (rcases r with r | r | r | r <;> rfl)
  have h3 := (hx (valO (g_Ls_l20Sto_1 y0 y2 y3 y1))).symm.trans h2
  have e3 := congrArg Prod.fst h3
  have e4 := congrArg Prod.snd h3
  simp only at e3 e4
  rw [← e3, ← e4]
  exact key
 ·exact .inl ⟨xt, h1, h2⟩)
noncomputable def g_As_l20Sto (r0 : List Int) (r1 : Int) (a2 : Int) : Bool := g_As_l20Writes r0 r1 (0 : Int) && (g_As_l20Writes r0 (g_Vs_l20Writes_2 r0 r1 (0 : Int)) (0 : Int) && (decide ((List.length (g_Vs_l20Writes_0 r0 r1 (0 : Int)) + List.length (g_Vs_l20Writes_0 r0 (g_Vs_l20Writes_2 r0 r1 (0 : Int)) (0 : Int))) * nat_lit 48 ≤ nat_lit 140737488355328 ∧ List.length (g_Vs_l20Writes_0 r0 r1 (0 : Int)) + List.length (g_Vs_l20Writes_0 r0 (g_Vs_l20Writes_2 r0 r1 (0 : Int)) (0 : Int)) ≤ nat_lit 9223372036854775807) && (g_As_StoDo [] (g_Vs_l20Writes_0 r0 r1 (0 : Int) ++ g_Vs_l20Writes_0 r0 (g_Vs_l20Writes_2 r0 r1 (0 : Int)) (0 : Int)) && (g_As_l20Rd_odd r0 (g_Vs_l20Writes_2 r0 (g_Vs_l20Writes_2 r0 r1 (0 : Int)) (0 : Int)) a2 && (!g_Vs_l20Rd_odd_0 r0 (g_Vs_l20Writes_2 r0 (g_Vs_l20Writes_2 r0 r1 (0 : Int)) (0 : Int)) a2 || g_pickA r0 (g_Vs_l20Rd_odd_2 r0 (g_Vs_l20Writes_2 r0 (g_Vs_l20Writes_2 r0 r1 (0 : Int)) (0 : Int)) a2) (3 : Int) && bif g_pick r0 (g_Vs_l20Rd_odd_2 r0 (g_Vs_l20Writes_2 r0 (g_Vs_l20Writes_2 r0 r1 (0 : Int)) (0 : Int)) a2) (3 : Int) == (0 : Int) then decide ((List.length (g_Vs_StoDo_0 [] (g_Vs_l20Writes_0 r0 r1 (0 : Int) ++ g_Vs_l20Writes_0 r0 (g_Vs_l20Writes_2 r0 r1 (0 : Int)) (0 : Int))) + nat_lit 1) * nat_lit 40 ≤ nat_lit 140737488355328 ∧ List.length (g_Vs_StoDo_0 [] (g_Vs_l20Writes_0 r0 r1 (0 : Int) ++ g_Vs_l20Writes_0 r0 (g_Vs_l20Writes_2 r0 r1 (0 : Int)) (0 : Int))) + nat_lit 1 ≤ nat_lit 9223372036854775807) else bif g_pick r0 (g_Vs_l20Rd_odd_2 r0 (g_Vs_l20Writes_2 r0 (g_Vs_l20Writes_2 r0 r1 (0 : Int)) (0 : Int)) a2) (3 : Int) == (1 : Int) then g_As_l20Val r0 (IntKind.wrap IntKind.i64 (g_Vs_l20Rd_odd_2 r0 (g_Vs_l20Writes_2 r0 (g_Vs_l20Writes_2 r0 r1 (0 : Int)) (0 : Int)) a2 + (1 : Int))) (1 : Int) && decide ((List.length (g_Vs_StoDo_0 [] (g_Vs_l20Writes_0 r0 r1 (0 : Int) ++ g_Vs_l20Writes_0 r0 (g_Vs_l20Writes_2 r0 r1 (0 : Int)) (0 : Int))) + List.length [(lit [(122 : Nat), (57 : Nat)], g_Vs_l20Val_0 r0 (IntKind.wrap IntKind.i64 (g_Vs_l20Rd_odd_2 r0 (g_Vs_l20Writes_2 r0 (g_Vs_l20Writes_2 r0 r1 (0 : Int)) (0 : Int)) a2 + (1 : Int))) (1 : Int))]) * nat_lit 40 ≤ nat_lit 140737488355328 ∧ List.length (g_Vs_StoDo_0 [] (g_Vs_l20Writes_0 r0 r1 (0 : Int) ++ g_Vs_l20Writes_0 r0 (g_Vs_l20Writes_2 r0 r1 (0 : Int)) (0 : Int))) + List.length [(lit [(122 : Nat), (57 : Nat)], g_Vs_l20Val_0 r0 (IntKind.wrap IntKind.i64 (g_Vs_l20Rd_odd_2 r0 (g_Vs_l20Writes_2 r0 (g_Vs_l20Writes_2 r0 r1 (0 : Int)) (0 : Int)) a2 + (1 : Int))) (1 : Int))] ≤ nat_lit 9223372036854775807) else okO (g_Ls_l20Sto_1 [] r0 (IntKind.wrap IntKind.i64 (g_Vs_l20Rd_odd_2 r0 (g_Vs_l20Writes_2 r0 (g_Vs_l20Writes_2 r0 r1 (0 : Int)) (0 : Int)) a2 + (1 : Int))) (g_Vs_StoDo_0 [] (g_Vs_l20Writes_0 r0 r1 (0 : Int) ++ g_Vs_l20Writes_0 r0 (g_Vs_l20Writes_2 r0 r1 (0 : Int)) (0 : Int)))))))))
noncomputable def g_Vs_l20Sto_0 (r0 : List Int) (r1 : Int) (a2 : Int) : List (ByteArray × (List Int)) := bif g_Vs_l20Rd_odd_0 r0 (g_Vs_l20Writes_2 r0 (g_Vs_l20Writes_2 r0 r1 (0 : Int)) (0 : Int)) a2 then bif g_pick r0 (g_Vs_l20Rd_odd_2 r0 (g_Vs_l20Writes_2 r0 (g_Vs_l20Writes_2 r0 r1 (0 : Int)) (0 : Int)) a2) (3 : Int) == (0 : Int) then g_Vs_StoDo_0 [] (g_Vs_l20Writes_0 r0 r1 (0 : Int) ++ g_Vs_l20Writes_0 r0 (g_Vs_l20Writes_2 r0 r1 (0 : Int)) (0 : Int)) ++ [(lit [(97 : Nat), (48 : Nat)], [(1 : Int)])] else bif g_pick r0 (g_Vs_l20Rd_odd_2 r0 (g_Vs_l20Writes_2 r0 (g_Vs_l20Writes_2 r0 r1 (0 : Int)) (0 : Int)) a2) (3 : Int) == (1 : Int) then g_Vs_StoDo_0 [] (g_Vs_l20Writes_0 r0 r1 (0 : Int) ++ g_Vs_l20Writes_0 r0 (g_Vs_l20Writes_2 r0 r1 (0 : Int)) (0 : Int)) ++ [(lit [(122 : Nat), (57 : Nat)], g_Vs_l20Val_0 r0 (IntKind.wrap IntKind.i64 (g_Vs_l20Rd_odd_2 r0 (g_Vs_l20Writes_2 r0 (g_Vs_l20Writes_2 r0 r1 (0 : Int)) (0 : Int)) a2 + (1 : Int))) (1 : Int))] else valO (g_Ls_l20Sto_1 [] r0 (IntKind.wrap IntKind.i64 (g_Vs_l20Rd_odd_2 r0 (g_Vs_l20Writes_2 r0 (g_Vs_l20Writes_2 r0 r1 (0 : Int)) (0 : Int)) a2 + (1 : Int))) (g_Vs_StoDo_0 [] (g_Vs_l20Writes_0 r0 r1 (0 : Int) ++ g_Vs_l20Writes_0 r0 (g_Vs_l20Writes_2 r0 r1 (0 : Int)) (0 : Int)))) else g_Vs_StoDo_0 [] (g_Vs_l20Writes_0 r0 r1 (0 : Int) ++ g_Vs_l20Writes_0 r0 (g_Vs_l20Writes_2 r0 r1 (0 : Int)) (0 : Int))
noncomputable def g_Vs_l20Sto_1 (r0 : List Int) (r1 : Int) (a2 : Int) : List Int := bif g_Vs_l20Rd_odd_0 r0 (g_Vs_l20Writes_2 r0 (g_Vs_l20Writes_2 r0 r1 (0 : Int)) (0 : Int)) a2 then bif g_pick r0 (g_Vs_l20Rd_odd_2 r0 (g_Vs_l20Writes_2 r0 (g_Vs_l20Writes_2 r0 r1 (0 : Int)) (0 : Int)) a2) (3 : Int) == (0 : Int) then r0 else bif g_pick r0 (g_Vs_l20Rd_odd_2 r0 (g_Vs_l20Writes_2 r0 (g_Vs_l20Writes_2 r0 r1 (0 : Int)) (0 : Int)) a2) (3 : Int) == (1 : Int) then r0 else r0 else r0
noncomputable def g_Vs_l20Sto_2 (r0 : List Int) (r1 : Int) (a2 : Int) : Int := bif g_Vs_l20Rd_odd_0 r0 (g_Vs_l20Writes_2 r0 (g_Vs_l20Writes_2 r0 r1 (0 : Int)) (0 : Int)) a2 then bif g_pick r0 (g_Vs_l20Rd_odd_2 r0 (g_Vs_l20Writes_2 r0 (g_Vs_l20Writes_2 r0 r1 (0 : Int)) (0 : Int)) a2) (3 : Int) == (0 : Int) then IntKind.wrap IntKind.i64 (g_Vs_l20Rd_odd_2 r0 (g_Vs_l20Writes_2 r0 (g_Vs_l20Writes_2 r0 r1 (0 : Int)) (0 : Int)) a2 + (1 : Int)) else bif g_pick r0 (g_Vs_l20Rd_odd_2 r0 (g_Vs_l20Writes_2 r0 (g_Vs_l20Writes_2 r0 r1 (0 : Int)) (0 : Int)) a2) (3 : Int) == (1 : Int) then g_Vs_l20Val_2 r0 (IntKind.wrap IntKind.i64 (g_Vs_l20Rd_odd_2 r0 (g_Vs_l20Writes_2 r0 (g_Vs_l20Writes_2 r0 r1 (0 : Int)) (0 : Int)) a2 + (1 : Int))) (1 : Int) else IntKind.wrap IntKind.i64 (g_Vs_l20Rd_odd_2 r0 (g_Vs_l20Writes_2 r0 (g_Vs_l20Writes_2 r0 r1 (0 : Int)) (0 : Int)) a2 + (1 : Int)) else g_Vs_l20Rd_odd_2 r0 (g_Vs_l20Writes_2 r0 (g_Vs_l20Writes_2 r0 r1 (0 : Int)) (0 : Int)) a2
noncomputable def Fs_l20Sto : FSem := fun ys => match ys with
 | [.val true [.sl .any 5 (.int .u8) r0, .int .i64 r1], .val false [.int .i64 a2]] => some ((g_As_l20Sto r0 r1 a2), .val true [.sl .any 49 (.pair .str (.sl 3 (.int .i64))) (g_Vs_l20Sto_0 r0 r1 a2)], [[.sl .any 5 (.int .u8) (g_Vs_l20Sto_1 r0 r1 a2), .int .i64 (g_Vs_l20Sto_2 r0 r1 a2)]])
 | _ => none
theorem vs_l20Sto (r0 : List Int) (r1 : Int) (a2 : Int) : collapseH .fr Es_l20Sto Os_l20Sto_1 (execFn Es_l20Sto Tryz.f44 mss_l20Sto [.val true [.sl .any 5 (.int .u8) r0, .int .i64 r1], .val false [.int .i64 a2]]) = some ((g_As_l20Sto r0 r1 a2), .val true [.sl .any 49 (.pair .str (.sl 3 (.int .i64))) (g_Vs_l20Sto_0 r0 r1 a2)], [[.sl .any 5 (.int .u8) (g_Vs_l20Sto_1 r0 r1 a2), .int .i64 (g_Vs_l20Sto_2 r0 r1 a2)]]) := by kernel_rfl
theorem ss_l20Sto : Sound Tryz.prog 44 mss_l20Sto Fs_l20Sto := by
 refine fn_gen goods_l20Sto (by kernel_rfl) .fr (fn := Tryz.f44) (c := (Tryz.f44.body.getD .skip)) (o := Os_l20Sto_1) (k := 1) (by kernel_rfl) (by kernel_rfl) (by kernel_rfl) (by kernel_rfl) (by decide) ks_l20Sto_1 ?_
 intro ys r outs h
 unfold Fs_l20Sto at h
 split at h
 ·exact (vs_l20Sto _ _ _).trans h
 ·cases h
noncomputable def mss_l20StoR : List PM := mss_l20Sto
theorem sames_l20Sto (r0 : List Int) (r1 : Int) (a2 : Int) : g_Vs_l20Sto_1 r0 r1 a2 = r0 := by
 unfold g_Vs_l20Sto_1
 simp only [Bool.cond_self]
noncomputable def Fs_l20StoR : FSem := fun ys => match ys with
 | [.val true [.sl .any 5 (.int .u8) r0, .int .i64 r1], .val false [.int .i64 a2]] => some ((g_As_l20Sto r0 r1 a2), .val true [.sl .any 49 (.pair .str (.sl 3 (.int .i64))) (g_Vs_l20Sto_0 r0 r1 a2)], [[.sl .any 5 (.int .u8) r0, .int .i64 (g_Vs_l20Sto_2 r0 r1 a2)]])
 | _ => none
theorem ss_l20StoR : Sound Tryz.prog 44 mss_l20StoR Fs_l20StoR := by
 refine ⟨ss_l20Sto.fn, fun w S ψ ys vs r outs hF hh hg => ss_l20Sto.calls w S ψ ys vs r outs (Eq.trans ?_ hF) hh hg⟩
 unfold Fs_l20StoR at hF ⊢
 split at hF
 ·rename_i  r0 r1 a2
  show (some ((g_As_l20Sto r0 r1 a2), .val true [.sl .any 49 (.pair .str (.sl 3 (.int .i64))) (g_Vs_l20Sto_0 r0 r1 a2)], [[.sl .any 5 (.int .u8) (g_Vs_l20Sto_1 r0 r1 a2), .int .i64 (g_Vs_l20Sto_2 r0 r1 a2)]]) : Option (Bool × RV × List (List Cell))) = _
  rw [sames_l20Sto]
 ·cases hF
noncomputable def Es_DrawGloDo : Env where
 tt := mkTI Tryz.prog
 fn := fun f => match f with
  | 39 => some (mss_l20GloR, FSem.wk mss_l20GloR Fs_l20GloR)
  | 40 => some (mss_l20OpR, FSem.wk mss_l20OpR Fs_l20OpR)
  | 42 => some (mss_l20Rd_pick, FSem.wk mss_l20Rd_pick Fs_l20Rd_pick)
  | 43 => some (mss_l20Rd_oddR, FSem.wk mss_l20Rd_oddR Fs_l20Rd_oddR)
  | 44 => some (mss_l20StoR, FSem.wk mss_l20StoR Fs_l20StoR)
  | _ => none
 bxf := fun f => match f with
  | 38 => some (mss_l20Open, Fs_l20Open)
  | _ => none
 mv := []
 keep := fun _ => []
 keepB := fun _ => []
 keepX := fun _ => []
 keepXB := fun _ => []
theorem goodFs_DrawGloDo : ∀ f ms F, Es_DrawGloDo.fn f = some (ms, F) → Sound Tryz.prog f ms F := fun f ms F h => by
 unfold Es_DrawGloDo at h
 dsimp only at h
 split at h
 ·injection h with h; injection h with e1 e2; subst e1 e2; exact Sound.wk ss_l20GloR
 ·injection h with h; injection h with e1 e2; subst e1 e2; exact Sound.wk ss_l20OpR
 ·injection h with h; injection h with e1 e2; subst e1 e2; exact Sound.wk ss_l20Rd_pick
 ·injection h with h; injection h with e1 e2; subst e1 e2; exact Sound.wk ss_l20Rd_oddR
 ·injection h with h; injection h with e1 e2; subst e1 e2; exact Sound.wk ss_l20StoR
 ·cases h
theorem goodBs_DrawGloDo : ∀ f ms F, Es_DrawGloDo.bxf f = some (ms, F) → SoundB Tryz.prog f ms F := fun f ms F h => by
 unfold Es_DrawGloDo at h
 dsimp only at h
 split at h
 ·injection h with h; injection h with e1 e2; subst e1 e2; exact ss_l20Open
 ·cases h
theorem goods_DrawGloDo : Good Tryz.prog Es_DrawGloDo := ⟨rfl, goodFs_DrawGloDo, goodBs_DrawGloDo⟩
noncomputable def Os_DrawGloDo_0 : Orc := fun _ _ => none
noncomputable def mss_DrawGloDo : List PM := [.fz]
noncomputable def lss_DrawGloDo : List (Nat × Code) := loopsAll 0 (Tryz.f15.body.getD .skip)
theorem ks_DrawGloDo_0 : OrcOk Es_DrawGloDo Os_DrawGloDo_0 lss_DrawGloDo 0 := orcOk_none
noncomputable def g_As_DrawGloDo (a0 : List Int) : Bool := g_As_l20Open a0 && (g_As_l20Glo (g_Vs_l20Open_0 a0) (g_Vs_l20Open_1 a0) && (g_As_l20Rd_odd (g_Vs_l20Open_0 a0) (g_Vs_l20Glo_1 (g_Vs_l20Open_0 a0) (g_Vs_l20Open_1 a0)) (16 : Int) && bif g_Vs_l20Rd_odd_0 (g_Vs_l20Open_0 a0) (g_Vs_l20Glo_1 (g_Vs_l20Open_0 a0) (g_Vs_l20Open_1 a0)) (16 : Int) then g_pickA (g_Vs_l20Open_0 a0) (g_Vs_l20Rd_odd_2 (g_Vs_l20Open_0 a0) (g_Vs_l20Glo_1 (g_Vs_l20Open_0 a0) (g_Vs_l20Open_1 a0)) (16 : Int)) (3 : Int) && (g_As_l20Sto (g_Vs_l20Open_0 a0) (IntKind.wrap IntKind.i64 (g_Vs_l20Rd_odd_2 (g_Vs_l20Open_0 a0) (g_Vs_l20Glo_1 (g_Vs_l20Open_0 a0) (g_Vs_l20Open_1 a0)) (16 : Int) + (1 : Int))) (3 : Int) && (decide ((0 : Int) ≤ g_pick (g_Vs_l20Open_0 a0) (g_Vs_l20Rd_odd_2 (g_Vs_l20Open_0 a0) (g_Vs_l20Glo_1 (g_Vs_l20Open_0 a0) (g_Vs_l20Open_1 a0)) (16 : Int)) (3 : Int) ∧ g_pick (g_Vs_l20Open_0 a0) (g_Vs_l20Rd_odd_2 (g_Vs_l20Open_0 a0) (g_Vs_l20Glo_1 (g_Vs_l20Open_0 a0) (g_Vs_l20Open_1 a0)) (16 : Int)) (3 : Int) < (↑(List.length (g_Vs_l20Glo_0 (g_Vs_l20Open_0 a0) (g_Vs_l20Open_1 a0))) : Int)) && (decide (Int.toNat (g_pick (g_Vs_l20Open_0 a0) (g_Vs_l20Rd_odd_2 (g_Vs_l20Open_0 a0) (g_Vs_l20Glo_1 (g_Vs_l20Open_0 a0) (g_Vs_l20Open_1 a0)) (16 : Int)) (3 : Int)) < List.length (g_Vs_l20Glo_0 (g_Vs_l20Open_0 a0) (g_Vs_l20Open_1 a0))) && (g_pickA (g_Vs_l20Open_0 a0) (g_Vs_l20Sto_2 (g_Vs_l20Open_0 a0) (IntKind.wrap IntKind.i64 (g_Vs_l20Rd_odd_2 (g_Vs_l20Open_0 a0) (g_Vs_l20Glo_1 (g_Vs_l20Open_0 a0) (g_Vs_l20Open_1 a0)) (16 : Int) + (1 : Int))) (3 : Int)) (14 : Int) && (g_pickA (g_Vs_l20Open_0 a0) (IntKind.wrap IntKind.i64 (g_Vs_l20Sto_2 (g_Vs_l20Open_0 a0) (IntKind.wrap IntKind.i64 (g_Vs_l20Rd_odd_2 (g_Vs_l20Open_0 a0) (g_Vs_l20Glo_1 (g_Vs_l20Open_0 a0) (g_Vs_l20Open_1 a0)) (16 : Int) + (1 : Int))) (3 : Int) + (1 : Int))) (10 : Int) && (g_pickA (g_Vs_l20Open_0 a0) (IntKind.wrap IntKind.i64 (IntKind.wrap IntKind.i64 (g_Vs_l20Sto_2 (g_Vs_l20Open_0 a0) (IntKind.wrap IntKind.i64 (g_Vs_l20Rd_odd_2 (g_Vs_l20Open_0 a0) (g_Vs_l20Glo_1 (g_Vs_l20Open_0 a0) (g_Vs_l20Open_1 a0)) (16 : Int) + (1 : Int))) (3 : Int) + (1 : Int)) + (1 : Int))) (6 : Int) && (decide ((0 : Int) ≤ g_pick (g_Vs_l20Open_0 a0) (IntKind.wrap IntKind.i64 (IntKind.wrap IntKind.i64 (g_Vs_l20Sto_2 (g_Vs_l20Open_0 a0) (IntKind.wrap IntKind.i64 (g_Vs_l20Rd_odd_2 (g_Vs_l20Open_0 a0) (g_Vs_l20Glo_1 (g_Vs_l20Open_0 a0) (g_Vs_l20Open_1 a0)) (16 : Int) + (1 : Int))) (3 : Int) + (1 : Int)) + (1 : Int))) (6 : Int) ∧ g_pick (g_Vs_l20Open_0 a0) (IntKind.wrap IntKind.i64 (IntKind.wrap IntKind.i64 (g_Vs_l20Sto_2 (g_Vs_l20Open_0 a0) (IntKind.wrap IntKind.i64 (g_Vs_l20Rd_odd_2 (g_Vs_l20Open_0 a0) (g_Vs_l20Glo_1 (g_Vs_l20Open_0 a0) (g_Vs_l20Open_1 a0)) (16 : Int) + (1 : Int))) (3 : Int) + (1 : Int)) + (1 : Int))) (6 : Int) < (6 : Int)) && (decide (Int.toNat (g_pick (g_Vs_l20Open_0 a0) (IntKind.wrap IntKind.i64 (IntKind.wrap IntKind.i64 (g_Vs_l20Sto_2 (g_Vs_l20Open_0 a0) (IntKind.wrap IntKind.i64 (g_Vs_l20Rd_odd_2 (g_Vs_l20Open_0 a0) (g_Vs_l20Glo_1 (g_Vs_l20Open_0 a0) (g_Vs_l20Open_1 a0)) (16 : Int) + (1 : Int))) (3 : Int) + (1 : Int)) + (1 : Int))) (6 : Int)) < nat_lit 6) && (decide ((0 : Int) ≤ at_ (Ty.int IntKind.i64) [(0 : Int), (0 : Int), (0 : Int), (0 : Int), (1 : Int), (2 : Int)] (Int.toNat (g_pick (g_Vs_l20Open_0 a0) (IntKind.wrap IntKind.i64 (IntKind.wrap IntKind.i64 (g_Vs_l20Sto_2 (g_Vs_l20Open_0 a0) (IntKind.wrap IntKind.i64 (g_Vs_l20Rd_odd_2 (g_Vs_l20Open_0 a0) (g_Vs_l20Glo_1 (g_Vs_l20Open_0 a0) (g_Vs_l20Open_1 a0)) (16 : Int) + (1 : Int))) (3 : Int) + (1 : Int)) + (1 : Int))) (6 : Int))) ∧ at_ (Ty.int IntKind.i64) [(0 : Int), (0 : Int), (0 : Int), (0 : Int), (1 : Int), (2 : Int)] (Int.toNat (g_pick (g_Vs_l20Open_0 a0) (IntKind.wrap IntKind.i64 (IntKind.wrap IntKind.i64 (g_Vs_l20Sto_2 (g_Vs_l20Open_0 a0) (IntKind.wrap IntKind.i64 (g_Vs_l20Rd_odd_2 (g_Vs_l20Open_0 a0) (g_Vs_l20Glo_1 (g_Vs_l20Open_0 a0) (g_Vs_l20Open_1 a0)) (16 : Int) + (1 : Int))) (3 : Int) + (1 : Int)) + (1 : Int))) (6 : Int))) < (↑(List.length [IntKind.wrap IntKind.i64 ((15 : Int) + g_pick (g_Vs_l20Open_0 a0) (g_Vs_l20Sto_2 (g_Vs_l20Open_0 a0) (IntKind.wrap IntKind.i64 (g_Vs_l20Rd_odd_2 (g_Vs_l20Open_0 a0) (g_Vs_l20Glo_1 (g_Vs_l20Open_0 a0) (g_Vs_l20Open_1 a0)) (16 : Int) + (1 : Int))) (3 : Int)) (14 : Int)), g_pick (g_Vs_l20Open_0 a0) (IntKind.wrap IntKind.i64 (g_Vs_l20Sto_2 (g_Vs_l20Open_0 a0) (IntKind.wrap IntKind.i64 (g_Vs_l20Rd_odd_2 (g_Vs_l20Open_0 a0) (g_Vs_l20Glo_1 (g_Vs_l20Open_0 a0) (g_Vs_l20Open_1 a0)) (16 : Int) + (1 : Int))) (3 : Int) + (1 : Int))) (10 : Int), (-1 : Int)]) : Int)) && (decide (Int.toNat (at_ (Ty.int IntKind.i64) [(0 : Int), (0 : Int), (0 : Int), (0 : Int), (1 : Int), (2 : Int)] (Int.toNat (g_pick (g_Vs_l20Open_0 a0) (IntKind.wrap IntKind.i64 (IntKind.wrap IntKind.i64 (g_Vs_l20Sto_2 (g_Vs_l20Open_0 a0) (IntKind.wrap IntKind.i64 (g_Vs_l20Rd_odd_2 (g_Vs_l20Open_0 a0) (g_Vs_l20Glo_1 (g_Vs_l20Open_0 a0) (g_Vs_l20Open_1 a0)) (16 : Int) + (1 : Int))) (3 : Int) + (1 : Int)) + (1 : Int))) (6 : Int)))) < List.length [IntKind.wrap IntKind.i64 ((15 : Int) + g_pick (g_Vs_l20Open_0 a0) (g_Vs_l20Sto_2 (g_Vs_l20Open_0 a0) (IntKind.wrap IntKind.i64 (g_Vs_l20Rd_odd_2 (g_Vs_l20Open_0 a0) (g_Vs_l20Glo_1 (g_Vs_l20Open_0 a0) (g_Vs_l20Open_1 a0)) (16 : Int) + (1 : Int))) (3 : Int)) (14 : Int)), g_pick (g_Vs_l20Open_0 a0) (IntKind.wrap IntKind.i64 (g_Vs_l20Sto_2 (g_Vs_l20Open_0 a0) (IntKind.wrap IntKind.i64 (g_Vs_l20Rd_odd_2 (g_Vs_l20Open_0 a0) (g_Vs_l20Glo_1 (g_Vs_l20Open_0 a0) (g_Vs_l20Open_1 a0)) (16 : Int) + (1 : Int))) (3 : Int) + (1 : Int))) (10 : Int), (-1 : Int)]) && g_As_l20Op (g_Vs_l20Open_0 a0) (IntKind.wrap IntKind.i64 (IntKind.wrap IntKind.i64 (IntKind.wrap IntKind.i64 (g_Vs_l20Sto_2 (g_Vs_l20Open_0 a0) (IntKind.wrap IntKind.i64 (g_Vs_l20Rd_odd_2 (g_Vs_l20Open_0 a0) (g_Vs_l20Glo_1 (g_Vs_l20Open_0 a0) (g_Vs_l20Open_1 a0)) (16 : Int) + (1 : Int))) (3 : Int) + (1 : Int)) + (1 : Int)) + (1 : Int))) (12 : Int))))))))))) else g_pickA (g_Vs_l20Open_0 a0) (g_Vs_l20Rd_odd_2 (g_Vs_l20Open_0 a0) (g_Vs_l20Glo_1 (g_Vs_l20Open_0 a0) (g_Vs_l20Open_1 a0)) (16 : Int)) (14 : Int) && (g_pickA (g_Vs_l20Open_0 a0) (IntKind.wrap IntKind.i64 (g_Vs_l20Rd_odd_2 (g_Vs_l20Open_0 a0) (g_Vs_l20Glo_1 (g_Vs_l20Open_0 a0) (g_Vs_l20Open_1 a0)) (16 : Int) + (1 : Int))) (10 : Int) && (g_pickA (g_Vs_l20Open_0 a0) (IntKind.wrap IntKind.i64 (IntKind.wrap IntKind.i64 (g_Vs_l20Rd_odd_2 (g_Vs_l20Open_0 a0) (g_Vs_l20Glo_1 (g_Vs_l20Open_0 a0) (g_Vs_l20Open_1 a0)) (16 : Int) + (1 : Int)) + (1 : Int))) (6 : Int) && (decide ((0 : Int) ≤ g_pick (g_Vs_l20Open_0 a0) (IntKind.wrap IntKind.i64 (IntKind.wrap IntKind.i64 (g_Vs_l20Rd_odd_2 (g_Vs_l20Open_0 a0) (g_Vs_l20Glo_1 (g_Vs_l20Open_0 a0) (g_Vs_l20Open_1 a0)) (16 : Int) + (1 : Int)) + (1 : Int))) (6 : Int) ∧ g_pick (g_Vs_l20Open_0 a0) (IntKind.wrap IntKind.i64 (IntKind.wrap IntKind.i64 (g_Vs_l20Rd_odd_2 (g_Vs_l20Open_0 a0) (g_Vs_l20Glo_1 (g_Vs_l20Open_0 a0) (g_Vs_l20Open_1 a0)) (16 : Int) + (1 : Int)) + (1 : Int))) (6 : Int) < (6 : Int)) && (decide (Int.toNat (g_pick (g_Vs_l20Open_0 a0) (IntKind.wrap IntKind.i64 (IntKind.wrap IntKind.i64 (g_Vs_l20Rd_odd_2 (g_Vs_l20Open_0 a0) (g_Vs_l20Glo_1 (g_Vs_l20Open_0 a0) (g_Vs_l20Open_1 a0)) (16 : Int) + (1 : Int)) + (1 : Int))) (6 : Int)) < nat_lit 6) && (decide ((0 : Int) ≤ at_ (Ty.int IntKind.i64) [(0 : Int), (0 : Int), (0 : Int), (0 : Int), (1 : Int), (2 : Int)] (Int.toNat (g_pick (g_Vs_l20Open_0 a0) (IntKind.wrap IntKind.i64 (IntKind.wrap IntKind.i64 (g_Vs_l20Rd_odd_2 (g_Vs_l20Open_0 a0) (g_Vs_l20Glo_1 (g_Vs_l20Open_0 a0) (g_Vs_l20Open_1 a0)) (16 : Int) + (1 : Int)) + (1 : Int))) (6 : Int))) ∧ at_ (Ty.int IntKind.i64) [(0 : Int), (0 : Int), (0 : Int), (0 : Int), (1 : Int), (2 : Int)] (Int.toNat (g_pick (g_Vs_l20Open_0 a0) (IntKind.wrap IntKind.i64 (IntKind.wrap IntKind.i64 (g_Vs_l20Rd_odd_2 (g_Vs_l20Open_0 a0) (g_Vs_l20Glo_1 (g_Vs_l20Open_0 a0) (g_Vs_l20Open_1 a0)) (16 : Int) + (1 : Int)) + (1 : Int))) (6 : Int))) < (↑(List.length [IntKind.wrap IntKind.i64 ((15 : Int) + g_pick (g_Vs_l20Open_0 a0) (g_Vs_l20Rd_odd_2 (g_Vs_l20Open_0 a0) (g_Vs_l20Glo_1 (g_Vs_l20Open_0 a0) (g_Vs_l20Open_1 a0)) (16 : Int)) (14 : Int)), g_pick (g_Vs_l20Open_0 a0) (IntKind.wrap IntKind.i64 (g_Vs_l20Rd_odd_2 (g_Vs_l20Open_0 a0) (g_Vs_l20Glo_1 (g_Vs_l20Open_0 a0) (g_Vs_l20Open_1 a0)) (16 : Int) + (1 : Int))) (10 : Int), (-1 : Int)]) : Int)) && (decide (Int.toNat (at_ (Ty.int IntKind.i64) [(0 : Int), (0 : Int), (0 : Int), (0 : Int), (1 : Int), (2 : Int)] (Int.toNat (g_pick (g_Vs_l20Open_0 a0) (IntKind.wrap IntKind.i64 (IntKind.wrap IntKind.i64 (g_Vs_l20Rd_odd_2 (g_Vs_l20Open_0 a0) (g_Vs_l20Glo_1 (g_Vs_l20Open_0 a0) (g_Vs_l20Open_1 a0)) (16 : Int) + (1 : Int)) + (1 : Int))) (6 : Int)))) < List.length [IntKind.wrap IntKind.i64 ((15 : Int) + g_pick (g_Vs_l20Open_0 a0) (g_Vs_l20Rd_odd_2 (g_Vs_l20Open_0 a0) (g_Vs_l20Glo_1 (g_Vs_l20Open_0 a0) (g_Vs_l20Open_1 a0)) (16 : Int)) (14 : Int)), g_pick (g_Vs_l20Open_0 a0) (IntKind.wrap IntKind.i64 (g_Vs_l20Rd_odd_2 (g_Vs_l20Open_0 a0) (g_Vs_l20Glo_1 (g_Vs_l20Open_0 a0) (g_Vs_l20Open_1 a0)) (16 : Int) + (1 : Int))) (10 : Int), (-1 : Int)]) && g_As_l20Op (g_Vs_l20Open_0 a0) (IntKind.wrap IntKind.i64 (IntKind.wrap IntKind.i64 (IntKind.wrap IntKind.i64 (g_Vs_l20Rd_odd_2 (g_Vs_l20Open_0 a0) (g_Vs_l20Glo_1 (g_Vs_l20Open_0 a0) (g_Vs_l20Open_1 a0)) (16 : Int) + (1 : Int)) + (1 : Int)) + (1 : Int))) (12 : Int)))))))))
noncomputable def g_Vs_DrawGloDo_0 (a0 : List Int) : List (List (ByteArray × (List Int))) := bif g_Vs_l20Rd_odd_0 (g_Vs_l20Open_0 a0) (g_Vs_l20Glo_1 (g_Vs_l20Open_0 a0) (g_Vs_l20Open_1 a0)) (16 : Int) then List.set (g_Vs_l20Glo_0 (g_Vs_l20Open_0 a0) (g_Vs_l20Open_1 a0)) (Int.toNat (g_pick (g_Vs_l20Open_0 a0) (g_Vs_l20Rd_odd_2 (g_Vs_l20Open_0 a0) (g_Vs_l20Glo_1 (g_Vs_l20Open_0 a0) (g_Vs_l20Open_1 a0)) (16 : Int)) (3 : Int))) (g_Vs_l20Sto_0 (g_Vs_l20Open_0 a0) (IntKind.wrap IntKind.i64 (g_Vs_l20Rd_odd_2 (g_Vs_l20Open_0 a0) (g_Vs_l20Glo_1 (g_Vs_l20Open_0 a0) (g_Vs_l20Open_1 a0)) (16 : Int) + (1 : Int))) (3 : Int)) else g_Vs_l20Glo_0 (g_Vs_l20Open_0 a0) (g_Vs_l20Open_1 a0)
noncomputable def g_Vs_DrawGloDo_1 (a0 : List Int) : Int := bif g_Vs_l20Rd_odd_0 (g_Vs_l20Open_0 a0) (g_Vs_l20Glo_1 (g_Vs_l20Open_0 a0) (g_Vs_l20Open_1 a0)) (16 : Int) then at_ (Ty.int IntKind.i64) [IntKind.wrap IntKind.i64 ((15 : Int) + g_pick (g_Vs_l20Open_0 a0) (g_Vs_l20Sto_2 (g_Vs_l20Open_0 a0) (IntKind.wrap IntKind.i64 (g_Vs_l20Rd_odd_2 (g_Vs_l20Open_0 a0) (g_Vs_l20Glo_1 (g_Vs_l20Open_0 a0) (g_Vs_l20Open_1 a0)) (16 : Int) + (1 : Int))) (3 : Int)) (14 : Int)), g_pick (g_Vs_l20Open_0 a0) (IntKind.wrap IntKind.i64 (g_Vs_l20Sto_2 (g_Vs_l20Open_0 a0) (IntKind.wrap IntKind.i64 (g_Vs_l20Rd_odd_2 (g_Vs_l20Open_0 a0) (g_Vs_l20Glo_1 (g_Vs_l20Open_0 a0) (g_Vs_l20Open_1 a0)) (16 : Int) + (1 : Int))) (3 : Int) + (1 : Int))) (10 : Int), (-1 : Int)] (Int.toNat (at_ (Ty.int IntKind.i64) [(0 : Int), (0 : Int), (0 : Int), (0 : Int), (1 : Int), (2 : Int)] (Int.toNat (g_pick (g_Vs_l20Open_0 a0) (IntKind.wrap IntKind.i64 (IntKind.wrap IntKind.i64 (g_Vs_l20Sto_2 (g_Vs_l20Open_0 a0) (IntKind.wrap IntKind.i64 (g_Vs_l20Rd_odd_2 (g_Vs_l20Open_0 a0) (g_Vs_l20Glo_1 (g_Vs_l20Open_0 a0) (g_Vs_l20Open_1 a0)) (16 : Int) + (1 : Int))) (3 : Int) + (1 : Int)) + (1 : Int))) (6 : Int))))) else at_ (Ty.int IntKind.i64) [IntKind.wrap IntKind.i64 ((15 : Int) + g_pick (g_Vs_l20Open_0 a0) (g_Vs_l20Rd_odd_2 (g_Vs_l20Open_0 a0) (g_Vs_l20Glo_1 (g_Vs_l20Open_0 a0) (g_Vs_l20Open_1 a0)) (16 : Int)) (14 : Int)), g_pick (g_Vs_l20Open_0 a0) (IntKind.wrap IntKind.i64 (g_Vs_l20Rd_odd_2 (g_Vs_l20Open_0 a0) (g_Vs_l20Glo_1 (g_Vs_l20Open_0 a0) (g_Vs_l20Open_1 a0)) (16 : Int) + (1 : Int))) (10 : Int), (-1 : Int)] (Int.toNat (at_ (Ty.int IntKind.i64) [(0 : Int), (0 : Int), (0 : Int), (0 : Int), (1 : Int), (2 : Int)] (Int.toNat (g_pick (g_Vs_l20Open_0 a0) (IntKind.wrap IntKind.i64 (IntKind.wrap IntKind.i64 (g_Vs_l20Rd_odd_2 (g_Vs_l20Open_0 a0) (g_Vs_l20Glo_1 (g_Vs_l20Open_0 a0) (g_Vs_l20Open_1 a0)) (16 : Int) + (1 : Int)) + (1 : Int))) (6 : Int)))))
noncomputable def g_Vs_DrawGloDo_2 (a0 : List Int) : Int := bif g_Vs_l20Rd_odd_0 (g_Vs_l20Open_0 a0) (g_Vs_l20Glo_1 (g_Vs_l20Open_0 a0) (g_Vs_l20Open_1 a0)) (16 : Int) then g_Vs_l20Op_0 (g_Vs_l20Open_0 a0) (IntKind.wrap IntKind.i64 (IntKind.wrap IntKind.i64 (IntKind.wrap IntKind.i64 (g_Vs_l20Sto_2 (g_Vs_l20Open_0 a0) (IntKind.wrap IntKind.i64 (g_Vs_l20Rd_odd_2 (g_Vs_l20Open_0 a0) (g_Vs_l20Glo_1 (g_Vs_l20Open_0 a0) (g_Vs_l20Open_1 a0)) (16 : Int) + (1 : Int))) (3 : Int) + (1 : Int)) + (1 : Int)) + (1 : Int))) (12 : Int) else g_Vs_l20Op_0 (g_Vs_l20Open_0 a0) (IntKind.wrap IntKind.i64 (IntKind.wrap IntKind.i64 (IntKind.wrap IntKind.i64 (g_Vs_l20Rd_odd_2 (g_Vs_l20Open_0 a0) (g_Vs_l20Glo_1 (g_Vs_l20Open_0 a0) (g_Vs_l20Open_1 a0)) (16 : Int) + (1 : Int)) + (1 : Int)) + (1 : Int))) (12 : Int)
noncomputable def g_Vs_DrawGloDo_3 (a0 : List Int) : Int := bif g_Vs_l20Rd_odd_0 (g_Vs_l20Open_0 a0) (g_Vs_l20Glo_1 (g_Vs_l20Open_0 a0) (g_Vs_l20Open_1 a0)) (16 : Int) then g_Vs_l20Op_1 (g_Vs_l20Open_0 a0) (IntKind.wrap IntKind.i64 (IntKind.wrap IntKind.i64 (IntKind.wrap IntKind.i64 (g_Vs_l20Sto_2 (g_Vs_l20Open_0 a0) (IntKind.wrap IntKind.i64 (g_Vs_l20Rd_odd_2 (g_Vs_l20Open_0 a0) (g_Vs_l20Glo_1 (g_Vs_l20Open_0 a0) (g_Vs_l20Open_1 a0)) (16 : Int) + (1 : Int))) (3 : Int) + (1 : Int)) + (1 : Int)) + (1 : Int))) (12 : Int) else g_Vs_l20Op_1 (g_Vs_l20Open_0 a0) (IntKind.wrap IntKind.i64 (IntKind.wrap IntKind.i64 (IntKind.wrap IntKind.i64 (g_Vs_l20Rd_odd_2 (g_Vs_l20Open_0 a0) (g_Vs_l20Glo_1 (g_Vs_l20Open_0 a0) (g_Vs_l20Open_1 a0)) (16 : Int) + (1 : Int)) + (1 : Int)) + (1 : Int))) (12 : Int)
noncomputable def g_Vs_DrawGloDo_4 (a0 : List Int) : Int := bif g_Vs_l20Rd_odd_0 (g_Vs_l20Open_0 a0) (g_Vs_l20Glo_1 (g_Vs_l20Open_0 a0) (g_Vs_l20Open_1 a0)) (16 : Int) then g_Vs_l20Op_2 (g_Vs_l20Open_0 a0) (IntKind.wrap IntKind.i64 (IntKind.wrap IntKind.i64 (IntKind.wrap IntKind.i64 (g_Vs_l20Sto_2 (g_Vs_l20Open_0 a0) (IntKind.wrap IntKind.i64 (g_Vs_l20Rd_odd_2 (g_Vs_l20Open_0 a0) (g_Vs_l20Glo_1 (g_Vs_l20Open_0 a0) (g_Vs_l20Open_1 a0)) (16 : Int) + (1 : Int))) (3 : Int) + (1 : Int)) + (1 : Int)) + (1 : Int))) (12 : Int) else g_Vs_l20Op_2 (g_Vs_l20Open_0 a0) (IntKind.wrap IntKind.i64 (IntKind.wrap IntKind.i64 (IntKind.wrap IntKind.i64 (g_Vs_l20Rd_odd_2 (g_Vs_l20Open_0 a0) (g_Vs_l20Glo_1 (g_Vs_l20Open_0 a0) (g_Vs_l20Open_1 a0)) (16 : Int) + (1 : Int)) + (1 : Int)) + (1 : Int))) (12 : Int)
noncomputable def g_Vs_DrawGloDo_5 (a0 : List Int) : Int := bif g_Vs_l20Rd_odd_0 (g_Vs_l20Open_0 a0) (g_Vs_l20Glo_1 (g_Vs_l20Open_0 a0) (g_Vs_l20Open_1 a0)) (16 : Int) then g_Vs_l20Op_3 (g_Vs_l20Open_0 a0) (IntKind.wrap IntKind.i64 (IntKind.wrap IntKind.i64 (IntKind.wrap IntKind.i64 (g_Vs_l20Sto_2 (g_Vs_l20Open_0 a0) (IntKind.wrap IntKind.i64 (g_Vs_l20Rd_odd_2 (g_Vs_l20Open_0 a0) (g_Vs_l20Glo_1 (g_Vs_l20Open_0 a0) (g_Vs_l20Open_1 a0)) (16 : Int) + (1 : Int))) (3 : Int) + (1 : Int)) + (1 : Int)) + (1 : Int))) (12 : Int) else g_Vs_l20Op_3 (g_Vs_l20Open_0 a0) (IntKind.wrap IntKind.i64 (IntKind.wrap IntKind.i64 (IntKind.wrap IntKind.i64 (g_Vs_l20Rd_odd_2 (g_Vs_l20Open_0 a0) (g_Vs_l20Glo_1 (g_Vs_l20Open_0 a0) (g_Vs_l20Open_1 a0)) (16 : Int) + (1 : Int)) + (1 : Int)) + (1 : Int))) (12 : Int)
noncomputable def g_Vs_DrawGloDo_6 (a0 : List Int) : Int := bif g_Vs_l20Rd_odd_0 (g_Vs_l20Open_0 a0) (g_Vs_l20Glo_1 (g_Vs_l20Open_0 a0) (g_Vs_l20Open_1 a0)) (16 : Int) then g_Vs_l20Op_4 (g_Vs_l20Open_0 a0) (IntKind.wrap IntKind.i64 (IntKind.wrap IntKind.i64 (IntKind.wrap IntKind.i64 (g_Vs_l20Sto_2 (g_Vs_l20Open_0 a0) (IntKind.wrap IntKind.i64 (g_Vs_l20Rd_odd_2 (g_Vs_l20Open_0 a0) (g_Vs_l20Glo_1 (g_Vs_l20Open_0 a0) (g_Vs_l20Open_1 a0)) (16 : Int) + (1 : Int))) (3 : Int) + (1 : Int)) + (1 : Int)) + (1 : Int))) (12 : Int) else g_Vs_l20Op_4 (g_Vs_l20Open_0 a0) (IntKind.wrap IntKind.i64 (IntKind.wrap IntKind.i64 (IntKind.wrap IntKind.i64 (g_Vs_l20Rd_odd_2 (g_Vs_l20Open_0 a0) (g_Vs_l20Glo_1 (g_Vs_l20Open_0 a0) (g_Vs_l20Open_1 a0)) (16 : Int) + (1 : Int)) + (1 : Int)) + (1 : Int))) (12 : Int)
noncomputable def g_Vs_DrawGloDo_7 (a0 : List Int) : Int := bif g_Vs_l20Rd_odd_0 (g_Vs_l20Open_0 a0) (g_Vs_l20Glo_1 (g_Vs_l20Open_0 a0) (g_Vs_l20Open_1 a0)) (16 : Int) then g_Vs_l20Op_5 (g_Vs_l20Open_0 a0) (IntKind.wrap IntKind.i64 (IntKind.wrap IntKind.i64 (IntKind.wrap IntKind.i64 (g_Vs_l20Sto_2 (g_Vs_l20Open_0 a0) (IntKind.wrap IntKind.i64 (g_Vs_l20Rd_odd_2 (g_Vs_l20Open_0 a0) (g_Vs_l20Glo_1 (g_Vs_l20Open_0 a0) (g_Vs_l20Open_1 a0)) (16 : Int) + (1 : Int))) (3 : Int) + (1 : Int)) + (1 : Int)) + (1 : Int))) (12 : Int) else g_Vs_l20Op_5 (g_Vs_l20Open_0 a0) (IntKind.wrap IntKind.i64 (IntKind.wrap IntKind.i64 (IntKind.wrap IntKind.i64 (g_Vs_l20Rd_odd_2 (g_Vs_l20Open_0 a0) (g_Vs_l20Glo_1 (g_Vs_l20Open_0 a0) (g_Vs_l20Open_1 a0)) (16 : Int) + (1 : Int)) + (1 : Int)) + (1 : Int))) (12 : Int)
noncomputable def g_Vs_DrawGloDo_8 (a0 : List Int) : Int := bif g_Vs_l20Rd_odd_0 (g_Vs_l20Open_0 a0) (g_Vs_l20Glo_1 (g_Vs_l20Open_0 a0) (g_Vs_l20Open_1 a0)) (16 : Int) then g_Vs_l20Op_6 (g_Vs_l20Open_0 a0) (IntKind.wrap IntKind.i64 (IntKind.wrap IntKind.i64 (IntKind.wrap IntKind.i64 (g_Vs_l20Sto_2 (g_Vs_l20Open_0 a0) (IntKind.wrap IntKind.i64 (g_Vs_l20Rd_odd_2 (g_Vs_l20Open_0 a0) (g_Vs_l20Glo_1 (g_Vs_l20Open_0 a0) (g_Vs_l20Open_1 a0)) (16 : Int) + (1 : Int))) (3 : Int) + (1 : Int)) + (1 : Int)) + (1 : Int))) (12 : Int) else g_Vs_l20Op_6 (g_Vs_l20Open_0 a0) (IntKind.wrap IntKind.i64 (IntKind.wrap IntKind.i64 (IntKind.wrap IntKind.i64 (g_Vs_l20Rd_odd_2 (g_Vs_l20Open_0 a0) (g_Vs_l20Glo_1 (g_Vs_l20Open_0 a0) (g_Vs_l20Open_1 a0)) (16 : Int) + (1 : Int)) + (1 : Int)) + (1 : Int))) (12 : Int)
noncomputable def Fs_DrawGloDo : FSem := fun ys => match ys with
 | [.val false [.sl .any 5 (.int .u8) a0]] => some ((g_As_DrawGloDo a0), .tup [(false, [.sl .any 25 (.sl 49 (.pair .str (.sl 3 (.int .i64)))) (g_Vs_DrawGloDo_0 a0)]), (false, [.int .i64 (g_Vs_DrawGloDo_1 a0)]), (true, [.int .i64 (g_Vs_DrawGloDo_2 a0), .int .i64 (g_Vs_DrawGloDo_3 a0), .int .i64 (g_Vs_DrawGloDo_4 a0), .int .i64 (g_Vs_DrawGloDo_5 a0), .int .i64 (g_Vs_DrawGloDo_6 a0), .int .i64 (g_Vs_DrawGloDo_7 a0), .int .i64 (g_Vs_DrawGloDo_8 a0)])], [])
 | _ => none
theorem vs_DrawGloDo (a0 : List Int) : collapseH .fr Es_DrawGloDo Os_DrawGloDo_0 (execFn Es_DrawGloDo Tryz.f15 mss_DrawGloDo [.val false [.sl .any 5 (.int .u8) a0]]) = some ((g_As_DrawGloDo a0), .tup [(false, [.sl .any 25 (.sl 49 (.pair .str (.sl 3 (.int .i64)))) (g_Vs_DrawGloDo_0 a0)]), (false, [.int .i64 (g_Vs_DrawGloDo_1 a0)]), (true, [.int .i64 (g_Vs_DrawGloDo_2 a0), .int .i64 (g_Vs_DrawGloDo_3 a0), .int .i64 (g_Vs_DrawGloDo_4 a0), .int .i64 (g_Vs_DrawGloDo_5 a0), .int .i64 (g_Vs_DrawGloDo_6 a0), .int .i64 (g_Vs_DrawGloDo_7 a0), .int .i64 (g_Vs_DrawGloDo_8 a0)])], []) := by kernel_rfl
theorem ss_DrawGloDo : Sound Tryz.prog 15 mss_DrawGloDo Fs_DrawGloDo := by
 refine fn_gen goods_DrawGloDo (by kernel_rfl) .fr (fn := Tryz.f15) (c := (Tryz.f15.body.getD .skip)) (o := Os_DrawGloDo_0) (k := 0) (by kernel_rfl) (by kernel_rfl) (by kernel_rfl) (by kernel_rfl) (by decide) ks_DrawGloDo_0 ?_
 intro ys r outs h
 unfold Fs_DrawGloDo at h
 split at h
 ·exact (vs_DrawGloDo _).trans h
 ·cases h
noncomputable def Ei_WrtOk : Env where
 tt := mkTI Tryz.prog
 fn := fun f => match f with
  | 109 => some (msi_keyOk, FSem.wk msi_keyOk Fi_keyOk)
  | 110 => some (msi_valOk, FSem.wk msi_valOk Fi_valOk)
  | _ => none
 bxf := fun _ => none
 mv := []
 keep := fun _ => []
 keepB := fun _ => []
 keepX := fun _ => []
 keepXB := fun _ => []
theorem goodFi_WrtOk : ∀ f ms F, Ei_WrtOk.fn f = some (ms, F) → Sound Tryz.prog f ms F := fun f ms F h => by
 unfold Ei_WrtOk at h
 dsimp only at h
 split at h
 ·injection h with h; injection h with e1 e2; subst e1 e2; exact Sound.wk si_keyOk
 ·injection h with h; injection h with e1 e2; subst e1 e2; exact Sound.wk si_valOk
 ·cases h
theorem goodBi_WrtOk : ∀ f ms F, Ei_WrtOk.bxf f = some (ms, F) → SoundB Tryz.prog f ms F := fun f ms F h => by cases h
theorem goodi_WrtOk : Good Tryz.prog Ei_WrtOk := ⟨rfl, goodFi_WrtOk, goodBi_WrtOk⟩
noncomputable def Oi_WrtOk_0 : Orc := fun _ _ => none
noncomputable def msi_WrtOk : List PM := [.rd]
noncomputable def lsi_WrtOk : List (Nat × Code) := loopsAll 0 (Tryz.f62.body.getD .skip)
theorem ki_WrtOk_0 : OrcOk Ei_WrtOk Oi_WrtOk_0 lsi_WrtOk 0 := orcOk_none
noncomputable def g_Ai_WrtOk (a0 : ByteArray) (a1 : Bool) (a2 : List Int) : Bool := bif a1 then g_Ai_keyOk a0 && (!g_Vi_keyOk_0 a0 || true) else g_Ai_keyOk a0 && (!g_Vi_keyOk_0 a0 || g_Ai_valOk a2)
noncomputable def g_Vi_WrtOk_0 (a0 : ByteArray) (a1 : Bool) (a2 : List Int) : Bool := bif a1 then bif g_Vi_keyOk_0 a0 then (↑(List.length a2) : Int) == (0 : Int) else false else bif g_Vi_keyOk_0 a0 then g_Vi_valOk_0 a2 else false
noncomputable def Fi_WrtOk : FSem := fun ys => match ys with
 | [.val true [.str a0, .bool a1, .sl .any 3 (.int .i64) a2]] => some ((g_Ai_WrtOk a0 a1 a2), .val false [.bool (g_Vi_WrtOk_0 a0 a1 a2)], [])
 | _ => none
theorem vi_WrtOk (a0 : ByteArray) (a1 : Bool) (a2 : List Int) : collapseH .std Ei_WrtOk Oi_WrtOk_0 (execFn Ei_WrtOk Tryz.f62 msi_WrtOk [.val true [.str a0, .bool a1, .sl .any 3 (.int .i64) a2]]) = some ((g_Ai_WrtOk a0 a1 a2), .val false [.bool (g_Vi_WrtOk_0 a0 a1 a2)], []) := by kernel_rfl
theorem si_WrtOk : Sound Tryz.prog 62 msi_WrtOk Fi_WrtOk := by
 refine fn_gen goodi_WrtOk (by kernel_rfl) .std (fn := Tryz.f62) (c := (Tryz.f62.body.getD .skip)) (o := Oi_WrtOk_0) (k := 0) (by kernel_rfl) (by kernel_rfl) (by kernel_rfl) (by kernel_rfl) (by decide) ki_WrtOk_0 ?_
 intro ys r outs h
 unfold Fi_WrtOk at h
 split at h
 ·exact (vi_WrtOk _ _ _).trans h
 ·cases h
noncomputable def Ew_jaOk : Env where
 tt := mkTI Tryz.prog
 fn := fun f => match f with
  | 62 => some (msi_WrtOk, FSem.wk msi_WrtOk Fi_WrtOk)
  | _ => none
 bxf := fun _ => none
 mv := []
 keep := fun _ => []
 keepB := fun _ => []
 keepX := fun _ => []
 keepXB := fun _ => []
theorem goodFw_jaOk : ∀ f ms F, Ew_jaOk.fn f = some (ms, F) → Sound Tryz.prog f ms F := fun f ms F h => by
 unfold Ew_jaOk at h
 dsimp only at h
 split at h
 ·injection h with h; injection h with e1 e2; subst e1 e2; exact Sound.wk si_WrtOk
 ·cases h
theorem goodBw_jaOk : ∀ f ms F, Ew_jaOk.bxf f = some (ms, F) → SoundB Tryz.prog f ms F := fun f ms F h => by cases h
theorem goodw_jaOk : Good Tryz.prog Ew_jaOk := ⟨rfl, goodFw_jaOk, goodBw_jaOk⟩
noncomputable def Ow_jaOk_0 : Orc := fun _ _ => none
noncomputable def msw_jaOk : List PM := []
noncomputable def lsw_jaOk : List (Nat × Code) := loopsAll 0 (Tryz.f14.body.getD .skip)
theorem kw_jaOk_0 : OrcOk Ew_jaOk Ow_jaOk_0 lsw_jaOk 0 := orcOk_none
noncomputable def g_Aw_jaOk : Bool := g_Ai_WrtOk (lit [(97 : Nat), (49 : Nat)]) false [(1 : Int)]
noncomputable def g_Vw_jaOk_0 : Bool := g_Vi_WrtOk_0 (lit [(97 : Nat), (49 : Nat)]) false [(1 : Int)]
noncomputable def Fw_jaOk : FSem := fun ys => match ys with
 | [] => some (g_Aw_jaOk, .val false [.bool g_Vw_jaOk_0], [])
 | _ => none
theorem vw_jaOk : collapseH .std Ew_jaOk Ow_jaOk_0 (execFn Ew_jaOk Tryz.f14 msw_jaOk []) = some (g_Aw_jaOk, .val false [.bool g_Vw_jaOk_0], []) := by kernel_rfl
theorem sw_jaOk : Sound Tryz.prog 14 msw_jaOk Fw_jaOk := by
 refine fn_gen goodw_jaOk (by kernel_rfl) .std (fn := Tryz.f14) (c := (Tryz.f14.body.getD .skip)) (o := Ow_jaOk_0) (k := 0) (by kernel_rfl) (by kernel_rfl) (by kernel_rfl) (by kernel_rfl) (by decide) kw_jaOk_0 ?_
 intro ys r outs h
 unfold Fw_jaOk at h
 split at h
 ·exact (vw_jaOk).trans h
 ·cases h
noncomputable def Ew_jaTexts : Env where
 tt := mkTI Tryz.prog
 fn := fun _ => none
 bxf := fun _ => none
 mv := []
 keep := fun b => match b with
  | 0 => [(0, false), (1, false), (5, false)]
  | _ => []
 keepB := fun b => match b with
  | 0 => []
  | _ => []
 keepX := fun b => match b with
  | 0 => [(4, false)]
  | _ => []
 keepXB := fun b => match b with
  | 0 => []
  | _ => []
theorem goodFw_jaTexts : ∀ f ms F, Ew_jaTexts.fn f = some (ms, F) → Sound Tryz.prog f ms F := fun f ms F h => by cases h
theorem goodBw_jaTexts : ∀ f ms F, Ew_jaTexts.bxf f = some (ms, F) → SoundB Tryz.prog f ms F := fun f ms F h => by cases h
theorem goodw_jaTexts : Good Tryz.prog Ew_jaTexts := ⟨rfl, goodFw_jaTexts, goodBw_jaTexts⟩
noncomputable def Ow_jaTexts_0 : Orc := fun _ _ => none
noncomputable def msw_jaTexts : List PM := [.fz, .rd]
noncomputable def lsw_jaTexts : List (Nat × Code) := loopsAll 0 (Tryz.f19.body.getD .skip)
noncomputable def cw_jaTexts_0 : Code := (loopOf 0 (Tryz.f19.body.getD .skip)).getD .skip
theorem lseqw_jaTexts : lsw_jaTexts = [(0, cw_jaTexts_0)] := by kernel_rfl
theorem mw_jaTexts_0 : ∀ p, p ∈ lsw_jaTexts → p.1 = 0 → p.2 = cw_jaTexts_0 := by
 intro p hp
 rw [lseqw_jaTexts] at hp
 simp only [List.mem_cons, List.not_mem_nil, or_false] at hp
 subst hp; simp
theorem kw_jaTexts_0 : OrcOk Ew_jaTexts Ow_jaTexts_0 lsw_jaTexts 0 := orcOk_none
noncomputable def hw_jaTexts_0 (y0 : List ByteArray) (y1 : List ByteArray) (y2 : Int) : List (Pl × LV) := [(.T 0, .t (.val false [.sl .any 9 .str y0])), (.T 1, .t (.val false [.sl .any 9 .str y1])), (.T 5, .t (.val false [.int .i64 y2]))]
noncomputable def g_Sw_jaTexts_0 (y0 : List ByteArray) (y1 : List ByteArray) : (Int) → RT (Int) ((Bool) ⊕ (Unit))
 | y2 => .br (true) (.br (decide (y2 < (↑(List.length y0) : Int))) (.br (decide ((0 : Int) ≤ y2 ∧ y2 < (↑(List.length y0) : Int))) (.br (decide ((0 : Int) ≤ y2 ∧ y2 < (↑(List.length y1) : Int))) (.br (true) (.br (!ByteArray.toList (at_ Ty.str y0 (Int.toNat y2)) == ByteArray.toList (at_ Ty.str y1 (Int.toNat y2))) (.out (.inl false)) (.br (true) (.go (IntKind.wrap IntKind.i64 (y2 + (1 : Int)))) (.bad))) (.bad)) (.bad)) (.bad)) (.out (.inr (())))) (.bad)
noncomputable def g_Lw_jaTexts_0 (y0 : List ByteArray) (y1 : List ByteArray) (x : Int) : Option ((Bool) ⊕ (Unit)) := loopO (g_Sw_jaTexts_0 y0 y1) x
noncomputable def xw_jaTexts_0 (y0 : List ByteArray) (y1 : List ByteArray) : ((Bool) ⊕ (Unit)) → Ex × List (Pl × LV) := fun
 | .inl r => (.ret, [(.T 4, .t (.val false [.bool r]))])
 | .inr (r) => (.exit 0, [(.T 4, .t (.val false [.undef]))])
noncomputable def Ow_jaTexts_1 : Orc := fun b h => match b, h with
 | 0, [(.T 0, .t (.val false [.sl .any 9 .str y0])), (.T 1, .t (.val false [.sl .any 9 .str y1])), (.T 5, .t (.val false [.int .i64 y2]))] => some (okO (g_Lw_jaTexts_0 y0 y1 y2), (.br (isL (valO (g_Lw_jaTexts_0 y0 y1 y2))) (.leaf .ret [(.T 4, .t (.val false [.bool (getL (valO (g_Lw_jaTexts_0 y0 y1 y2)))]))]) (.leaf (.exit 0) [(.T 4, .t (.val false [.undef]))])))
 | b, h => Ow_jaTexts_0 b h
theorem bw_jaTexts_0 (y0 : List ByteArray) (y1 : List ByteArray) (y2 : Int) : Tr.bt Ew_jaTexts Ow_jaTexts_0 (exec Ew_jaTexts 0 cw_jaTexts_0 (St.of (hw_jaTexts_0 y0 y1 y2)) (leafRd Ew_jaTexts 0)) = (g_Sw_jaTexts_0 y0 y1 y2).bt (fun (y2 : Int) => (hw_jaTexts_0 y0 y1 y2)) (xw_jaTexts_0 y0 y1) := by kernel_rfl
theorem kw_jaTexts_1 : OrcOk Ew_jaTexts Ow_jaTexts_1 lsw_jaTexts 1 := orc_add kw_jaTexts_0 (fun n p hp h ex h' ho => by
 obtain ⟨b, c⟩ := p
 obtain ⟨xt, h1, h2⟩ := ho
 have h1 : Ow_jaTexts_1 b h = some (true, xt) := h1
 unfold Ow_jaTexts_1 at h1
 split at h1
 ·injection h1 with h1
  injection h1 with e1 e2
  subst e2
  have hc : c = cw_jaTexts_0 := mw_jaTexts_0 _ hp rfl
  subst hc
  right
  rename_i y0 y1 y2
  have key := LT_step kw_jaTexts_0 hp (fun q hq => loopsAll_in _ _ _ _ hp hq) (fun (y2 : Int) => (hw_jaTexts_0 y0 y1 y2)) (xw_jaTexts_0 y0 y1) (g_Sw_jaTexts_0 y0 y1) (fun x => by first | exact bw_jaTexts_0 y0 y1 x) n (x := y2) (okO_some e1)
  have hx : ∀ r, XT.sel (.br (isL r) (.leaf .ret [(.T 4, .t (.val false [.bool (getL r)]))]) (.leaf (.exit 0) [(.T 4, .t (.val false [.undef]))])) = xw_jaTexts_0 y0 y1 r := fun r => by first | rfl | (rcases r with r | r <;> rfl) | (rcases r with r | r | r <;> rfl) | (rcases r with r | r | r | r <;> rfl)
  have h3 := (hx (valO (g_Lw_jaTexts_0 y0 y1 y2))).symm.trans h2
  have e3 := congrArg Prod.fst h3
  have e4 := congrArg Prod.snd h3
  simp only at e3 e4
  rw [← e3, ← e4]
  exact key
 ·exact .inl ⟨xt, h1, h2⟩)
noncomputable def g_Aw_jaTexts (a0 : List ByteArray) (a1 : List ByteArray) : Bool := (↑(List.length a0) : Int) != (↑(List.length a1) : Int) || okO (g_Lw_jaTexts_0 a0 a1 (0 : Int))
noncomputable def g_Vw_jaTexts_0 (a0 : List ByteArray) (a1 : List ByteArray) : Bool := bif (↑(List.length a0) : Int) != (↑(List.length a1) : Int) then false else bif isL (valO (g_Lw_jaTexts_0 a0 a1 (0 : Int))) then getL (valO (g_Lw_jaTexts_0 a0 a1 (0 : Int))) else true
noncomputable def Fw_jaTexts : FSem := fun ys => match ys with
 | [.val false [.sl .any 9 .str a0], .val false [.sl .any 9 .str a1]] => some ((g_Aw_jaTexts a0 a1), .val false [.bool (g_Vw_jaTexts_0 a0 a1)], [])
 | _ => none
theorem vw_jaTexts (a0 : List ByteArray) (a1 : List ByteArray) : collapseH .std Ew_jaTexts Ow_jaTexts_1 (execFn Ew_jaTexts Tryz.f19 msw_jaTexts [.val false [.sl .any 9 .str a0], .val false [.sl .any 9 .str a1]]) = some ((g_Aw_jaTexts a0 a1), .val false [.bool (g_Vw_jaTexts_0 a0 a1)], []) := by kernel_rfl
theorem sw_jaTexts : Sound Tryz.prog 19 msw_jaTexts Fw_jaTexts := by
 refine fn_gen goodw_jaTexts (by kernel_rfl) .std (fn := Tryz.f19) (c := (Tryz.f19.body.getD .skip)) (o := Ow_jaTexts_1) (k := 1) (by kernel_rfl) (by kernel_rfl) (by kernel_rfl) (by kernel_rfl) (by decide) kw_jaTexts_1 ?_
 intro ys r outs h
 unfold Fw_jaTexts at h
 split at h
 ·exact (vw_jaTexts _ _).trans h
 ·cases h
noncomputable def Ew_FnPlanLet : Env where
 tt := mkTI Tryz.prog
 fn := fun f => match f with
  | 11 => some (msi_PlcPlan, FSem.wk msi_PlcPlan Fi_PlcPlan)
  | 14 => some (msw_jaOk, FSem.wk msw_jaOk Fw_jaOk)
  | 15 => some (mss_DrawGloDo, FSem.wk mss_DrawGloDo Fs_DrawGloDo)
  | 16 => some (mss_GloOk, FSem.wk mss_GloOk Fs_GloOk)
  | 17 => some (msi_GloOk, FSem.wk msi_GloOk Fi_GloOk)
  | 18 => some (msi_StoGet, FSem.wk msi_StoGet Fi_StoGet)
  | 19 => some (msw_jaTexts, FSem.wk msw_jaTexts Fw_jaTexts)
  | _ => none
 bxf := fun _ => none
 mv := []
 keep := fun b => match b with
  | 0 => [(3, false), (6, false), (7, false)]
  | 2 => [(3, false), (6, false), (7, false), (8, false), (9, false), (10, false)]
  | _ => []
 keepB := fun b => match b with
  | 0 => []
  | 2 => []
  | _ => []
 keepX := fun b => match b with
  | 0 => [(2, false)]
  | 2 => [(2, false), (3, false), (6, false), (7, false)]
  | _ => []
 keepXB := fun b => match b with
  | 0 => []
  | 2 => []
  | _ => []
theorem goodFw_FnPlanLet : ∀ f ms F, Ew_FnPlanLet.fn f = some (ms, F) → Sound Tryz.prog f ms F := fun f ms F h => by
 unfold Ew_FnPlanLet at h
 dsimp only at h
 split at h
 ·injection h with h; injection h with e1 e2; subst e1 e2; exact Sound.wk si_PlcPlan
 ·injection h with h; injection h with e1 e2; subst e1 e2; exact Sound.wk sw_jaOk
 ·injection h with h; injection h with e1 e2; subst e1 e2; exact Sound.wk ss_DrawGloDo
 ·injection h with h; injection h with e1 e2; subst e1 e2; exact Sound.wk ss_GloOk
 ·injection h with h; injection h with e1 e2; subst e1 e2; exact Sound.wk si_GloOk
 ·injection h with h; injection h with e1 e2; subst e1 e2; exact Sound.wk si_StoGet
 ·injection h with h; injection h with e1 e2; subst e1 e2; exact Sound.wk sw_jaTexts
 ·cases h
theorem goodBw_FnPlanLet : ∀ f ms F, Ew_FnPlanLet.bxf f = some (ms, F) → SoundB Tryz.prog f ms F := fun f ms F h => by cases h
theorem goodw_FnPlanLet : Good Tryz.prog Ew_FnPlanLet := ⟨rfl, goodFw_FnPlanLet, goodBw_FnPlanLet⟩
noncomputable def Ow_FnPlanLet_0 : Orc := fun _ _ => none
noncomputable def msw_FnPlanLet : List PM := [.rd]
noncomputable def lsw_FnPlanLet : List (Nat × Code) := loopsAll 0 (Tryz.f4.body.getD .skip)
noncomputable def cw_FnPlanLet_0 : Code := (loopOf 0 (Tryz.f4.body.getD .skip)).getD .skip
noncomputable def cw_FnPlanLet_2 : Code := (loopOf 2 (Tryz.f4.body.getD .skip)).getD .skip
theorem lseqw_FnPlanLet : lsw_FnPlanLet = [(0, cw_FnPlanLet_0), (2, cw_FnPlanLet_2)] := by kernel_rfl
theorem mw_FnPlanLet_0 : ∀ p, p ∈ lsw_FnPlanLet → p.1 = 0 → p.2 = cw_FnPlanLet_0 := by
 intro p hp
 rw [lseqw_FnPlanLet] at hp
 simp only [List.mem_cons, List.not_mem_nil, or_false] at hp
 rcases hp with rfl | rfl <;> simp
theorem mw_FnPlanLet_2 : ∀ p, p ∈ lsw_FnPlanLet → p.1 = 2 → p.2 = cw_FnPlanLet_2 := by
 intro p hp
 rw [lseqw_FnPlanLet] at hp
 simp only [List.mem_cons, List.not_mem_nil, or_false] at hp
 rcases hp with rfl | rfl <;> simp
theorem kw_FnPlanLet_0 : OrcOk Ew_FnPlanLet Ow_FnPlanLet_0 lsw_FnPlanLet 0 := orcOk_none
noncomputable def hw_FnPlanLet_0 (y0 : List (List (ByteArray × (List Int)))) (y1 : List ByteArray) (y2 : Int) : List (Pl × LV) := [(.T 3, .t (.val false [.sl .any 25 (.sl 49 (.pair .str (.sl 3 (.int .i64)))) y0])), (.T 6, .t (.val false [.row 6 0 0])), (.R 6 0, .r 0 (some ⟨false, .non, true, 9, .str, y1⟩)), (.T 7, .t (.val false [.int .i64 y2]))]
noncomputable def hw_FnPlanLet_2 (y0 : List (List (ByteArray × (List Int)))) (y1 : List ByteArray) (y2 : Int) (y3 : List Int) (y4 : Bool) (y5 : Int) : List (Pl × LV) := [(.T 3, .t (.val false [.sl .any 25 (.sl 49 (.pair .str (.sl 3 (.int .i64)))) y0])), (.T 6, .t (.val false [.row 6 0 0])), (.R 6 0, .r 0 (some ⟨false, .non, true, 9, .str, y1⟩)), (.T 7, .t (.val false [.int .i64 y2])), (.T 8, .t (.val false [.row 8 0 0])), (.R 8 0, .r 0 (some ⟨false, .any, true, 3, (.int .i64), y3⟩)), (.T 9, .t (.val false [.bool y4])), (.T 10, .t (.val false [.int .i64 y5]))]
noncomputable def g_Sw_FnPlanLet_2 (y0 : List (List (ByteArray × (List Int)))) (y1 : List ByteArray) (y2 : Int) (y3 : List Int) (y4 : Bool) : (Int) → RT (Int) ((Bool) ⊕ (Unit))
 | y5 => .br (true) (.br (decide (y5 < (4 : Int))) (.br (decide ((0 : Int) ≤ (0 : Int) ∧ (0 : Int) < (↑(List.length y0) : Int))) (.br (g_Ai_PlcPlan (1 : Int) (at_ (Ty.sl (nat_lit 49) (Ty.pair Ty.str (Ty.sl (nat_lit 3) (Ty.int IntKind.i64)))) y0 (nat_lit 0)) (0 : Int) (2 : Int) y5 y2 (0 : Int) (0 : Int) (0 : Int) (0 : Int)) (.br (y4) (.br (decide ((0 : Int) ≤ (0 : Int) ∧ (0 : Int) < (↑(List.length y3) : Int))) (.br (decide (nat_lit 0 < List.length y3)) (.br (true) (.br (!g_Vi_PlcPlan_0 (1 : Int) (at_ (Ty.sl (nat_lit 49) (Ty.pair Ty.str (Ty.sl (nat_lit 3) (Ty.int IntKind.i64)))) y0 (nat_lit 0)) (0 : Int) (2 : Int) y5 y2 (0 : Int) (0 : Int) (0 : Int) (0 : Int) == (at_ (Ty.int IntKind.i64) y3 (nat_lit 0) == y5)) (.out (.inl false)) (.br (true) (.br ((↑(List.length (g_Vi_PlcPlan_2 (1 : Int) (at_ (Ty.sl (nat_lit 49) (Ty.pair Ty.str (Ty.sl (nat_lit 3) (Ty.int IntKind.i64)))) y0 (nat_lit 0)) (0 : Int) (2 : Int) y5 y2 (0 : Int) (0 : Int) (0 : Int) (0 : Int))) : Int) != (0 : Int)) (.out (.inl false)) (.br (decide ((0 : Int) ≤ y2 ∧ y2 < (↑(List.length y1) : Int))) (.br (decide (Int.toNat y2 < List.length y1)) (.br (decide (nat_lit 1 + ByteArray.size (at_ Ty.str y1 (Int.toNat y2)) ≤ nat_lit 9223372036854775807)) (.br (g_Aw_jaTexts (g_Vi_PlcPlan_1 (1 : Int) (at_ (Ty.sl (nat_lit 49) (Ty.pair Ty.str (Ty.sl (nat_lit 3) (Ty.int IntKind.i64)))) y0 (nat_lit 0)) (0 : Int) (2 : Int) y5 y2 (0 : Int) (0 : Int) (0 : Int) (0 : Int)) [lit [(115 : Nat)] ++ at_ Ty.str y1 (Int.toNat y2)]) (.br (!g_Vw_jaTexts_0 (g_Vi_PlcPlan_1 (1 : Int) (at_ (Ty.sl (nat_lit 49) (Ty.pair Ty.str (Ty.sl (nat_lit 3) (Ty.int IntKind.i64)))) y0 (nat_lit 0)) (0 : Int) (2 : Int) y5 y2 (0 : Int) (0 : Int) (0 : Int) (0 : Int)) [lit [(115 : Nat)] ++ at_ Ty.str y1 (Int.toNat y2)]) (.out (.inl false)) (.br (true) (.go (IntKind.wrap IntKind.i64 (y5 + (1 : Int)))) (.bad))) (.bad)) (.bad)) (.bad)) (.bad))) (.bad))) (.bad)) (.bad)) (.bad)) (.br (!g_Vi_PlcPlan_0 (1 : Int) (at_ (Ty.sl (nat_lit 49) (Ty.pair Ty.str (Ty.sl (nat_lit 3) (Ty.int IntKind.i64)))) y0 (nat_lit 0)) (0 : Int) (2 : Int) y5 y2 (0 : Int) (0 : Int) (0 : Int) (0 : Int) == false) (.out (.inl false)) (.br (true) (.br ((↑(List.length (g_Vi_PlcPlan_2 (1 : Int) (at_ (Ty.sl (nat_lit 49) (Ty.pair Ty.str (Ty.sl (nat_lit 3) (Ty.int IntKind.i64)))) y0 (nat_lit 0)) (0 : Int) (2 : Int) y5 y2 (0 : Int) (0 : Int) (0 : Int) (0 : Int))) : Int) != (0 : Int)) (.out (.inl false)) (.br (decide ((0 : Int) ≤ y2 ∧ y2 < (↑(List.length y1) : Int))) (.br (decide (Int.toNat y2 < List.length y1)) (.br (decide (nat_lit 1 + ByteArray.size (at_ Ty.str y1 (Int.toNat y2)) ≤ nat_lit 9223372036854775807)) (.br (g_Aw_jaTexts (g_Vi_PlcPlan_1 (1 : Int) (at_ (Ty.sl (nat_lit 49) (Ty.pair Ty.str (Ty.sl (nat_lit 3) (Ty.int IntKind.i64)))) y0 (nat_lit 0)) (0 : Int) (2 : Int) y5 y2 (0 : Int) (0 : Int) (0 : Int) (0 : Int)) [lit [(115 : Nat)] ++ at_ Ty.str y1 (Int.toNat y2)]) (.br (!g_Vw_jaTexts_0 (g_Vi_PlcPlan_1 (1 : Int) (at_ (Ty.sl (nat_lit 49) (Ty.pair Ty.str (Ty.sl (nat_lit 3) (Ty.int IntKind.i64)))) y0 (nat_lit 0)) (0 : Int) (2 : Int) y5 y2 (0 : Int) (0 : Int) (0 : Int) (0 : Int)) [lit [(115 : Nat)] ++ at_ Ty.str y1 (Int.toNat y2)]) (.out (.inl false)) (.br (true) (.go (IntKind.wrap IntKind.i64 (y5 + (1 : Int)))) (.bad))) (.bad)) (.bad)) (.bad)) (.bad))) (.bad)))) (.bad)) (.bad)) (.out (.inr (())))) (.bad)
noncomputable def g_Lw_FnPlanLet_2 (y0 : List (List (ByteArray × (List Int)))) (y1 : List ByteArray) (y2 : Int) (y3 : List Int) (y4 : Bool) (x : Int) : Option ((Bool) ⊕ (Unit)) := loopO (g_Sw_FnPlanLet_2 y0 y1 y2 y3 y4) x
noncomputable def xw_FnPlanLet_2 (y0 : List (List (ByteArray × (List Int)))) (y1 : List ByteArray) (y2 : Int) (y3 : List Int) (y4 : Bool) : ((Bool) ⊕ (Unit)) → Ex × List (Pl × LV) := fun
 | .inl r => (.ret, [(.T 2, .t (.val false [.bool r])), (.T 3, .t (.val false [.sl .any 25 (.sl 49 (.pair .str (.sl 3 (.int .i64)))) y0])), (.T 6, .t (.val false [.row 6 0 0])), (.R 6 0, .r 0 (some ⟨false, .non, true, 9, .str, y1⟩)), (.T 7, .t (.val false [.int .i64 y2]))])
 | .inr (r) => (.exit 2, [(.T 2, .t (.val false [.undef])), (.T 3, .t (.val false [.sl .any 25 (.sl 49 (.pair .str (.sl 3 (.int .i64)))) y0])), (.T 6, .t (.val false [.row 6 0 0])), (.R 6 0, .r 0 (some ⟨false, .non, true, 9, .str, y1⟩)), (.T 7, .t (.val false [.int .i64 y2]))])
noncomputable def Ow_FnPlanLet_1 : Orc := fun b h => match b, h with
 | 2, [(.T 3, .t (.val false [.sl .any 25 (.sl 49 (.pair .str (.sl 3 (.int .i64)))) y0])), (.T 6, .t (.val false [.row 6 0 0])), (.R 6 0, .r 0 (some ⟨false, .non, true, 9, .str, y1⟩)), (.T 7, .t (.val false [.int .i64 y2])), (.T 8, .t (.val false [.row 8 0 0])), (.R 8 0, .r 0 (some ⟨false, .any, true, 3, (.int .i64), y3⟩)), (.T 9, .t (.val false [.bool y4])), (.T 10, .t (.val false [.int .i64 y5]))] => some (okO (g_Lw_FnPlanLet_2 y0 y1 y2 y3 y4 y5), (.br (isL (valO (g_Lw_FnPlanLet_2 y0 y1 y2 y3 y4 y5))) (.leaf .ret [(.T 2, .t (.val false [.bool (getL (valO (g_Lw_FnPlanLet_2 y0 y1 y2 y3 y4 y5)))])), (.T 3, .t (.val false [.sl .any 25 (.sl 49 (.pair .str (.sl 3 (.int .i64)))) y0])), (.T 6, .t (.val false [.row 6 0 0])), (.R 6 0, .r 0 (some ⟨false, .non, true, 9, .str, y1⟩)), (.T 7, .t (.val false [.int .i64 y2]))]) (.leaf (.exit 2) [(.T 2, .t (.val false [.undef])), (.T 3, .t (.val false [.sl .any 25 (.sl 49 (.pair .str (.sl 3 (.int .i64)))) y0])), (.T 6, .t (.val false [.row 6 0 0])), (.R 6 0, .r 0 (some ⟨false, .non, true, 9, .str, y1⟩)), (.T 7, .t (.val false [.int .i64 y2]))])))
 | b, h => Ow_FnPlanLet_0 b h
theorem bw_FnPlanLet_2 (y0 : List (List (ByteArray × (List Int)))) (y1 : List ByteArray) (y2 : Int) (y3 : List Int) (y4 : Bool) (y5 : Int) : Tr.bt Ew_FnPlanLet Ow_FnPlanLet_0 (exec Ew_FnPlanLet 2 cw_FnPlanLet_2 (St.of (hw_FnPlanLet_2 y0 y1 y2 y3 y4 y5)) (leafRd Ew_FnPlanLet 2)) = (g_Sw_FnPlanLet_2 y0 y1 y2 y3 y4 y5).bt (fun (y5 : Int) => (hw_FnPlanLet_2 y0 y1 y2 y3 y4 y5)) (xw_FnPlanLet_2 y0 y1 y2 y3 y4) := by kernel_rfl
theorem kw_FnPlanLet_1 : OrcOk Ew_FnPlanLet Ow_FnPlanLet_1 lsw_FnPlanLet 1 := orc_add kw_FnPlanLet_0 (fun n p hp h ex h' ho => by
 obtain ⟨b, c⟩ := p
 obtain ⟨xt, h1, h2⟩ := ho
 have h1 : Ow_FnPlanLet_1 b h = some (true, xt) := h1
 unfold Ow_FnPlanLet_1 at h1
 split at h1
 ·injection h1 with h1
  injection h1 with e1 e2
  subst e2
  have hc : c = cw_FnPlanLet_2 := mw_FnPlanLet_2 _ hp rfl
  subst hc
  right
  rename_i y0 y1 y2 y3 y4 y5
  have key := LT_step kw_FnPlanLet_0 hp (fun q hq => loopsAll_in _ _ _ _ hp hq) (fun (y5 : Int) => (hw_FnPlanLet_2 y0 y1 y2 y3 y4 y5)) (xw_FnPlanLet_2 y0 y1 y2 y3 y4) (g_Sw_FnPlanLet_2 y0 y1 y2 y3 y4) (fun x => by first | exact bw_FnPlanLet_2 y0 y1 y2 y3 y4 x) n (x := y5) (okO_some e1)
  have hx : ∀ r, XT.sel (.br (isL r) (.leaf .ret [(.T 2, .t (.val false [.bool (getL r)])), (.T 3, .t (.val false [.sl .any 25 (.sl 49 (.pair .str (.sl 3 (.int .i64)))) y0])), (.T 6, .t (.val false [.row 6 0 0])), (.R 6 0, .r 0 (some ⟨false, .non, true, 9, .str, y1⟩)), (.T 7, .t (.val false [.int .i64 y2]))]) (.leaf (.exit 2) [(.T 2, .t (.val false [.undef])), (.T 3, .t (.val false [.sl .any 25 (.sl 49 (.pair .str (.sl 3 (.int .i64)))) y0])), (.T 6, .t (.val false [.row 6 0 0])), (.R 6 0, .r 0 (some ⟨false, .non, true, 9, .str, y1⟩)), (.T 7, .t (.val false [.int .i64 y2]))])) = xw_FnPlanLet_2 y0 y1 y2 y3 y4 r := fun r => by first | rfl | (rcases r with r | r <;> rfl) | (rcases r with r | r | r <;> rfl) | (rcases r with r | r | r | r <;> rfl)
  have h3 := (hx (valO (g_Lw_FnPlanLet_2 y0 y1 y2 y3 y4 y5))).symm.trans h2
  have e3 := congrArg Prod.fst h3
  have e4 := congrArg Prod.snd h3
  simp only at e3 e4
  rw [← e3, ← e4]
  exact key
 ·exact .inl ⟨xt, h1, h2⟩)
noncomputable def g_Sw_FnPlanLet_0 (y0 : List (List (ByteArray × (List Int)))) (y1 : List ByteArray) : (Int) → RT (Int) ((Bool) ⊕ (Unit))
 | y2 => .br (true) (.br (decide (y2 ≤ (9 : Int))) (.br (decide ((0 : Int) ≤ (0 : Int) ∧ (0 : Int) < (↑(List.length y0) : Int))) (.br (decide ((0 : Int) ≤ y2 ∧ y2 < (↑(List.length y1) : Int))) (.br (decide (Int.toNat y2 < List.length y1)) (.br (decide (nat_lit 1 + ByteArray.size (at_ Ty.str y1 (Int.toNat y2)) ≤ nat_lit 9223372036854775807)) (.br (g_Ai_StoGet (at_ (Ty.sl (nat_lit 49) (Ty.pair Ty.str (Ty.sl (nat_lit 3) (Ty.int IntKind.i64)))) y0 (nat_lit 0)) (lit [(115 : Nat)] ++ at_ Ty.str y1 (Int.toNat y2))) (.br (okO (g_Lw_FnPlanLet_2 y0 y1 y2 (g_Vi_StoGet_0 (at_ (Ty.sl (nat_lit 49) (Ty.pair Ty.str (Ty.sl (nat_lit 3) (Ty.int IntKind.i64)))) y0 (nat_lit 0)) (lit [(115 : Nat)] ++ at_ Ty.str y1 (Int.toNat y2))) (g_Vi_StoGet_1 (at_ (Ty.sl (nat_lit 49) (Ty.pair Ty.str (Ty.sl (nat_lit 3) (Ty.int IntKind.i64)))) y0 (nat_lit 0)) (lit [(115 : Nat)] ++ at_ Ty.str y1 (Int.toNat y2))) (0 : Int))) (.br (isL (valO (g_Lw_FnPlanLet_2 y0 y1 y2 (g_Vi_StoGet_0 (at_ (Ty.sl (nat_lit 49) (Ty.pair Ty.str (Ty.sl (nat_lit 3) (Ty.int IntKind.i64)))) y0 (nat_lit 0)) (lit [(115 : Nat)] ++ at_ Ty.str y1 (Int.toNat y2))) (g_Vi_StoGet_1 (at_ (Ty.sl (nat_lit 49) (Ty.pair Ty.str (Ty.sl (nat_lit 3) (Ty.int IntKind.i64)))) y0 (nat_lit 0)) (lit [(115 : Nat)] ++ at_ Ty.str y1 (Int.toNat y2))) (0 : Int)))) (.out (.inl (getL (valO (g_Lw_FnPlanLet_2 y0 y1 y2 (g_Vi_StoGet_0 (at_ (Ty.sl (nat_lit 49) (Ty.pair Ty.str (Ty.sl (nat_lit 3) (Ty.int IntKind.i64)))) y0 (nat_lit 0)) (lit [(115 : Nat)] ++ at_ Ty.str y1 (Int.toNat y2))) (g_Vi_StoGet_1 (at_ (Ty.sl (nat_lit 49) (Ty.pair Ty.str (Ty.sl (nat_lit 3) (Ty.int IntKind.i64)))) y0 (nat_lit 0)) (lit [(115 : Nat)] ++ at_ Ty.str y1 (Int.toNat y2))) (0 : Int)))))) (.br (true) (.go (IntKind.wrap IntKind.i64 (y2 + (1 : Int)))) (.bad))) (.bad)) (.bad)) (.bad)) (.bad)) (.bad)) (.bad)) (.out (.inr (())))) (.bad)
noncomputable def g_Lw_FnPlanLet_0 (y0 : List (List (ByteArray × (List Int)))) (y1 : List ByteArray) (x : Int) : Option ((Bool) ⊕ (Unit)) := loopO (g_Sw_FnPlanLet_0 y0 y1) x
noncomputable def xw_FnPlanLet_0 (y0 : List (List (ByteArray × (List Int)))) (y1 : List ByteArray) : ((Bool) ⊕ (Unit)) → Ex × List (Pl × LV) := fun
 | .inl r => (.ret, [(.T 2, .t (.val false [.bool r]))])
 | .inr (r) => (.exit 0, [(.T 2, .t (.val false [.undef]))])
noncomputable def Ow_FnPlanLet_2 : Orc := fun b h => match b, h with
 | 0, [(.T 3, .t (.val false [.sl .any 25 (.sl 49 (.pair .str (.sl 3 (.int .i64)))) y0])), (.T 6, .t (.val false [.row 6 0 0])), (.R 6 0, .r 0 (some ⟨false, .non, true, 9, .str, y1⟩)), (.T 7, .t (.val false [.int .i64 y2]))] => some (okO (g_Lw_FnPlanLet_0 y0 y1 y2), (.br (isL (valO (g_Lw_FnPlanLet_0 y0 y1 y2))) (.leaf .ret [(.T 2, .t (.val false [.bool (getL (valO (g_Lw_FnPlanLet_0 y0 y1 y2)))]))]) (.leaf (.exit 0) [(.T 2, .t (.val false [.undef]))])))
 | b, h => Ow_FnPlanLet_1 b h
theorem bw_FnPlanLet_0 (y0 : List (List (ByteArray × (List Int)))) (y1 : List ByteArray) (y2 : Int) : Tr.bt Ew_FnPlanLet Ow_FnPlanLet_1 (exec Ew_FnPlanLet 0 cw_FnPlanLet_0 (St.of (hw_FnPlanLet_0 y0 y1 y2)) (leafRd Ew_FnPlanLet 0)) = (g_Sw_FnPlanLet_0 y0 y1 y2).bt (fun (y2 : Int) => (hw_FnPlanLet_0 y0 y1 y2)) (xw_FnPlanLet_0 y0 y1) := by kernel_rfl
theorem kw_FnPlanLet_2 : OrcOk Ew_FnPlanLet Ow_FnPlanLet_2 lsw_FnPlanLet 2 := orc_add kw_FnPlanLet_1 (fun n p hp h ex h' ho => by
 obtain ⟨b, c⟩ := p
 obtain ⟨xt, h1, h2⟩ := ho
 have h1 : Ow_FnPlanLet_2 b h = some (true, xt) := h1
 unfold Ow_FnPlanLet_2 at h1
 split at h1
 ·injection h1 with h1
  injection h1 with e1 e2
  subst e2
  have hc : c = cw_FnPlanLet_0 := mw_FnPlanLet_0 _ hp rfl
  subst hc
  right
  rename_i y0 y1 y2
  have key := LT_step kw_FnPlanLet_1 hp (fun q hq => loopsAll_in _ _ _ _ hp hq) (fun (y2 : Int) => (hw_FnPlanLet_0 y0 y1 y2)) (xw_FnPlanLet_0 y0 y1) (g_Sw_FnPlanLet_0 y0 y1) (fun x => by first | exact bw_FnPlanLet_0 y0 y1 x) n (x := y2) (okO_some e1)
  have hx : ∀ r, XT.sel (.br (isL r) (.leaf .ret [(.T 2, .t (.val false [.bool (getL r)]))]) (.leaf (.exit 0) [(.T 2, .t (.val false [.undef]))])) = xw_FnPlanLet_0 y0 y1 r := fun r => by first | rfl | (rcases r with r | r <;> rfl) | (rcases r with r | r | r <;> rfl) | (rcases r with r | r | r | r <;> rfl)
  have h3 := (hx (valO (g_Lw_FnPlanLet_0 y0 y1 y2))).symm.trans h2
  have e3 := congrArg Prod.fst h3
  have e4 := congrArg Prod.snd h3
  simp only at e3 e4
  rw [← e3, ← e4]
  exact key
 ·exact .inl ⟨xt, h1, h2⟩)
noncomputable def g_Aw_FnPlanLet (a0 : List Int) : Bool := decide ((↑(List.length a0) : Int) > (1048576 : Int)) || g_As_DrawGloDo a0 && (g_As_GloOk (g_Vs_DrawGloDo_0 a0) && bif !g_Vs_GloOk_0 (g_Vs_DrawGloDo_0 a0) then g_Ai_GloOk (g_Vs_DrawGloDo_0 a0) && (g_As_GloOk (g_Vs_DrawGloDo_0 a0) && (!g_Vi_GloOk_0 (g_Vs_DrawGloDo_0 a0) == g_Vs_GloOk_0 (g_Vs_DrawGloDo_0 a0) || g_Aw_jaOk)) else okO (g_Lw_FnPlanLet_0 (g_Vs_DrawGloDo_0 a0) [lit [(48 : Nat)], lit [(49 : Nat)], lit [(50 : Nat)], lit [(51 : Nat)], lit [(52 : Nat)], lit [(53 : Nat)], lit [(54 : Nat)], lit [(55 : Nat)], lit [(56 : Nat)], lit [(57 : Nat)]] (0 : Int)) && (isL (valO (g_Lw_FnPlanLet_0 (g_Vs_DrawGloDo_0 a0) [lit [(48 : Nat)], lit [(49 : Nat)], lit [(50 : Nat)], lit [(51 : Nat)], lit [(52 : Nat)], lit [(53 : Nat)], lit [(54 : Nat)], lit [(55 : Nat)], lit [(56 : Nat)], lit [(57 : Nat)]] (0 : Int))) || g_Aw_jaOk))
noncomputable def g_Vw_FnPlanLet_0 (a0 : List Int) : Bool := bif decide ((↑(List.length a0) : Int) > (1048576 : Int)) then true else bif !g_Vs_GloOk_0 (g_Vs_DrawGloDo_0 a0) then bif g_Vi_GloOk_0 (g_Vs_DrawGloDo_0 a0) == g_Vs_GloOk_0 (g_Vs_DrawGloDo_0 a0) then g_Vw_jaOk_0 else false else bif isL (valO (g_Lw_FnPlanLet_0 (g_Vs_DrawGloDo_0 a0) [lit [(48 : Nat)], lit [(49 : Nat)], lit [(50 : Nat)], lit [(51 : Nat)], lit [(52 : Nat)], lit [(53 : Nat)], lit [(54 : Nat)], lit [(55 : Nat)], lit [(56 : Nat)], lit [(57 : Nat)]] (0 : Int))) then getL (valO (g_Lw_FnPlanLet_0 (g_Vs_DrawGloDo_0 a0) [lit [(48 : Nat)], lit [(49 : Nat)], lit [(50 : Nat)], lit [(51 : Nat)], lit [(52 : Nat)], lit [(53 : Nat)], lit [(54 : Nat)], lit [(55 : Nat)], lit [(56 : Nat)], lit [(57 : Nat)]] (0 : Int))) else g_Vw_jaOk_0
noncomputable def Fw_FnPlanLet : FSem := fun ys => match ys with
 | [.val false [.sl .any 5 (.int .u8) a0]] => some ((g_Aw_FnPlanLet a0), .val false [.bool (g_Vw_FnPlanLet_0 a0)], [])
 | _ => none
theorem vw_FnPlanLet (a0 : List Int) : collapseH .std Ew_FnPlanLet Ow_FnPlanLet_2 (execFn Ew_FnPlanLet Tryz.f4 msw_FnPlanLet [.val false [.sl .any 5 (.int .u8) a0]]) = some ((g_Aw_FnPlanLet a0), .val false [.bool (g_Vw_FnPlanLet_0 a0)], []) := by kernel_rfl
theorem sw_FnPlanLet : Sound Tryz.prog 4 msw_FnPlanLet Fw_FnPlanLet := by
 refine fn_gen goodw_FnPlanLet (by kernel_rfl) .std (fn := Tryz.f4) (c := (Tryz.f4.body.getD .skip)) (o := Ow_FnPlanLet_2) (k := 2) (by kernel_rfl) (by kernel_rfl) (by kernel_rfl) (by kernel_rfl) (by decide) kw_FnPlanLet_2 ?_
 intro ys r outs h
 unfold Fw_FnPlanLet at h
 split at h
 ·exact (vw_FnPlanLet _).trans h
 ·cases h
end Go.Proofs.YtjoggjjjlafdmaaGreatDoor.E
