/- What the functions that are reached do, by the engine: for the proof (laws.FnGloOk): part 2. No conditions. -/
import Derived.Test.YtnbcdkbjmpadmaaDoorGa
import Derived.Test.YtnbcdkbjmpadmaaDoorProg
import Derived.Test.YtnbcdkbjmpadmaaDoorShelf
set_option linter.all false
section
namespace Go.Proofs.YtnbcdkbjmpadmaaDoor.E
open Go
set_option maxRecDepth 100000
set_option maxHeartbeats 0
set_option linter.all false
noncomputable def Es_l3In : Env where
  tt := mkTI Go.Proofs.Tryd.prog
  fn := fun f => match f with
    | 62 => some (mss_l1Get, FSem.wk mss_l1Get Fs_l1Get)
    | 63 => some (mss_l3No, FSem.wk mss_l3No Fs_l3No)
    | 68 => some (mss_l3Digit, FSem.wk mss_l3Digit Fs_l3Digit)
    | _ => none
  bxf := fun _ => none
  mv := []
  keep := fun _ => []
  keepB := fun _ => []
  keepX := fun _ => []
  keepXB := fun _ => []
theorem goodFs_l3In : ∀ f ms F, Es_l3In.fn f = some (ms, F) → Sound Go.Proofs.Tryd.prog f ms F := fun f ms F h => by
  unfold Es_l3In at h
  dsimp only at h
  split at h
  · injection h with h; injection h with e1 e2; subst e1 e2; exact Sound.wk ss_l1Get
  · injection h with h; injection h with e1 e2; subst e1 e2; exact Sound.wk ss_l3No
  · injection h with h; injection h with e1 e2; subst e1 e2; exact Sound.wk ss_l3Digit
  · cases h
theorem goodBs_l3In : ∀ f ms F, Es_l3In.bxf f = some (ms, F) → SoundB Go.Proofs.Tryd.prog f ms F := fun f ms F h => by cases h
theorem goods_l3In : Good Go.Proofs.Tryd.prog Es_l3In := ⟨rfl, goodFs_l3In, goodBs_l3In⟩
noncomputable def Os_l3In_0 : Orc := fun _ _ => none
noncomputable def mss_l3In : List PM := [.rd, .own]
noncomputable def lss_l3In : List (Nat × Code) := loopsAll 0 (Go.Proofs.Tryd.f59.body.getD .skip)

theorem ks_l3In_0 : OrcOk Es_l3In Os_l3In_0 lss_l3In 0 := orcOk_none
noncomputable def g_As_l3In (a0 : List ((ByteArray) × (List (Int)))) (a1 : Int) (a2 : Int) (a3 : Int) (a4 : Int) (a5 : Int) (a6 : Int) (a7 : Int) : Bool := decide (nat_lit 1 + ByteArray.size (g_Vs_l3Digit_0 a3) ≤ nat_lit 9223372036854775807) && (g_As_l1Get a0 (lit [(115 : Nat)] ++ g_Vs_l3Digit_0 a3) && bif a1 == (1 : Int) then !g_Vs_l1Get_1 a0 (lit [(115 : Nat)] ++ g_Vs_l3Digit_0 a3) || g_As_l3No [lit [(115 : Nat)] ++ g_Vs_l3Digit_0 a3] else bif a1 == (5 : Int) then bif !g_Vs_l1Get_1 a0 (lit [(115 : Nat)] ++ g_Vs_l3Digit_0 a3) then g_As_l3No [lit [(115 : Nat)] ++ g_Vs_l3Digit_0 a3] else decide ((0 : Int) ≤ (0 : Int) ∧ (0 : Int) < (↑(List.length (g_Vs_l1Get_0 a0 (lit [(115 : Nat)] ++ g_Vs_l3Digit_0 a3))) : Int)) && (decide (nat_lit 0 < List.length (g_Vs_l1Get_0 a0 (lit [(115 : Nat)] ++ g_Vs_l3Digit_0 a3))) && (!at_ (Ty.int IntKind.i64) (g_Vs_l1Get_0 a0 (lit [(115 : Nat)] ++ g_Vs_l3Digit_0 a3)) (nat_lit 0) != a2 || g_As_l3No [lit [(115 : Nat)] ++ g_Vs_l3Digit_0 a3])) else bif !g_Vs_l1Get_1 a0 (lit [(115 : Nat)] ++ g_Vs_l3Digit_0 a3) then g_As_l3No [lit [(115 : Nat)] ++ g_Vs_l3Digit_0 a3] else decide ((0 : Int) ≤ (0 : Int) ∧ (0 : Int) < (↑(List.length (g_Vs_l1Get_0 a0 (lit [(115 : Nat)] ++ g_Vs_l3Digit_0 a3))) : Int)) && (decide (nat_lit 0 < List.length (g_Vs_l1Get_0 a0 (lit [(115 : Nat)] ++ g_Vs_l3Digit_0 a3))) && (!at_ (Ty.int IntKind.i64) (g_Vs_l1Get_0 a0 (lit [(115 : Nat)] ++ g_Vs_l3Digit_0 a3)) (nat_lit 0) != a2 || g_As_l3No [lit [(115 : Nat)] ++ g_Vs_l3Digit_0 a3])))
noncomputable def g_Vs_l3In_0 (a0 : List ((ByteArray) × (List (Int)))) (a1 : Int) (a2 : Int) (a3 : Int) (a4 : Int) (a5 : Int) (a6 : Int) (a7 : Int) : Bool := bif a1 == (1 : Int) then bif g_Vs_l1Get_1 a0 (lit [(115 : Nat)] ++ g_Vs_l3Digit_0 a3) then false else true else bif a1 == (5 : Int) then bif !g_Vs_l1Get_1 a0 (lit [(115 : Nat)] ++ g_Vs_l3Digit_0 a3) then false else bif at_ (Ty.int IntKind.i64) (g_Vs_l1Get_0 a0 (lit [(115 : Nat)] ++ g_Vs_l3Digit_0 a3)) (nat_lit 0) != a2 then false else true else bif !g_Vs_l1Get_1 a0 (lit [(115 : Nat)] ++ g_Vs_l3Digit_0 a3) then false else bif at_ (Ty.int IntKind.i64) (g_Vs_l1Get_0 a0 (lit [(115 : Nat)] ++ g_Vs_l3Digit_0 a3)) (nat_lit 0) != a2 then false else true
noncomputable def g_Vs_l3In_1 (a0 : List ((ByteArray) × (List (Int)))) (a1 : Int) (a2 : Int) (a3 : Int) (a4 : Int) (a5 : Int) (a6 : Int) (a7 : Int) : List (ByteArray) := bif a1 == (1 : Int) then bif g_Vs_l1Get_1 a0 (lit [(115 : Nat)] ++ g_Vs_l3Digit_0 a3) then g_Vs_l3No_0 [lit [(115 : Nat)] ++ g_Vs_l3Digit_0 a3] else [lit [(115 : Nat)] ++ g_Vs_l3Digit_0 a3] else bif a1 == (5 : Int) then bif !g_Vs_l1Get_1 a0 (lit [(115 : Nat)] ++ g_Vs_l3Digit_0 a3) then g_Vs_l3No_0 [lit [(115 : Nat)] ++ g_Vs_l3Digit_0 a3] else bif at_ (Ty.int IntKind.i64) (g_Vs_l1Get_0 a0 (lit [(115 : Nat)] ++ g_Vs_l3Digit_0 a3)) (nat_lit 0) != a2 then g_Vs_l3No_0 [lit [(115 : Nat)] ++ g_Vs_l3Digit_0 a3] else [lit [(115 : Nat)] ++ g_Vs_l3Digit_0 a3] else bif !g_Vs_l1Get_1 a0 (lit [(115 : Nat)] ++ g_Vs_l3Digit_0 a3) then g_Vs_l3No_0 [lit [(115 : Nat)] ++ g_Vs_l3Digit_0 a3] else bif at_ (Ty.int IntKind.i64) (g_Vs_l1Get_0 a0 (lit [(115 : Nat)] ++ g_Vs_l3Digit_0 a3)) (nat_lit 0) != a2 then g_Vs_l3No_0 [lit [(115 : Nat)] ++ g_Vs_l3Digit_0 a3] else [lit [(115 : Nat)] ++ g_Vs_l3Digit_0 a3]
noncomputable def g_Vs_l3In_2 (a0 : List ((ByteArray) × (List (Int)))) (a1 : Int) (a2 : Int) (a3 : Int) (a4 : Int) (a5 : Int) (a6 : Int) (a7 : Int) : List ((ByteArray) × ((Bool) × (List (Int)))) := bif a1 == (1 : Int) then bif g_Vs_l1Get_1 a0 (lit [(115 : Nat)] ++ g_Vs_l3Digit_0 a3) then g_Vs_l3No_1 [lit [(115 : Nat)] ++ g_Vs_l3Digit_0 a3] else [(lit [(115 : Nat)] ++ g_Vs_l3Digit_0 a3, false, [a2])] else bif a1 == (5 : Int) then bif !g_Vs_l1Get_1 a0 (lit [(115 : Nat)] ++ g_Vs_l3Digit_0 a3) then g_Vs_l3No_1 [lit [(115 : Nat)] ++ g_Vs_l3Digit_0 a3] else bif at_ (Ty.int IntKind.i64) (g_Vs_l1Get_0 a0 (lit [(115 : Nat)] ++ g_Vs_l3Digit_0 a3)) (nat_lit 0) != a2 then g_Vs_l3No_1 [lit [(115 : Nat)] ++ g_Vs_l3Digit_0 a3] else [(lit [(115 : Nat)] ++ g_Vs_l3Digit_0 a3, true, [])] else bif !g_Vs_l1Get_1 a0 (lit [(115 : Nat)] ++ g_Vs_l3Digit_0 a3) then g_Vs_l3No_1 [lit [(115 : Nat)] ++ g_Vs_l3Digit_0 a3] else bif at_ (Ty.int IntKind.i64) (g_Vs_l1Get_0 a0 (lit [(115 : Nat)] ++ g_Vs_l3Digit_0 a3)) (nat_lit 0) != a2 then g_Vs_l3No_1 [lit [(115 : Nat)] ++ g_Vs_l3Digit_0 a3] else []
noncomputable def Fs_l3In : FSem := fun ys => match ys with
  | [.val true [.sl .any 42 (.pair .str (.sl 3 (.int .i64))) a0], .val true [.int .i64 a1, .int .i64 a2, .int .i64 a3, .int .i64 a4, .int .i64 a5, .int .i64 a6, .int .i64 a7]] => some ((g_As_l3In a0 a1 a2 a3 a4 a5 a6 a7), .val true [.bool (g_Vs_l3In_0 a0 a1 a2 a3 a4 a5 a6 a7), .own .any true 9 .str (g_Vs_l3In_1 a0 a1 a2 a3 a4 a5 a6 a7), .own .any true 68 (.pair .str (.pair .bool (.sl 3 (.int .i64)))) (g_Vs_l3In_2 a0 a1 a2 a3 a4 a5 a6 a7)], [])
  | _ => none
theorem vs_l3In (a0 : List ((ByteArray) × (List (Int)))) (a1 : Int) (a2 : Int) (a3 : Int) (a4 : Int) (a5 : Int) (a6 : Int) (a7 : Int) : collapseH .std Es_l3In Os_l3In_0 (execFn Es_l3In Go.Proofs.Tryd.f59 mss_l3In [.val true [.sl .any 42 (.pair .str (.sl 3 (.int .i64))) a0], .val true [.int .i64 a1, .int .i64 a2, .int .i64 a3, .int .i64 a4, .int .i64 a5, .int .i64 a6, .int .i64 a7]]) = some ((g_As_l3In a0 a1 a2 a3 a4 a5 a6 a7), .val true [.bool (g_Vs_l3In_0 a0 a1 a2 a3 a4 a5 a6 a7), .own .any true 9 .str (g_Vs_l3In_1 a0 a1 a2 a3 a4 a5 a6 a7), .own .any true 68 (.pair .str (.pair .bool (.sl 3 (.int .i64)))) (g_Vs_l3In_2 a0 a1 a2 a3 a4 a5 a6 a7)], []) := by kernel_rfl
theorem ss_l3In : Sound Go.Proofs.Tryd.prog 59 mss_l3In Fs_l3In := by
  refine fn_gen goods_l3In (by kernel_rfl) .std (fn := Go.Proofs.Tryd.f59) (c := (Go.Proofs.Tryd.f59.body.getD .skip)) (o := Os_l3In_0) (k := 0) (by kernel_rfl) (by kernel_rfl) (by kernel_rfl) (by kernel_rfl) (by decide) ks_l3In_0 ?_
  intro ys r outs h
  unfold Fs_l3In at h
  split at h
  · exact (vs_l3In _ _ _ _ _ _ _ _).trans h
  · cases h
end Go.Proofs.YtnbcdkbjmpadmaaDoor.E
end
section
namespace Go.Proofs.YtnbcdkbjmpadmaaDoor.E
open Go
set_option maxRecDepth 100000
set_option maxHeartbeats 0
set_option linter.all false
noncomputable def Es_SecSum : Env where
  tt := mkTI Go.Proofs.Tryd.prog
  fn := fun f => match f with
    | 28 => some (mss_l1In, FSem.wk mss_l1In Fs_l1In)
    | _ => none
  bxf := fun _ => none
  mv := []
  keep := fun _ => []
  keepB := fun _ => []
  keepX := fun _ => []
  keepXB := fun _ => []
theorem goodFs_SecSum : ∀ f ms F, Es_SecSum.fn f = some (ms, F) → Sound Go.Proofs.Tryd.prog f ms F := fun f ms F h => by
  unfold Es_SecSum at h
  dsimp only at h
  split at h
  · injection h with h; injection h with e1 e2; subst e1 e2; exact Sound.wk ss_l1In
  · cases h
theorem goodBs_SecSum : ∀ f ms F, Es_SecSum.bxf f = some (ms, F) → SoundB Go.Proofs.Tryd.prog f ms F := fun f ms F h => by cases h
theorem goods_SecSum : Good Go.Proofs.Tryd.prog Es_SecSum := ⟨rfl, goodFs_SecSum, goodBs_SecSum⟩
noncomputable def Os_SecSum_0 : Orc := fun _ _ => none
noncomputable def mss_SecSum : List PM := [.own]
noncomputable def lss_SecSum : List (Nat × Code) := loopsAll 0 (Go.Proofs.Tryd.f69.body.getD .skip)

theorem ks_SecSum_0 : OrcOk Es_SecSum Os_SecSum_0 lss_SecSum 0 := orcOk_none
noncomputable def g_As_SecSum (a0 : Int) : Bool := g_As_l1In a0 (0 : Int) (99 : Int) && (!g_Vs_l1In_0 a0 (0 : Int) (99 : Int) || true)
noncomputable def g_Vs_SecSum_0 (a0 : Int) : Int := bif !g_Vs_l1In_0 a0 (0 : Int) (99 : Int) then (-1 : Int) else Int.tmod (IntKind.wrap IntKind.i64 (IntKind.wrap IntKind.i64 (a0 * (7919 : Int)) + (104 : Int))) (9973 : Int)
noncomputable def Fs_SecSum : FSem := fun ys => match ys with
  | [.val false [.int .i64 a0]] => some ((g_As_SecSum a0), .val false [.int .i64 (g_Vs_SecSum_0 a0)], [])
  | _ => none
theorem vs_SecSum (a0 : Int) : collapseH .std Es_SecSum Os_SecSum_0 (execFn Es_SecSum Go.Proofs.Tryd.f69 mss_SecSum [.val false [.int .i64 a0]]) = some ((g_As_SecSum a0), .val false [.int .i64 (g_Vs_SecSum_0 a0)], []) := by kernel_rfl
theorem ss_SecSum : Sound Go.Proofs.Tryd.prog 69 mss_SecSum Fs_SecSum := by
  refine fn_gen goods_SecSum (by kernel_rfl) .std (fn := Go.Proofs.Tryd.f69) (c := (Go.Proofs.Tryd.f69.body.getD .skip)) (o := Os_SecSum_0) (k := 0) (by kernel_rfl) (by kernel_rfl) (by kernel_rfl) (by kernel_rfl) (by decide) ks_SecSum_0 ?_
  intro ys r outs h
  unfold Fs_SecSum at h
  split at h
  · exact (vs_SecSum _).trans h
  · cases h
end Go.Proofs.YtnbcdkbjmpadmaaDoor.E
end
section
namespace Go.Proofs.YtnbcdkbjmpadmaaDoor.E
open Go
set_option maxRecDepth 100000
set_option maxHeartbeats 0
set_option linter.all false
noncomputable def Es_l3Next : Env where
  tt := mkTI Go.Proofs.Tryd.prog
  fn := fun f => match f with
    | 62 => some (mss_l1Get, FSem.wk mss_l1Get Fs_l1Get)
    | 63 => some (mss_l3No, FSem.wk mss_l3No Fs_l3No)
    | 68 => some (mss_l3Digit, FSem.wk mss_l3Digit Fs_l3Digit)
    | _ => none
  bxf := fun _ => none
  mv := []
  keep := fun _ => []
  keepB := fun _ => []
  keepX := fun _ => []
  keepXB := fun _ => []
theorem goodFs_l3Next : ∀ f ms F, Es_l3Next.fn f = some (ms, F) → Sound Go.Proofs.Tryd.prog f ms F := fun f ms F h => by
  unfold Es_l3Next at h
  dsimp only at h
  split at h
  · injection h with h; injection h with e1 e2; subst e1 e2; exact Sound.wk ss_l1Get
  · injection h with h; injection h with e1 e2; subst e1 e2; exact Sound.wk ss_l3No
  · injection h with h; injection h with e1 e2; subst e1 e2; exact Sound.wk ss_l3Digit
  · cases h
theorem goodBs_l3Next : ∀ f ms F, Es_l3Next.bxf f = some (ms, F) → SoundB Go.Proofs.Tryd.prog f ms F := fun f ms F h => by cases h
theorem goods_l3Next : Good Go.Proofs.Tryd.prog Es_l3Next := ⟨rfl, goodFs_l3Next, goodBs_l3Next⟩
noncomputable def Os_l3Next_0 : Orc := fun _ _ => none
noncomputable def mss_l3Next : List PM := [.rd, .own]
noncomputable def lss_l3Next : List (Nat × Code) := loopsAll 0 (Go.Proofs.Tryd.f71.body.getD .skip)

theorem ks_l3Next_0 : OrcOk Es_l3Next Os_l3Next_0 lss_l3Next 0 := orcOk_none
noncomputable def g_As_l3Next (a0 : List ((ByteArray) × (List (Int)))) (a1 : Int) (a2 : Int) (a3 : Int) (a4 : Int) (a5 : Int) (a6 : Int) (a7 : Int) : Bool := decide (nat_lit 1 + ByteArray.size (g_Vs_l3Digit_0 a6) ≤ nat_lit 9223372036854775807) && (g_As_l1Get a0 (lit [(102 : Nat)] ++ g_Vs_l3Digit_0 a6) && bif !g_Vs_l1Get_1 a0 (lit [(102 : Nat)] ++ g_Vs_l3Digit_0 a6) then g_As_l3No [lit [(102 : Nat)] ++ g_Vs_l3Digit_0 a6] else decide ((0 : Int) ≤ (2 : Int) ∧ (2 : Int) < (↑(List.length (g_Vs_l1Get_0 a0 (lit [(102 : Nat)] ++ g_Vs_l3Digit_0 a6))) : Int)) && (decide (nat_lit 2 < List.length (g_Vs_l1Get_0 a0 (lit [(102 : Nat)] ++ g_Vs_l3Digit_0 a6))) && bif at_ (Ty.int IntKind.i64) (g_Vs_l1Get_0 a0 (lit [(102 : Nat)] ++ g_Vs_l3Digit_0 a6)) (nat_lit 2) == (0 : Int) then g_As_l3No [lit [(102 : Nat)] ++ g_Vs_l3Digit_0 a6] else decide ((0 : Int) ≤ (1 : Int) ∧ (1 : Int) < (↑(List.length (g_Vs_l1Get_0 a0 (lit [(102 : Nat)] ++ g_Vs_l3Digit_0 a6))) : Int)) && (decide (nat_lit 1 < List.length (g_Vs_l1Get_0 a0 (lit [(102 : Nat)] ++ g_Vs_l3Digit_0 a6))) && bif decide (a7 > at_ (Ty.int IntKind.i64) (g_Vs_l1Get_0 a0 (lit [(102 : Nat)] ++ g_Vs_l3Digit_0 a6)) (nat_lit 1)) then g_As_l3No [lit [(102 : Nat)] ++ g_Vs_l3Digit_0 a6] else bif a7 == (0 : Int) then g_As_l3No [lit [(102 : Nat)] ++ g_Vs_l3Digit_0 a6] else decide ((0 : Int) ≤ (1 : Int) ∧ (1 : Int) < (↑(List.length (g_Vs_l1Get_0 a0 (lit [(102 : Nat)] ++ g_Vs_l3Digit_0 a6))) : Int)) && (decide (nat_lit 1 < List.length (g_Vs_l1Get_0 a0 (lit [(102 : Nat)] ++ g_Vs_l3Digit_0 a6))) && bif at_ (Ty.int IntKind.i64) (g_Vs_l1Get_0 a0 (lit [(102 : Nat)] ++ g_Vs_l3Digit_0 a6)) (nat_lit 1) == (99 : Int) then g_As_l3No [lit [(102 : Nat)] ++ g_Vs_l3Digit_0 a6] else decide ((0 : Int) ≤ (0 : Int) ∧ (0 : Int) < (↑(List.length (g_Vs_l1Get_0 a0 (lit [(102 : Nat)] ++ g_Vs_l3Digit_0 a6))) : Int)) && (decide (nat_lit 0 < List.length (g_Vs_l1Get_0 a0 (lit [(102 : Nat)] ++ g_Vs_l3Digit_0 a6))) && (decide ((0 : Int) ≤ (1 : Int) ∧ (1 : Int) < (↑(List.length (g_Vs_l1Get_0 a0 (lit [(102 : Nat)] ++ g_Vs_l3Digit_0 a6))) : Int)) && (decide (nat_lit 1 < List.length (g_Vs_l1Get_0 a0 (lit [(102 : Nat)] ++ g_Vs_l3Digit_0 a6))) && (decide ((0 : Int) ≤ (1 : Int) ∧ (1 : Int) < (↑(List.length (g_Vs_l1Get_0 a0 (lit [(102 : Nat)] ++ g_Vs_l3Digit_0 a6))) : Int)) && (decide (nat_lit 1 < List.length (g_Vs_l1Get_0 a0 (lit [(102 : Nat)] ++ g_Vs_l3Digit_0 a6))) && bif decide (a7 < at_ (Ty.int IntKind.i64) (g_Vs_l1Get_0 a0 (lit [(102 : Nat)] ++ g_Vs_l3Digit_0 a6)) (nat_lit 1)) then decide ((0 : Int) ≤ (0 : Int) ∧ (0 : Int) < (↑(List.length (g_Vs_l1Get_0 a0 (lit [(102 : Nat)] ++ g_Vs_l3Digit_0 a6))) : Int)) && (decide (nat_lit 0 < List.length (g_Vs_l1Get_0 a0 (lit [(102 : Nat)] ++ g_Vs_l3Digit_0 a6))) && (decide ((0 : Int) ≤ (1 : Int) ∧ (1 : Int) < (↑(List.length (g_Vs_l1Get_0 a0 (lit [(102 : Nat)] ++ g_Vs_l3Digit_0 a6))) : Int)) && (decide (nat_lit 1 < List.length (g_Vs_l1Get_0 a0 (lit [(102 : Nat)] ++ g_Vs_l3Digit_0 a6))) && (decide ((0 : Int) ≤ (0 : Int) ∧ (0 : Int) < (↑(List.length (g_Vs_l1Get_0 a0 (lit [(102 : Nat)] ++ g_Vs_l3Digit_0 a6))) : Int)) && (decide (nat_lit 0 < List.length (g_Vs_l1Get_0 a0 (lit [(102 : Nat)] ++ g_Vs_l3Digit_0 a6))) && decide (nat_lit 1 + ByteArray.size (g_Vs_l3Digit_0 (at_ (Ty.int IntKind.i64) (g_Vs_l1Get_0 a0 (lit [(102 : Nat)] ++ g_Vs_l3Digit_0 a6)) (nat_lit 0))) ≤ nat_lit 9223372036854775807)))))) else decide ((0 : Int) ≤ (0 : Int) ∧ (0 : Int) < (↑(List.length (g_Vs_l1Get_0 a0 (lit [(102 : Nat)] ++ g_Vs_l3Digit_0 a6))) : Int)) && (decide (nat_lit 0 < List.length (g_Vs_l1Get_0 a0 (lit [(102 : Nat)] ++ g_Vs_l3Digit_0 a6))) && decide (nat_lit 1 + ByteArray.size (g_Vs_l3Digit_0 (at_ (Ty.int IntKind.i64) (g_Vs_l1Get_0 a0 (lit [(102 : Nat)] ++ g_Vs_l3Digit_0 a6)) (nat_lit 0))) ≤ nat_lit 9223372036854775807)))))))))))
noncomputable def g_Vs_l3Next_0 (a0 : List ((ByteArray) × (List (Int)))) (a1 : Int) (a2 : Int) (a3 : Int) (a4 : Int) (a5 : Int) (a6 : Int) (a7 : Int) : Bool := bif !g_Vs_l1Get_1 a0 (lit [(102 : Nat)] ++ g_Vs_l3Digit_0 a6) then false else bif at_ (Ty.int IntKind.i64) (g_Vs_l1Get_0 a0 (lit [(102 : Nat)] ++ g_Vs_l3Digit_0 a6)) (nat_lit 2) == (0 : Int) then false else bif decide (a7 > at_ (Ty.int IntKind.i64) (g_Vs_l1Get_0 a0 (lit [(102 : Nat)] ++ g_Vs_l3Digit_0 a6)) (nat_lit 1)) then false else bif a7 == (0 : Int) then false else bif at_ (Ty.int IntKind.i64) (g_Vs_l1Get_0 a0 (lit [(102 : Nat)] ++ g_Vs_l3Digit_0 a6)) (nat_lit 1) == (99 : Int) then false else bif decide (a7 < at_ (Ty.int IntKind.i64) (g_Vs_l1Get_0 a0 (lit [(102 : Nat)] ++ g_Vs_l3Digit_0 a6)) (nat_lit 1)) then true else true
noncomputable def g_Vs_l3Next_1 (a0 : List ((ByteArray) × (List (Int)))) (a1 : Int) (a2 : Int) (a3 : Int) (a4 : Int) (a5 : Int) (a6 : Int) (a7 : Int) : List (ByteArray) := bif !g_Vs_l1Get_1 a0 (lit [(102 : Nat)] ++ g_Vs_l3Digit_0 a6) then g_Vs_l3No_0 [lit [(102 : Nat)] ++ g_Vs_l3Digit_0 a6] else bif at_ (Ty.int IntKind.i64) (g_Vs_l1Get_0 a0 (lit [(102 : Nat)] ++ g_Vs_l3Digit_0 a6)) (nat_lit 2) == (0 : Int) then g_Vs_l3No_0 [lit [(102 : Nat)] ++ g_Vs_l3Digit_0 a6] else bif decide (a7 > at_ (Ty.int IntKind.i64) (g_Vs_l1Get_0 a0 (lit [(102 : Nat)] ++ g_Vs_l3Digit_0 a6)) (nat_lit 1)) then g_Vs_l3No_0 [lit [(102 : Nat)] ++ g_Vs_l3Digit_0 a6] else bif a7 == (0 : Int) then g_Vs_l3No_0 [lit [(102 : Nat)] ++ g_Vs_l3Digit_0 a6] else bif at_ (Ty.int IntKind.i64) (g_Vs_l1Get_0 a0 (lit [(102 : Nat)] ++ g_Vs_l3Digit_0 a6)) (nat_lit 1) == (99 : Int) then g_Vs_l3No_0 [lit [(102 : Nat)] ++ g_Vs_l3Digit_0 a6] else bif decide (a7 < at_ (Ty.int IntKind.i64) (g_Vs_l1Get_0 a0 (lit [(102 : Nat)] ++ g_Vs_l3Digit_0 a6)) (nat_lit 1)) then [lit [(102 : Nat)] ++ g_Vs_l3Digit_0 a6, lit [(117 : Nat)] ++ g_Vs_l3Digit_0 (at_ (Ty.int IntKind.i64) (g_Vs_l1Get_0 a0 (lit [(102 : Nat)] ++ g_Vs_l3Digit_0 a6)) (nat_lit 0))] else [lit [(102 : Nat)] ++ g_Vs_l3Digit_0 a6, lit [(117 : Nat)] ++ g_Vs_l3Digit_0 (at_ (Ty.int IntKind.i64) (g_Vs_l1Get_0 a0 (lit [(102 : Nat)] ++ g_Vs_l3Digit_0 a6)) (nat_lit 0))]
noncomputable def g_Vs_l3Next_2 (a0 : List ((ByteArray) × (List (Int)))) (a1 : Int) (a2 : Int) (a3 : Int) (a4 : Int) (a5 : Int) (a6 : Int) (a7 : Int) : List ((ByteArray) × ((Bool) × (List (Int)))) := bif !g_Vs_l1Get_1 a0 (lit [(102 : Nat)] ++ g_Vs_l3Digit_0 a6) then g_Vs_l3No_1 [lit [(102 : Nat)] ++ g_Vs_l3Digit_0 a6] else bif at_ (Ty.int IntKind.i64) (g_Vs_l1Get_0 a0 (lit [(102 : Nat)] ++ g_Vs_l3Digit_0 a6)) (nat_lit 2) == (0 : Int) then g_Vs_l3No_1 [lit [(102 : Nat)] ++ g_Vs_l3Digit_0 a6] else bif decide (a7 > at_ (Ty.int IntKind.i64) (g_Vs_l1Get_0 a0 (lit [(102 : Nat)] ++ g_Vs_l3Digit_0 a6)) (nat_lit 1)) then g_Vs_l3No_1 [lit [(102 : Nat)] ++ g_Vs_l3Digit_0 a6] else bif a7 == (0 : Int) then g_Vs_l3No_1 [lit [(102 : Nat)] ++ g_Vs_l3Digit_0 a6] else bif at_ (Ty.int IntKind.i64) (g_Vs_l1Get_0 a0 (lit [(102 : Nat)] ++ g_Vs_l3Digit_0 a6)) (nat_lit 1) == (99 : Int) then g_Vs_l3No_1 [lit [(102 : Nat)] ++ g_Vs_l3Digit_0 a6] else bif decide (a7 < at_ (Ty.int IntKind.i64) (g_Vs_l1Get_0 a0 (lit [(102 : Nat)] ++ g_Vs_l3Digit_0 a6)) (nat_lit 1)) then [(lit [(102 : Nat)] ++ g_Vs_l3Digit_0 a6, false, [at_ (Ty.int IntKind.i64) (g_Vs_l1Get_0 a0 (lit [(102 : Nat)] ++ g_Vs_l3Digit_0 a6)) (nat_lit 0), at_ (Ty.int IntKind.i64) (g_Vs_l1Get_0 a0 (lit [(102 : Nat)] ++ g_Vs_l3Digit_0 a6)) (nat_lit 1), (0 : Int)])] else [(lit [(102 : Nat)] ++ g_Vs_l3Digit_0 a6, false, [at_ (Ty.int IntKind.i64) (g_Vs_l1Get_0 a0 (lit [(102 : Nat)] ++ g_Vs_l3Digit_0 a6)) (nat_lit 0), IntKind.wrap IntKind.i64 (at_ (Ty.int IntKind.i64) (g_Vs_l1Get_0 a0 (lit [(102 : Nat)] ++ g_Vs_l3Digit_0 a6)) (nat_lit 1) + (1 : Int)), (1 : Int)])]
noncomputable def Fs_l3Next : FSem := fun ys => match ys with
  | [.val true [.sl .any 42 (.pair .str (.sl 3 (.int .i64))) a0], .val true [.int .i64 a1, .int .i64 a2, .int .i64 a3, .int .i64 a4, .int .i64 a5, .int .i64 a6, .int .i64 a7]] => some ((g_As_l3Next a0 a1 a2 a3 a4 a5 a6 a7), .val true [.bool (g_Vs_l3Next_0 a0 a1 a2 a3 a4 a5 a6 a7), .own .any true 9 .str (g_Vs_l3Next_1 a0 a1 a2 a3 a4 a5 a6 a7), .own .any true 68 (.pair .str (.pair .bool (.sl 3 (.int .i64)))) (g_Vs_l3Next_2 a0 a1 a2 a3 a4 a5 a6 a7)], [])
  | _ => none
theorem vs_l3Next (a0 : List ((ByteArray) × (List (Int)))) (a1 : Int) (a2 : Int) (a3 : Int) (a4 : Int) (a5 : Int) (a6 : Int) (a7 : Int) : collapseH .std Es_l3Next Os_l3Next_0 (execFn Es_l3Next Go.Proofs.Tryd.f71 mss_l3Next [.val true [.sl .any 42 (.pair .str (.sl 3 (.int .i64))) a0], .val true [.int .i64 a1, .int .i64 a2, .int .i64 a3, .int .i64 a4, .int .i64 a5, .int .i64 a6, .int .i64 a7]]) = some ((g_As_l3Next a0 a1 a2 a3 a4 a5 a6 a7), .val true [.bool (g_Vs_l3Next_0 a0 a1 a2 a3 a4 a5 a6 a7), .own .any true 9 .str (g_Vs_l3Next_1 a0 a1 a2 a3 a4 a5 a6 a7), .own .any true 68 (.pair .str (.pair .bool (.sl 3 (.int .i64)))) (g_Vs_l3Next_2 a0 a1 a2 a3 a4 a5 a6 a7)], []) := by kernel_rfl
theorem ss_l3Next : Sound Go.Proofs.Tryd.prog 71 mss_l3Next Fs_l3Next := by
  refine fn_gen goods_l3Next (by kernel_rfl) .std (fn := Go.Proofs.Tryd.f71) (c := (Go.Proofs.Tryd.f71.body.getD .skip)) (o := Os_l3Next_0) (k := 0) (by kernel_rfl) (by kernel_rfl) (by kernel_rfl) (by kernel_rfl) (by decide) ks_l3Next_0 ?_
  intro ys r outs h
  unfold Fs_l3Next at h
  split at h
  · exact (vs_l3Next _ _ _ _ _ _ _ _).trans h
  · cases h
end Go.Proofs.YtnbcdkbjmpadmaaDoor.E
end
section
namespace Go.Proofs.YtnbcdkbjmpadmaaDoor.E
open Go
set_option maxRecDepth 100000
set_option maxHeartbeats 0
set_option linter.all false
noncomputable def Es_l3Out : Env where
  tt := mkTI Go.Proofs.Tryd.prog
  fn := fun f => match f with
    | 68 => some (mss_l3Digit, FSem.wk mss_l3Digit Fs_l3Digit)
    | _ => none
  bxf := fun _ => none
  mv := []
  keep := fun b => match b with
    | 0 => [(2, false), (3, false), (4, false), (5, false), (6, false)]
    | _ => []
  keepB := fun b => match b with
    | 0 => [(2, false), (3, false), (4, false), (5, false)]
    | _ => []
  keepX := fun b => match b with
    | 0 => [(4, false), (5, false)]
    | _ => []
  keepXB := fun b => match b with
    | 0 => [(4, false), (5, false)]
    | _ => []
theorem goodFs_l3Out : ∀ f ms F, Es_l3Out.fn f = some (ms, F) → Sound Go.Proofs.Tryd.prog f ms F := fun f ms F h => by
  unfold Es_l3Out at h
  dsimp only at h
  split at h
  · injection h with h; injection h with e1 e2; subst e1 e2; exact Sound.wk ss_l3Digit
  · cases h
theorem goodBs_l3Out : ∀ f ms F, Es_l3Out.bxf f = some (ms, F) → SoundB Go.Proofs.Tryd.prog f ms F := fun f ms F h => by cases h
theorem goods_l3Out : Good Go.Proofs.Tryd.prog Es_l3Out := ⟨rfl, goodFs_l3Out, goodBs_l3Out⟩
noncomputable def Os_l3Out_0 : Orc := fun _ _ => none
noncomputable def mss_l3Out : List PM := [.rd, .own]
noncomputable def lss_l3Out : List (Nat × Code) := loopsAll 0 (Go.Proofs.Tryd.f72.body.getD .skip)
noncomputable def cs_l3Out_0 : Code := (loopOf 0 (Go.Proofs.Tryd.f72.body.getD .skip)).getD .skip
theorem lseqs_l3Out : lss_l3Out = [(0, cs_l3Out_0)] := by kernel_rfl
theorem ms_l3Out_0 : ∀ p, p ∈ lss_l3Out → p.1 = 0 → p.2 = cs_l3Out_0 := by
  intro p hp
  rw [lseqs_l3Out] at hp
  simp only [List.mem_cons, List.not_mem_nil, or_false] at hp
  subst hp; simp
theorem ks_l3Out_0 : OrcOk Es_l3Out Os_l3Out_0 lss_l3Out 0 := orcOk_none
noncomputable def hs_l3Out_0 (y0 : Int) (y1 : List ((ByteArray) × (List (Int)))) (y2 : Int) (y3 : Int) (y4 : Int) (y5 : Int) (y6 : Int) (y7 : Int) (y8 : Int) (y9 : Bool) (y10 : List (ByteArray)) (y11 : List ((ByteArray) × ((Bool) × (List (Int))))) (y12 : Bool) (y13 : List (ByteArray)) (y14 : List ((ByteArray) × ((Bool) × (List (Int))))) : List (Pl × LV) := [(.T 2, .t (.val false [.ptr 2 0 0])), (.T 3, .t (.val false [.ptr 3 0 0])), (.T 4, .t (.val false [.ptr 4 0 0])), (.T 5, .t (.val false [.ptr 5 0 0])), (.T 6, .t (.val false [.int .i64 y0])), (.B 2, .b 0 false [.sl .any 42 (.pair .str (.sl 3 (.int .i64))) y1]), (.B 3, .b 0 false [.int .i64 y2, .int .i64 y3, .int .i64 y4, .int .i64 y5, .int .i64 y6, .int .i64 y7, .int .i64 y8]), (.B 4, .b 0 false [.bool y9, .row 4 3 0, .row 4 5 0]), (.R 4 3, .r 0 (some ⟨false, .any, true, 9, .str, y10⟩)), (.R 4 5, .r 0 (some ⟨false, .any, true, 68, (.pair .str (.pair .bool (.sl 3 (.int .i64)))), y11⟩)), (.B 5, .b 0 false [.bool y12, .row 5 3 0, .row 5 5 0]), (.R 5 3, .r 0 (some ⟨false, .non, true, 9, .str, y13⟩)), (.R 5 5, .r 0 (some ⟨false, .any, true, 68, (.pair .str (.pair .bool (.sl 3 (.int .i64)))), y14⟩))]
noncomputable def g_Ss_l3Out_0 (y1 : List ((ByteArray) × (List (Int)))) (y2 : Int) (y3 : Int) (y4 : Int) (y5 : Int) (y6 : Int) (y7 : Int) (y8 : Int) (y9 : Bool) (y10 : List (ByteArray)) (y11 : List ((ByteArray) × ((Bool) × (List (Int))))) (y12 : Bool) : ((Int) × (List (ByteArray)) × (List ((ByteArray) × ((Bool) × (List (Int)))))) → RT ((Int) × (List (ByteArray)) × (List ((ByteArray) × ((Bool) × (List (Int)))))) (((List (ByteArray)) × (List ((ByteArray) × ((Bool) × (List (Int)))))))
  | (y0, y13, y14) => .br (true) (.br (decide (y0 < (↑(List.length y1) : Int))) (.br (decide ((0 : Int) ≤ y0 ∧ y0 < (↑(List.length y1) : Int))) (.br (decide ((0 : Int) ≤ (0 : Int) ∧ (0 : Int) < (↑(ByteArray.size (at_ (Ty.pair Ty.str (Ty.sl (nat_lit 3) (Ty.int IntKind.i64))) y1 (Int.toNat y0)).1) : Int))) (.br (true) (.br (byteAt (at_ (Ty.pair Ty.str (Ty.sl (nat_lit 3) (Ty.int IntKind.i64))) y1 (Int.toNat y0)).1 (nat_lit 0) == (102 : Int)) (.br (decide ((0 : Int) ≤ (0 : Int) ∧ (0 : Int) < (↑(List.length (at_ (Ty.pair Ty.str (Ty.sl (nat_lit 3) (Ty.int IntKind.i64))) y1 (Int.toNat y0)).2) : Int))) (.br (true) (.br (at_ (Ty.int IntKind.i64) (at_ (Ty.pair Ty.str (Ty.sl (nat_lit 3) (Ty.int IntKind.i64))) y1 (Int.toNat y0)).2 (nat_lit 0) == y3) (.br (decide ((0 : Int) ≤ (2 : Int) ∧ (2 : Int) < (↑(List.length (at_ (Ty.pair Ty.str (Ty.sl (nat_lit 3) (Ty.int IntKind.i64))) y1 (Int.toNat y0)).2) : Int))) (.br (true) (.br (at_ (Ty.int IntKind.i64) (at_ (Ty.pair Ty.str (Ty.sl (nat_lit 3) (Ty.int IntKind.i64))) y1 (Int.toNat y0)).2 (nat_lit 2) == (1 : Int)) (.br (decide ((List.length y13 + List.length [(at_ (Ty.pair Ty.str (Ty.sl (nat_lit 3) (Ty.int IntKind.i64))) y1 (Int.toNat y0)).1]) * nat_lit 16 ≤ nat_lit 140737488355328 ∧ List.length y13 + List.length [(at_ (Ty.pair Ty.str (Ty.sl (nat_lit 3) (Ty.int IntKind.i64))) y1 (Int.toNat y0)).1] ≤ nat_lit 9223372036854775807)) (.br (decide ((0 : Int) ≤ (0 : Int) ∧ (0 : Int) < (↑(List.length (at_ (Ty.pair Ty.str (Ty.sl (nat_lit 3) (Ty.int IntKind.i64))) y1 (Int.toNat y0)).2) : Int))) (.br (decide ((0 : Int) ≤ (1 : Int) ∧ (1 : Int) < (↑(List.length (at_ (Ty.pair Ty.str (Ty.sl (nat_lit 3) (Ty.int IntKind.i64))) y1 (Int.toNat y0)).2) : Int))) (.br (decide ((List.length y14 + List.length [((at_ (Ty.pair Ty.str (Ty.sl (nat_lit 3) (Ty.int IntKind.i64))) y1 (Int.toNat y0)).1, false, [at_ (Ty.int IntKind.i64) (at_ (Ty.pair Ty.str (Ty.sl (nat_lit 3) (Ty.int IntKind.i64))) y1 (Int.toNat y0)).2 (nat_lit 0), at_ (Ty.int IntKind.i64) (at_ (Ty.pair Ty.str (Ty.sl (nat_lit 3) (Ty.int IntKind.i64))) y1 (Int.toNat y0)).2 (nat_lit 1), (0 : Int)])]) * nat_lit 48 ≤ nat_lit 140737488355328 ∧ List.length y14 + List.length [((at_ (Ty.pair Ty.str (Ty.sl (nat_lit 3) (Ty.int IntKind.i64))) y1 (Int.toNat y0)).1, false, [at_ (Ty.int IntKind.i64) (at_ (Ty.pair Ty.str (Ty.sl (nat_lit 3) (Ty.int IntKind.i64))) y1 (Int.toNat y0)).2 (nat_lit 0), at_ (Ty.int IntKind.i64) (at_ (Ty.pair Ty.str (Ty.sl (nat_lit 3) (Ty.int IntKind.i64))) y1 (Int.toNat y0)).2 (nat_lit 1), (0 : Int)])] ≤ nat_lit 9223372036854775807)) (.br (true) (.go ((IntKind.wrap IntKind.i64 (y0 + (1 : Int)), y13 ++ [(at_ (Ty.pair Ty.str (Ty.sl (nat_lit 3) (Ty.int IntKind.i64))) y1 (Int.toNat y0)).1], y14 ++ [((at_ (Ty.pair Ty.str (Ty.sl (nat_lit 3) (Ty.int IntKind.i64))) y1 (Int.toNat y0)).1, false, [at_ (Ty.int IntKind.i64) (at_ (Ty.pair Ty.str (Ty.sl (nat_lit 3) (Ty.int IntKind.i64))) y1 (Int.toNat y0)).2 (nat_lit 0), at_ (Ty.int IntKind.i64) (at_ (Ty.pair Ty.str (Ty.sl (nat_lit 3) (Ty.int IntKind.i64))) y1 (Int.toNat y0)).2 (nat_lit 1), (0 : Int)])]))) (.bad)) (.bad)) (.bad)) (.bad)) (.bad)) (.br (true) (.go ((IntKind.wrap IntKind.i64 (y0 + (1 : Int)), y13, y14))) (.bad))) (.bad)) (.bad)) (.br (true) (.go ((IntKind.wrap IntKind.i64 (y0 + (1 : Int)), y13, y14))) (.bad))) (.bad)) (.bad)) (.br (true) (.go ((IntKind.wrap IntKind.i64 (y0 + (1 : Int)), y13, y14))) (.bad))) (.bad)) (.bad)) (.bad)) (.out ((y13, y14)))) (.bad)
noncomputable def g_Ls_l3Out_0 (y1 : List ((ByteArray) × (List (Int)))) (y2 : Int) (y3 : Int) (y4 : Int) (y5 : Int) (y6 : Int) (y7 : Int) (y8 : Int) (y9 : Bool) (y10 : List (ByteArray)) (y11 : List ((ByteArray) × ((Bool) × (List (Int))))) (y12 : Bool) (x : (Int) × (List (ByteArray)) × (List ((ByteArray) × ((Bool) × (List (Int)))))) : Option (((List (ByteArray)) × (List ((ByteArray) × ((Bool) × (List (Int))))))) := loopO (g_Ss_l3Out_0 y1 y2 y3 y4 y5 y6 y7 y8 y9 y10 y11 y12) x
noncomputable def xs_l3Out_0 (y1 : List ((ByteArray) × (List (Int)))) (y2 : Int) (y3 : Int) (y4 : Int) (y5 : Int) (y6 : Int) (y7 : Int) (y8 : Int) (y9 : Bool) (y10 : List (ByteArray)) (y11 : List ((ByteArray) × ((Bool) × (List (Int))))) (y12 : Bool) : (((List (ByteArray)) × (List ((ByteArray) × ((Bool) × (List (Int))))))) → Ex × List (Pl × LV) := fun r => (.exit 0, [(.T 4, .t (.val false [.ptr 4 0 0])), (.T 5, .t (.val false [.ptr 5 0 0])), (.B 4, .b 0 false [.bool y9, .row 4 3 0, .row 4 5 0]), (.R 4 3, .r 0 (some ⟨false, .any, true, 9, .str, y10⟩)), (.R 4 5, .r 0 (some ⟨false, .any, true, 68, (.pair .str (.pair .bool (.sl 3 (.int .i64)))), y11⟩)), (.B 5, .b 0 false [.bool y12, .row 5 3 0, .row 5 5 0]), (.R 5 3, .r 0 (some ⟨false, .non, true, 9, .str, r.1⟩)), (.R 5 5, .r 0 (some ⟨false, .any, true, 68, (.pair .str (.pair .bool (.sl 3 (.int .i64)))), r.2⟩))])
noncomputable def Os_l3Out_1 : Orc := fun b h => match b, h with
  | 0, [(.T 2, .t (.val false [.ptr 2 0 0])), (.T 3, .t (.val false [.ptr 3 0 0])), (.T 4, .t (.val false [.ptr 4 0 0])), (.T 5, .t (.val false [.ptr 5 0 0])), (.T 6, .t (.val false [.int .i64 y0])), (.B 2, .b 0 false [.sl .any 42 (.pair .str (.sl 3 (.int .i64))) y1]), (.B 3, .b 0 false [.int .i64 y2, .int .i64 y3, .int .i64 y4, .int .i64 y5, .int .i64 y6, .int .i64 y7, .int .i64 y8]), (.B 4, .b 0 false [.bool y9, .row 4 3 0, .row 4 5 0]), (.R 4 3, .r 0 (some ⟨false, .any, true, 9, .str, y10⟩)), (.R 4 5, .r 0 (some ⟨false, .any, true, 68, (.pair .str (.pair .bool (.sl 3 (.int .i64)))), y11⟩)), (.B 5, .b 0 false [.bool y12, .row 5 3 0, .row 5 5 0]), (.R 5 3, .r 0 (some ⟨false, .non, true, 9, .str, y13⟩)), (.R 5 5, .r 0 (some ⟨false, .any, true, 68, (.pair .str (.pair .bool (.sl 3 (.int .i64)))), y14⟩))] => some (okO (g_Ls_l3Out_0 y1 y2 y3 y4 y5 y6 y7 y8 y9 y10 y11 y12 (y0, y13, y14)), (.leaf (.exit 0) [(.T 4, .t (.val false [.ptr 4 0 0])), (.T 5, .t (.val false [.ptr 5 0 0])), (.B 4, .b 0 false [.bool y9, .row 4 3 0, .row 4 5 0]), (.R 4 3, .r 0 (some ⟨false, .any, true, 9, .str, y10⟩)), (.R 4 5, .r 0 (some ⟨false, .any, true, 68, (.pair .str (.pair .bool (.sl 3 (.int .i64)))), y11⟩)), (.B 5, .b 0 false [.bool y12, .row 5 3 0, .row 5 5 0]), (.R 5 3, .r 0 (some ⟨false, .non, true, 9, .str, (valO (g_Ls_l3Out_0 y1 y2 y3 y4 y5 y6 y7 y8 y9 y10 y11 y12 (y0, y13, y14))).1⟩)), (.R 5 5, .r 0 (some ⟨false, .any, true, 68, (.pair .str (.pair .bool (.sl 3 (.int .i64)))), (valO (g_Ls_l3Out_0 y1 y2 y3 y4 y5 y6 y7 y8 y9 y10 y11 y12 (y0, y13, y14))).2⟩))]))
  | b, h => Os_l3Out_0 b h
theorem bs_l3Out_0 (y0 : Int) (y1 : List ((ByteArray) × (List (Int)))) (y2 : Int) (y3 : Int) (y4 : Int) (y5 : Int) (y6 : Int) (y7 : Int) (y8 : Int) (y9 : Bool) (y10 : List (ByteArray)) (y11 : List ((ByteArray) × ((Bool) × (List (Int))))) (y12 : Bool) (y13 : List (ByteArray)) (y14 : List ((ByteArray) × ((Bool) × (List (Int))))) : Tr.bt Es_l3Out Os_l3Out_0 (exec Es_l3Out 0 cs_l3Out_0 (St.of (hs_l3Out_0 y0 y1 y2 y3 y4 y5 y6 y7 y8 y9 y10 y11 y12 y13 y14)) (leafRd Es_l3Out 0)) = (g_Ss_l3Out_0 y1 y2 y3 y4 y5 y6 y7 y8 y9 y10 y11 y12 (y0, y13, y14)).bt (fun ((y0, y13, y14) : (Int) × (List (ByteArray)) × (List ((ByteArray) × ((Bool) × (List (Int)))))) => (hs_l3Out_0 y0 y1 y2 y3 y4 y5 y6 y7 y8 y9 y10 y11 y12 y13 y14)) (xs_l3Out_0 y1 y2 y3 y4 y5 y6 y7 y8 y9 y10 y11 y12) := by kernel_rfl
theorem ks_l3Out_1 : OrcOk Es_l3Out Os_l3Out_1 lss_l3Out 1 := orc_add ks_l3Out_0 (fun n p hp h ex h' ho => by
  obtain ⟨b, c⟩ := p
  obtain ⟨xt, h1, h2⟩ := ho
  have h1 : Os_l3Out_1 b h = some (true, xt) := h1
  unfold Os_l3Out_1 at h1
  split at h1
  · injection h1 with h1
    injection h1 with e1 e2
    subst e2
    have hc : c = cs_l3Out_0 := ms_l3Out_0 _ hp rfl
    subst hc
    right
    rename_i y0 y1 y2 y3 y4 y5 y6 y7 y8 y9 y10 y11 y12 y13 y14
    have key := LT_step ks_l3Out_0 hp (fun q hq => loopsAll_in _ _ _ _ hp hq) (fun ((y0, y13, y14) : (Int) × (List (ByteArray)) × (List ((ByteArray) × ((Bool) × (List (Int)))))) => (hs_l3Out_0 y0 y1 y2 y3 y4 y5 y6 y7 y8 y9 y10 y11 y12 y13 y14)) (xs_l3Out_0 y1 y2 y3 y4 y5 y6 y7 y8 y9 y10 y11 y12) (g_Ss_l3Out_0 y1 y2 y3 y4 y5 y6 y7 y8 y9 y10 y11 y12) (fun x => by first | exact bs_l3Out_0 x.1 y1 y2 y3 y4 y5 y6 y7 y8 y9 y10 y11 y12 x.2.1 x.2.2) n (x := (y0, y13, y14)) (okO_some e1)
    have hx : ∀ r, XT.sel (.leaf (.exit 0) [(.T 4, .t (.val false [.ptr 4 0 0])), (.T 5, .t (.val false [.ptr 5 0 0])), (.B 4, .b 0 false [.bool y9, .row 4 3 0, .row 4 5 0]), (.R 4 3, .r 0 (some ⟨false, .any, true, 9, .str, y10⟩)), (.R 4 5, .r 0 (some ⟨false, .any, true, 68, (.pair .str (.pair .bool (.sl 3 (.int .i64)))), y11⟩)), (.B 5, .b 0 false [.bool y12, .row 5 3 0, .row 5 5 0]), (.R 5 3, .r 0 (some ⟨false, .non, true, 9, .str, r.1⟩)), (.R 5 5, .r 0 (some ⟨false, .any, true, 68, (.pair .str (.pair .bool (.sl 3 (.int .i64)))), r.2⟩))]) = xs_l3Out_0 y1 y2 y3 y4 y5 y6 y7 y8 y9 y10 y11 y12 r := fun r => by first | rfl | (rcases r with r | r <;> rfl) | (rcases r with r | r | r <;> rfl) | (rcases r with r | r | r | r <;> rfl)
    have h3 := (hx (valO (g_Ls_l3Out_0 y1 y2 y3 y4 y5 y6 y7 y8 y9 y10 y11 y12 (y0, y13, y14)))).symm.trans h2
    have e3 := congrArg Prod.fst h3
    have e4 := congrArg Prod.snd h3
    simp only at e3 e4
    rw [← e3, ← e4]
    exact key
  · exact .inl ⟨xt, h1, h2⟩)
noncomputable def g_As_l3Out (a0 : List ((ByteArray) × (List (Int)))) (a1 : Int) (a2 : Int) (a3 : Int) (a4 : Int) (a5 : Int) (a6 : Int) (a7 : Int) : Bool := decide (nat_lit 1 + ByteArray.size (g_Vs_l3Digit_0 a2) ≤ nat_lit 9223372036854775807) && okO (g_Ls_l3Out_0 a0 a1 a2 a3 a4 a5 a6 a7 false [] [] true ((0 : Int), [lit [(117 : Nat)] ++ g_Vs_l3Digit_0 a2], []))
noncomputable def g_Vs_l3Out_0 (a0 : List ((ByteArray) × (List (Int)))) (a1 : Int) (a2 : Int) (a3 : Int) (a4 : Int) (a5 : Int) (a6 : Int) (a7 : Int) : List (ByteArray) := (valO (g_Ls_l3Out_0 a0 a1 a2 a3 a4 a5 a6 a7 false [] [] true ((0 : Int), [lit [(117 : Nat)] ++ g_Vs_l3Digit_0 a2], []))).1
noncomputable def g_Vs_l3Out_1 (a0 : List ((ByteArray) × (List (Int)))) (a1 : Int) (a2 : Int) (a3 : Int) (a4 : Int) (a5 : Int) (a6 : Int) (a7 : Int) : List ((ByteArray) × ((Bool) × (List (Int)))) := (valO (g_Ls_l3Out_0 a0 a1 a2 a3 a4 a5 a6 a7 false [] [] true ((0 : Int), [lit [(117 : Nat)] ++ g_Vs_l3Digit_0 a2], []))).2
noncomputable def Fs_l3Out : FSem := fun ys => match ys with
  | [.val true [.sl .any 42 (.pair .str (.sl 3 (.int .i64))) a0], .val true [.int .i64 a1, .int .i64 a2, .int .i64 a3, .int .i64 a4, .int .i64 a5, .int .i64 a6, .int .i64 a7]] => some ((g_As_l3Out a0 a1 a2 a3 a4 a5 a6 a7), .val true [.bool true, .own .any true 9 .str (g_Vs_l3Out_0 a0 a1 a2 a3 a4 a5 a6 a7), .own .any true 68 (.pair .str (.pair .bool (.sl 3 (.int .i64)))) (g_Vs_l3Out_1 a0 a1 a2 a3 a4 a5 a6 a7)], [])
  | _ => none
theorem vs_l3Out (a0 : List ((ByteArray) × (List (Int)))) (a1 : Int) (a2 : Int) (a3 : Int) (a4 : Int) (a5 : Int) (a6 : Int) (a7 : Int) : collapseH .std Es_l3Out Os_l3Out_1 (execFn Es_l3Out Go.Proofs.Tryd.f72 mss_l3Out [.val true [.sl .any 42 (.pair .str (.sl 3 (.int .i64))) a0], .val true [.int .i64 a1, .int .i64 a2, .int .i64 a3, .int .i64 a4, .int .i64 a5, .int .i64 a6, .int .i64 a7]]) = some ((g_As_l3Out a0 a1 a2 a3 a4 a5 a6 a7), .val true [.bool true, .own .any true 9 .str (g_Vs_l3Out_0 a0 a1 a2 a3 a4 a5 a6 a7), .own .any true 68 (.pair .str (.pair .bool (.sl 3 (.int .i64)))) (g_Vs_l3Out_1 a0 a1 a2 a3 a4 a5 a6 a7)], []) := by kernel_rfl
theorem ss_l3Out : Sound Go.Proofs.Tryd.prog 72 mss_l3Out Fs_l3Out := by
  refine fn_gen goods_l3Out (by kernel_rfl) .std (fn := Go.Proofs.Tryd.f72) (c := (Go.Proofs.Tryd.f72.body.getD .skip)) (o := Os_l3Out_1) (k := 1) (by kernel_rfl) (by kernel_rfl) (by kernel_rfl) (by kernel_rfl) (by decide) ks_l3Out_1 ?_
  intro ys r outs h
  unfold Fs_l3Out at h
  split at h
  · exact (vs_l3Out _ _ _ _ _ _ _ _).trans h
  · cases h
end Go.Proofs.YtnbcdkbjmpadmaaDoor.E
end
section
namespace Go.Proofs.YtnbcdkbjmpadmaaDoor.E
open Go
set_option maxRecDepth 100000
set_option maxHeartbeats 0
set_option linter.all false
noncomputable def Es_l3Trade : Env where
  tt := mkTI Go.Proofs.Tryd.prog
  fn := fun f => match f with
    | 62 => some (mss_l1Get, FSem.wk mss_l1Get Fs_l1Get)
    | 63 => some (mss_l3No, FSem.wk mss_l3No Fs_l3No)
    | 68 => some (mss_l3Digit, FSem.wk mss_l3Digit Fs_l3Digit)
    | 69 => some (mss_SecSum, FSem.wk mss_SecSum Fs_SecSum)
    | _ => none
  bxf := fun _ => none
  mv := []
  keep := fun _ => []
  keepB := fun _ => []
  keepX := fun _ => []
  keepXB := fun _ => []
theorem goodFs_l3Trade : ∀ f ms F, Es_l3Trade.fn f = some (ms, F) → Sound Go.Proofs.Tryd.prog f ms F := fun f ms F h => by
  unfold Es_l3Trade at h
  dsimp only at h
  split at h
  · injection h with h; injection h with e1 e2; subst e1 e2; exact Sound.wk ss_l1Get
  · injection h with h; injection h with e1 e2; subst e1 e2; exact Sound.wk ss_l3No
  · injection h with h; injection h with e1 e2; subst e1 e2; exact Sound.wk ss_l3Digit
  · injection h with h; injection h with e1 e2; subst e1 e2; exact Sound.wk ss_SecSum
  · cases h
theorem goodBs_l3Trade : ∀ f ms F, Es_l3Trade.bxf f = some (ms, F) → SoundB Go.Proofs.Tryd.prog f ms F := fun f ms F h => by cases h
theorem goods_l3Trade : Good Go.Proofs.Tryd.prog Es_l3Trade := ⟨rfl, goodFs_l3Trade, goodBs_l3Trade⟩
noncomputable def Os_l3Trade_0 : Orc := fun _ _ => none
noncomputable def mss_l3Trade : List PM := [.rd, .own]
noncomputable def lss_l3Trade : List (Nat × Code) := loopsAll 0 (Go.Proofs.Tryd.f70.body.getD .skip)

theorem ks_l3Trade_0 : OrcOk Es_l3Trade Os_l3Trade_0 lss_l3Trade 0 := orcOk_none
noncomputable def g_As_l3Trade (a0 : List ((ByteArray) × (List (Int)))) (a1 : Int) (a2 : Int) (a3 : Int) (a4 : Int) (a5 : Int) (a6 : Int) (a7 : Int) : Bool := decide (nat_lit 1 + ByteArray.size (g_Vs_l3Digit_0 a4) ≤ nat_lit 9223372036854775807) && (decide (nat_lit 1 + ByteArray.size (g_Vs_l3Digit_0 a6) ≤ nat_lit 9223372036854775807) && (g_As_l1Get a0 (lit [(99 : Nat)] ++ g_Vs_l3Digit_0 a4) && (g_As_l1Get a0 (lit [(102 : Nat)] ++ g_Vs_l3Digit_0 a6) && bif !g_Vs_l1Get_1 a0 (lit [(99 : Nat)] ++ g_Vs_l3Digit_0 a4) then g_As_l3No [lit [(99 : Nat)] ++ g_Vs_l3Digit_0 a4, lit [(102 : Nat)] ++ g_Vs_l3Digit_0 a6] else bif g_Vs_l1Get_1 a0 (lit [(102 : Nat)] ++ g_Vs_l3Digit_0 a6) then g_As_l3No [lit [(99 : Nat)] ++ g_Vs_l3Digit_0 a4, lit [(102 : Nat)] ++ g_Vs_l3Digit_0 a6] else decide ((0 : Int) ≤ (1 : Int) ∧ (1 : Int) < (↑(List.length (g_Vs_l1Get_0 a0 (lit [(99 : Nat)] ++ g_Vs_l3Digit_0 a4))) : Int)) && (decide (nat_lit 1 < List.length (g_Vs_l1Get_0 a0 (lit [(99 : Nat)] ++ g_Vs_l3Digit_0 a4))) && (g_As_SecSum a5 && bif at_ (Ty.int IntKind.i64) (g_Vs_l1Get_0 a0 (lit [(99 : Nat)] ++ g_Vs_l3Digit_0 a4)) (nat_lit 1) != g_Vs_SecSum_0 a5 then g_As_l3No [lit [(99 : Nat)] ++ g_Vs_l3Digit_0 a4, lit [(102 : Nat)] ++ g_Vs_l3Digit_0 a6] else decide ((0 : Int) ≤ (0 : Int) ∧ (0 : Int) < (↑(List.length (g_Vs_l1Get_0 a0 (lit [(99 : Nat)] ++ g_Vs_l3Digit_0 a4))) : Int)) && (decide (nat_lit 0 < List.length (g_Vs_l1Get_0 a0 (lit [(99 : Nat)] ++ g_Vs_l3Digit_0 a4))) && (decide (nat_lit 1 + ByteArray.size (g_Vs_l3Digit_0 (at_ (Ty.int IntKind.i64) (g_Vs_l1Get_0 a0 (lit [(99 : Nat)] ++ g_Vs_l3Digit_0 a4)) (nat_lit 0))) ≤ nat_lit 9223372036854775807) && (decide ((0 : Int) ≤ (0 : Int) ∧ (0 : Int) < (↑(List.length (g_Vs_l1Get_0 a0 (lit [(99 : Nat)] ++ g_Vs_l3Digit_0 a4))) : Int)) && decide (nat_lit 0 < List.length (g_Vs_l1Get_0 a0 (lit [(99 : Nat)] ++ g_Vs_l3Digit_0 a4)))))))))))
noncomputable def g_Vs_l3Trade_0 (a0 : List ((ByteArray) × (List (Int)))) (a1 : Int) (a2 : Int) (a3 : Int) (a4 : Int) (a5 : Int) (a6 : Int) (a7 : Int) : Bool := bif !g_Vs_l1Get_1 a0 (lit [(99 : Nat)] ++ g_Vs_l3Digit_0 a4) then false else bif g_Vs_l1Get_1 a0 (lit [(102 : Nat)] ++ g_Vs_l3Digit_0 a6) then false else bif at_ (Ty.int IntKind.i64) (g_Vs_l1Get_0 a0 (lit [(99 : Nat)] ++ g_Vs_l3Digit_0 a4)) (nat_lit 1) != g_Vs_SecSum_0 a5 then false else true
noncomputable def g_Vs_l3Trade_1 (a0 : List ((ByteArray) × (List (Int)))) (a1 : Int) (a2 : Int) (a3 : Int) (a4 : Int) (a5 : Int) (a6 : Int) (a7 : Int) : List (ByteArray) := bif !g_Vs_l1Get_1 a0 (lit [(99 : Nat)] ++ g_Vs_l3Digit_0 a4) then g_Vs_l3No_0 [lit [(99 : Nat)] ++ g_Vs_l3Digit_0 a4, lit [(102 : Nat)] ++ g_Vs_l3Digit_0 a6] else bif g_Vs_l1Get_1 a0 (lit [(102 : Nat)] ++ g_Vs_l3Digit_0 a6) then g_Vs_l3No_0 [lit [(99 : Nat)] ++ g_Vs_l3Digit_0 a4, lit [(102 : Nat)] ++ g_Vs_l3Digit_0 a6] else bif at_ (Ty.int IntKind.i64) (g_Vs_l1Get_0 a0 (lit [(99 : Nat)] ++ g_Vs_l3Digit_0 a4)) (nat_lit 1) != g_Vs_SecSum_0 a5 then g_Vs_l3No_0 [lit [(99 : Nat)] ++ g_Vs_l3Digit_0 a4, lit [(102 : Nat)] ++ g_Vs_l3Digit_0 a6] else [lit [(99 : Nat)] ++ g_Vs_l3Digit_0 a4, lit [(102 : Nat)] ++ g_Vs_l3Digit_0 a6, lit [(117 : Nat)] ++ g_Vs_l3Digit_0 (at_ (Ty.int IntKind.i64) (g_Vs_l1Get_0 a0 (lit [(99 : Nat)] ++ g_Vs_l3Digit_0 a4)) (nat_lit 0))]
noncomputable def g_Vs_l3Trade_2 (a0 : List ((ByteArray) × (List (Int)))) (a1 : Int) (a2 : Int) (a3 : Int) (a4 : Int) (a5 : Int) (a6 : Int) (a7 : Int) : List ((ByteArray) × ((Bool) × (List (Int)))) := bif !g_Vs_l1Get_1 a0 (lit [(99 : Nat)] ++ g_Vs_l3Digit_0 a4) then g_Vs_l3No_1 [lit [(99 : Nat)] ++ g_Vs_l3Digit_0 a4, lit [(102 : Nat)] ++ g_Vs_l3Digit_0 a6] else bif g_Vs_l1Get_1 a0 (lit [(102 : Nat)] ++ g_Vs_l3Digit_0 a6) then g_Vs_l3No_1 [lit [(99 : Nat)] ++ g_Vs_l3Digit_0 a4, lit [(102 : Nat)] ++ g_Vs_l3Digit_0 a6] else bif at_ (Ty.int IntKind.i64) (g_Vs_l1Get_0 a0 (lit [(99 : Nat)] ++ g_Vs_l3Digit_0 a4)) (nat_lit 1) != g_Vs_SecSum_0 a5 then g_Vs_l3No_1 [lit [(99 : Nat)] ++ g_Vs_l3Digit_0 a4, lit [(102 : Nat)] ++ g_Vs_l3Digit_0 a6] else [(lit [(99 : Nat)] ++ g_Vs_l3Digit_0 a4, true, []), (lit [(102 : Nat)] ++ g_Vs_l3Digit_0 a6, false, [at_ (Ty.int IntKind.i64) (g_Vs_l1Get_0 a0 (lit [(99 : Nat)] ++ g_Vs_l3Digit_0 a4)) (nat_lit 0), (1 : Int), (1 : Int)])]
noncomputable def Fs_l3Trade : FSem := fun ys => match ys with
  | [.val true [.sl .any 42 (.pair .str (.sl 3 (.int .i64))) a0], .val true [.int .i64 a1, .int .i64 a2, .int .i64 a3, .int .i64 a4, .int .i64 a5, .int .i64 a6, .int .i64 a7]] => some ((g_As_l3Trade a0 a1 a2 a3 a4 a5 a6 a7), .val true [.bool (g_Vs_l3Trade_0 a0 a1 a2 a3 a4 a5 a6 a7), .own .any true 9 .str (g_Vs_l3Trade_1 a0 a1 a2 a3 a4 a5 a6 a7), .own .any true 68 (.pair .str (.pair .bool (.sl 3 (.int .i64)))) (g_Vs_l3Trade_2 a0 a1 a2 a3 a4 a5 a6 a7)], [])
  | _ => none
theorem vs_l3Trade (a0 : List ((ByteArray) × (List (Int)))) (a1 : Int) (a2 : Int) (a3 : Int) (a4 : Int) (a5 : Int) (a6 : Int) (a7 : Int) : collapseH .std Es_l3Trade Os_l3Trade_0 (execFn Es_l3Trade Go.Proofs.Tryd.f70 mss_l3Trade [.val true [.sl .any 42 (.pair .str (.sl 3 (.int .i64))) a0], .val true [.int .i64 a1, .int .i64 a2, .int .i64 a3, .int .i64 a4, .int .i64 a5, .int .i64 a6, .int .i64 a7]]) = some ((g_As_l3Trade a0 a1 a2 a3 a4 a5 a6 a7), .val true [.bool (g_Vs_l3Trade_0 a0 a1 a2 a3 a4 a5 a6 a7), .own .any true 9 .str (g_Vs_l3Trade_1 a0 a1 a2 a3 a4 a5 a6 a7), .own .any true 68 (.pair .str (.pair .bool (.sl 3 (.int .i64)))) (g_Vs_l3Trade_2 a0 a1 a2 a3 a4 a5 a6 a7)], []) := by kernel_rfl
theorem ss_l3Trade : Sound Go.Proofs.Tryd.prog 70 mss_l3Trade Fs_l3Trade := by
  refine fn_gen goods_l3Trade (by kernel_rfl) .std (fn := Go.Proofs.Tryd.f70) (c := (Go.Proofs.Tryd.f70.body.getD .skip)) (o := Os_l3Trade_0) (k := 0) (by kernel_rfl) (by kernel_rfl) (by kernel_rfl) (by kernel_rfl) (by decide) ks_l3Trade_0 ?_
  intro ys r outs h
  unfold Fs_l3Trade at h
  split at h
  · exact (vs_l3Trade _ _ _ _ _ _ _ _).trans h
  · cases h
end Go.Proofs.YtnbcdkbjmpadmaaDoor.E
end
section
namespace Go.Proofs.YtnbcdkbjmpadmaaDoor.E
open Go
set_option maxRecDepth 100000
set_option maxHeartbeats 0
set_option linter.all false
noncomputable def Es_l3May : Env where
  tt := mkTI Go.Proofs.Tryd.prog
  fn := fun f => match f with
    | 62 => some (mss_l1Get, FSem.wk mss_l1Get Fs_l1Get)
    | 63 => some (mss_l3No, FSem.wk mss_l3No Fs_l3No)
    | 68 => some (mss_l3Digit, FSem.wk mss_l3Digit Fs_l3Digit)
    | 69 => some (mss_SecSum, FSem.wk mss_SecSum Fs_SecSum)
    | 70 => some (mss_l3Trade, FSem.wk mss_l3Trade Fs_l3Trade)
    | 71 => some (mss_l3Next, FSem.wk mss_l3Next Fs_l3Next)
    | 72 => some (mss_l3Out, FSem.wk mss_l3Out Fs_l3Out)
    | _ => none
  bxf := fun _ => none
  mv := []
  keep := fun _ => []
  keepB := fun _ => []
  keepX := fun _ => []
  keepXB := fun _ => []
theorem goodFs_l3May : ∀ f ms F, Es_l3May.fn f = some (ms, F) → Sound Go.Proofs.Tryd.prog f ms F := fun f ms F h => by
  unfold Es_l3May at h
  dsimp only at h
  split at h
  · injection h with h; injection h with e1 e2; subst e1 e2; exact Sound.wk ss_l1Get
  · injection h with h; injection h with e1 e2; subst e1 e2; exact Sound.wk ss_l3No
  · injection h with h; injection h with e1 e2; subst e1 e2; exact Sound.wk ss_l3Digit
  · injection h with h; injection h with e1 e2; subst e1 e2; exact Sound.wk ss_SecSum
  · injection h with h; injection h with e1 e2; subst e1 e2; exact Sound.wk ss_l3Trade
  · injection h with h; injection h with e1 e2; subst e1 e2; exact Sound.wk ss_l3Next
  · injection h with h; injection h with e1 e2; subst e1 e2; exact Sound.wk ss_l3Out
  · cases h
theorem goodBs_l3May : ∀ f ms F, Es_l3May.bxf f = some (ms, F) → SoundB Go.Proofs.Tryd.prog f ms F := fun f ms F h => by cases h
theorem goods_l3May : Good Go.Proofs.Tryd.prog Es_l3May := ⟨rfl, goodFs_l3May, goodBs_l3May⟩
noncomputable def Os_l3May_0 : Orc := fun _ _ => none
noncomputable def mss_l3May : List PM := [.rd, .own]
noncomputable def lss_l3May : List (Nat × Code) := loopsAll 0 (Go.Proofs.Tryd.f60.body.getD .skip)

theorem ks_l3May_0 : OrcOk Es_l3May Os_l3May_0 lss_l3May 0 := orcOk_none
noncomputable def g_As_l3May (a0 : List ((ByteArray) × (List (Int)))) (a1 : Int) (a2 : Int) (a3 : Int) (a4 : Int) (a5 : Int) (a6 : Int) (a7 : Int) : Bool := bif a1 == (2 : Int) then decide (nat_lit 1 + ByteArray.size (g_Vs_l3Digit_0 a4) ≤ nat_lit 9223372036854775807) && (g_As_l1Get a0 (lit [(99 : Nat)] ++ g_Vs_l3Digit_0 a4) && bif g_Vs_l1Get_1 a0 (lit [(99 : Nat)] ++ g_Vs_l3Digit_0 a4) then g_As_l3No [lit [(99 : Nat)] ++ g_Vs_l3Digit_0 a4] else g_As_SecSum a5) else bif a1 == (3 : Int) then g_As_l3Trade a0 a1 a2 a3 a4 a5 a6 a7 else bif a1 == (4 : Int) then g_As_l3Next a0 a1 a2 a3 a4 a5 a6 a7 else g_As_l3Out a0 a1 a2 a3 a4 a5 a6 a7
noncomputable def g_Vs_l3May_0 (a0 : List ((ByteArray) × (List (Int)))) (a1 : Int) (a2 : Int) (a3 : Int) (a4 : Int) (a5 : Int) (a6 : Int) (a7 : Int) : Bool := bif a1 == (2 : Int) then bif g_Vs_l1Get_1 a0 (lit [(99 : Nat)] ++ g_Vs_l3Digit_0 a4) then false else true else bif a1 == (3 : Int) then g_Vs_l3Trade_0 a0 a1 a2 a3 a4 a5 a6 a7 else bif a1 == (4 : Int) then g_Vs_l3Next_0 a0 a1 a2 a3 a4 a5 a6 a7 else true
noncomputable def g_Vs_l3May_1 (a0 : List ((ByteArray) × (List (Int)))) (a1 : Int) (a2 : Int) (a3 : Int) (a4 : Int) (a5 : Int) (a6 : Int) (a7 : Int) : List (ByteArray) := bif a1 == (2 : Int) then bif g_Vs_l1Get_1 a0 (lit [(99 : Nat)] ++ g_Vs_l3Digit_0 a4) then g_Vs_l3No_0 [lit [(99 : Nat)] ++ g_Vs_l3Digit_0 a4] else [lit [(99 : Nat)] ++ g_Vs_l3Digit_0 a4] else bif a1 == (3 : Int) then g_Vs_l3Trade_1 a0 a1 a2 a3 a4 a5 a6 a7 else bif a1 == (4 : Int) then g_Vs_l3Next_1 a0 a1 a2 a3 a4 a5 a6 a7 else g_Vs_l3Out_0 a0 a1 a2 a3 a4 a5 a6 a7
noncomputable def g_Vs_l3May_2 (a0 : List ((ByteArray) × (List (Int)))) (a1 : Int) (a2 : Int) (a3 : Int) (a4 : Int) (a5 : Int) (a6 : Int) (a7 : Int) : List ((ByteArray) × ((Bool) × (List (Int)))) := bif a1 == (2 : Int) then bif g_Vs_l1Get_1 a0 (lit [(99 : Nat)] ++ g_Vs_l3Digit_0 a4) then g_Vs_l3No_1 [lit [(99 : Nat)] ++ g_Vs_l3Digit_0 a4] else [(lit [(99 : Nat)] ++ g_Vs_l3Digit_0 a4, false, [a2, g_Vs_SecSum_0 a5])] else bif a1 == (3 : Int) then g_Vs_l3Trade_2 a0 a1 a2 a3 a4 a5 a6 a7 else bif a1 == (4 : Int) then g_Vs_l3Next_2 a0 a1 a2 a3 a4 a5 a6 a7 else g_Vs_l3Out_1 a0 a1 a2 a3 a4 a5 a6 a7
noncomputable def Fs_l3May : FSem := fun ys => match ys with
  | [.val true [.sl .any 42 (.pair .str (.sl 3 (.int .i64))) a0], .val true [.int .i64 a1, .int .i64 a2, .int .i64 a3, .int .i64 a4, .int .i64 a5, .int .i64 a6, .int .i64 a7]] => some ((g_As_l3May a0 a1 a2 a3 a4 a5 a6 a7), .val true [.bool (g_Vs_l3May_0 a0 a1 a2 a3 a4 a5 a6 a7), .own .any true 9 .str (g_Vs_l3May_1 a0 a1 a2 a3 a4 a5 a6 a7), .own .any true 68 (.pair .str (.pair .bool (.sl 3 (.int .i64)))) (g_Vs_l3May_2 a0 a1 a2 a3 a4 a5 a6 a7)], [])
  | _ => none
theorem vs_l3May (a0 : List ((ByteArray) × (List (Int)))) (a1 : Int) (a2 : Int) (a3 : Int) (a4 : Int) (a5 : Int) (a6 : Int) (a7 : Int) : collapseH .std Es_l3May Os_l3May_0 (execFn Es_l3May Go.Proofs.Tryd.f60 mss_l3May [.val true [.sl .any 42 (.pair .str (.sl 3 (.int .i64))) a0], .val true [.int .i64 a1, .int .i64 a2, .int .i64 a3, .int .i64 a4, .int .i64 a5, .int .i64 a6, .int .i64 a7]]) = some ((g_As_l3May a0 a1 a2 a3 a4 a5 a6 a7), .val true [.bool (g_Vs_l3May_0 a0 a1 a2 a3 a4 a5 a6 a7), .own .any true 9 .str (g_Vs_l3May_1 a0 a1 a2 a3 a4 a5 a6 a7), .own .any true 68 (.pair .str (.pair .bool (.sl 3 (.int .i64)))) (g_Vs_l3May_2 a0 a1 a2 a3 a4 a5 a6 a7)], []) := by kernel_rfl
theorem ss_l3May : Sound Go.Proofs.Tryd.prog 60 mss_l3May Fs_l3May := by
  refine fn_gen goods_l3May (by kernel_rfl) .std (fn := Go.Proofs.Tryd.f60) (c := (Go.Proofs.Tryd.f60.body.getD .skip)) (o := Os_l3May_0) (k := 0) (by kernel_rfl) (by kernel_rfl) (by kernel_rfl) (by kernel_rfl) (by decide) ks_l3May_0 ?_
  intro ys r outs h
  unfold Fs_l3May at h
  split at h
  · exact (vs_l3May _ _ _ _ _ _ _ _).trans h
  · cases h
end Go.Proofs.YtnbcdkbjmpadmaaDoor.E
end
section
namespace Go.Proofs.YtnbcdkbjmpadmaaDoor.E
open Go
set_option maxRecDepth 100000
set_option maxHeartbeats 0
set_option linter.all false
noncomputable def Es_l3Plain : Env where
  tt := mkTI Go.Proofs.Tryd.prog
  fn := fun f => match f with
    | 68 => some (mss_l3Digit, FSem.wk mss_l3Digit Fs_l3Digit)
    | _ => none
  bxf := fun _ => none
  mv := []
  keep := fun b => match b with
    | 0 => [(0, false), (3, false)]
    | _ => []
  keepB := fun b => match b with
    | 0 => []
    | _ => []
  keepX := fun b => match b with
    | 0 => [(0, false), (3, false)]
    | _ => []
  keepXB := fun b => match b with
    | 0 => []
    | _ => []
theorem goodFs_l3Plain : ∀ f ms F, Es_l3Plain.fn f = some (ms, F) → Sound Go.Proofs.Tryd.prog f ms F := fun f ms F h => by
  unfold Es_l3Plain at h
  dsimp only at h
  split at h
  · injection h with h; injection h with e1 e2; subst e1 e2; exact Sound.wk ss_l3Digit
  · cases h
theorem goodBs_l3Plain : ∀ f ms F, Es_l3Plain.bxf f = some (ms, F) → SoundB Go.Proofs.Tryd.prog f ms F := fun f ms F h => by cases h
theorem goods_l3Plain : Good Go.Proofs.Tryd.prog Es_l3Plain := ⟨rfl, goodFs_l3Plain, goodBs_l3Plain⟩
noncomputable def Os_l3Plain_0 : Orc := fun _ _ => none
noncomputable def mss_l3Plain : List PM := [.own]
noncomputable def lss_l3Plain : List (Nat × Code) := loopsAll 0 (Go.Proofs.Tryd.f61.body.getD .skip)
noncomputable def cs_l3Plain_0 : Code := (loopOf 0 (Go.Proofs.Tryd.f61.body.getD .skip)).getD .skip
theorem lseqs_l3Plain : lss_l3Plain = [(0, cs_l3Plain_0)] := by kernel_rfl
theorem ms_l3Plain_0 : ∀ p, p ∈ lss_l3Plain → p.1 = 0 → p.2 = cs_l3Plain_0 := by
  intro p hp
  rw [lseqs_l3Plain] at hp
  simp only [List.mem_cons, List.not_mem_nil, or_false] at hp
  subst hp; simp
theorem ks_l3Plain_0 : OrcOk Es_l3Plain Os_l3Plain_0 lss_l3Plain 0 := orcOk_none
noncomputable def hs_l3Plain_0 (y0 : Int) (y1 : ByteArray) : List (Pl × LV) := [(.T 0, .t (.val false [.int .i64 y0])), (.T 3, .t (.val false [.str y1]))]
noncomputable def g_Ss_l3Plain_0 : ((Int) × (ByteArray)) → RT ((Int) × (ByteArray)) (((Int) × (ByteArray)))
  | (y0, y1) => .br (true) (.br (decide (y0 > (9 : Int))) (.br (true) (.br (true) (.br (decide (ByteArray.size (g_Vs_l3Digit_0 (Int.tmod y0 (10 : Int))) + ByteArray.size y1 ≤ nat_lit 9223372036854775807)) (.br (true) (.go ((IntKind.wrap IntKind.i64 (Int.tdiv y0 (10 : Int)), g_Vs_l3Digit_0 (Int.tmod y0 (10 : Int)) ++ y1))) (.bad)) (.bad)) (.bad)) (.bad)) (.out ((y0, y1)))) (.bad)
noncomputable def g_Ls_l3Plain_0 (x : (Int) × (ByteArray)) : Option (((Int) × (ByteArray))) := loopO (g_Ss_l3Plain_0) x
noncomputable def xs_l3Plain_0 : (((Int) × (ByteArray))) → Ex × List (Pl × LV) := fun r => (.exit 0, [(.T 0, .t (.val false [.int .i64 r.1])), (.T 3, .t (.val false [.str r.2]))])
noncomputable def Os_l3Plain_1 : Orc := fun b h => match b, h with
  | 0, [(.T 0, .t (.val false [.int .i64 y0])), (.T 3, .t (.val false [.str y1]))] => some (okO (g_Ls_l3Plain_0 (y0, y1)), (.leaf (.exit 0) [(.T 0, .t (.val false [.int .i64 (valO (g_Ls_l3Plain_0 (y0, y1))).1])), (.T 3, .t (.val false [.str (valO (g_Ls_l3Plain_0 (y0, y1))).2]))]))
  | b, h => Os_l3Plain_0 b h
theorem bs_l3Plain_0 (y0 : Int) (y1 : ByteArray) : Tr.bt Es_l3Plain Os_l3Plain_0 (exec Es_l3Plain 0 cs_l3Plain_0 (St.of (hs_l3Plain_0 y0 y1)) (leafRd Es_l3Plain 0)) = (g_Ss_l3Plain_0 (y0, y1)).bt (fun ((y0, y1) : (Int) × (ByteArray)) => (hs_l3Plain_0 y0 y1)) (xs_l3Plain_0) := by kernel_rfl
theorem ks_l3Plain_1 : OrcOk Es_l3Plain Os_l3Plain_1 lss_l3Plain 1 := orc_add ks_l3Plain_0 (fun n p hp h ex h' ho => by
  obtain ⟨b, c⟩ := p
  obtain ⟨xt, h1, h2⟩ := ho
  have h1 : Os_l3Plain_1 b h = some (true, xt) := h1
  unfold Os_l3Plain_1 at h1
  split at h1
  · injection h1 with h1
    injection h1 with e1 e2
    subst e2
    have hc : c = cs_l3Plain_0 := ms_l3Plain_0 _ hp rfl
    subst hc
    right
    rename_i y0 y1
    have key := LT_step ks_l3Plain_0 hp (fun q hq => loopsAll_in _ _ _ _ hp hq) (fun ((y0, y1) : (Int) × (ByteArray)) => (hs_l3Plain_0 y0 y1)) (xs_l3Plain_0) (g_Ss_l3Plain_0) (fun x => by first | exact bs_l3Plain_0 x.1 x.2) n (x := (y0, y1)) (okO_some e1)
    have hx : ∀ r, XT.sel (.leaf (.exit 0) [(.T 0, .t (.val false [.int .i64 r.1])), (.T 3, .t (.val false [.str r.2]))]) = xs_l3Plain_0 r := fun r => by first | rfl | (rcases r with r | r <;> rfl) | (rcases r with r | r | r <;> rfl) | (rcases r with r | r | r | r <;> rfl)
    have h3 := (hx (valO (g_Ls_l3Plain_0 (y0, y1)))).symm.trans h2
    have e3 := congrArg Prod.fst h3
    have e4 := congrArg Prod.snd h3
    simp only at e3 e4
    rw [← e3, ← e4]
    exact key
  · exact .inl ⟨xt, h1, h2⟩)
noncomputable def g_As_l3Plain (a0 : Int) : Bool := okO (g_Ls_l3Plain_0 (a0, lit [])) && decide (ByteArray.size (g_Vs_l3Digit_0 (valO (g_Ls_l3Plain_0 (a0, lit []))).1) + ByteArray.size (valO (g_Ls_l3Plain_0 (a0, lit []))).2 ≤ nat_lit 9223372036854775807)
noncomputable def g_Vs_l3Plain_0 (a0 : Int) : ByteArray := g_Vs_l3Digit_0 (valO (g_Ls_l3Plain_0 (a0, lit []))).1 ++ (valO (g_Ls_l3Plain_0 (a0, lit []))).2
noncomputable def Fs_l3Plain : FSem := fun ys => match ys with
  | [.val false [.int .i64 a0]] => some ((g_As_l3Plain a0), .val false [.str (g_Vs_l3Plain_0 a0)], [])
  | _ => none
theorem vs_l3Plain (a0 : Int) : collapseH .std Es_l3Plain Os_l3Plain_1 (execFn Es_l3Plain Go.Proofs.Tryd.f61 mss_l3Plain [.val false [.int .i64 a0]]) = some ((g_As_l3Plain a0), .val false [.str (g_Vs_l3Plain_0 a0)], []) := by kernel_rfl
theorem ss_l3Plain : Sound Go.Proofs.Tryd.prog 61 mss_l3Plain Fs_l3Plain := by
  refine fn_gen goods_l3Plain (by kernel_rfl) .std (fn := Go.Proofs.Tryd.f61) (c := (Go.Proofs.Tryd.f61.body.getD .skip)) (o := Os_l3Plain_1) (k := 1) (by kernel_rfl) (by kernel_rfl) (by kernel_rfl) (by kernel_rfl) (by decide) ks_l3Plain_1 ?_
  intro ys r outs h
  unfold Fs_l3Plain at h
  split at h
  · exact (vs_l3Plain _).trans h
  · cases h
end Go.Proofs.YtnbcdkbjmpadmaaDoor.E
end
section
namespace Go.Proofs.YtnbcdkbjmpadmaaDoor.E
open Go
set_option maxRecDepth 100000
set_option maxHeartbeats 0
set_option linter.all false
noncomputable def Es_l3Plan : Env where
  tt := mkTI Go.Proofs.Tryd.prog
  fn := fun f => match f with
    | 59 => some (mss_l3In, FSem.wk mss_l3In Fs_l3In)
    | 60 => some (mss_l3May, FSem.wk mss_l3May Fs_l3May)
    | 61 => some (mss_l3Plain, FSem.wk mss_l3Plain Fs_l3Plain)
    | 62 => some (mss_l1Get, FSem.wk mss_l1Get Fs_l1Get)
    | 63 => some (mss_l3No, FSem.wk mss_l3No Fs_l3No)
    | _ => none
  bxf := fun _ => none
  mv := []
  keep := fun _ => []
  keepB := fun _ => []
  keepX := fun _ => []
  keepXB := fun _ => []
theorem goodFs_l3Plan : ∀ f ms F, Es_l3Plan.fn f = some (ms, F) → Sound Go.Proofs.Tryd.prog f ms F := fun f ms F h => by
  unfold Es_l3Plan at h
  dsimp only at h
  split at h
  · injection h with h; injection h with e1 e2; subst e1 e2; exact Sound.wk ss_l3In
  · injection h with h; injection h with e1 e2; subst e1 e2; exact Sound.wk ss_l3May
  · injection h with h; injection h with e1 e2; subst e1 e2; exact Sound.wk ss_l3Plain
  · injection h with h; injection h with e1 e2; subst e1 e2; exact Sound.wk ss_l1Get
  · injection h with h; injection h with e1 e2; subst e1 e2; exact Sound.wk ss_l3No
  · cases h
theorem goodBs_l3Plan : ∀ f ms F, Es_l3Plan.bxf f = some (ms, F) → SoundB Go.Proofs.Tryd.prog f ms F := fun f ms F h => by cases h
theorem goods_l3Plan : Good Go.Proofs.Tryd.prog Es_l3Plan := ⟨rfl, goodFs_l3Plan, goodBs_l3Plan⟩
noncomputable def Os_l3Plan_0 : Orc := fun _ _ => none
noncomputable def mss_l3Plan : List PM := [.own, .rd, .own, .own]
noncomputable def lss_l3Plan : List (Nat × Code) := loopsAll 0 (Go.Proofs.Tryd.f49.body.getD .skip)

theorem ks_l3Plan_0 : OrcOk Es_l3Plan Os_l3Plan_0 lss_l3Plan 0 := orcOk_none
noncomputable def g_As_l3Plan (a0 : Int) (a1 : List ((ByteArray) × (List (Int)))) (a2 : Int) (a3 : Int) (a4 : Int) (a5 : Int) (a6 : Int) (a7 : Int) (a8 : Int) (a9 : Int) : Bool := bif a0 == (1 : Int) then g_As_l3In a1 a3 a4 a5 a6 a7 a8 a9 else bif a0 == (2 : Int) then g_As_l3May a1 a3 a4 a5 a6 a7 a8 a9 else g_As_l3Plain a2 && (decide (nat_lit 1 + ByteArray.size (g_Vs_l3Plain_0 a2) ≤ nat_lit 9223372036854775807) && (g_As_l1Get a1 (lit [(97 : Nat)] ++ g_Vs_l3Plain_0 a2) && (!g_Vs_l1Get_1 a1 (lit [(97 : Nat)] ++ g_Vs_l3Plain_0 a2) || g_As_l3No [lit [(97 : Nat)] ++ g_Vs_l3Plain_0 a2])))
noncomputable def g_Vs_l3Plan_0 (a0 : Int) (a1 : List ((ByteArray) × (List (Int)))) (a2 : Int) (a3 : Int) (a4 : Int) (a5 : Int) (a6 : Int) (a7 : Int) (a8 : Int) (a9 : Int) : Bool := bif a0 == (1 : Int) then g_Vs_l3In_0 a1 a3 a4 a5 a6 a7 a8 a9 else bif a0 == (2 : Int) then g_Vs_l3May_0 a1 a3 a4 a5 a6 a7 a8 a9 else bif g_Vs_l1Get_1 a1 (lit [(97 : Nat)] ++ g_Vs_l3Plain_0 a2) then false else true
noncomputable def g_Vs_l3Plan_1 (a0 : Int) (a1 : List ((ByteArray) × (List (Int)))) (a2 : Int) (a3 : Int) (a4 : Int) (a5 : Int) (a6 : Int) (a7 : Int) (a8 : Int) (a9 : Int) : List (ByteArray) := bif a0 == (1 : Int) then g_Vs_l3In_1 a1 a3 a4 a5 a6 a7 a8 a9 else bif a0 == (2 : Int) then g_Vs_l3May_1 a1 a3 a4 a5 a6 a7 a8 a9 else bif g_Vs_l1Get_1 a1 (lit [(97 : Nat)] ++ g_Vs_l3Plain_0 a2) then g_Vs_l3No_0 [lit [(97 : Nat)] ++ g_Vs_l3Plain_0 a2] else [lit [(97 : Nat)] ++ g_Vs_l3Plain_0 a2]
noncomputable def g_Vs_l3Plan_2 (a0 : Int) (a1 : List ((ByteArray) × (List (Int)))) (a2 : Int) (a3 : Int) (a4 : Int) (a5 : Int) (a6 : Int) (a7 : Int) (a8 : Int) (a9 : Int) : List ((ByteArray) × ((Bool) × (List (Int)))) := bif a0 == (1 : Int) then g_Vs_l3In_2 a1 a3 a4 a5 a6 a7 a8 a9 else bif a0 == (2 : Int) then g_Vs_l3May_2 a1 a3 a4 a5 a6 a7 a8 a9 else bif g_Vs_l1Get_1 a1 (lit [(97 : Nat)] ++ g_Vs_l3Plain_0 a2) then g_Vs_l3No_1 [lit [(97 : Nat)] ++ g_Vs_l3Plain_0 a2] else [(lit [(97 : Nat)] ++ g_Vs_l3Plain_0 a2, false, [a3])]
noncomputable def Fs_l3Plan : FSem := fun ys => match ys with
  | [.val false [.int .i64 a0], .val true [.sl .any 42 (.pair .str (.sl 3 (.int .i64))) a1], .val false [.int .i64 a2], .val true [.int .i64 a3, .int .i64 a4, .int .i64 a5, .int .i64 a6, .int .i64 a7, .int .i64 a8, .int .i64 a9]] => some ((g_As_l3Plan a0 a1 a2 a3 a4 a5 a6 a7 a8 a9), .val true [.bool (g_Vs_l3Plan_0 a0 a1 a2 a3 a4 a5 a6 a7 a8 a9), .own .any true 9 .str (g_Vs_l3Plan_1 a0 a1 a2 a3 a4 a5 a6 a7 a8 a9), .own .any true 68 (.pair .str (.pair .bool (.sl 3 (.int .i64)))) (g_Vs_l3Plan_2 a0 a1 a2 a3 a4 a5 a6 a7 a8 a9)], [])
  | _ => none
theorem vs_l3Plan (a0 : Int) (a1 : List ((ByteArray) × (List (Int)))) (a2 : Int) (a3 : Int) (a4 : Int) (a5 : Int) (a6 : Int) (a7 : Int) (a8 : Int) (a9 : Int) : collapseH .std Es_l3Plan Os_l3Plan_0 (execFn Es_l3Plan Go.Proofs.Tryd.f49 mss_l3Plan [.val false [.int .i64 a0], .val true [.sl .any 42 (.pair .str (.sl 3 (.int .i64))) a1], .val false [.int .i64 a2], .val true [.int .i64 a3, .int .i64 a4, .int .i64 a5, .int .i64 a6, .int .i64 a7, .int .i64 a8, .int .i64 a9]]) = some ((g_As_l3Plan a0 a1 a2 a3 a4 a5 a6 a7 a8 a9), .val true [.bool (g_Vs_l3Plan_0 a0 a1 a2 a3 a4 a5 a6 a7 a8 a9), .own .any true 9 .str (g_Vs_l3Plan_1 a0 a1 a2 a3 a4 a5 a6 a7 a8 a9), .own .any true 68 (.pair .str (.pair .bool (.sl 3 (.int .i64)))) (g_Vs_l3Plan_2 a0 a1 a2 a3 a4 a5 a6 a7 a8 a9)], []) := by kernel_rfl
theorem ss_l3Plan : Sound Go.Proofs.Tryd.prog 49 mss_l3Plan Fs_l3Plan := by
  refine fn_gen goods_l3Plan (by kernel_rfl) .std (fn := Go.Proofs.Tryd.f49) (c := (Go.Proofs.Tryd.f49.body.getD .skip)) (o := Os_l3Plan_0) (k := 0) (by kernel_rfl) (by kernel_rfl) (by kernel_rfl) (by kernel_rfl) (by decide) ks_l3Plan_0 ?_
  intro ys r outs h
  unfold Fs_l3Plan at h
  split at h
  · exact (vs_l3Plan _ _ _ _ _ _ _ _ _ _).trans h
  · cases h
end Go.Proofs.YtnbcdkbjmpadmaaDoor.E
end
section
namespace Go.Proofs.YtnbcdkbjmpadmaaDoor.E
open Go
set_option maxRecDepth 100000
set_option maxHeartbeats 0
set_option linter.all false
noncomputable def Es_l4Do : Env where
  tt := mkTI Go.Proofs.Tryd.prog
  fn := fun f => match f with
    | 25 => some (mss_StoDo, FSem.wk mss_StoDo Fs_StoDo)
    | 38 => some (mss_l4Copy, FSem.wk mss_l4Copy Fs_l4Copy)
    | 48 => some (mss_OpPlaces, FSem.wk mss_OpPlaces Fs_OpPlaces)
    | 49 => some (mss_l3Plan, FSem.wk mss_l3Plan Fs_l3Plan)
    | _ => none
  bxf := fun _ => none
  mv := []
  keep := fun b => match b with
    | 0 => [(0, false), (1, false), (5, false), (8, false), (9, true), (10, false)]
    | _ => []
  keepB := fun b => match b with
    | 0 => [(5, false)]
    | _ => []
  keepX := fun b => match b with
    | 0 => [(6, false), (7, false), (9, true)]
    | _ => []
  keepXB := fun b => match b with
    | 0 => []
    | _ => []
theorem goodFs_l4Do : ∀ f ms F, Es_l4Do.fn f = some (ms, F) → Sound Go.Proofs.Tryd.prog f ms F := fun f ms F h => by
  unfold Es_l4Do at h
  dsimp only at h
  split at h
  · injection h with h; injection h with e1 e2; subst e1 e2; exact Sound.wk ss_StoDo
  · injection h with h; injection h with e1 e2; subst e1 e2; exact Sound.wk ss_l4Copy
  · injection h with h; injection h with e1 e2; subst e1 e2; exact Sound.wk ss_OpPlaces
  · injection h with h; injection h with e1 e2; subst e1 e2; exact Sound.wk ss_l3Plan
  · cases h
theorem goodBs_l4Do : ∀ f ms F, Es_l4Do.bxf f = some (ms, F) → SoundB Go.Proofs.Tryd.prog f ms F := fun f ms F h => by cases h
theorem goods_l4Do : Good Go.Proofs.Tryd.prog Es_l4Do := ⟨rfl, goodFs_l4Do, goodBs_l4Do⟩
noncomputable def Os_l4Do_0 : Orc := fun _ _ => none
noncomputable def mss_l4Do : List PM := [.fz, .own, .own]
noncomputable def lss_l4Do : List (Nat × Code) := loopsAll 0 (Go.Proofs.Tryd.f37.body.getD .skip)
noncomputable def cs_l4Do_0 : Code := (loopOf 0 (Go.Proofs.Tryd.f37.body.getD .skip)).getD .skip
theorem lseqs_l4Do : lss_l4Do = [(0, cs_l4Do_0)] := by kernel_rfl
theorem ms_l4Do_0 : ∀ p, p ∈ lss_l4Do → p.1 = 0 → p.2 = cs_l4Do_0 := by
  intro p hp
  rw [lseqs_l4Do] at hp
  simp only [List.mem_cons, List.not_mem_nil, or_false] at hp
  subst hp; simp
theorem ks_l4Do_0 : OrcOk Es_l4Do Os_l4Do_0 lss_l4Do 0 := orcOk_none
noncomputable def hs_l4Do_0 (y0 : List (List ((ByteArray) × (List (Int))))) (y1 : Int) (y2 : List (Int)) (y3 : List (List ((ByteArray) × (List (Int))))) (y4 : Int) (y5 : Int) (y6 : Int) (y7 : Int) (y8 : Int) (y9 : Int) (y10 : Int) (y11 : Int) : List (Pl × LV) := [(.T 0, .t (.val false [.sl .any 30 (.sl 42 (.pair .str (.sl 3 (.int .i64)))) y0])), (.T 1, .t (.val false [.int .i64 y1])), (.T 5, .t (.val false [.ptr 5 0 0])), (.T 8, .t (.val false [.row 8 0 0])), (.R 8 0, .r 0 (some ⟨false, .any, true, 3, (.int .i64), y2⟩)), (.T 9, .t (.val false [.row 9 0 0])), (.R 9 0, .r 0 (some ⟨false, .any, false, 30, (.sl 42 (.pair .str (.sl 3 (.int .i64)))), y3⟩)), (.T 10, .t (.val false [.int .i64 y4])), (.B 5, .b 0 false [.int .i64 y5, .int .i64 y6, .int .i64 y7, .int .i64 y8, .int .i64 y9, .int .i64 y10, .int .i64 y11])]
noncomputable def g_Ss_l4Do_0 (y0 : List (List ((ByteArray) × (List (Int))))) (y1 : Int) (y2 : List (Int)) (y5 : Int) (y6 : Int) (y7 : Int) (y8 : Int) (y9 : Int) (y10 : Int) (y11 : Int) : ((List (List ((ByteArray) × (List (Int))))) × (Int)) → RT ((List (List ((ByteArray) × (List (Int))))) × (Int)) (((Bool) × (List (List ((ByteArray) × (List (Int)))))) ⊕ ((List (List ((ByteArray) × (List (Int)))))))
  | (y3, y4) => .br (true) (.br (decide (y4 < (↑(List.length y2) : Int))) (.br (decide ((0 : Int) ≤ y4 ∧ y4 < (↑(List.length y2) : Int))) (.br (decide (Int.toNat y4 < List.length y2)) (.br (decide ((0 : Int) ≤ y4 ∧ y4 < (↑(List.length y2) : Int))) (.br (decide (Int.toNat y4 < List.length y2)) (.br (true) (.br (decide ((0 : Int) ≤ IntKind.wrap IntKind.i64 (at_ (Ty.int IntKind.i64) y2 (Int.toNat y4) - (1 : Int)) ∧ IntKind.wrap IntKind.i64 (at_ (Ty.int IntKind.i64) y2 (Int.toNat y4) - (1 : Int)) < (↑(List.length y0) : Int))) (.br (g_As_l3Plan (at_ (Ty.int IntKind.i64) y2 (Int.toNat y4)) (at_ (Ty.sl (nat_lit 42) (Ty.pair Ty.str (Ty.sl (nat_lit 3) (Ty.int IntKind.i64)))) y0 (Int.toNat (IntKind.wrap IntKind.i64 (at_ (Ty.int IntKind.i64) y2 (Int.toNat y4) - (1 : Int))))) y1 y5 y6 y7 y8 y9 y10 y11) (.br (!g_Vs_l3Plan_0 (at_ (Ty.int IntKind.i64) y2 (Int.toNat y4)) (at_ (Ty.sl (nat_lit 42) (Ty.pair Ty.str (Ty.sl (nat_lit 3) (Ty.int IntKind.i64)))) y0 (Int.toNat (IntKind.wrap IntKind.i64 (at_ (Ty.int IntKind.i64) y2 (Int.toNat y4) - (1 : Int))))) y1 y5 y6 y7 y8 y9 y10 y11) (.out (.inl ((false, y3)))) (.br (decide ((0 : Int) ≤ y4 ∧ y4 < (↑(List.length y2) : Int))) (.br (decide (Int.toNat y4 < List.length y2)) (.br (true) (.br (decide ((0 : Int) ≤ y4 ∧ y4 < (↑(List.length y2) : Int))) (.br (decide (Int.toNat y4 < List.length y2)) (.br (true) (.br (decide ((0 : Int) ≤ IntKind.wrap IntKind.i64 (at_ (Ty.int IntKind.i64) y2 (Int.toNat y4) - (1 : Int)) ∧ IntKind.wrap IntKind.i64 (at_ (Ty.int IntKind.i64) y2 (Int.toNat y4) - (1 : Int)) < (↑(List.length y3) : Int))) (.br (decide (Int.toNat (IntKind.wrap IntKind.i64 (at_ (Ty.int IntKind.i64) y2 (Int.toNat y4) - (1 : Int))) < List.length y3)) (.br (g_As_StoDo (at_ (Ty.sl (nat_lit 42) (Ty.pair Ty.str (Ty.sl (nat_lit 3) (Ty.int IntKind.i64)))) y3 (Int.toNat (IntKind.wrap IntKind.i64 (at_ (Ty.int IntKind.i64) y2 (Int.toNat y4) - (1 : Int))))) (g_Vs_l3Plan_2 (at_ (Ty.int IntKind.i64) y2 (Int.toNat y4)) (at_ (Ty.sl (nat_lit 42) (Ty.pair Ty.str (Ty.sl (nat_lit 3) (Ty.int IntKind.i64)))) y0 (Int.toNat (IntKind.wrap IntKind.i64 (at_ (Ty.int IntKind.i64) y2 (Int.toNat y4) - (1 : Int))))) y1 y5 y6 y7 y8 y9 y10 y11)) (.br (decide ((0 : Int) ≤ IntKind.wrap IntKind.i64 (at_ (Ty.int IntKind.i64) y2 (Int.toNat y4) - (1 : Int)) ∧ IntKind.wrap IntKind.i64 (at_ (Ty.int IntKind.i64) y2 (Int.toNat y4) - (1 : Int)) < (↑(List.length y3) : Int))) (.br (decide (Int.toNat (IntKind.wrap IntKind.i64 (at_ (Ty.int IntKind.i64) y2 (Int.toNat y4) - (1 : Int))) < List.length y3)) (.br (true) (.go ((List.set y3 (Int.toNat (IntKind.wrap IntKind.i64 (at_ (Ty.int IntKind.i64) y2 (Int.toNat y4) - (1 : Int)))) (g_Vs_StoDo_0 (at_ (Ty.sl (nat_lit 42) (Ty.pair Ty.str (Ty.sl (nat_lit 3) (Ty.int IntKind.i64)))) y3 (Int.toNat (IntKind.wrap IntKind.i64 (at_ (Ty.int IntKind.i64) y2 (Int.toNat y4) - (1 : Int))))) (g_Vs_l3Plan_2 (at_ (Ty.int IntKind.i64) y2 (Int.toNat y4)) (at_ (Ty.sl (nat_lit 42) (Ty.pair Ty.str (Ty.sl (nat_lit 3) (Ty.int IntKind.i64)))) y0 (Int.toNat (IntKind.wrap IntKind.i64 (at_ (Ty.int IntKind.i64) y2 (Int.toNat y4) - (1 : Int))))) y1 y5 y6 y7 y8 y9 y10 y11)), IntKind.wrap IntKind.i64 (y4 + (1 : Int))))) (.bad)) (.bad)) (.bad)) (.bad)) (.bad)) (.bad)) (.bad)) (.bad)) (.bad)) (.bad)) (.bad)) (.bad))) (.bad)) (.bad)) (.bad)) (.bad)) (.bad)) (.bad)) (.bad)) (.out (.inr (y3)))) (.bad)
noncomputable def g_Ls_l4Do_0 (y0 : List (List ((ByteArray) × (List (Int))))) (y1 : Int) (y2 : List (Int)) (y5 : Int) (y6 : Int) (y7 : Int) (y8 : Int) (y9 : Int) (y10 : Int) (y11 : Int) (x : (List (List ((ByteArray) × (List (Int))))) × (Int)) : Option (((Bool) × (List (List ((ByteArray) × (List (Int)))))) ⊕ ((List (List ((ByteArray) × (List (Int))))))) := loopO (g_Ss_l4Do_0 y0 y1 y2 y5 y6 y7 y8 y9 y10 y11) x
noncomputable def xs_l4Do_0 (y0 : List (List ((ByteArray) × (List (Int))))) (y1 : Int) (y2 : List (Int)) (y5 : Int) (y6 : Int) (y7 : Int) (y8 : Int) (y9 : Int) (y10 : Int) (y11 : Int) : (((Bool) × (List (List ((ByteArray) × (List (Int)))))) ⊕ ((List (List ((ByteArray) × (List (Int))))))) → Ex × List (Pl × LV) := fun
  | .inl r => (.ret, [(.T 6, .t (.val false [.sl .any 30 (.sl 42 (.pair .str (.sl 3 (.int .i64)))) y0])), (.T 7, .t (.val false [.bool r.1])), (.T 9, .t (.val false [.row 9 0 0])), (.R 9 0, .r 0 (some ⟨false, .any, false, 30, (.sl 42 (.pair .str (.sl 3 (.int .i64)))), r.2⟩))])
  | .inr (r) => (.exit 0, [(.T 6, .t (.val false [.undef])), (.T 7, .t (.val false [.undef])), (.T 9, .t (.val false [.row 9 0 0])), (.R 9 0, .r 0 (some ⟨false, .any, false, 30, (.sl 42 (.pair .str (.sl 3 (.int .i64)))), r⟩))])
noncomputable def Os_l4Do_1 : Orc := fun b h => match b, h with
  | 0, [(.T 0, .t (.val false [.sl .any 30 (.sl 42 (.pair .str (.sl 3 (.int .i64)))) y0])), (.T 1, .t (.val false [.int .i64 y1])), (.T 5, .t (.val false [.ptr 5 0 0])), (.T 8, .t (.val false [.row 8 0 0])), (.R 8 0, .r 0 (some ⟨false, .any, true, 3, (.int .i64), y2⟩)), (.T 9, .t (.val false [.row 9 0 0])), (.R 9 0, .r 0 (some ⟨false, .any, false, 30, (.sl 42 (.pair .str (.sl 3 (.int .i64)))), y3⟩)), (.T 10, .t (.val false [.int .i64 y4])), (.B 5, .b 0 false [.int .i64 y5, .int .i64 y6, .int .i64 y7, .int .i64 y8, .int .i64 y9, .int .i64 y10, .int .i64 y11])] => some (okO (g_Ls_l4Do_0 y0 y1 y2 y5 y6 y7 y8 y9 y10 y11 (y3, y4)), (.br (isL (valO (g_Ls_l4Do_0 y0 y1 y2 y5 y6 y7 y8 y9 y10 y11 (y3, y4)))) (.leaf .ret [(.T 6, .t (.val false [.sl .any 30 (.sl 42 (.pair .str (.sl 3 (.int .i64)))) y0])), (.T 7, .t (.val false [.bool (getL (valO (g_Ls_l4Do_0 y0 y1 y2 y5 y6 y7 y8 y9 y10 y11 (y3, y4)))).1])), (.T 9, .t (.val false [.row 9 0 0])), (.R 9 0, .r 0 (some ⟨false, .any, false, 30, (.sl 42 (.pair .str (.sl 3 (.int .i64)))), (getL (valO (g_Ls_l4Do_0 y0 y1 y2 y5 y6 y7 y8 y9 y10 y11 (y3, y4)))).2⟩))]) (.leaf (.exit 0) [(.T 6, .t (.val false [.undef])), (.T 7, .t (.val false [.undef])), (.T 9, .t (.val false [.row 9 0 0])), (.R 9 0, .r 0 (some ⟨false, .any, false, 30, (.sl 42 (.pair .str (.sl 3 (.int .i64)))), (getR (valO (g_Ls_l4Do_0 y0 y1 y2 y5 y6 y7 y8 y9 y10 y11 (y3, y4))))⟩))])))
  | b, h => Os_l4Do_0 b h
theorem bs_l4Do_0 (y0 : List (List ((ByteArray) × (List (Int))))) (y1 : Int) (y2 : List (Int)) (y3 : List (List ((ByteArray) × (List (Int))))) (y4 : Int) (y5 : Int) (y6 : Int) (y7 : Int) (y8 : Int) (y9 : Int) (y10 : Int) (y11 : Int) : Tr.bt Es_l4Do Os_l4Do_0 (exec Es_l4Do 0 cs_l4Do_0 (St.of (hs_l4Do_0 y0 y1 y2 y3 y4 y5 y6 y7 y8 y9 y10 y11)) (leafRd Es_l4Do 0)) = (g_Ss_l4Do_0 y0 y1 y2 y5 y6 y7 y8 y9 y10 y11 (y3, y4)).bt (fun ((y3, y4) : (List (List ((ByteArray) × (List (Int))))) × (Int)) => (hs_l4Do_0 y0 y1 y2 y3 y4 y5 y6 y7 y8 y9 y10 y11)) (xs_l4Do_0 y0 y1 y2 y5 y6 y7 y8 y9 y10 y11) := by kernel_rfl
theorem ks_l4Do_1 : OrcOk Es_l4Do Os_l4Do_1 lss_l4Do 1 := orc_add ks_l4Do_0 (fun n p hp h ex h' ho => by
  obtain ⟨b, c⟩ := p
  obtain ⟨xt, h1, h2⟩ := ho
  have h1 : Os_l4Do_1 b h = some (true, xt) := h1
  unfold Os_l4Do_1 at h1
  split at h1
  · injection h1 with h1
    injection h1 with e1 e2
    subst e2
    have hc : c = cs_l4Do_0 := ms_l4Do_0 _ hp rfl
    subst hc
    right
    rename_i y0 y1 y2 y3 y4 y5 y6 y7 y8 y9 y10 y11
    have key := LT_step ks_l4Do_0 hp (fun q hq => loopsAll_in _ _ _ _ hp hq) (fun ((y3, y4) : (List (List ((ByteArray) × (List (Int))))) × (Int)) => (hs_l4Do_0 y0 y1 y2 y3 y4 y5 y6 y7 y8 y9 y10 y11)) (xs_l4Do_0 y0 y1 y2 y5 y6 y7 y8 y9 y10 y11) (g_Ss_l4Do_0 y0 y1 y2 y5 y6 y7 y8 y9 y10 y11) (fun x => by first | exact bs_l4Do_0 y0 y1 y2 x.1 x.2 y5 y6 y7 y8 y9 y10 y11) n (x := (y3, y4)) (okO_some e1)
    have hx : ∀ r, XT.sel (.br (isL r) (.leaf .ret [(.T 6, .t (.val false [.sl .any 30 (.sl 42 (.pair .str (.sl 3 (.int .i64)))) y0])), (.T 7, .t (.val false [.bool (getL r).1])), (.T 9, .t (.val false [.row 9 0 0])), (.R 9 0, .r 0 (some ⟨false, .any, false, 30, (.sl 42 (.pair .str (.sl 3 (.int .i64)))), (getL r).2⟩))]) (.leaf (.exit 0) [(.T 6, .t (.val false [.undef])), (.T 7, .t (.val false [.undef])), (.T 9, .t (.val false [.row 9 0 0])), (.R 9 0, .r 0 (some ⟨false, .any, false, 30, (.sl 42 (.pair .str (.sl 3 (.int .i64)))), (getR r)⟩))])) = xs_l4Do_0 y0 y1 y2 y5 y6 y7 y8 y9 y10 y11 r := fun r => by first | rfl | (rcases r with r | r <;> rfl) | (rcases r with r | r | r <;> rfl) | (rcases r with r | r | r | r <;> rfl)
    have h3 := (hx (valO (g_Ls_l4Do_0 y0 y1 y2 y5 y6 y7 y8 y9 y10 y11 (y3, y4)))).symm.trans h2
    have e3 := congrArg Prod.fst h3
    have e4 := congrArg Prod.snd h3
    simp only at e3 e4
    rw [← e3, ← e4]
    exact key
  · exact .inl ⟨xt, h1, h2⟩)
noncomputable def g_As_l4Do (a0 : List (List ((ByteArray) × (List (Int))))) (a1 : Int) (a2 : Int) (a3 : Int) (a4 : Int) (a5 : Int) (a6 : Int) (a7 : Int) (a8 : Int) : Bool := g_As_OpPlaces a2 a3 a4 a5 a6 a7 a8 && (g_As_l4Copy a0 && okO (g_Ls_l4Do_0 a0 a1 (g_Vs_OpPlaces_0 a2 a3 a4 a5 a6 a7 a8) a2 a3 a4 a5 a6 a7 a8 (g_Vs_l4Copy_0 a0, (0 : Int))))
noncomputable def g_Vs_l4Do_0 (a0 : List (List ((ByteArray) × (List (Int))))) (a1 : Int) (a2 : Int) (a3 : Int) (a4 : Int) (a5 : Int) (a6 : Int) (a7 : Int) (a8 : Int) : List (List ((ByteArray) × (List (Int)))) := bif isL (valO (g_Ls_l4Do_0 a0 a1 (g_Vs_OpPlaces_0 a2 a3 a4 a5 a6 a7 a8) a2 a3 a4 a5 a6 a7 a8 (g_Vs_l4Copy_0 a0, (0 : Int)))) then a0 else getR (valO (g_Ls_l4Do_0 a0 a1 (g_Vs_OpPlaces_0 a2 a3 a4 a5 a6 a7 a8) a2 a3 a4 a5 a6 a7 a8 (g_Vs_l4Copy_0 a0, (0 : Int))))
noncomputable def g_Vs_l4Do_1 (a0 : List (List ((ByteArray) × (List (Int))))) (a1 : Int) (a2 : Int) (a3 : Int) (a4 : Int) (a5 : Int) (a6 : Int) (a7 : Int) (a8 : Int) : Bool := bif isL (valO (g_Ls_l4Do_0 a0 a1 (g_Vs_OpPlaces_0 a2 a3 a4 a5 a6 a7 a8) a2 a3 a4 a5 a6 a7 a8 (g_Vs_l4Copy_0 a0, (0 : Int)))) then (getL (valO (g_Ls_l4Do_0 a0 a1 (g_Vs_OpPlaces_0 a2 a3 a4 a5 a6 a7 a8) a2 a3 a4 a5 a6 a7 a8 (g_Vs_l4Copy_0 a0, (0 : Int))))).1 else true
noncomputable def Fs_l4Do : FSem := fun ys => match ys with
  | [.val false [.sl .any 30 (.sl 42 (.pair .str (.sl 3 (.int .i64)))) a0], .val false [.int .i64 a1], .val true [.int .i64 a2, .int .i64 a3, .int .i64 a4, .int .i64 a5, .int .i64 a6, .int .i64 a7, .int .i64 a8]] => some ((g_As_l4Do a0 a1 a2 a3 a4 a5 a6 a7 a8), .tup [(false, [.sl .any 30 (.sl 42 (.pair .str (.sl 3 (.int .i64)))) (g_Vs_l4Do_0 a0 a1 a2 a3 a4 a5 a6 a7 a8)]), (false, [.bool (g_Vs_l4Do_1 a0 a1 a2 a3 a4 a5 a6 a7 a8)])], [])
  | _ => none
theorem vs_l4Do (a0 : List (List ((ByteArray) × (List (Int))))) (a1 : Int) (a2 : Int) (a3 : Int) (a4 : Int) (a5 : Int) (a6 : Int) (a7 : Int) (a8 : Int) : collapseH .fr Es_l4Do Os_l4Do_1 (execFn Es_l4Do Go.Proofs.Tryd.f37 mss_l4Do [.val false [.sl .any 30 (.sl 42 (.pair .str (.sl 3 (.int .i64)))) a0], .val false [.int .i64 a1], .val true [.int .i64 a2, .int .i64 a3, .int .i64 a4, .int .i64 a5, .int .i64 a6, .int .i64 a7, .int .i64 a8]]) = some ((g_As_l4Do a0 a1 a2 a3 a4 a5 a6 a7 a8), .tup [(false, [.sl .any 30 (.sl 42 (.pair .str (.sl 3 (.int .i64)))) (g_Vs_l4Do_0 a0 a1 a2 a3 a4 a5 a6 a7 a8)]), (false, [.bool (g_Vs_l4Do_1 a0 a1 a2 a3 a4 a5 a6 a7 a8)])], []) := by kernel_rfl
theorem ss_l4Do : Sound Go.Proofs.Tryd.prog 37 mss_l4Do Fs_l4Do := by
  refine fn_gen goods_l4Do (by kernel_rfl) .fr (fn := Go.Proofs.Tryd.f37) (c := (Go.Proofs.Tryd.f37.body.getD .skip)) (o := Os_l4Do_1) (k := 1) (by kernel_rfl) (by kernel_rfl) (by kernel_rfl) (by kernel_rfl) (by decide) ks_l4Do_1 ?_
  intro ys r outs h
  unfold Fs_l4Do at h
  split at h
  · exact (vs_l4Do _ _ _ _ _ _ _ _ _).trans h
  · cases h
end Go.Proofs.YtnbcdkbjmpadmaaDoor.E
end
section
namespace Go.Proofs.YtnbcdkbjmpadmaaDoor.E
open Go
set_option maxRecDepth 100000
set_option maxHeartbeats 0
set_option linter.all false
noncomputable def Es_GloDo : Env where
  tt := mkTI Go.Proofs.Tryd.prog
  fn := fun f => match f with
    | 6 => some (mss_GloOk, FSem.wk mss_GloOk Fs_GloOk)
    | 28 => some (mss_l1In, FSem.wk mss_l1In Fs_l1In)
    | 36 => some (mss_OpOk, FSem.wk mss_OpOk Fs_OpOk)
    | 37 => some (mss_l4Do, FSem.wk mss_l4Do Fs_l4Do)
    | 38 => some (mss_l4Copy, FSem.wk mss_l4Copy Fs_l4Copy)
    | _ => none
  bxf := fun _ => none
  mv := []
  keep := fun _ => []
  keepB := fun _ => []
  keepX := fun _ => []
  keepXB := fun _ => []
theorem goodFs_GloDo : ∀ f ms F, Es_GloDo.fn f = some (ms, F) → Sound Go.Proofs.Tryd.prog f ms F := fun f ms F h => by
  unfold Es_GloDo at h
  dsimp only at h
  split at h
  · injection h with h; injection h with e1 e2; subst e1 e2; exact Sound.wk ss_GloOk
  · injection h with h; injection h with e1 e2; subst e1 e2; exact Sound.wk ss_l1In
  · injection h with h; injection h with e1 e2; subst e1 e2; exact Sound.wk ss_OpOk
  · injection h with h; injection h with e1 e2; subst e1 e2; exact Sound.wk ss_l4Do
  · injection h with h; injection h with e1 e2; subst e1 e2; exact Sound.wk ss_l4Copy
  · cases h
theorem goodBs_GloDo : ∀ f ms F, Es_GloDo.bxf f = some (ms, F) → SoundB Go.Proofs.Tryd.prog f ms F := fun f ms F h => by cases h
theorem goods_GloDo : Good Go.Proofs.Tryd.prog Es_GloDo := ⟨rfl, goodFs_GloDo, goodBs_GloDo⟩
noncomputable def Os_GloDo_0 : Orc := fun _ _ => none
noncomputable def mss_GloDo : List PM := [.rd, .own, .own]
noncomputable def lss_GloDo : List (Nat × Code) := loopsAll 0 (Go.Proofs.Tryd.f23.body.getD .skip)

theorem ks_GloDo_0 : OrcOk Es_GloDo Os_GloDo_0 lss_GloDo 0 := orcOk_none
noncomputable def g_As_GloDo (a0 : List (List ((ByteArray) × (List (Int))))) (a1 : Int) (a2 : Int) (a3 : Int) (a4 : Int) (a5 : Int) (a6 : Int) (a7 : Int) (a8 : Int) : Bool := g_As_GloOk a0 && (!g_Vs_GloOk_0 a0 || g_As_OpOk a2 a3 a4 a5 a6 a7 a8 && (!g_Vs_OpOk_0 a2 a3 a4 a5 a6 a7 a8 || g_As_l1In a1 (0 : Int) (29 : Int) && (!g_Vs_l1In_0 a1 (0 : Int) (29 : Int) || g_As_l4Do a0 a1 a2 a3 a4 a5 a6 a7 a8 && g_As_l4Copy (g_Vs_l4Do_0 a0 a1 a2 a3 a4 a5 a6 a7 a8))))
noncomputable def g_Vs_GloDo_0 (a0 : List (List ((ByteArray) × (List (Int))))) (a1 : Int) (a2 : Int) (a3 : Int) (a4 : Int) (a5 : Int) (a6 : Int) (a7 : Int) (a8 : Int) : List (List ((ByteArray) × (List (Int)))) := bif !g_Vs_GloOk_0 a0 then [] else bif !g_Vs_OpOk_0 a2 a3 a4 a5 a6 a7 a8 then [] else bif !g_Vs_l1In_0 a1 (0 : Int) (29 : Int) then [] else g_Vs_l4Copy_0 (g_Vs_l4Do_0 a0 a1 a2 a3 a4 a5 a6 a7 a8)
noncomputable def g_Vs_GloDo_1 (a0 : List (List ((ByteArray) × (List (Int))))) (a1 : Int) (a2 : Int) (a3 : Int) (a4 : Int) (a5 : Int) (a6 : Int) (a7 : Int) (a8 : Int) : Bool := bif !g_Vs_GloOk_0 a0 then false else bif !g_Vs_OpOk_0 a2 a3 a4 a5 a6 a7 a8 then false else bif !g_Vs_l1In_0 a1 (0 : Int) (29 : Int) then false else g_Vs_l4Do_1 a0 a1 a2 a3 a4 a5 a6 a7 a8
noncomputable def Fs_GloDo : FSem := fun ys => match ys with
  | [.val false [.sl .any 30 (.sl 42 (.pair .str (.sl 3 (.int .i64)))) a0], .val false [.int .i64 a1], .val true [.int .i64 a2, .int .i64 a3, .int .i64 a4, .int .i64 a5, .int .i64 a6, .int .i64 a7, .int .i64 a8]] => some ((g_As_GloDo a0 a1 a2 a3 a4 a5 a6 a7 a8), .tup [(false, [.own .any true 30 (.sl 42 (.pair .str (.sl 3 (.int .i64)))) (g_Vs_GloDo_0 a0 a1 a2 a3 a4 a5 a6 a7 a8)]), (false, [.bool (g_Vs_GloDo_1 a0 a1 a2 a3 a4 a5 a6 a7 a8)])], [])
  | _ => none
theorem vs_GloDo (a0 : List (List ((ByteArray) × (List (Int))))) (a1 : Int) (a2 : Int) (a3 : Int) (a4 : Int) (a5 : Int) (a6 : Int) (a7 : Int) (a8 : Int) : collapseH .std Es_GloDo Os_GloDo_0 (execFn Es_GloDo Go.Proofs.Tryd.f23 mss_GloDo [.val false [.sl .any 30 (.sl 42 (.pair .str (.sl 3 (.int .i64)))) a0], .val false [.int .i64 a1], .val true [.int .i64 a2, .int .i64 a3, .int .i64 a4, .int .i64 a5, .int .i64 a6, .int .i64 a7, .int .i64 a8]]) = some ((g_As_GloDo a0 a1 a2 a3 a4 a5 a6 a7 a8), .tup [(false, [.own .any true 30 (.sl 42 (.pair .str (.sl 3 (.int .i64)))) (g_Vs_GloDo_0 a0 a1 a2 a3 a4 a5 a6 a7 a8)]), (false, [.bool (g_Vs_GloDo_1 a0 a1 a2 a3 a4 a5 a6 a7 a8)])], []) := by kernel_rfl
theorem ss_GloDo : Sound Go.Proofs.Tryd.prog 23 mss_GloDo Fs_GloDo := by
  refine fn_gen goods_GloDo (by kernel_rfl) .std (fn := Go.Proofs.Tryd.f23) (c := (Go.Proofs.Tryd.f23.body.getD .skip)) (o := Os_GloDo_0) (k := 0) (by kernel_rfl) (by kernel_rfl) (by kernel_rfl) (by kernel_rfl) (by decide) ks_GloDo_0 ?_
  intro ys r outs h
  unfold Fs_GloDo at h
  split at h
  · exact (vs_GloDo _ _ _ _ _ _ _ _ _).trans h
  · cases h
end Go.Proofs.YtnbcdkbjmpadmaaDoor.E
end
section
namespace Go.Proofs.YtnbcdkbjmpadmaaDoor.E
open Go
set_option maxRecDepth 100000
set_option maxHeartbeats 0
set_option linter.all false
noncomputable def Es_GloNew : Env where
  tt := mkTI Go.Proofs.Tryd.prog
  fn := fun _ => none
  bxf := fun _ => none
  mv := []
  keep := fun _ => []
  keepB := fun _ => []
  keepX := fun _ => []
  keepXB := fun _ => []
theorem goodFs_GloNew : ∀ f ms F, Es_GloNew.fn f = some (ms, F) → Sound Go.Proofs.Tryd.prog f ms F := fun f ms F h => by cases h
theorem goodBs_GloNew : ∀ f ms F, Es_GloNew.bxf f = some (ms, F) → SoundB Go.Proofs.Tryd.prog f ms F := fun f ms F h => by cases h
theorem goods_GloNew : Good Go.Proofs.Tryd.prog Es_GloNew := ⟨rfl, goodFs_GloNew, goodBs_GloNew⟩
noncomputable def Os_GloNew_0 : Orc := fun _ _ => none
noncomputable def mss_GloNew : List PM := []
noncomputable def lss_GloNew : List (Nat × Code) := loopsAll 0 (Go.Proofs.Tryd.f9.body.getD .skip)

theorem ks_GloNew_0 : OrcOk Es_GloNew Os_GloNew_0 lss_GloNew 0 := orcOk_none
noncomputable def g_Vs_GloNew_0 : List (List ((ByteArray) × (List (Int)))) := [[], [], []]
noncomputable def Fs_GloNew : FSem := fun ys => match ys with
  | [] => some (true, .val false [.own .any true 30 (.sl 42 (.pair .str (.sl 3 (.int .i64)))) g_Vs_GloNew_0], [])
  | _ => none
theorem vs_GloNew : collapseH .std Es_GloNew Os_GloNew_0 (execFn Es_GloNew Go.Proofs.Tryd.f9 mss_GloNew []) = some (true, .val false [.own .any true 30 (.sl 42 (.pair .str (.sl 3 (.int .i64)))) g_Vs_GloNew_0], []) := by kernel_rfl
theorem ss_GloNew : Sound Go.Proofs.Tryd.prog 9 mss_GloNew Fs_GloNew := by
  refine fn_gen goods_GloNew (by kernel_rfl) .std (fn := Go.Proofs.Tryd.f9) (c := (Go.Proofs.Tryd.f9.body.getD .skip)) (o := Os_GloNew_0) (k := 0) (by kernel_rfl) (by kernel_rfl) (by kernel_rfl) (by kernel_rfl) (by decide) ks_GloNew_0 ?_
  intro ys r outs h
  unfold Fs_GloNew at h
  split at h
  · exact (vs_GloNew).trans h
  · cases h
end Go.Proofs.YtnbcdkbjmpadmaaDoor.E
end
section
namespace Go.Proofs.YtnbcdkbjmpadmaaDoor.E
open Go
set_option maxRecDepth 100000
set_option maxHeartbeats 0
set_option linter.all false
noncomputable def Es_l20Rd_pick0 : Env where
  tt := mkTI Go.Proofs.Tryd.prog
  fn := fun _ => none
  bxf := fun _ => none
  mv := []
  keep := fun _ => []
  keepB := fun _ => []
  keepX := fun _ => []
  keepXB := fun _ => []
theorem goodFs_l20Rd_pick0 : ∀ f ms F, Es_l20Rd_pick0.fn f = some (ms, F) → Sound Go.Proofs.Tryd.prog f ms F := fun f ms F h => by cases h
theorem goodBs_l20Rd_pick0 : ∀ f ms F, Es_l20Rd_pick0.bxf f = some (ms, F) → SoundB Go.Proofs.Tryd.prog f ms F := fun f ms F h => by cases h
theorem goods_l20Rd_pick0 : Good Go.Proofs.Tryd.prog Es_l20Rd_pick0 := ⟨rfl, goodFs_l20Rd_pick0, goodBs_l20Rd_pick0⟩
noncomputable def Os_l20Rd_pick0_0 : Orc := fun _ _ => none
noncomputable def mss_l20Rd_pick0 : List PM := [.bx, .own]
noncomputable def lss_l20Rd_pick0 : List (Nat × Code) := loopsAll 0 (Go.Proofs.Tryd.f14.body.getD .skip)

theorem ks_l20Rd_pick0_0 : OrcOk Es_l20Rd_pick0 Os_l20Rd_pick0_0 lss_l20Rd_pick0 0 := orcOk_none
noncomputable def g_As_l20Rd_pick0 (r0 : List Int) (r1 : Int) (a2 : Int) : Bool := decide (a2 < (1 : Int)) || ((↑(List.length r0) : Int) == (0 : Int) || bif decide (IntKind.wrap IntKind.i64 (IntKind.wrap IntKind.i64 (r1 + (1 : Int)) - (1 : Int)) < (↑(List.length r0) : Int)) then decide ((0 : Int) ≤ IntKind.wrap IntKind.i64 (IntKind.wrap IntKind.i64 (r1 + (1 : Int)) - (1 : Int)) ∧ IntKind.wrap IntKind.i64 (IntKind.wrap IntKind.i64 (r1 + (1 : Int)) - (1 : Int)) < (↑(List.length r0) : Int)) && !a2 == (0 : Int) else !(↑(List.length r0) : Int) == (0 : Int) && (decide ((0 : Int) ≤ Int.tmod (IntKind.wrap IntKind.i64 (IntKind.wrap IntKind.i64 (r1 + (1 : Int)) - (1 : Int))) (↑(List.length r0) : Int) ∧ Int.tmod (IntKind.wrap IntKind.i64 (IntKind.wrap IntKind.i64 (r1 + (1 : Int)) - (1 : Int))) (↑(List.length r0) : Int) < (↑(List.length r0) : Int)) && (!(↑(List.length r0) : Int) == (0 : Int) && (decide ((0 : Int) ≤ Int.tmod (IntKind.wrap IntKind.i64 (IntKind.wrap IntKind.i64 (IntKind.wrap IntKind.i64 (IntKind.wrap IntKind.i64 (r1 + (1 : Int)) - (1 : Int)) * (7 : Int)) + (3 : Int))) (↑(List.length r0) : Int) ∧ Int.tmod (IntKind.wrap IntKind.i64 (IntKind.wrap IntKind.i64 (IntKind.wrap IntKind.i64 (IntKind.wrap IntKind.i64 (r1 + (1 : Int)) - (1 : Int)) * (7 : Int)) + (3 : Int))) (↑(List.length r0) : Int) < (↑(List.length r0) : Int)) && (!(↑(List.length r0) : Int) == (0 : Int) && !a2 == (0 : Int))))))
noncomputable def g_Vs_l20Rd_pick0_0 (r0 : List Int) (r1 : Int) (a2 : Int) : Int := bif decide (a2 < (1 : Int)) then (0 : Int) else bif (↑(List.length r0) : Int) == (0 : Int) then (0 : Int) else bif decide (IntKind.wrap IntKind.i64 (IntKind.wrap IntKind.i64 (r1 + (1 : Int)) - (1 : Int)) < (↑(List.length r0) : Int)) then Int.tmod (IntKind.wrap IntKind.i64 (at_ (Ty.int IntKind.u8) r0 (Int.toNat (IntKind.wrap IntKind.i64 (IntKind.wrap IntKind.i64 (r1 + (1 : Int)) - (1 : Int)))))) a2 else Int.tmod (IntKind.wrap IntKind.i64 (↑(BitVec.toNat (BitVec.ofInt (nat_lit 64) (IntKind.wrap IntKind.i64 (IntKind.wrap IntKind.i64 (IntKind.wrap IntKind.i64 (IntKind.wrap IntKind.i64 (IntKind.wrap IntKind.i64 (at_ (Ty.int IntKind.u8) r0 (Int.toNat (Int.tmod (IntKind.wrap IntKind.i64 (IntKind.wrap IntKind.i64 (r1 + (1 : Int)) - (1 : Int))) (↑(List.length r0) : Int)))) * (131 : Int)) + IntKind.wrap IntKind.i64 (IntKind.wrap IntKind.i64 (at_ (Ty.int IntKind.u8) r0 (Int.toNat (Int.tmod (IntKind.wrap IntKind.i64 (IntKind.wrap IntKind.i64 (IntKind.wrap IntKind.i64 (IntKind.wrap IntKind.i64 (r1 + (1 : Int)) - (1 : Int)) * (7 : Int)) + (3 : Int))) (↑(List.length r0) : Int)))) * (1117 : Int))) + IntKind.wrap IntKind.i64 (IntKind.wrap IntKind.i64 (IntKind.wrap IntKind.i64 (r1 + (1 : Int)) - (1 : Int)) * (29 : Int))) + IntKind.wrap IntKind.i64 (IntKind.wrap IntKind.i64 (Int.tdiv (IntKind.wrap IntKind.i64 (IntKind.wrap IntKind.i64 (r1 + (1 : Int)) - (1 : Int))) (↑(List.length r0) : Int)) * (53 : Int)))) ^^^ BitVec.ofInt (nat_lit 64) (IntKind.wrap IntKind.i64 (Int.tdiv (IntKind.wrap IntKind.i64 (IntKind.wrap IntKind.i64 (IntKind.wrap IntKind.i64 (IntKind.wrap IntKind.i64 (IntKind.wrap IntKind.i64 (at_ (Ty.int IntKind.u8) r0 (Int.toNat (Int.tmod (IntKind.wrap IntKind.i64 (IntKind.wrap IntKind.i64 (r1 + (1 : Int)) - (1 : Int))) (↑(List.length r0) : Int)))) * (131 : Int)) + IntKind.wrap IntKind.i64 (IntKind.wrap IntKind.i64 (at_ (Ty.int IntKind.u8) r0 (Int.toNat (Int.tmod (IntKind.wrap IntKind.i64 (IntKind.wrap IntKind.i64 (IntKind.wrap IntKind.i64 (IntKind.wrap IntKind.i64 (r1 + (1 : Int)) - (1 : Int)) * (7 : Int)) + (3 : Int))) (↑(List.length r0) : Int)))) * (1117 : Int))) + IntKind.wrap IntKind.i64 (IntKind.wrap IntKind.i64 (IntKind.wrap IntKind.i64 (r1 + (1 : Int)) - (1 : Int)) * (29 : Int))) + IntKind.wrap IntKind.i64 (IntKind.wrap IntKind.i64 (Int.tdiv (IntKind.wrap IntKind.i64 (IntKind.wrap IntKind.i64 (r1 + (1 : Int)) - (1 : Int))) (↑(List.length r0) : Int)) * (53 : Int)))) (64 : Int))))) : Int)) a2
noncomputable def g_Vs_l20Rd_pick0_1 (r0 : List Int) (r1 : Int) (a2 : Int) : List (Int) := bif decide (a2 < (1 : Int)) then r0 else bif (↑(List.length r0) : Int) == (0 : Int) then r0 else bif decide (IntKind.wrap IntKind.i64 (IntKind.wrap IntKind.i64 (r1 + (1 : Int)) - (1 : Int)) < (↑(List.length r0) : Int)) then r0 else r0
noncomputable def g_Vs_l20Rd_pick0_2 (r0 : List Int) (r1 : Int) (a2 : Int) : Int := bif decide (a2 < (1 : Int)) then IntKind.wrap IntKind.i64 (r1 + (1 : Int)) else bif (↑(List.length r0) : Int) == (0 : Int) then IntKind.wrap IntKind.i64 (r1 + (1 : Int)) else bif decide (IntKind.wrap IntKind.i64 (IntKind.wrap IntKind.i64 (r1 + (1 : Int)) - (1 : Int)) < (↑(List.length r0) : Int)) then IntKind.wrap IntKind.i64 (r1 + (1 : Int)) else IntKind.wrap IntKind.i64 (r1 + (1 : Int))
noncomputable def Fs_l20Rd_pick0 : FSem := fun ys => match ys with
  | [.val true [.sl .any 5 (.int .u8) r0, .int .i64 r1], .val false [.int .i64 a2]] => some ((g_As_l20Rd_pick0 r0 r1 a2), .val false [.int .i64 (g_Vs_l20Rd_pick0_0 r0 r1 a2)], [[.sl .any 5 (.int .u8) (g_Vs_l20Rd_pick0_1 r0 r1 a2), .int .i64 (g_Vs_l20Rd_pick0_2 r0 r1 a2)]])
  | _ => none
theorem vs_l20Rd_pick0 (r0 : List Int) (r1 : Int) (a2 : Int) : collapseH .std Es_l20Rd_pick0 Os_l20Rd_pick0_0 (execFn Es_l20Rd_pick0 Go.Proofs.Tryd.f14 mss_l20Rd_pick0 [.val true [.sl .any 5 (.int .u8) r0, .int .i64 r1], .val false [.int .i64 a2]]) = some ((g_As_l20Rd_pick0 r0 r1 a2), .val false [.int .i64 (g_Vs_l20Rd_pick0_0 r0 r1 a2)], [[.sl .any 5 (.int .u8) (g_Vs_l20Rd_pick0_1 r0 r1 a2), .int .i64 (g_Vs_l20Rd_pick0_2 r0 r1 a2)]]) := by kernel_rfl
theorem ss_l20Rd_pick0 : Sound Go.Proofs.Tryd.prog 14 mss_l20Rd_pick0 Fs_l20Rd_pick0 := by
  refine fn_gen goods_l20Rd_pick0 (by kernel_rfl) .std (fn := Go.Proofs.Tryd.f14) (c := (Go.Proofs.Tryd.f14.body.getD .skip)) (o := Os_l20Rd_pick0_0) (k := 0) (by kernel_rfl) (by kernel_rfl) (by kernel_rfl) (by kernel_rfl) (by decide) ks_l20Rd_pick0_0 ?_
  intro ys r outs h
  unfold Fs_l20Rd_pick0 at h
  split at h
  · exact (vs_l20Rd_pick0 _ _ _).trans h
  · cases h
end Go.Proofs.YtnbcdkbjmpadmaaDoor.E
end
section
namespace Go.Proofs.YtnbcdkbjmpadmaaDoor.E
open Go
set_option maxRecDepth 100000
set_option linter.all false
noncomputable def mss_l20Rd_pick : List PM := mss_l20Rd_pick0
/-- A number from 0 on, below n. -/
noncomputable def g_pick (r0 : List Int) (r1 : Int) (n : Int) : Int := g_Vs_l20Rd_pick0_0 r0 r1 n
noncomputable def g_pickA (r0 : List Int) (r1 : Int) (n : Int) : Bool := g_As_l20Rd_pick0 r0 r1 n
noncomputable def Fs_l20Rd_pick : FSem := fun ys => match ys with
  | [.val true [.sl .any 5 (.int .u8) r0, .int .i64 r1], .val false [.int .i64 a2]] => some (g_pickA r0 r1 a2, .val false [.int .i64 (g_pick r0 r1 a2)], [[.sl .any 5 (.int .u8) r0, .int .i64 (IntKind.wrap .i64 (r1 + 1))]])
  | _ => none
theorem ss_l20Rd_pick : Sound Go.Proofs.Tryd.prog 14 mss_l20Rd_pick Fs_l20Rd_pick := by
  refine ⟨ss_l20Rd_pick0.fn, fun w S ψ ys vs r outs hF hh hg => ss_l20Rd_pick0.calls w S ψ ys vs r outs (Eq.trans ?_ hF) hh hg⟩
  unfold Fs_l20Rd_pick at hF ⊢
  split at hF
  · rename_i r0 r1 a2
    have e1 : g_Vs_l20Rd_pick0_1 r0 r1 a2 = r0 := by unfold g_Vs_l20Rd_pick0_1; generalize decide (a2 < (1 : Int)) = p; generalize ((r0.length : Int) == (0 : Int)) = q; cases p <;> cases q <;> simp
    have e2 : g_Vs_l20Rd_pick0_2 r0 r1 a2 = IntKind.wrap .i64 (r1 + 1) := by unfold g_Vs_l20Rd_pick0_2; generalize decide (a2 < (1 : Int)) = p; generalize ((r0.length : Int) == (0 : Int)) = q; cases p <;> cases q <;> simp
    show some (g_As_l20Rd_pick0 r0 r1 a2, RV.val false [Cell.int .i64 (g_Vs_l20Rd_pick0_0 r0 r1 a2)], [[Cell.sl .any 5 (.int .u8) (g_Vs_l20Rd_pick0_1 r0 r1 a2), Cell.int .i64 (g_Vs_l20Rd_pick0_2 r0 r1 a2)]]) = _
    rw [e1, e2]
    rfl
  · cases hF
end Go.Proofs.YtnbcdkbjmpadmaaDoor.E
end
section
namespace Go.Proofs.YtnbcdkbjmpadmaaDoor.E
open Go
set_option maxRecDepth 100000
set_option maxHeartbeats 0
set_option linter.all false
noncomputable def Es_l20Rd_odd : Env where
  tt := mkTI Go.Proofs.Tryd.prog
  fn := fun f => match f with
    | 14 => some (mss_l20Rd_pick, FSem.wk mss_l20Rd_pick Fs_l20Rd_pick)
    | _ => none
  bxf := fun _ => none
  mv := []
  keep := fun _ => []
  keepB := fun _ => []
  keepX := fun _ => []
  keepXB := fun _ => []
theorem goodFs_l20Rd_odd : ∀ f ms F, Es_l20Rd_odd.fn f = some (ms, F) → Sound Go.Proofs.Tryd.prog f ms F := fun f ms F h => by
  unfold Es_l20Rd_odd at h
  dsimp only at h
  split at h
  · injection h with h; injection h with e1 e2; subst e1 e2; exact Sound.wk ss_l20Rd_pick
  · cases h
theorem goodBs_l20Rd_odd : ∀ f ms F, Es_l20Rd_odd.bxf f = some (ms, F) → SoundB Go.Proofs.Tryd.prog f ms F := fun f ms F h => by cases h
theorem goods_l20Rd_odd : Good Go.Proofs.Tryd.prog Es_l20Rd_odd := ⟨rfl, goodFs_l20Rd_odd, goodBs_l20Rd_odd⟩
noncomputable def Os_l20Rd_odd_0 : Orc := fun _ _ => none
noncomputable def mss_l20Rd_odd : List PM := [.bx, .own]
noncomputable def lss_l20Rd_odd : List (Nat × Code) := loopsAll 0 (Go.Proofs.Tryd.f13.body.getD .skip)

theorem ks_l20Rd_odd_0 : OrcOk Es_l20Rd_odd Os_l20Rd_odd_0 lss_l20Rd_odd 0 := orcOk_none
noncomputable def g_As_l20Rd_odd (r0 : List Int) (r1 : Int) (a2 : Int) : Bool := !decide (a2 > (0 : Int)) || g_pickA r0 r1 a2 && true
noncomputable def g_Vs_l20Rd_odd_0 (r0 : List Int) (r1 : Int) (a2 : Int) : Bool := bif decide (a2 > (0 : Int)) then g_pick r0 r1 a2 == IntKind.wrap IntKind.i64 (a2 - (1 : Int)) else false
noncomputable def g_Vs_l20Rd_odd_1 (r0 : List Int) (r1 : Int) (a2 : Int) : List (Int) := bif decide (a2 > (0 : Int)) then r0 else r0
noncomputable def g_Vs_l20Rd_odd_2 (r0 : List Int) (r1 : Int) (a2 : Int) : Int := bif decide (a2 > (0 : Int)) then IntKind.wrap IntKind.i64 (r1 + (1 : Int)) else r1
noncomputable def Fs_l20Rd_odd : FSem := fun ys => match ys with
  | [.val true [.sl .any 5 (.int .u8) r0, .int .i64 r1], .val false [.int .i64 a2]] => some ((g_As_l20Rd_odd r0 r1 a2), .val false [.bool (g_Vs_l20Rd_odd_0 r0 r1 a2)], [[.sl .any 5 (.int .u8) (g_Vs_l20Rd_odd_1 r0 r1 a2), .int .i64 (g_Vs_l20Rd_odd_2 r0 r1 a2)]])
  | _ => none
theorem vs_l20Rd_odd (r0 : List Int) (r1 : Int) (a2 : Int) : collapseH .std Es_l20Rd_odd Os_l20Rd_odd_0 (execFn Es_l20Rd_odd Go.Proofs.Tryd.f13 mss_l20Rd_odd [.val true [.sl .any 5 (.int .u8) r0, .int .i64 r1], .val false [.int .i64 a2]]) = some ((g_As_l20Rd_odd r0 r1 a2), .val false [.bool (g_Vs_l20Rd_odd_0 r0 r1 a2)], [[.sl .any 5 (.int .u8) (g_Vs_l20Rd_odd_1 r0 r1 a2), .int .i64 (g_Vs_l20Rd_odd_2 r0 r1 a2)]]) := by kernel_rfl
theorem ss_l20Rd_odd : Sound Go.Proofs.Tryd.prog 13 mss_l20Rd_odd Fs_l20Rd_odd := by
  refine fn_gen goods_l20Rd_odd (by kernel_rfl) .std (fn := Go.Proofs.Tryd.f13) (c := (Go.Proofs.Tryd.f13.body.getD .skip)) (o := Os_l20Rd_odd_0) (k := 0) (by kernel_rfl) (by kernel_rfl) (by kernel_rfl) (by kernel_rfl) (by decide) ks_l20Rd_odd_0 ?_
  intro ys r outs h
  unfold Fs_l20Rd_odd at h
  split at h
  · exact (vs_l20Rd_odd _ _ _).trans h
  · cases h
end Go.Proofs.YtnbcdkbjmpadmaaDoor.E
end
section
namespace Go.Proofs.YtnbcdkbjmpadmaaDoor.E
open Go
set_option maxRecDepth 100000
set_option linter.all false
noncomputable def mss_l20Rd_oddR : List PM := mss_l20Rd_odd
theorem sames_l20Rd_odd (r0 : List Int) (r1 : Int) (a2 : Int) : g_Vs_l20Rd_odd_1 r0 r1 a2 = r0 := by
  unfold g_Vs_l20Rd_odd_1
  simp only [Bool.cond_self]
noncomputable def Fs_l20Rd_oddR : FSem := fun ys => match ys with
  | [.val true [.sl .any 5 (.int .u8) r0, .int .i64 r1], .val false [.int .i64 a2]] => some ((g_As_l20Rd_odd r0 r1 a2), .val false [.bool (g_Vs_l20Rd_odd_0 r0 r1 a2)], [[.sl .any 5 (.int .u8) r0, .int .i64 (g_Vs_l20Rd_odd_2 r0 r1 a2)]])
  | _ => none
theorem ss_l20Rd_oddR : Sound Go.Proofs.Tryd.prog 13 mss_l20Rd_oddR Fs_l20Rd_oddR := by
  refine ⟨ss_l20Rd_odd.fn, fun w S ψ ys vs r outs hF hh hg => ss_l20Rd_odd.calls w S ψ ys vs r outs (Eq.trans ?_ hF) hh hg⟩
  unfold Fs_l20Rd_oddR at hF ⊢
  split at hF
  · rename_i  r0 r1 a2
    show (some ((g_As_l20Rd_odd r0 r1 a2), .val false [.bool (g_Vs_l20Rd_odd_0 r0 r1 a2)], [[.sl .any 5 (.int .u8) (g_Vs_l20Rd_odd_1 r0 r1 a2), .int .i64 (g_Vs_l20Rd_odd_2 r0 r1 a2)]]) : Option (Bool × RV × List (List Cell))) = _
    rw [sames_l20Rd_odd]
  · cases hF
end Go.Proofs.YtnbcdkbjmpadmaaDoor.E
end
section
namespace Go.Proofs.YtnbcdkbjmpadmaaDoor.E
open Go
set_option maxRecDepth 100000
set_option maxHeartbeats 0
set_option linter.all false
noncomputable def Es_l20Op : Env where
  tt := mkTI Go.Proofs.Tryd.prog
  fn := fun f => match f with
    | 13 => some (mss_l20Rd_oddR, FSem.wk mss_l20Rd_oddR Fs_l20Rd_oddR)
    | 14 => some (mss_l20Rd_pick, FSem.wk mss_l20Rd_pick Fs_l20Rd_pick)
    | _ => none
  bxf := fun _ => none
  mv := []
  keep := fun _ => []
  keepB := fun _ => []
  keepX := fun _ => []
  keepXB := fun _ => []
theorem goodFs_l20Op : ∀ f ms F, Es_l20Op.fn f = some (ms, F) → Sound Go.Proofs.Tryd.prog f ms F := fun f ms F h => by
  unfold Es_l20Op at h
  dsimp only at h
  split at h
  · injection h with h; injection h with e1 e2; subst e1 e2; exact Sound.wk ss_l20Rd_oddR
  · injection h with h; injection h with e1 e2; subst e1 e2; exact Sound.wk ss_l20Rd_pick
  · cases h
theorem goodBs_l20Op : ∀ f ms F, Es_l20Op.bxf f = some (ms, F) → SoundB Go.Proofs.Tryd.prog f ms F := fun f ms F h => by cases h
theorem goods_l20Op : Good Go.Proofs.Tryd.prog Es_l20Op := ⟨rfl, goodFs_l20Op, goodBs_l20Op⟩
noncomputable def Os_l20Op_0 : Orc := fun _ _ => none
noncomputable def mss_l20Op : List PM := [.bx, .own]
noncomputable def lss_l20Op : List (Nat × Code) := loopsAll 0 (Go.Proofs.Tryd.f24.body.getD .skip)

theorem ks_l20Op_0 : OrcOk Es_l20Op Os_l20Op_0 lss_l20Op 0 := orcOk_none
noncomputable def g_As_l20Op (r0 : List Int) (r1 : Int) (a2 : Int) : Bool := g_pickA r0 r1 (5 : Int) && bif IntKind.wrap IntKind.i64 ((1 : Int) + g_pick r0 r1 (5 : Int)) == (1 : Int) then bif IntKind.wrap IntKind.i64 ((1 : Int) + g_pick r0 r1 (5 : Int)) == (1 : Int) then g_pickA r0 (u1 r1) (2 : Int) && (g_pickA r0 (u1 (u1 r1)) (3 : Int) && (g_As_l20Rd_odd r0 (u1 (u1 (u1 r1))) a2 && (!g_Vs_l20Rd_odd_0 r0 (u1 (u1 (u1 r1))) a2 || g_pickA r0 (g_Vs_l20Rd_odd_2 r0 (u1 (u1 (u1 r1))) a2) (5 : Int) && bif g_pick r0 (g_Vs_l20Rd_odd_2 r0 (u1 (u1 (u1 r1))) a2) (5 : Int) == (0 : Int) then g_pickA r0 (u1 (g_Vs_l20Rd_odd_2 r0 (u1 (u1 (u1 r1))) a2)) (2 : Int) && (decide ((0 : Int) ≤ g_pick r0 (u1 (g_Vs_l20Rd_odd_2 r0 (u1 (u1 (u1 r1))) a2)) (2 : Int) ∧ g_pick r0 (u1 (g_Vs_l20Rd_odd_2 r0 (u1 (u1 (u1 r1))) a2)) (2 : Int) < (2 : Int)) && decide (Int.toNat (g_pick r0 (u1 (g_Vs_l20Rd_odd_2 r0 (u1 (u1 (u1 r1))) a2)) (2 : Int)) < nat_lit 2)) else bif g_pick r0 (g_Vs_l20Rd_odd_2 r0 (u1 (u1 (u1 r1))) a2) (5 : Int) == (1 : Int) then g_pickA r0 (u1 (g_Vs_l20Rd_odd_2 r0 (u1 (u1 (u1 r1))) a2)) (3 : Int) && (decide ((0 : Int) ≤ g_pick r0 (u1 (g_Vs_l20Rd_odd_2 r0 (u1 (u1 (u1 r1))) a2)) (3 : Int) ∧ g_pick r0 (u1 (g_Vs_l20Rd_odd_2 r0 (u1 (u1 (u1 r1))) a2)) (3 : Int) < (3 : Int)) && decide (Int.toNat (g_pick r0 (u1 (g_Vs_l20Rd_odd_2 r0 (u1 (u1 (u1 r1))) a2)) (3 : Int)) < nat_lit 3)) else bif g_pick r0 (g_Vs_l20Rd_odd_2 r0 (u1 (u1 (u1 r1))) a2) (5 : Int) == (2 : Int) then g_pickA r0 (u1 (g_Vs_l20Rd_odd_2 r0 (u1 (u1 (u1 r1))) a2)) (3 : Int) && (decide ((0 : Int) ≤ g_pick r0 (u1 (g_Vs_l20Rd_odd_2 r0 (u1 (u1 (u1 r1))) a2)) (3 : Int) ∧ g_pick r0 (u1 (g_Vs_l20Rd_odd_2 r0 (u1 (u1 (u1 r1))) a2)) (3 : Int) < (3 : Int)) && decide (Int.toNat (g_pick r0 (u1 (g_Vs_l20Rd_odd_2 r0 (u1 (u1 (u1 r1))) a2)) (3 : Int)) < nat_lit 3)) else bif g_pick r0 (g_Vs_l20Rd_odd_2 r0 (u1 (u1 (u1 r1))) a2) (5 : Int) == (3 : Int) then g_pickA r0 (u1 (g_Vs_l20Rd_odd_2 r0 (u1 (u1 (u1 r1))) a2)) (3 : Int) && (decide ((0 : Int) ≤ g_pick r0 (u1 (g_Vs_l20Rd_odd_2 r0 (u1 (u1 (u1 r1))) a2)) (3 : Int) ∧ g_pick r0 (u1 (g_Vs_l20Rd_odd_2 r0 (u1 (u1 (u1 r1))) a2)) (3 : Int) < (3 : Int)) && decide (Int.toNat (g_pick r0 (u1 (g_Vs_l20Rd_odd_2 r0 (u1 (u1 (u1 r1))) a2)) (3 : Int)) < nat_lit 3)) else g_pickA r0 (u1 (g_Vs_l20Rd_odd_2 r0 (u1 (u1 (u1 r1))) a2)) (3 : Int) && (decide ((0 : Int) ≤ g_pick r0 (u1 (g_Vs_l20Rd_odd_2 r0 (u1 (u1 (u1 r1))) a2)) (3 : Int) ∧ g_pick r0 (u1 (g_Vs_l20Rd_odd_2 r0 (u1 (u1 (u1 r1))) a2)) (3 : Int) < (3 : Int)) && decide (Int.toNat (g_pick r0 (u1 (g_Vs_l20Rd_odd_2 r0 (u1 (u1 (u1 r1))) a2)) (3 : Int)) < nat_lit 3))))) else bif IntKind.wrap IntKind.i64 ((1 : Int) + g_pick r0 r1 (5 : Int)) == (2 : Int) then g_pickA r0 (u1 r1) (2 : Int) && (g_pickA r0 (u1 (u1 r1)) (3 : Int) && (g_pickA r0 (u1 (u1 (u1 r1))) (3 : Int) && (g_pickA r0 (u1 (u1 (u1 (u1 r1)))) (3 : Int) && (g_As_l20Rd_odd r0 (u1 (u1 (u1 (u1 (u1 r1))))) a2 && (!g_Vs_l20Rd_odd_0 r0 (u1 (u1 (u1 (u1 (u1 r1))))) a2 || g_pickA r0 (g_Vs_l20Rd_odd_2 r0 (u1 (u1 (u1 (u1 (u1 r1))))) a2) (5 : Int) && bif g_pick r0 (g_Vs_l20Rd_odd_2 r0 (u1 (u1 (u1 (u1 (u1 r1))))) a2) (5 : Int) == (0 : Int) then g_pickA r0 (u1 (g_Vs_l20Rd_odd_2 r0 (u1 (u1 (u1 (u1 (u1 r1))))) a2)) (2 : Int) && (decide ((0 : Int) ≤ g_pick r0 (u1 (g_Vs_l20Rd_odd_2 r0 (u1 (u1 (u1 (u1 (u1 r1))))) a2)) (2 : Int) ∧ g_pick r0 (u1 (g_Vs_l20Rd_odd_2 r0 (u1 (u1 (u1 (u1 (u1 r1))))) a2)) (2 : Int) < (2 : Int)) && decide (Int.toNat (g_pick r0 (u1 (g_Vs_l20Rd_odd_2 r0 (u1 (u1 (u1 (u1 (u1 r1))))) a2)) (2 : Int)) < nat_lit 2)) else bif g_pick r0 (g_Vs_l20Rd_odd_2 r0 (u1 (u1 (u1 (u1 (u1 r1))))) a2) (5 : Int) == (1 : Int) then g_pickA r0 (u1 (g_Vs_l20Rd_odd_2 r0 (u1 (u1 (u1 (u1 (u1 r1))))) a2)) (3 : Int) && (decide ((0 : Int) ≤ g_pick r0 (u1 (g_Vs_l20Rd_odd_2 r0 (u1 (u1 (u1 (u1 (u1 r1))))) a2)) (3 : Int) ∧ g_pick r0 (u1 (g_Vs_l20Rd_odd_2 r0 (u1 (u1 (u1 (u1 (u1 r1))))) a2)) (3 : Int) < (3 : Int)) && decide (Int.toNat (g_pick r0 (u1 (g_Vs_l20Rd_odd_2 r0 (u1 (u1 (u1 (u1 (u1 r1))))) a2)) (3 : Int)) < nat_lit 3)) else bif g_pick r0 (g_Vs_l20Rd_odd_2 r0 (u1 (u1 (u1 (u1 (u1 r1))))) a2) (5 : Int) == (2 : Int) then g_pickA r0 (u1 (g_Vs_l20Rd_odd_2 r0 (u1 (u1 (u1 (u1 (u1 r1))))) a2)) (3 : Int) && (decide ((0 : Int) ≤ g_pick r0 (u1 (g_Vs_l20Rd_odd_2 r0 (u1 (u1 (u1 (u1 (u1 r1))))) a2)) (3 : Int) ∧ g_pick r0 (u1 (g_Vs_l20Rd_odd_2 r0 (u1 (u1 (u1 (u1 (u1 r1))))) a2)) (3 : Int) < (3 : Int)) && decide (Int.toNat (g_pick r0 (u1 (g_Vs_l20Rd_odd_2 r0 (u1 (u1 (u1 (u1 (u1 r1))))) a2)) (3 : Int)) < nat_lit 3)) else bif g_pick r0 (g_Vs_l20Rd_odd_2 r0 (u1 (u1 (u1 (u1 (u1 r1))))) a2) (5 : Int) == (3 : Int) then g_pickA r0 (u1 (g_Vs_l20Rd_odd_2 r0 (u1 (u1 (u1 (u1 (u1 r1))))) a2)) (3 : Int) && (decide ((0 : Int) ≤ g_pick r0 (u1 (g_Vs_l20Rd_odd_2 r0 (u1 (u1 (u1 (u1 (u1 r1))))) a2)) (3 : Int) ∧ g_pick r0 (u1 (g_Vs_l20Rd_odd_2 r0 (u1 (u1 (u1 (u1 (u1 r1))))) a2)) (3 : Int) < (3 : Int)) && decide (Int.toNat (g_pick r0 (u1 (g_Vs_l20Rd_odd_2 r0 (u1 (u1 (u1 (u1 (u1 r1))))) a2)) (3 : Int)) < nat_lit 3)) else g_pickA r0 (u1 (g_Vs_l20Rd_odd_2 r0 (u1 (u1 (u1 (u1 (u1 r1))))) a2)) (3 : Int) && (decide ((0 : Int) ≤ g_pick r0 (u1 (g_Vs_l20Rd_odd_2 r0 (u1 (u1 (u1 (u1 (u1 r1))))) a2)) (3 : Int) ∧ g_pick r0 (u1 (g_Vs_l20Rd_odd_2 r0 (u1 (u1 (u1 (u1 (u1 r1))))) a2)) (3 : Int) < (3 : Int)) && decide (Int.toNat (g_pick r0 (u1 (g_Vs_l20Rd_odd_2 r0 (u1 (u1 (u1 (u1 (u1 r1))))) a2)) (3 : Int)) < nat_lit 3))))))) else bif IntKind.wrap IntKind.i64 ((1 : Int) + g_pick r0 r1 (5 : Int)) == (3 : Int) then g_pickA r0 (u1 r1) (3 : Int) && (g_pickA r0 (u1 (u1 r1)) (3 : Int) && (g_pickA r0 (u1 (u1 (u1 r1))) (3 : Int) && (g_As_l20Rd_odd r0 (u1 (u1 (u1 (u1 r1)))) a2 && (!g_Vs_l20Rd_odd_0 r0 (u1 (u1 (u1 (u1 r1)))) a2 || g_pickA r0 (g_Vs_l20Rd_odd_2 r0 (u1 (u1 (u1 (u1 r1)))) a2) (5 : Int) && bif g_pick r0 (g_Vs_l20Rd_odd_2 r0 (u1 (u1 (u1 (u1 r1)))) a2) (5 : Int) == (0 : Int) then g_pickA r0 (u1 (g_Vs_l20Rd_odd_2 r0 (u1 (u1 (u1 (u1 r1)))) a2)) (2 : Int) && (decide ((0 : Int) ≤ g_pick r0 (u1 (g_Vs_l20Rd_odd_2 r0 (u1 (u1 (u1 (u1 r1)))) a2)) (2 : Int) ∧ g_pick r0 (u1 (g_Vs_l20Rd_odd_2 r0 (u1 (u1 (u1 (u1 r1)))) a2)) (2 : Int) < (2 : Int)) && decide (Int.toNat (g_pick r0 (u1 (g_Vs_l20Rd_odd_2 r0 (u1 (u1 (u1 (u1 r1)))) a2)) (2 : Int)) < nat_lit 2)) else bif g_pick r0 (g_Vs_l20Rd_odd_2 r0 (u1 (u1 (u1 (u1 r1)))) a2) (5 : Int) == (1 : Int) then g_pickA r0 (u1 (g_Vs_l20Rd_odd_2 r0 (u1 (u1 (u1 (u1 r1)))) a2)) (3 : Int) && (decide ((0 : Int) ≤ g_pick r0 (u1 (g_Vs_l20Rd_odd_2 r0 (u1 (u1 (u1 (u1 r1)))) a2)) (3 : Int) ∧ g_pick r0 (u1 (g_Vs_l20Rd_odd_2 r0 (u1 (u1 (u1 (u1 r1)))) a2)) (3 : Int) < (3 : Int)) && decide (Int.toNat (g_pick r0 (u1 (g_Vs_l20Rd_odd_2 r0 (u1 (u1 (u1 (u1 r1)))) a2)) (3 : Int)) < nat_lit 3)) else bif g_pick r0 (g_Vs_l20Rd_odd_2 r0 (u1 (u1 (u1 (u1 r1)))) a2) (5 : Int) == (2 : Int) then g_pickA r0 (u1 (g_Vs_l20Rd_odd_2 r0 (u1 (u1 (u1 (u1 r1)))) a2)) (3 : Int) && (decide ((0 : Int) ≤ g_pick r0 (u1 (g_Vs_l20Rd_odd_2 r0 (u1 (u1 (u1 (u1 r1)))) a2)) (3 : Int) ∧ g_pick r0 (u1 (g_Vs_l20Rd_odd_2 r0 (u1 (u1 (u1 (u1 r1)))) a2)) (3 : Int) < (3 : Int)) && decide (Int.toNat (g_pick r0 (u1 (g_Vs_l20Rd_odd_2 r0 (u1 (u1 (u1 (u1 r1)))) a2)) (3 : Int)) < nat_lit 3)) else bif g_pick r0 (g_Vs_l20Rd_odd_2 r0 (u1 (u1 (u1 (u1 r1)))) a2) (5 : Int) == (3 : Int) then g_pickA r0 (u1 (g_Vs_l20Rd_odd_2 r0 (u1 (u1 (u1 (u1 r1)))) a2)) (3 : Int) && (decide ((0 : Int) ≤ g_pick r0 (u1 (g_Vs_l20Rd_odd_2 r0 (u1 (u1 (u1 (u1 r1)))) a2)) (3 : Int) ∧ g_pick r0 (u1 (g_Vs_l20Rd_odd_2 r0 (u1 (u1 (u1 (u1 r1)))) a2)) (3 : Int) < (3 : Int)) && decide (Int.toNat (g_pick r0 (u1 (g_Vs_l20Rd_odd_2 r0 (u1 (u1 (u1 (u1 r1)))) a2)) (3 : Int)) < nat_lit 3)) else g_pickA r0 (u1 (g_Vs_l20Rd_odd_2 r0 (u1 (u1 (u1 (u1 r1)))) a2)) (3 : Int) && (decide ((0 : Int) ≤ g_pick r0 (u1 (g_Vs_l20Rd_odd_2 r0 (u1 (u1 (u1 (u1 r1)))) a2)) (3 : Int) ∧ g_pick r0 (u1 (g_Vs_l20Rd_odd_2 r0 (u1 (u1 (u1 (u1 r1)))) a2)) (3 : Int) < (3 : Int)) && decide (Int.toNat (g_pick r0 (u1 (g_Vs_l20Rd_odd_2 r0 (u1 (u1 (u1 (u1 r1)))) a2)) (3 : Int)) < nat_lit 3)))))) else g_pickA r0 (u1 r1) (3 : Int) && (g_pickA r0 (u1 (u1 r1)) (3 : Int) && (g_As_l20Rd_odd r0 (u1 (u1 (u1 r1))) a2 && (!g_Vs_l20Rd_odd_0 r0 (u1 (u1 (u1 r1))) a2 || g_pickA r0 (g_Vs_l20Rd_odd_2 r0 (u1 (u1 (u1 r1))) a2) (5 : Int) && bif g_pick r0 (g_Vs_l20Rd_odd_2 r0 (u1 (u1 (u1 r1))) a2) (5 : Int) == (0 : Int) then g_pickA r0 (u1 (g_Vs_l20Rd_odd_2 r0 (u1 (u1 (u1 r1))) a2)) (2 : Int) && (decide ((0 : Int) ≤ g_pick r0 (u1 (g_Vs_l20Rd_odd_2 r0 (u1 (u1 (u1 r1))) a2)) (2 : Int) ∧ g_pick r0 (u1 (g_Vs_l20Rd_odd_2 r0 (u1 (u1 (u1 r1))) a2)) (2 : Int) < (2 : Int)) && decide (Int.toNat (g_pick r0 (u1 (g_Vs_l20Rd_odd_2 r0 (u1 (u1 (u1 r1))) a2)) (2 : Int)) < nat_lit 2)) else bif g_pick r0 (g_Vs_l20Rd_odd_2 r0 (u1 (u1 (u1 r1))) a2) (5 : Int) == (1 : Int) then g_pickA r0 (u1 (g_Vs_l20Rd_odd_2 r0 (u1 (u1 (u1 r1))) a2)) (3 : Int) && (decide ((0 : Int) ≤ g_pick r0 (u1 (g_Vs_l20Rd_odd_2 r0 (u1 (u1 (u1 r1))) a2)) (3 : Int) ∧ g_pick r0 (u1 (g_Vs_l20Rd_odd_2 r0 (u1 (u1 (u1 r1))) a2)) (3 : Int) < (3 : Int)) && decide (Int.toNat (g_pick r0 (u1 (g_Vs_l20Rd_odd_2 r0 (u1 (u1 (u1 r1))) a2)) (3 : Int)) < nat_lit 3)) else bif g_pick r0 (g_Vs_l20Rd_odd_2 r0 (u1 (u1 (u1 r1))) a2) (5 : Int) == (2 : Int) then g_pickA r0 (u1 (g_Vs_l20Rd_odd_2 r0 (u1 (u1 (u1 r1))) a2)) (3 : Int) && (decide ((0 : Int) ≤ g_pick r0 (u1 (g_Vs_l20Rd_odd_2 r0 (u1 (u1 (u1 r1))) a2)) (3 : Int) ∧ g_pick r0 (u1 (g_Vs_l20Rd_odd_2 r0 (u1 (u1 (u1 r1))) a2)) (3 : Int) < (3 : Int)) && decide (Int.toNat (g_pick r0 (u1 (g_Vs_l20Rd_odd_2 r0 (u1 (u1 (u1 r1))) a2)) (3 : Int)) < nat_lit 3)) else bif g_pick r0 (g_Vs_l20Rd_odd_2 r0 (u1 (u1 (u1 r1))) a2) (5 : Int) == (3 : Int) then g_pickA r0 (u1 (g_Vs_l20Rd_odd_2 r0 (u1 (u1 (u1 r1))) a2)) (3 : Int) && (decide ((0 : Int) ≤ g_pick r0 (u1 (g_Vs_l20Rd_odd_2 r0 (u1 (u1 (u1 r1))) a2)) (3 : Int) ∧ g_pick r0 (u1 (g_Vs_l20Rd_odd_2 r0 (u1 (u1 (u1 r1))) a2)) (3 : Int) < (3 : Int)) && decide (Int.toNat (g_pick r0 (u1 (g_Vs_l20Rd_odd_2 r0 (u1 (u1 (u1 r1))) a2)) (3 : Int)) < nat_lit 3)) else g_pickA r0 (u1 (g_Vs_l20Rd_odd_2 r0 (u1 (u1 (u1 r1))) a2)) (3 : Int) && (decide ((0 : Int) ≤ g_pick r0 (u1 (g_Vs_l20Rd_odd_2 r0 (u1 (u1 (u1 r1))) a2)) (3 : Int) ∧ g_pick r0 (u1 (g_Vs_l20Rd_odd_2 r0 (u1 (u1 (u1 r1))) a2)) (3 : Int) < (3 : Int)) && decide (Int.toNat (g_pick r0 (u1 (g_Vs_l20Rd_odd_2 r0 (u1 (u1 (u1 r1))) a2)) (3 : Int)) < nat_lit 3))))) else bif IntKind.wrap IntKind.i64 ((1 : Int) + g_pick r0 r1 (5 : Int)) == (5 : Int) then g_pickA r0 (u1 r1) (2 : Int) && (g_pickA r0 (u1 (u1 r1)) (3 : Int) && (g_As_l20Rd_odd r0 (u1 (u1 (u1 r1))) a2 && (!g_Vs_l20Rd_odd_0 r0 (u1 (u1 (u1 r1))) a2 || g_pickA r0 (g_Vs_l20Rd_odd_2 r0 (u1 (u1 (u1 r1))) a2) (5 : Int) && bif g_pick r0 (g_Vs_l20Rd_odd_2 r0 (u1 (u1 (u1 r1))) a2) (5 : Int) == (0 : Int) then g_pickA r0 (u1 (g_Vs_l20Rd_odd_2 r0 (u1 (u1 (u1 r1))) a2)) (2 : Int) && (decide ((0 : Int) ≤ g_pick r0 (u1 (g_Vs_l20Rd_odd_2 r0 (u1 (u1 (u1 r1))) a2)) (2 : Int) ∧ g_pick r0 (u1 (g_Vs_l20Rd_odd_2 r0 (u1 (u1 (u1 r1))) a2)) (2 : Int) < (2 : Int)) && decide (Int.toNat (g_pick r0 (u1 (g_Vs_l20Rd_odd_2 r0 (u1 (u1 (u1 r1))) a2)) (2 : Int)) < nat_lit 2)) else bif g_pick r0 (g_Vs_l20Rd_odd_2 r0 (u1 (u1 (u1 r1))) a2) (5 : Int) == (1 : Int) then g_pickA r0 (u1 (g_Vs_l20Rd_odd_2 r0 (u1 (u1 (u1 r1))) a2)) (3 : Int) && (decide ((0 : Int) ≤ g_pick r0 (u1 (g_Vs_l20Rd_odd_2 r0 (u1 (u1 (u1 r1))) a2)) (3 : Int) ∧ g_pick r0 (u1 (g_Vs_l20Rd_odd_2 r0 (u1 (u1 (u1 r1))) a2)) (3 : Int) < (3 : Int)) && decide (Int.toNat (g_pick r0 (u1 (g_Vs_l20Rd_odd_2 r0 (u1 (u1 (u1 r1))) a2)) (3 : Int)) < nat_lit 3)) else bif g_pick r0 (g_Vs_l20Rd_odd_2 r0 (u1 (u1 (u1 r1))) a2) (5 : Int) == (2 : Int) then g_pickA r0 (u1 (g_Vs_l20Rd_odd_2 r0 (u1 (u1 (u1 r1))) a2)) (3 : Int) && (decide ((0 : Int) ≤ g_pick r0 (u1 (g_Vs_l20Rd_odd_2 r0 (u1 (u1 (u1 r1))) a2)) (3 : Int) ∧ g_pick r0 (u1 (g_Vs_l20Rd_odd_2 r0 (u1 (u1 (u1 r1))) a2)) (3 : Int) < (3 : Int)) && decide (Int.toNat (g_pick r0 (u1 (g_Vs_l20Rd_odd_2 r0 (u1 (u1 (u1 r1))) a2)) (3 : Int)) < nat_lit 3)) else bif g_pick r0 (g_Vs_l20Rd_odd_2 r0 (u1 (u1 (u1 r1))) a2) (5 : Int) == (3 : Int) then g_pickA r0 (u1 (g_Vs_l20Rd_odd_2 r0 (u1 (u1 (u1 r1))) a2)) (3 : Int) && (decide ((0 : Int) ≤ g_pick r0 (u1 (g_Vs_l20Rd_odd_2 r0 (u1 (u1 (u1 r1))) a2)) (3 : Int) ∧ g_pick r0 (u1 (g_Vs_l20Rd_odd_2 r0 (u1 (u1 (u1 r1))) a2)) (3 : Int) < (3 : Int)) && decide (Int.toNat (g_pick r0 (u1 (g_Vs_l20Rd_odd_2 r0 (u1 (u1 (u1 r1))) a2)) (3 : Int)) < nat_lit 3)) else g_pickA r0 (u1 (g_Vs_l20Rd_odd_2 r0 (u1 (u1 (u1 r1))) a2)) (3 : Int) && (decide ((0 : Int) ≤ g_pick r0 (u1 (g_Vs_l20Rd_odd_2 r0 (u1 (u1 (u1 r1))) a2)) (3 : Int) ∧ g_pick r0 (u1 (g_Vs_l20Rd_odd_2 r0 (u1 (u1 (u1 r1))) a2)) (3 : Int) < (3 : Int)) && decide (Int.toNat (g_pick r0 (u1 (g_Vs_l20Rd_odd_2 r0 (u1 (u1 (u1 r1))) a2)) (3 : Int)) < nat_lit 3))))) else bif IntKind.wrap IntKind.i64 ((1 : Int) + g_pick r0 r1 (5 : Int)) == (2 : Int) then g_pickA r0 (u1 r1) (2 : Int) && (g_pickA r0 (u1 (u1 r1)) (3 : Int) && (g_pickA r0 (u1 (u1 (u1 r1))) (3 : Int) && (g_pickA r0 (u1 (u1 (u1 (u1 r1)))) (3 : Int) && (g_As_l20Rd_odd r0 (u1 (u1 (u1 (u1 (u1 r1))))) a2 && (!g_Vs_l20Rd_odd_0 r0 (u1 (u1 (u1 (u1 (u1 r1))))) a2 || g_pickA r0 (g_Vs_l20Rd_odd_2 r0 (u1 (u1 (u1 (u1 (u1 r1))))) a2) (5 : Int) && bif g_pick r0 (g_Vs_l20Rd_odd_2 r0 (u1 (u1 (u1 (u1 (u1 r1))))) a2) (5 : Int) == (0 : Int) then g_pickA r0 (u1 (g_Vs_l20Rd_odd_2 r0 (u1 (u1 (u1 (u1 (u1 r1))))) a2)) (2 : Int) && (decide ((0 : Int) ≤ g_pick r0 (u1 (g_Vs_l20Rd_odd_2 r0 (u1 (u1 (u1 (u1 (u1 r1))))) a2)) (2 : Int) ∧ g_pick r0 (u1 (g_Vs_l20Rd_odd_2 r0 (u1 (u1 (u1 (u1 (u1 r1))))) a2)) (2 : Int) < (2 : Int)) && decide (Int.toNat (g_pick r0 (u1 (g_Vs_l20Rd_odd_2 r0 (u1 (u1 (u1 (u1 (u1 r1))))) a2)) (2 : Int)) < nat_lit 2)) else bif g_pick r0 (g_Vs_l20Rd_odd_2 r0 (u1 (u1 (u1 (u1 (u1 r1))))) a2) (5 : Int) == (1 : Int) then g_pickA r0 (u1 (g_Vs_l20Rd_odd_2 r0 (u1 (u1 (u1 (u1 (u1 r1))))) a2)) (3 : Int) && (decide ((0 : Int) ≤ g_pick r0 (u1 (g_Vs_l20Rd_odd_2 r0 (u1 (u1 (u1 (u1 (u1 r1))))) a2)) (3 : Int) ∧ g_pick r0 (u1 (g_Vs_l20Rd_odd_2 r0 (u1 (u1 (u1 (u1 (u1 r1))))) a2)) (3 : Int) < (3 : Int)) && decide (Int.toNat (g_pick r0 (u1 (g_Vs_l20Rd_odd_2 r0 (u1 (u1 (u1 (u1 (u1 r1))))) a2)) (3 : Int)) < nat_lit 3)) else bif g_pick r0 (g_Vs_l20Rd_odd_2 r0 (u1 (u1 (u1 (u1 (u1 r1))))) a2) (5 : Int) == (2 : Int) then g_pickA r0 (u1 (g_Vs_l20Rd_odd_2 r0 (u1 (u1 (u1 (u1 (u1 r1))))) a2)) (3 : Int) && (decide ((0 : Int) ≤ g_pick r0 (u1 (g_Vs_l20Rd_odd_2 r0 (u1 (u1 (u1 (u1 (u1 r1))))) a2)) (3 : Int) ∧ g_pick r0 (u1 (g_Vs_l20Rd_odd_2 r0 (u1 (u1 (u1 (u1 (u1 r1))))) a2)) (3 : Int) < (3 : Int)) && decide (Int.toNat (g_pick r0 (u1 (g_Vs_l20Rd_odd_2 r0 (u1 (u1 (u1 (u1 (u1 r1))))) a2)) (3 : Int)) < nat_lit 3)) else bif g_pick r0 (g_Vs_l20Rd_odd_2 r0 (u1 (u1 (u1 (u1 (u1 r1))))) a2) (5 : Int) == (3 : Int) then g_pickA r0 (u1 (g_Vs_l20Rd_odd_2 r0 (u1 (u1 (u1 (u1 (u1 r1))))) a2)) (3 : Int) && (decide ((0 : Int) ≤ g_pick r0 (u1 (g_Vs_l20Rd_odd_2 r0 (u1 (u1 (u1 (u1 (u1 r1))))) a2)) (3 : Int) ∧ g_pick r0 (u1 (g_Vs_l20Rd_odd_2 r0 (u1 (u1 (u1 (u1 (u1 r1))))) a2)) (3 : Int) < (3 : Int)) && decide (Int.toNat (g_pick r0 (u1 (g_Vs_l20Rd_odd_2 r0 (u1 (u1 (u1 (u1 (u1 r1))))) a2)) (3 : Int)) < nat_lit 3)) else g_pickA r0 (u1 (g_Vs_l20Rd_odd_2 r0 (u1 (u1 (u1 (u1 (u1 r1))))) a2)) (3 : Int) && (decide ((0 : Int) ≤ g_pick r0 (u1 (g_Vs_l20Rd_odd_2 r0 (u1 (u1 (u1 (u1 (u1 r1))))) a2)) (3 : Int) ∧ g_pick r0 (u1 (g_Vs_l20Rd_odd_2 r0 (u1 (u1 (u1 (u1 (u1 r1))))) a2)) (3 : Int) < (3 : Int)) && decide (Int.toNat (g_pick r0 (u1 (g_Vs_l20Rd_odd_2 r0 (u1 (u1 (u1 (u1 (u1 r1))))) a2)) (3 : Int)) < nat_lit 3))))))) else bif IntKind.wrap IntKind.i64 ((1 : Int) + g_pick r0 r1 (5 : Int)) == (3 : Int) then g_pickA r0 (u1 r1) (3 : Int) && (g_pickA r0 (u1 (u1 r1)) (3 : Int) && (g_pickA r0 (u1 (u1 (u1 r1))) (3 : Int) && (g_As_l20Rd_odd r0 (u1 (u1 (u1 (u1 r1)))) a2 && (!g_Vs_l20Rd_odd_0 r0 (u1 (u1 (u1 (u1 r1)))) a2 || g_pickA r0 (g_Vs_l20Rd_odd_2 r0 (u1 (u1 (u1 (u1 r1)))) a2) (5 : Int) && bif g_pick r0 (g_Vs_l20Rd_odd_2 r0 (u1 (u1 (u1 (u1 r1)))) a2) (5 : Int) == (0 : Int) then g_pickA r0 (u1 (g_Vs_l20Rd_odd_2 r0 (u1 (u1 (u1 (u1 r1)))) a2)) (2 : Int) && (decide ((0 : Int) ≤ g_pick r0 (u1 (g_Vs_l20Rd_odd_2 r0 (u1 (u1 (u1 (u1 r1)))) a2)) (2 : Int) ∧ g_pick r0 (u1 (g_Vs_l20Rd_odd_2 r0 (u1 (u1 (u1 (u1 r1)))) a2)) (2 : Int) < (2 : Int)) && decide (Int.toNat (g_pick r0 (u1 (g_Vs_l20Rd_odd_2 r0 (u1 (u1 (u1 (u1 r1)))) a2)) (2 : Int)) < nat_lit 2)) else bif g_pick r0 (g_Vs_l20Rd_odd_2 r0 (u1 (u1 (u1 (u1 r1)))) a2) (5 : Int) == (1 : Int) then g_pickA r0 (u1 (g_Vs_l20Rd_odd_2 r0 (u1 (u1 (u1 (u1 r1)))) a2)) (3 : Int) && (decide ((0 : Int) ≤ g_pick r0 (u1 (g_Vs_l20Rd_odd_2 r0 (u1 (u1 (u1 (u1 r1)))) a2)) (3 : Int) ∧ g_pick r0 (u1 (g_Vs_l20Rd_odd_2 r0 (u1 (u1 (u1 (u1 r1)))) a2)) (3 : Int) < (3 : Int)) && decide (Int.toNat (g_pick r0 (u1 (g_Vs_l20Rd_odd_2 r0 (u1 (u1 (u1 (u1 r1)))) a2)) (3 : Int)) < nat_lit 3)) else bif g_pick r0 (g_Vs_l20Rd_odd_2 r0 (u1 (u1 (u1 (u1 r1)))) a2) (5 : Int) == (2 : Int) then g_pickA r0 (u1 (g_Vs_l20Rd_odd_2 r0 (u1 (u1 (u1 (u1 r1)))) a2)) (3 : Int) && (decide ((0 : Int) ≤ g_pick r0 (u1 (g_Vs_l20Rd_odd_2 r0 (u1 (u1 (u1 (u1 r1)))) a2)) (3 : Int) ∧ g_pick r0 (u1 (g_Vs_l20Rd_odd_2 r0 (u1 (u1 (u1 (u1 r1)))) a2)) (3 : Int) < (3 : Int)) && decide (Int.toNat (g_pick r0 (u1 (g_Vs_l20Rd_odd_2 r0 (u1 (u1 (u1 (u1 r1)))) a2)) (3 : Int)) < nat_lit 3)) else bif g_pick r0 (g_Vs_l20Rd_odd_2 r0 (u1 (u1 (u1 (u1 r1)))) a2) (5 : Int) == (3 : Int) then g_pickA r0 (u1 (g_Vs_l20Rd_odd_2 r0 (u1 (u1 (u1 (u1 r1)))) a2)) (3 : Int) && (decide ((0 : Int) ≤ g_pick r0 (u1 (g_Vs_l20Rd_odd_2 r0 (u1 (u1 (u1 (u1 r1)))) a2)) (3 : Int) ∧ g_pick r0 (u1 (g_Vs_l20Rd_odd_2 r0 (u1 (u1 (u1 (u1 r1)))) a2)) (3 : Int) < (3 : Int)) && decide (Int.toNat (g_pick r0 (u1 (g_Vs_l20Rd_odd_2 r0 (u1 (u1 (u1 (u1 r1)))) a2)) (3 : Int)) < nat_lit 3)) else g_pickA r0 (u1 (g_Vs_l20Rd_odd_2 r0 (u1 (u1 (u1 (u1 r1)))) a2)) (3 : Int) && (decide ((0 : Int) ≤ g_pick r0 (u1 (g_Vs_l20Rd_odd_2 r0 (u1 (u1 (u1 (u1 r1)))) a2)) (3 : Int) ∧ g_pick r0 (u1 (g_Vs_l20Rd_odd_2 r0 (u1 (u1 (u1 (u1 r1)))) a2)) (3 : Int) < (3 : Int)) && decide (Int.toNat (g_pick r0 (u1 (g_Vs_l20Rd_odd_2 r0 (u1 (u1 (u1 (u1 r1)))) a2)) (3 : Int)) < nat_lit 3)))))) else g_pickA r0 (u1 r1) (3 : Int) && (g_pickA r0 (u1 (u1 r1)) (3 : Int) && (g_As_l20Rd_odd r0 (u1 (u1 (u1 r1))) a2 && (!g_Vs_l20Rd_odd_0 r0 (u1 (u1 (u1 r1))) a2 || g_pickA r0 (g_Vs_l20Rd_odd_2 r0 (u1 (u1 (u1 r1))) a2) (5 : Int) && bif g_pick r0 (g_Vs_l20Rd_odd_2 r0 (u1 (u1 (u1 r1))) a2) (5 : Int) == (0 : Int) then g_pickA r0 (u1 (g_Vs_l20Rd_odd_2 r0 (u1 (u1 (u1 r1))) a2)) (2 : Int) && (decide ((0 : Int) ≤ g_pick r0 (u1 (g_Vs_l20Rd_odd_2 r0 (u1 (u1 (u1 r1))) a2)) (2 : Int) ∧ g_pick r0 (u1 (g_Vs_l20Rd_odd_2 r0 (u1 (u1 (u1 r1))) a2)) (2 : Int) < (2 : Int)) && decide (Int.toNat (g_pick r0 (u1 (g_Vs_l20Rd_odd_2 r0 (u1 (u1 (u1 r1))) a2)) (2 : Int)) < nat_lit 2)) else bif g_pick r0 (g_Vs_l20Rd_odd_2 r0 (u1 (u1 (u1 r1))) a2) (5 : Int) == (1 : Int) then g_pickA r0 (u1 (g_Vs_l20Rd_odd_2 r0 (u1 (u1 (u1 r1))) a2)) (3 : Int) && (decide ((0 : Int) ≤ g_pick r0 (u1 (g_Vs_l20Rd_odd_2 r0 (u1 (u1 (u1 r1))) a2)) (3 : Int) ∧ g_pick r0 (u1 (g_Vs_l20Rd_odd_2 r0 (u1 (u1 (u1 r1))) a2)) (3 : Int) < (3 : Int)) && decide (Int.toNat (g_pick r0 (u1 (g_Vs_l20Rd_odd_2 r0 (u1 (u1 (u1 r1))) a2)) (3 : Int)) < nat_lit 3)) else bif g_pick r0 (g_Vs_l20Rd_odd_2 r0 (u1 (u1 (u1 r1))) a2) (5 : Int) == (2 : Int) then g_pickA r0 (u1 (g_Vs_l20Rd_odd_2 r0 (u1 (u1 (u1 r1))) a2)) (3 : Int) && (decide ((0 : Int) ≤ g_pick r0 (u1 (g_Vs_l20Rd_odd_2 r0 (u1 (u1 (u1 r1))) a2)) (3 : Int) ∧ g_pick r0 (u1 (g_Vs_l20Rd_odd_2 r0 (u1 (u1 (u1 r1))) a2)) (3 : Int) < (3 : Int)) && decide (Int.toNat (g_pick r0 (u1 (g_Vs_l20Rd_odd_2 r0 (u1 (u1 (u1 r1))) a2)) (3 : Int)) < nat_lit 3)) else bif g_pick r0 (g_Vs_l20Rd_odd_2 r0 (u1 (u1 (u1 r1))) a2) (5 : Int) == (3 : Int) then g_pickA r0 (u1 (g_Vs_l20Rd_odd_2 r0 (u1 (u1 (u1 r1))) a2)) (3 : Int) && (decide ((0 : Int) ≤ g_pick r0 (u1 (g_Vs_l20Rd_odd_2 r0 (u1 (u1 (u1 r1))) a2)) (3 : Int) ∧ g_pick r0 (u1 (g_Vs_l20Rd_odd_2 r0 (u1 (u1 (u1 r1))) a2)) (3 : Int) < (3 : Int)) && decide (Int.toNat (g_pick r0 (u1 (g_Vs_l20Rd_odd_2 r0 (u1 (u1 (u1 r1))) a2)) (3 : Int)) < nat_lit 3)) else g_pickA r0 (u1 (g_Vs_l20Rd_odd_2 r0 (u1 (u1 (u1 r1))) a2)) (3 : Int) && (decide ((0 : Int) ≤ g_pick r0 (u1 (g_Vs_l20Rd_odd_2 r0 (u1 (u1 (u1 r1))) a2)) (3 : Int) ∧ g_pick r0 (u1 (g_Vs_l20Rd_odd_2 r0 (u1 (u1 (u1 r1))) a2)) (3 : Int) < (3 : Int)) && decide (Int.toNat (g_pick r0 (u1 (g_Vs_l20Rd_odd_2 r0 (u1 (u1 (u1 r1))) a2)) (3 : Int)) < nat_lit 3)))))
noncomputable def g_Vs_l20Op_0 (r0 : List Int) (r1 : Int) (a2 : Int) : Int := bif IntKind.wrap IntKind.i64 ((1 : Int) + g_pick r0 r1 (5 : Int)) == (1 : Int) then bif IntKind.wrap IntKind.i64 ((1 : Int) + g_pick r0 r1 (5 : Int)) == (1 : Int) then bif g_Vs_l20Rd_odd_0 r0 (u1 (u1 (u1 r1))) a2 then bif g_pick r0 (g_Vs_l20Rd_odd_2 r0 (u1 (u1 (u1 r1))) a2) (5 : Int) == (0 : Int) then at_ (Ty.int IntKind.i64) [(0 : Int), (6 : Int)] (Int.toNat (g_pick r0 (u1 (g_Vs_l20Rd_odd_2 r0 (u1 (u1 (u1 r1))) a2)) (2 : Int))) else bif g_pick r0 (g_Vs_l20Rd_odd_2 r0 (u1 (u1 (u1 r1))) a2) (5 : Int) == (1 : Int) then IntKind.wrap IntKind.i64 ((1 : Int) + g_pick r0 r1 (5 : Int)) else bif g_pick r0 (g_Vs_l20Rd_odd_2 r0 (u1 (u1 (u1 r1))) a2) (5 : Int) == (2 : Int) then IntKind.wrap IntKind.i64 ((1 : Int) + g_pick r0 r1 (5 : Int)) else bif g_pick r0 (g_Vs_l20Rd_odd_2 r0 (u1 (u1 (u1 r1))) a2) (5 : Int) == (3 : Int) then IntKind.wrap IntKind.i64 ((1 : Int) + g_pick r0 r1 (5 : Int)) else IntKind.wrap IntKind.i64 ((1 : Int) + g_pick r0 r1 (5 : Int)) else IntKind.wrap IntKind.i64 ((1 : Int) + g_pick r0 r1 (5 : Int)) else bif IntKind.wrap IntKind.i64 ((1 : Int) + g_pick r0 r1 (5 : Int)) == (2 : Int) then bif g_Vs_l20Rd_odd_0 r0 (u1 (u1 (u1 (u1 (u1 r1))))) a2 then bif g_pick r0 (g_Vs_l20Rd_odd_2 r0 (u1 (u1 (u1 (u1 (u1 r1))))) a2) (5 : Int) == (0 : Int) then at_ (Ty.int IntKind.i64) [(0 : Int), (6 : Int)] (Int.toNat (g_pick r0 (u1 (g_Vs_l20Rd_odd_2 r0 (u1 (u1 (u1 (u1 (u1 r1))))) a2)) (2 : Int))) else bif g_pick r0 (g_Vs_l20Rd_odd_2 r0 (u1 (u1 (u1 (u1 (u1 r1))))) a2) (5 : Int) == (1 : Int) then (2 : Int) else bif g_pick r0 (g_Vs_l20Rd_odd_2 r0 (u1 (u1 (u1 (u1 (u1 r1))))) a2) (5 : Int) == (2 : Int) then (2 : Int) else bif g_pick r0 (g_Vs_l20Rd_odd_2 r0 (u1 (u1 (u1 (u1 (u1 r1))))) a2) (5 : Int) == (3 : Int) then (2 : Int) else (2 : Int) else (2 : Int) else bif IntKind.wrap IntKind.i64 ((1 : Int) + g_pick r0 r1 (5 : Int)) == (3 : Int) then bif g_Vs_l20Rd_odd_0 r0 (u1 (u1 (u1 (u1 r1)))) a2 then bif g_pick r0 (g_Vs_l20Rd_odd_2 r0 (u1 (u1 (u1 (u1 r1)))) a2) (5 : Int) == (0 : Int) then at_ (Ty.int IntKind.i64) [(0 : Int), (6 : Int)] (Int.toNat (g_pick r0 (u1 (g_Vs_l20Rd_odd_2 r0 (u1 (u1 (u1 (u1 r1)))) a2)) (2 : Int))) else bif g_pick r0 (g_Vs_l20Rd_odd_2 r0 (u1 (u1 (u1 (u1 r1)))) a2) (5 : Int) == (1 : Int) then (3 : Int) else bif g_pick r0 (g_Vs_l20Rd_odd_2 r0 (u1 (u1 (u1 (u1 r1)))) a2) (5 : Int) == (2 : Int) then (3 : Int) else bif g_pick r0 (g_Vs_l20Rd_odd_2 r0 (u1 (u1 (u1 (u1 r1)))) a2) (5 : Int) == (3 : Int) then (3 : Int) else (3 : Int) else (3 : Int) else bif g_Vs_l20Rd_odd_0 r0 (u1 (u1 (u1 r1))) a2 then bif g_pick r0 (g_Vs_l20Rd_odd_2 r0 (u1 (u1 (u1 r1))) a2) (5 : Int) == (0 : Int) then at_ (Ty.int IntKind.i64) [(0 : Int), (6 : Int)] (Int.toNat (g_pick r0 (u1 (g_Vs_l20Rd_odd_2 r0 (u1 (u1 (u1 r1))) a2)) (2 : Int))) else bif g_pick r0 (g_Vs_l20Rd_odd_2 r0 (u1 (u1 (u1 r1))) a2) (5 : Int) == (1 : Int) then (4 : Int) else bif g_pick r0 (g_Vs_l20Rd_odd_2 r0 (u1 (u1 (u1 r1))) a2) (5 : Int) == (2 : Int) then (4 : Int) else bif g_pick r0 (g_Vs_l20Rd_odd_2 r0 (u1 (u1 (u1 r1))) a2) (5 : Int) == (3 : Int) then (4 : Int) else (4 : Int) else (4 : Int) else bif IntKind.wrap IntKind.i64 ((1 : Int) + g_pick r0 r1 (5 : Int)) == (5 : Int) then bif g_Vs_l20Rd_odd_0 r0 (u1 (u1 (u1 r1))) a2 then bif g_pick r0 (g_Vs_l20Rd_odd_2 r0 (u1 (u1 (u1 r1))) a2) (5 : Int) == (0 : Int) then at_ (Ty.int IntKind.i64) [(0 : Int), (6 : Int)] (Int.toNat (g_pick r0 (u1 (g_Vs_l20Rd_odd_2 r0 (u1 (u1 (u1 r1))) a2)) (2 : Int))) else bif g_pick r0 (g_Vs_l20Rd_odd_2 r0 (u1 (u1 (u1 r1))) a2) (5 : Int) == (1 : Int) then IntKind.wrap IntKind.i64 ((1 : Int) + g_pick r0 r1 (5 : Int)) else bif g_pick r0 (g_Vs_l20Rd_odd_2 r0 (u1 (u1 (u1 r1))) a2) (5 : Int) == (2 : Int) then IntKind.wrap IntKind.i64 ((1 : Int) + g_pick r0 r1 (5 : Int)) else bif g_pick r0 (g_Vs_l20Rd_odd_2 r0 (u1 (u1 (u1 r1))) a2) (5 : Int) == (3 : Int) then IntKind.wrap IntKind.i64 ((1 : Int) + g_pick r0 r1 (5 : Int)) else IntKind.wrap IntKind.i64 ((1 : Int) + g_pick r0 r1 (5 : Int)) else IntKind.wrap IntKind.i64 ((1 : Int) + g_pick r0 r1 (5 : Int)) else bif IntKind.wrap IntKind.i64 ((1 : Int) + g_pick r0 r1 (5 : Int)) == (2 : Int) then bif g_Vs_l20Rd_odd_0 r0 (u1 (u1 (u1 (u1 (u1 r1))))) a2 then bif g_pick r0 (g_Vs_l20Rd_odd_2 r0 (u1 (u1 (u1 (u1 (u1 r1))))) a2) (5 : Int) == (0 : Int) then at_ (Ty.int IntKind.i64) [(0 : Int), (6 : Int)] (Int.toNat (g_pick r0 (u1 (g_Vs_l20Rd_odd_2 r0 (u1 (u1 (u1 (u1 (u1 r1))))) a2)) (2 : Int))) else bif g_pick r0 (g_Vs_l20Rd_odd_2 r0 (u1 (u1 (u1 (u1 (u1 r1))))) a2) (5 : Int) == (1 : Int) then (2 : Int) else bif g_pick r0 (g_Vs_l20Rd_odd_2 r0 (u1 (u1 (u1 (u1 (u1 r1))))) a2) (5 : Int) == (2 : Int) then (2 : Int) else bif g_pick r0 (g_Vs_l20Rd_odd_2 r0 (u1 (u1 (u1 (u1 (u1 r1))))) a2) (5 : Int) == (3 : Int) then (2 : Int) else (2 : Int) else (2 : Int) else bif IntKind.wrap IntKind.i64 ((1 : Int) + g_pick r0 r1 (5 : Int)) == (3 : Int) then bif g_Vs_l20Rd_odd_0 r0 (u1 (u1 (u1 (u1 r1)))) a2 then bif g_pick r0 (g_Vs_l20Rd_odd_2 r0 (u1 (u1 (u1 (u1 r1)))) a2) (5 : Int) == (0 : Int) then at_ (Ty.int IntKind.i64) [(0 : Int), (6 : Int)] (Int.toNat (g_pick r0 (u1 (g_Vs_l20Rd_odd_2 r0 (u1 (u1 (u1 (u1 r1)))) a2)) (2 : Int))) else bif g_pick r0 (g_Vs_l20Rd_odd_2 r0 (u1 (u1 (u1 (u1 r1)))) a2) (5 : Int) == (1 : Int) then (3 : Int) else bif g_pick r0 (g_Vs_l20Rd_odd_2 r0 (u1 (u1 (u1 (u1 r1)))) a2) (5 : Int) == (2 : Int) then (3 : Int) else bif g_pick r0 (g_Vs_l20Rd_odd_2 r0 (u1 (u1 (u1 (u1 r1)))) a2) (5 : Int) == (3 : Int) then (3 : Int) else (3 : Int) else (3 : Int) else bif g_Vs_l20Rd_odd_0 r0 (u1 (u1 (u1 r1))) a2 then bif g_pick r0 (g_Vs_l20Rd_odd_2 r0 (u1 (u1 (u1 r1))) a2) (5 : Int) == (0 : Int) then at_ (Ty.int IntKind.i64) [(0 : Int), (6 : Int)] (Int.toNat (g_pick r0 (u1 (g_Vs_l20Rd_odd_2 r0 (u1 (u1 (u1 r1))) a2)) (2 : Int))) else bif g_pick r0 (g_Vs_l20Rd_odd_2 r0 (u1 (u1 (u1 r1))) a2) (5 : Int) == (1 : Int) then (4 : Int) else bif g_pick r0 (g_Vs_l20Rd_odd_2 r0 (u1 (u1 (u1 r1))) a2) (5 : Int) == (2 : Int) then (4 : Int) else bif g_pick r0 (g_Vs_l20Rd_odd_2 r0 (u1 (u1 (u1 r1))) a2) (5 : Int) == (3 : Int) then (4 : Int) else (4 : Int) else (4 : Int)
noncomputable def g_Vs_l20Op_1 (r0 : List Int) (r1 : Int) (a2 : Int) : Int := bif IntKind.wrap IntKind.i64 ((1 : Int) + g_pick r0 r1 (5 : Int)) == (1 : Int) then bif IntKind.wrap IntKind.i64 ((1 : Int) + g_pick r0 r1 (5 : Int)) == (1 : Int) then bif g_Vs_l20Rd_odd_0 r0 (u1 (u1 (u1 r1))) a2 then bif g_pick r0 (g_Vs_l20Rd_odd_2 r0 (u1 (u1 (u1 r1))) a2) (5 : Int) == (0 : Int) then g_pick r0 (u1 r1) (2 : Int) else bif g_pick r0 (g_Vs_l20Rd_odd_2 r0 (u1 (u1 (u1 r1))) a2) (5 : Int) == (1 : Int) then at_ (Ty.int IntKind.i64) [(-1 : Int), (10 : Int), (1 : Int)] (Int.toNat (g_pick r0 (u1 (g_Vs_l20Rd_odd_2 r0 (u1 (u1 (u1 r1))) a2)) (3 : Int))) else bif g_pick r0 (g_Vs_l20Rd_odd_2 r0 (u1 (u1 (u1 r1))) a2) (5 : Int) == (2 : Int) then g_pick r0 (u1 r1) (2 : Int) else bif g_pick r0 (g_Vs_l20Rd_odd_2 r0 (u1 (u1 (u1 r1))) a2) (5 : Int) == (3 : Int) then g_pick r0 (u1 r1) (2 : Int) else g_pick r0 (u1 r1) (2 : Int) else g_pick r0 (u1 r1) (2 : Int) else bif IntKind.wrap IntKind.i64 ((1 : Int) + g_pick r0 r1 (5 : Int)) == (2 : Int) then bif g_Vs_l20Rd_odd_0 r0 (u1 (u1 (u1 (u1 (u1 r1))))) a2 then bif g_pick r0 (g_Vs_l20Rd_odd_2 r0 (u1 (u1 (u1 (u1 (u1 r1))))) a2) (5 : Int) == (0 : Int) then g_pick r0 (u1 r1) (2 : Int) else bif g_pick r0 (g_Vs_l20Rd_odd_2 r0 (u1 (u1 (u1 (u1 (u1 r1))))) a2) (5 : Int) == (1 : Int) then at_ (Ty.int IntKind.i64) [(-1 : Int), (10 : Int), (1 : Int)] (Int.toNat (g_pick r0 (u1 (g_Vs_l20Rd_odd_2 r0 (u1 (u1 (u1 (u1 (u1 r1))))) a2)) (3 : Int))) else bif g_pick r0 (g_Vs_l20Rd_odd_2 r0 (u1 (u1 (u1 (u1 (u1 r1))))) a2) (5 : Int) == (2 : Int) then g_pick r0 (u1 r1) (2 : Int) else bif g_pick r0 (g_Vs_l20Rd_odd_2 r0 (u1 (u1 (u1 (u1 (u1 r1))))) a2) (5 : Int) == (3 : Int) then g_pick r0 (u1 r1) (2 : Int) else g_pick r0 (u1 r1) (2 : Int) else g_pick r0 (u1 r1) (2 : Int) else bif IntKind.wrap IntKind.i64 ((1 : Int) + g_pick r0 r1 (5 : Int)) == (3 : Int) then bif g_Vs_l20Rd_odd_0 r0 (u1 (u1 (u1 (u1 r1)))) a2 then bif g_pick r0 (g_Vs_l20Rd_odd_2 r0 (u1 (u1 (u1 (u1 r1)))) a2) (5 : Int) == (0 : Int) then (0 : Int) else bif g_pick r0 (g_Vs_l20Rd_odd_2 r0 (u1 (u1 (u1 (u1 r1)))) a2) (5 : Int) == (1 : Int) then at_ (Ty.int IntKind.i64) [(-1 : Int), (10 : Int), (1 : Int)] (Int.toNat (g_pick r0 (u1 (g_Vs_l20Rd_odd_2 r0 (u1 (u1 (u1 (u1 r1)))) a2)) (3 : Int))) else bif g_pick r0 (g_Vs_l20Rd_odd_2 r0 (u1 (u1 (u1 (u1 r1)))) a2) (5 : Int) == (2 : Int) then (0 : Int) else bif g_pick r0 (g_Vs_l20Rd_odd_2 r0 (u1 (u1 (u1 (u1 r1)))) a2) (5 : Int) == (3 : Int) then (0 : Int) else (0 : Int) else (0 : Int) else bif g_Vs_l20Rd_odd_0 r0 (u1 (u1 (u1 r1))) a2 then bif g_pick r0 (g_Vs_l20Rd_odd_2 r0 (u1 (u1 (u1 r1))) a2) (5 : Int) == (0 : Int) then (0 : Int) else bif g_pick r0 (g_Vs_l20Rd_odd_2 r0 (u1 (u1 (u1 r1))) a2) (5 : Int) == (1 : Int) then at_ (Ty.int IntKind.i64) [(-1 : Int), (10 : Int), (1 : Int)] (Int.toNat (g_pick r0 (u1 (g_Vs_l20Rd_odd_2 r0 (u1 (u1 (u1 r1))) a2)) (3 : Int))) else bif g_pick r0 (g_Vs_l20Rd_odd_2 r0 (u1 (u1 (u1 r1))) a2) (5 : Int) == (2 : Int) then (0 : Int) else bif g_pick r0 (g_Vs_l20Rd_odd_2 r0 (u1 (u1 (u1 r1))) a2) (5 : Int) == (3 : Int) then (0 : Int) else (0 : Int) else (0 : Int) else bif IntKind.wrap IntKind.i64 ((1 : Int) + g_pick r0 r1 (5 : Int)) == (5 : Int) then bif g_Vs_l20Rd_odd_0 r0 (u1 (u1 (u1 r1))) a2 then bif g_pick r0 (g_Vs_l20Rd_odd_2 r0 (u1 (u1 (u1 r1))) a2) (5 : Int) == (0 : Int) then g_pick r0 (u1 r1) (2 : Int) else bif g_pick r0 (g_Vs_l20Rd_odd_2 r0 (u1 (u1 (u1 r1))) a2) (5 : Int) == (1 : Int) then at_ (Ty.int IntKind.i64) [(-1 : Int), (10 : Int), (1 : Int)] (Int.toNat (g_pick r0 (u1 (g_Vs_l20Rd_odd_2 r0 (u1 (u1 (u1 r1))) a2)) (3 : Int))) else bif g_pick r0 (g_Vs_l20Rd_odd_2 r0 (u1 (u1 (u1 r1))) a2) (5 : Int) == (2 : Int) then g_pick r0 (u1 r1) (2 : Int) else bif g_pick r0 (g_Vs_l20Rd_odd_2 r0 (u1 (u1 (u1 r1))) a2) (5 : Int) == (3 : Int) then g_pick r0 (u1 r1) (2 : Int) else g_pick r0 (u1 r1) (2 : Int) else g_pick r0 (u1 r1) (2 : Int) else bif IntKind.wrap IntKind.i64 ((1 : Int) + g_pick r0 r1 (5 : Int)) == (2 : Int) then bif g_Vs_l20Rd_odd_0 r0 (u1 (u1 (u1 (u1 (u1 r1))))) a2 then bif g_pick r0 (g_Vs_l20Rd_odd_2 r0 (u1 (u1 (u1 (u1 (u1 r1))))) a2) (5 : Int) == (0 : Int) then g_pick r0 (u1 r1) (2 : Int) else bif g_pick r0 (g_Vs_l20Rd_odd_2 r0 (u1 (u1 (u1 (u1 (u1 r1))))) a2) (5 : Int) == (1 : Int) then at_ (Ty.int IntKind.i64) [(-1 : Int), (10 : Int), (1 : Int)] (Int.toNat (g_pick r0 (u1 (g_Vs_l20Rd_odd_2 r0 (u1 (u1 (u1 (u1 (u1 r1))))) a2)) (3 : Int))) else bif g_pick r0 (g_Vs_l20Rd_odd_2 r0 (u1 (u1 (u1 (u1 (u1 r1))))) a2) (5 : Int) == (2 : Int) then g_pick r0 (u1 r1) (2 : Int) else bif g_pick r0 (g_Vs_l20Rd_odd_2 r0 (u1 (u1 (u1 (u1 (u1 r1))))) a2) (5 : Int) == (3 : Int) then g_pick r0 (u1 r1) (2 : Int) else g_pick r0 (u1 r1) (2 : Int) else g_pick r0 (u1 r1) (2 : Int) else bif IntKind.wrap IntKind.i64 ((1 : Int) + g_pick r0 r1 (5 : Int)) == (3 : Int) then bif g_Vs_l20Rd_odd_0 r0 (u1 (u1 (u1 (u1 r1)))) a2 then bif g_pick r0 (g_Vs_l20Rd_odd_2 r0 (u1 (u1 (u1 (u1 r1)))) a2) (5 : Int) == (0 : Int) then (0 : Int) else bif g_pick r0 (g_Vs_l20Rd_odd_2 r0 (u1 (u1 (u1 (u1 r1)))) a2) (5 : Int) == (1 : Int) then at_ (Ty.int IntKind.i64) [(-1 : Int), (10 : Int), (1 : Int)] (Int.toNat (g_pick r0 (u1 (g_Vs_l20Rd_odd_2 r0 (u1 (u1 (u1 (u1 r1)))) a2)) (3 : Int))) else bif g_pick r0 (g_Vs_l20Rd_odd_2 r0 (u1 (u1 (u1 (u1 r1)))) a2) (5 : Int) == (2 : Int) then (0 : Int) else bif g_pick r0 (g_Vs_l20Rd_odd_2 r0 (u1 (u1 (u1 (u1 r1)))) a2) (5 : Int) == (3 : Int) then (0 : Int) else (0 : Int) else (0 : Int) else bif g_Vs_l20Rd_odd_0 r0 (u1 (u1 (u1 r1))) a2 then bif g_pick r0 (g_Vs_l20Rd_odd_2 r0 (u1 (u1 (u1 r1))) a2) (5 : Int) == (0 : Int) then (0 : Int) else bif g_pick r0 (g_Vs_l20Rd_odd_2 r0 (u1 (u1 (u1 r1))) a2) (5 : Int) == (1 : Int) then at_ (Ty.int IntKind.i64) [(-1 : Int), (10 : Int), (1 : Int)] (Int.toNat (g_pick r0 (u1 (g_Vs_l20Rd_odd_2 r0 (u1 (u1 (u1 r1))) a2)) (3 : Int))) else bif g_pick r0 (g_Vs_l20Rd_odd_2 r0 (u1 (u1 (u1 r1))) a2) (5 : Int) == (2 : Int) then (0 : Int) else bif g_pick r0 (g_Vs_l20Rd_odd_2 r0 (u1 (u1 (u1 r1))) a2) (5 : Int) == (3 : Int) then (0 : Int) else (0 : Int) else (0 : Int)
noncomputable def g_Vs_l20Op_2 (r0 : List Int) (r1 : Int) (a2 : Int) : Int := bif IntKind.wrap IntKind.i64 ((1 : Int) + g_pick r0 r1 (5 : Int)) == (1 : Int) then bif IntKind.wrap IntKind.i64 ((1 : Int) + g_pick r0 r1 (5 : Int)) == (1 : Int) then bif g_Vs_l20Rd_odd_0 r0 (u1 (u1 (u1 r1))) a2 then bif g_pick r0 (g_Vs_l20Rd_odd_2 r0 (u1 (u1 (u1 r1))) a2) (5 : Int) == (0 : Int) then g_pick r0 (u1 (u1 r1)) (3 : Int) else bif g_pick r0 (g_Vs_l20Rd_odd_2 r0 (u1 (u1 (u1 r1))) a2) (5 : Int) == (1 : Int) then g_pick r0 (u1 (u1 r1)) (3 : Int) else bif g_pick r0 (g_Vs_l20Rd_odd_2 r0 (u1 (u1 (u1 r1))) a2) (5 : Int) == (2 : Int) then g_pick r0 (u1 (u1 r1)) (3 : Int) else bif g_pick r0 (g_Vs_l20Rd_odd_2 r0 (u1 (u1 (u1 r1))) a2) (5 : Int) == (3 : Int) then g_pick r0 (u1 (u1 r1)) (3 : Int) else g_pick r0 (u1 (u1 r1)) (3 : Int) else g_pick r0 (u1 (u1 r1)) (3 : Int) else bif IntKind.wrap IntKind.i64 ((1 : Int) + g_pick r0 r1 (5 : Int)) == (2 : Int) then bif g_Vs_l20Rd_odd_0 r0 (u1 (u1 (u1 (u1 (u1 r1))))) a2 then bif g_pick r0 (g_Vs_l20Rd_odd_2 r0 (u1 (u1 (u1 (u1 (u1 r1))))) a2) (5 : Int) == (0 : Int) then g_pick r0 (u1 (u1 r1)) (3 : Int) else bif g_pick r0 (g_Vs_l20Rd_odd_2 r0 (u1 (u1 (u1 (u1 (u1 r1))))) a2) (5 : Int) == (1 : Int) then g_pick r0 (u1 (u1 r1)) (3 : Int) else bif g_pick r0 (g_Vs_l20Rd_odd_2 r0 (u1 (u1 (u1 (u1 (u1 r1))))) a2) (5 : Int) == (2 : Int) then g_pick r0 (u1 (u1 r1)) (3 : Int) else bif g_pick r0 (g_Vs_l20Rd_odd_2 r0 (u1 (u1 (u1 (u1 (u1 r1))))) a2) (5 : Int) == (3 : Int) then g_pick r0 (u1 (u1 r1)) (3 : Int) else g_pick r0 (u1 (u1 r1)) (3 : Int) else g_pick r0 (u1 (u1 r1)) (3 : Int) else bif IntKind.wrap IntKind.i64 ((1 : Int) + g_pick r0 r1 (5 : Int)) == (3 : Int) then bif g_Vs_l20Rd_odd_0 r0 (u1 (u1 (u1 (u1 r1)))) a2 then bif g_pick r0 (g_Vs_l20Rd_odd_2 r0 (u1 (u1 (u1 (u1 r1)))) a2) (5 : Int) == (0 : Int) then (0 : Int) else bif g_pick r0 (g_Vs_l20Rd_odd_2 r0 (u1 (u1 (u1 (u1 r1)))) a2) (5 : Int) == (1 : Int) then (0 : Int) else bif g_pick r0 (g_Vs_l20Rd_odd_2 r0 (u1 (u1 (u1 (u1 r1)))) a2) (5 : Int) == (2 : Int) then (0 : Int) else bif g_pick r0 (g_Vs_l20Rd_odd_2 r0 (u1 (u1 (u1 (u1 r1)))) a2) (5 : Int) == (3 : Int) then (0 : Int) else (0 : Int) else (0 : Int) else bif g_Vs_l20Rd_odd_0 r0 (u1 (u1 (u1 r1))) a2 then bif g_pick r0 (g_Vs_l20Rd_odd_2 r0 (u1 (u1 (u1 r1))) a2) (5 : Int) == (0 : Int) then (0 : Int) else bif g_pick r0 (g_Vs_l20Rd_odd_2 r0 (u1 (u1 (u1 r1))) a2) (5 : Int) == (1 : Int) then (0 : Int) else bif g_pick r0 (g_Vs_l20Rd_odd_2 r0 (u1 (u1 (u1 r1))) a2) (5 : Int) == (2 : Int) then (0 : Int) else bif g_pick r0 (g_Vs_l20Rd_odd_2 r0 (u1 (u1 (u1 r1))) a2) (5 : Int) == (3 : Int) then (0 : Int) else (0 : Int) else (0 : Int) else bif IntKind.wrap IntKind.i64 ((1 : Int) + g_pick r0 r1 (5 : Int)) == (5 : Int) then bif g_Vs_l20Rd_odd_0 r0 (u1 (u1 (u1 r1))) a2 then bif g_pick r0 (g_Vs_l20Rd_odd_2 r0 (u1 (u1 (u1 r1))) a2) (5 : Int) == (0 : Int) then g_pick r0 (u1 (u1 r1)) (3 : Int) else bif g_pick r0 (g_Vs_l20Rd_odd_2 r0 (u1 (u1 (u1 r1))) a2) (5 : Int) == (1 : Int) then g_pick r0 (u1 (u1 r1)) (3 : Int) else bif g_pick r0 (g_Vs_l20Rd_odd_2 r0 (u1 (u1 (u1 r1))) a2) (5 : Int) == (2 : Int) then g_pick r0 (u1 (u1 r1)) (3 : Int) else bif g_pick r0 (g_Vs_l20Rd_odd_2 r0 (u1 (u1 (u1 r1))) a2) (5 : Int) == (3 : Int) then g_pick r0 (u1 (u1 r1)) (3 : Int) else g_pick r0 (u1 (u1 r1)) (3 : Int) else g_pick r0 (u1 (u1 r1)) (3 : Int) else bif IntKind.wrap IntKind.i64 ((1 : Int) + g_pick r0 r1 (5 : Int)) == (2 : Int) then bif g_Vs_l20Rd_odd_0 r0 (u1 (u1 (u1 (u1 (u1 r1))))) a2 then bif g_pick r0 (g_Vs_l20Rd_odd_2 r0 (u1 (u1 (u1 (u1 (u1 r1))))) a2) (5 : Int) == (0 : Int) then g_pick r0 (u1 (u1 r1)) (3 : Int) else bif g_pick r0 (g_Vs_l20Rd_odd_2 r0 (u1 (u1 (u1 (u1 (u1 r1))))) a2) (5 : Int) == (1 : Int) then g_pick r0 (u1 (u1 r1)) (3 : Int) else bif g_pick r0 (g_Vs_l20Rd_odd_2 r0 (u1 (u1 (u1 (u1 (u1 r1))))) a2) (5 : Int) == (2 : Int) then g_pick r0 (u1 (u1 r1)) (3 : Int) else bif g_pick r0 (g_Vs_l20Rd_odd_2 r0 (u1 (u1 (u1 (u1 (u1 r1))))) a2) (5 : Int) == (3 : Int) then g_pick r0 (u1 (u1 r1)) (3 : Int) else g_pick r0 (u1 (u1 r1)) (3 : Int) else g_pick r0 (u1 (u1 r1)) (3 : Int) else bif IntKind.wrap IntKind.i64 ((1 : Int) + g_pick r0 r1 (5 : Int)) == (3 : Int) then bif g_Vs_l20Rd_odd_0 r0 (u1 (u1 (u1 (u1 r1)))) a2 then bif g_pick r0 (g_Vs_l20Rd_odd_2 r0 (u1 (u1 (u1 (u1 r1)))) a2) (5 : Int) == (0 : Int) then (0 : Int) else bif g_pick r0 (g_Vs_l20Rd_odd_2 r0 (u1 (u1 (u1 (u1 r1)))) a2) (5 : Int) == (1 : Int) then (0 : Int) else bif g_pick r0 (g_Vs_l20Rd_odd_2 r0 (u1 (u1 (u1 (u1 r1)))) a2) (5 : Int) == (2 : Int) then (0 : Int) else bif g_pick r0 (g_Vs_l20Rd_odd_2 r0 (u1 (u1 (u1 (u1 r1)))) a2) (5 : Int) == (3 : Int) then (0 : Int) else (0 : Int) else (0 : Int) else bif g_Vs_l20Rd_odd_0 r0 (u1 (u1 (u1 r1))) a2 then bif g_pick r0 (g_Vs_l20Rd_odd_2 r0 (u1 (u1 (u1 r1))) a2) (5 : Int) == (0 : Int) then (0 : Int) else bif g_pick r0 (g_Vs_l20Rd_odd_2 r0 (u1 (u1 (u1 r1))) a2) (5 : Int) == (1 : Int) then (0 : Int) else bif g_pick r0 (g_Vs_l20Rd_odd_2 r0 (u1 (u1 (u1 r1))) a2) (5 : Int) == (2 : Int) then (0 : Int) else bif g_pick r0 (g_Vs_l20Rd_odd_2 r0 (u1 (u1 (u1 r1))) a2) (5 : Int) == (3 : Int) then (0 : Int) else (0 : Int) else (0 : Int)
noncomputable def g_Vs_l20Op_3 (r0 : List Int) (r1 : Int) (a2 : Int) : Int := bif IntKind.wrap IntKind.i64 ((1 : Int) + g_pick r0 r1 (5 : Int)) == (1 : Int) then bif IntKind.wrap IntKind.i64 ((1 : Int) + g_pick r0 r1 (5 : Int)) == (1 : Int) then bif g_Vs_l20Rd_odd_0 r0 (u1 (u1 (u1 r1))) a2 then bif g_pick r0 (g_Vs_l20Rd_odd_2 r0 (u1 (u1 (u1 r1))) a2) (5 : Int) == (0 : Int) then (0 : Int) else bif g_pick r0 (g_Vs_l20Rd_odd_2 r0 (u1 (u1 (u1 r1))) a2) (5 : Int) == (1 : Int) then (0 : Int) else bif g_pick r0 (g_Vs_l20Rd_odd_2 r0 (u1 (u1 (u1 r1))) a2) (5 : Int) == (2 : Int) then at_ (Ty.int IntKind.i64) [(-1 : Int), (10 : Int), (1 : Int)] (Int.toNat (g_pick r0 (u1 (g_Vs_l20Rd_odd_2 r0 (u1 (u1 (u1 r1))) a2)) (3 : Int))) else bif g_pick r0 (g_Vs_l20Rd_odd_2 r0 (u1 (u1 (u1 r1))) a2) (5 : Int) == (3 : Int) then (0 : Int) else (0 : Int) else (0 : Int) else bif IntKind.wrap IntKind.i64 ((1 : Int) + g_pick r0 r1 (5 : Int)) == (2 : Int) then bif g_Vs_l20Rd_odd_0 r0 (u1 (u1 (u1 (u1 (u1 r1))))) a2 then bif g_pick r0 (g_Vs_l20Rd_odd_2 r0 (u1 (u1 (u1 (u1 (u1 r1))))) a2) (5 : Int) == (0 : Int) then g_pick r0 (u1 (u1 (u1 r1))) (3 : Int) else bif g_pick r0 (g_Vs_l20Rd_odd_2 r0 (u1 (u1 (u1 (u1 (u1 r1))))) a2) (5 : Int) == (1 : Int) then g_pick r0 (u1 (u1 (u1 r1))) (3 : Int) else bif g_pick r0 (g_Vs_l20Rd_odd_2 r0 (u1 (u1 (u1 (u1 (u1 r1))))) a2) (5 : Int) == (2 : Int) then at_ (Ty.int IntKind.i64) [(-1 : Int), (10 : Int), (1 : Int)] (Int.toNat (g_pick r0 (u1 (g_Vs_l20Rd_odd_2 r0 (u1 (u1 (u1 (u1 (u1 r1))))) a2)) (3 : Int))) else bif g_pick r0 (g_Vs_l20Rd_odd_2 r0 (u1 (u1 (u1 (u1 (u1 r1))))) a2) (5 : Int) == (3 : Int) then g_pick r0 (u1 (u1 (u1 r1))) (3 : Int) else g_pick r0 (u1 (u1 (u1 r1))) (3 : Int) else g_pick r0 (u1 (u1 (u1 r1))) (3 : Int) else bif IntKind.wrap IntKind.i64 ((1 : Int) + g_pick r0 r1 (5 : Int)) == (3 : Int) then bif g_Vs_l20Rd_odd_0 r0 (u1 (u1 (u1 (u1 r1)))) a2 then bif g_pick r0 (g_Vs_l20Rd_odd_2 r0 (u1 (u1 (u1 (u1 r1)))) a2) (5 : Int) == (0 : Int) then g_pick r0 (u1 r1) (3 : Int) else bif g_pick r0 (g_Vs_l20Rd_odd_2 r0 (u1 (u1 (u1 (u1 r1)))) a2) (5 : Int) == (1 : Int) then g_pick r0 (u1 r1) (3 : Int) else bif g_pick r0 (g_Vs_l20Rd_odd_2 r0 (u1 (u1 (u1 (u1 r1)))) a2) (5 : Int) == (2 : Int) then at_ (Ty.int IntKind.i64) [(-1 : Int), (10 : Int), (1 : Int)] (Int.toNat (g_pick r0 (u1 (g_Vs_l20Rd_odd_2 r0 (u1 (u1 (u1 (u1 r1)))) a2)) (3 : Int))) else bif g_pick r0 (g_Vs_l20Rd_odd_2 r0 (u1 (u1 (u1 (u1 r1)))) a2) (5 : Int) == (3 : Int) then g_pick r0 (u1 r1) (3 : Int) else g_pick r0 (u1 r1) (3 : Int) else g_pick r0 (u1 r1) (3 : Int) else bif g_Vs_l20Rd_odd_0 r0 (u1 (u1 (u1 r1))) a2 then bif g_pick r0 (g_Vs_l20Rd_odd_2 r0 (u1 (u1 (u1 r1))) a2) (5 : Int) == (0 : Int) then (0 : Int) else bif g_pick r0 (g_Vs_l20Rd_odd_2 r0 (u1 (u1 (u1 r1))) a2) (5 : Int) == (1 : Int) then (0 : Int) else bif g_pick r0 (g_Vs_l20Rd_odd_2 r0 (u1 (u1 (u1 r1))) a2) (5 : Int) == (2 : Int) then at_ (Ty.int IntKind.i64) [(-1 : Int), (10 : Int), (1 : Int)] (Int.toNat (g_pick r0 (u1 (g_Vs_l20Rd_odd_2 r0 (u1 (u1 (u1 r1))) a2)) (3 : Int))) else bif g_pick r0 (g_Vs_l20Rd_odd_2 r0 (u1 (u1 (u1 r1))) a2) (5 : Int) == (3 : Int) then (0 : Int) else (0 : Int) else (0 : Int) else bif IntKind.wrap IntKind.i64 ((1 : Int) + g_pick r0 r1 (5 : Int)) == (5 : Int) then bif g_Vs_l20Rd_odd_0 r0 (u1 (u1 (u1 r1))) a2 then bif g_pick r0 (g_Vs_l20Rd_odd_2 r0 (u1 (u1 (u1 r1))) a2) (5 : Int) == (0 : Int) then (0 : Int) else bif g_pick r0 (g_Vs_l20Rd_odd_2 r0 (u1 (u1 (u1 r1))) a2) (5 : Int) == (1 : Int) then (0 : Int) else bif g_pick r0 (g_Vs_l20Rd_odd_2 r0 (u1 (u1 (u1 r1))) a2) (5 : Int) == (2 : Int) then at_ (Ty.int IntKind.i64) [(-1 : Int), (10 : Int), (1 : Int)] (Int.toNat (g_pick r0 (u1 (g_Vs_l20Rd_odd_2 r0 (u1 (u1 (u1 r1))) a2)) (3 : Int))) else bif g_pick r0 (g_Vs_l20Rd_odd_2 r0 (u1 (u1 (u1 r1))) a2) (5 : Int) == (3 : Int) then (0 : Int) else (0 : Int) else (0 : Int) else bif IntKind.wrap IntKind.i64 ((1 : Int) + g_pick r0 r1 (5 : Int)) == (2 : Int) then bif g_Vs_l20Rd_odd_0 r0 (u1 (u1 (u1 (u1 (u1 r1))))) a2 then bif g_pick r0 (g_Vs_l20Rd_odd_2 r0 (u1 (u1 (u1 (u1 (u1 r1))))) a2) (5 : Int) == (0 : Int) then g_pick r0 (u1 (u1 (u1 r1))) (3 : Int) else bif g_pick r0 (g_Vs_l20Rd_odd_2 r0 (u1 (u1 (u1 (u1 (u1 r1))))) a2) (5 : Int) == (1 : Int) then g_pick r0 (u1 (u1 (u1 r1))) (3 : Int) else bif g_pick r0 (g_Vs_l20Rd_odd_2 r0 (u1 (u1 (u1 (u1 (u1 r1))))) a2) (5 : Int) == (2 : Int) then at_ (Ty.int IntKind.i64) [(-1 : Int), (10 : Int), (1 : Int)] (Int.toNat (g_pick r0 (u1 (g_Vs_l20Rd_odd_2 r0 (u1 (u1 (u1 (u1 (u1 r1))))) a2)) (3 : Int))) else bif g_pick r0 (g_Vs_l20Rd_odd_2 r0 (u1 (u1 (u1 (u1 (u1 r1))))) a2) (5 : Int) == (3 : Int) then g_pick r0 (u1 (u1 (u1 r1))) (3 : Int) else g_pick r0 (u1 (u1 (u1 r1))) (3 : Int) else g_pick r0 (u1 (u1 (u1 r1))) (3 : Int) else bif IntKind.wrap IntKind.i64 ((1 : Int) + g_pick r0 r1 (5 : Int)) == (3 : Int) then bif g_Vs_l20Rd_odd_0 r0 (u1 (u1 (u1 (u1 r1)))) a2 then bif g_pick r0 (g_Vs_l20Rd_odd_2 r0 (u1 (u1 (u1 (u1 r1)))) a2) (5 : Int) == (0 : Int) then g_pick r0 (u1 r1) (3 : Int) else bif g_pick r0 (g_Vs_l20Rd_odd_2 r0 (u1 (u1 (u1 (u1 r1)))) a2) (5 : Int) == (1 : Int) then g_pick r0 (u1 r1) (3 : Int) else bif g_pick r0 (g_Vs_l20Rd_odd_2 r0 (u1 (u1 (u1 (u1 r1)))) a2) (5 : Int) == (2 : Int) then at_ (Ty.int IntKind.i64) [(-1 : Int), (10 : Int), (1 : Int)] (Int.toNat (g_pick r0 (u1 (g_Vs_l20Rd_odd_2 r0 (u1 (u1 (u1 (u1 r1)))) a2)) (3 : Int))) else bif g_pick r0 (g_Vs_l20Rd_odd_2 r0 (u1 (u1 (u1 (u1 r1)))) a2) (5 : Int) == (3 : Int) then g_pick r0 (u1 r1) (3 : Int) else g_pick r0 (u1 r1) (3 : Int) else g_pick r0 (u1 r1) (3 : Int) else bif g_Vs_l20Rd_odd_0 r0 (u1 (u1 (u1 r1))) a2 then bif g_pick r0 (g_Vs_l20Rd_odd_2 r0 (u1 (u1 (u1 r1))) a2) (5 : Int) == (0 : Int) then (0 : Int) else bif g_pick r0 (g_Vs_l20Rd_odd_2 r0 (u1 (u1 (u1 r1))) a2) (5 : Int) == (1 : Int) then (0 : Int) else bif g_pick r0 (g_Vs_l20Rd_odd_2 r0 (u1 (u1 (u1 r1))) a2) (5 : Int) == (2 : Int) then at_ (Ty.int IntKind.i64) [(-1 : Int), (10 : Int), (1 : Int)] (Int.toNat (g_pick r0 (u1 (g_Vs_l20Rd_odd_2 r0 (u1 (u1 (u1 r1))) a2)) (3 : Int))) else bif g_pick r0 (g_Vs_l20Rd_odd_2 r0 (u1 (u1 (u1 r1))) a2) (5 : Int) == (3 : Int) then (0 : Int) else (0 : Int) else (0 : Int)
noncomputable def g_Vs_l20Op_4 (r0 : List Int) (r1 : Int) (a2 : Int) : Int := bif IntKind.wrap IntKind.i64 ((1 : Int) + g_pick r0 r1 (5 : Int)) == (1 : Int) then bif IntKind.wrap IntKind.i64 ((1 : Int) + g_pick r0 r1 (5 : Int)) == (1 : Int) then bif g_Vs_l20Rd_odd_0 r0 (u1 (u1 (u1 r1))) a2 then bif g_pick r0 (g_Vs_l20Rd_odd_2 r0 (u1 (u1 (u1 r1))) a2) (5 : Int) == (0 : Int) then (0 : Int) else bif g_pick r0 (g_Vs_l20Rd_odd_2 r0 (u1 (u1 (u1 r1))) a2) (5 : Int) == (1 : Int) then (0 : Int) else bif g_pick r0 (g_Vs_l20Rd_odd_2 r0 (u1 (u1 (u1 r1))) a2) (5 : Int) == (2 : Int) then (0 : Int) else bif g_pick r0 (g_Vs_l20Rd_odd_2 r0 (u1 (u1 (u1 r1))) a2) (5 : Int) == (3 : Int) then (0 : Int) else at_ (Ty.int IntKind.i64) [(-1 : Int), (100 : Int), (99 : Int)] (Int.toNat (g_pick r0 (u1 (g_Vs_l20Rd_odd_2 r0 (u1 (u1 (u1 r1))) a2)) (3 : Int))) else (0 : Int) else bif IntKind.wrap IntKind.i64 ((1 : Int) + g_pick r0 r1 (5 : Int)) == (2 : Int) then bif g_Vs_l20Rd_odd_0 r0 (u1 (u1 (u1 (u1 (u1 r1))))) a2 then bif g_pick r0 (g_Vs_l20Rd_odd_2 r0 (u1 (u1 (u1 (u1 (u1 r1))))) a2) (5 : Int) == (0 : Int) then g_pick r0 (u1 (u1 (u1 (u1 r1)))) (3 : Int) else bif g_pick r0 (g_Vs_l20Rd_odd_2 r0 (u1 (u1 (u1 (u1 (u1 r1))))) a2) (5 : Int) == (1 : Int) then g_pick r0 (u1 (u1 (u1 (u1 r1)))) (3 : Int) else bif g_pick r0 (g_Vs_l20Rd_odd_2 r0 (u1 (u1 (u1 (u1 (u1 r1))))) a2) (5 : Int) == (2 : Int) then g_pick r0 (u1 (u1 (u1 (u1 r1)))) (3 : Int) else bif g_pick r0 (g_Vs_l20Rd_odd_2 r0 (u1 (u1 (u1 (u1 (u1 r1))))) a2) (5 : Int) == (3 : Int) then g_pick r0 (u1 (u1 (u1 (u1 r1)))) (3 : Int) else at_ (Ty.int IntKind.i64) [(-1 : Int), (100 : Int), (99 : Int)] (Int.toNat (g_pick r0 (u1 (g_Vs_l20Rd_odd_2 r0 (u1 (u1 (u1 (u1 (u1 r1))))) a2)) (3 : Int))) else g_pick r0 (u1 (u1 (u1 (u1 r1)))) (3 : Int) else bif IntKind.wrap IntKind.i64 ((1 : Int) + g_pick r0 r1 (5 : Int)) == (3 : Int) then bif g_Vs_l20Rd_odd_0 r0 (u1 (u1 (u1 (u1 r1)))) a2 then bif g_pick r0 (g_Vs_l20Rd_odd_2 r0 (u1 (u1 (u1 (u1 r1)))) a2) (5 : Int) == (0 : Int) then g_pick r0 (u1 (u1 r1)) (3 : Int) else bif g_pick r0 (g_Vs_l20Rd_odd_2 r0 (u1 (u1 (u1 (u1 r1)))) a2) (5 : Int) == (1 : Int) then g_pick r0 (u1 (u1 r1)) (3 : Int) else bif g_pick r0 (g_Vs_l20Rd_odd_2 r0 (u1 (u1 (u1 (u1 r1)))) a2) (5 : Int) == (2 : Int) then g_pick r0 (u1 (u1 r1)) (3 : Int) else bif g_pick r0 (g_Vs_l20Rd_odd_2 r0 (u1 (u1 (u1 (u1 r1)))) a2) (5 : Int) == (3 : Int) then g_pick r0 (u1 (u1 r1)) (3 : Int) else at_ (Ty.int IntKind.i64) [(-1 : Int), (100 : Int), (99 : Int)] (Int.toNat (g_pick r0 (u1 (g_Vs_l20Rd_odd_2 r0 (u1 (u1 (u1 (u1 r1)))) a2)) (3 : Int))) else g_pick r0 (u1 (u1 r1)) (3 : Int) else bif g_Vs_l20Rd_odd_0 r0 (u1 (u1 (u1 r1))) a2 then bif g_pick r0 (g_Vs_l20Rd_odd_2 r0 (u1 (u1 (u1 r1))) a2) (5 : Int) == (0 : Int) then (0 : Int) else bif g_pick r0 (g_Vs_l20Rd_odd_2 r0 (u1 (u1 (u1 r1))) a2) (5 : Int) == (1 : Int) then (0 : Int) else bif g_pick r0 (g_Vs_l20Rd_odd_2 r0 (u1 (u1 (u1 r1))) a2) (5 : Int) == (2 : Int) then (0 : Int) else bif g_pick r0 (g_Vs_l20Rd_odd_2 r0 (u1 (u1 (u1 r1))) a2) (5 : Int) == (3 : Int) then (0 : Int) else at_ (Ty.int IntKind.i64) [(-1 : Int), (100 : Int), (99 : Int)] (Int.toNat (g_pick r0 (u1 (g_Vs_l20Rd_odd_2 r0 (u1 (u1 (u1 r1))) a2)) (3 : Int))) else (0 : Int) else bif IntKind.wrap IntKind.i64 ((1 : Int) + g_pick r0 r1 (5 : Int)) == (5 : Int) then bif g_Vs_l20Rd_odd_0 r0 (u1 (u1 (u1 r1))) a2 then bif g_pick r0 (g_Vs_l20Rd_odd_2 r0 (u1 (u1 (u1 r1))) a2) (5 : Int) == (0 : Int) then (0 : Int) else bif g_pick r0 (g_Vs_l20Rd_odd_2 r0 (u1 (u1 (u1 r1))) a2) (5 : Int) == (1 : Int) then (0 : Int) else bif g_pick r0 (g_Vs_l20Rd_odd_2 r0 (u1 (u1 (u1 r1))) a2) (5 : Int) == (2 : Int) then (0 : Int) else bif g_pick r0 (g_Vs_l20Rd_odd_2 r0 (u1 (u1 (u1 r1))) a2) (5 : Int) == (3 : Int) then (0 : Int) else at_ (Ty.int IntKind.i64) [(-1 : Int), (100 : Int), (99 : Int)] (Int.toNat (g_pick r0 (u1 (g_Vs_l20Rd_odd_2 r0 (u1 (u1 (u1 r1))) a2)) (3 : Int))) else (0 : Int) else bif IntKind.wrap IntKind.i64 ((1 : Int) + g_pick r0 r1 (5 : Int)) == (2 : Int) then bif g_Vs_l20Rd_odd_0 r0 (u1 (u1 (u1 (u1 (u1 r1))))) a2 then bif g_pick r0 (g_Vs_l20Rd_odd_2 r0 (u1 (u1 (u1 (u1 (u1 r1))))) a2) (5 : Int) == (0 : Int) then g_pick r0 (u1 (u1 (u1 (u1 r1)))) (3 : Int) else bif g_pick r0 (g_Vs_l20Rd_odd_2 r0 (u1 (u1 (u1 (u1 (u1 r1))))) a2) (5 : Int) == (1 : Int) then g_pick r0 (u1 (u1 (u1 (u1 r1)))) (3 : Int) else bif g_pick r0 (g_Vs_l20Rd_odd_2 r0 (u1 (u1 (u1 (u1 (u1 r1))))) a2) (5 : Int) == (2 : Int) then g_pick r0 (u1 (u1 (u1 (u1 r1)))) (3 : Int) else bif g_pick r0 (g_Vs_l20Rd_odd_2 r0 (u1 (u1 (u1 (u1 (u1 r1))))) a2) (5 : Int) == (3 : Int) then g_pick r0 (u1 (u1 (u1 (u1 r1)))) (3 : Int) else at_ (Ty.int IntKind.i64) [(-1 : Int), (100 : Int), (99 : Int)] (Int.toNat (g_pick r0 (u1 (g_Vs_l20Rd_odd_2 r0 (u1 (u1 (u1 (u1 (u1 r1))))) a2)) (3 : Int))) else g_pick r0 (u1 (u1 (u1 (u1 r1)))) (3 : Int) else bif IntKind.wrap IntKind.i64 ((1 : Int) + g_pick r0 r1 (5 : Int)) == (3 : Int) then bif g_Vs_l20Rd_odd_0 r0 (u1 (u1 (u1 (u1 r1)))) a2 then bif g_pick r0 (g_Vs_l20Rd_odd_2 r0 (u1 (u1 (u1 (u1 r1)))) a2) (5 : Int) == (0 : Int) then g_pick r0 (u1 (u1 r1)) (3 : Int) else bif g_pick r0 (g_Vs_l20Rd_odd_2 r0 (u1 (u1 (u1 (u1 r1)))) a2) (5 : Int) == (1 : Int) then g_pick r0 (u1 (u1 r1)) (3 : Int) else bif g_pick r0 (g_Vs_l20Rd_odd_2 r0 (u1 (u1 (u1 (u1 r1)))) a2) (5 : Int) == (2 : Int) then g_pick r0 (u1 (u1 r1)) (3 : Int) else bif g_pick r0 (g_Vs_l20Rd_odd_2 r0 (u1 (u1 (u1 (u1 r1)))) a2) (5 : Int) == (3 : Int) then g_pick r0 (u1 (u1 r1)) (3 : Int) else at_ (Ty.int IntKind.i64) [(-1 : Int), (100 : Int), (99 : Int)] (Int.toNat (g_pick r0 (u1 (g_Vs_l20Rd_odd_2 r0 (u1 (u1 (u1 (u1 r1)))) a2)) (3 : Int))) else g_pick r0 (u1 (u1 r1)) (3 : Int) else bif g_Vs_l20Rd_odd_0 r0 (u1 (u1 (u1 r1))) a2 then bif g_pick r0 (g_Vs_l20Rd_odd_2 r0 (u1 (u1 (u1 r1))) a2) (5 : Int) == (0 : Int) then (0 : Int) else bif g_pick r0 (g_Vs_l20Rd_odd_2 r0 (u1 (u1 (u1 r1))) a2) (5 : Int) == (1 : Int) then (0 : Int) else bif g_pick r0 (g_Vs_l20Rd_odd_2 r0 (u1 (u1 (u1 r1))) a2) (5 : Int) == (2 : Int) then (0 : Int) else bif g_pick r0 (g_Vs_l20Rd_odd_2 r0 (u1 (u1 (u1 r1))) a2) (5 : Int) == (3 : Int) then (0 : Int) else at_ (Ty.int IntKind.i64) [(-1 : Int), (100 : Int), (99 : Int)] (Int.toNat (g_pick r0 (u1 (g_Vs_l20Rd_odd_2 r0 (u1 (u1 (u1 r1))) a2)) (3 : Int))) else (0 : Int)
noncomputable def g_Vs_l20Op_5 (r0 : List Int) (r1 : Int) (a2 : Int) : Int := bif IntKind.wrap IntKind.i64 ((1 : Int) + g_pick r0 r1 (5 : Int)) == (1 : Int) then bif IntKind.wrap IntKind.i64 ((1 : Int) + g_pick r0 r1 (5 : Int)) == (1 : Int) then bif g_Vs_l20Rd_odd_0 r0 (u1 (u1 (u1 r1))) a2 then bif g_pick r0 (g_Vs_l20Rd_odd_2 r0 (u1 (u1 (u1 r1))) a2) (5 : Int) == (0 : Int) then (0 : Int) else bif g_pick r0 (g_Vs_l20Rd_odd_2 r0 (u1 (u1 (u1 r1))) a2) (5 : Int) == (1 : Int) then (0 : Int) else bif g_pick r0 (g_Vs_l20Rd_odd_2 r0 (u1 (u1 (u1 r1))) a2) (5 : Int) == (2 : Int) then (0 : Int) else bif g_pick r0 (g_Vs_l20Rd_odd_2 r0 (u1 (u1 (u1 r1))) a2) (5 : Int) == (3 : Int) then (0 : Int) else (0 : Int) else (0 : Int) else bif IntKind.wrap IntKind.i64 ((1 : Int) + g_pick r0 r1 (5 : Int)) == (2 : Int) then bif g_Vs_l20Rd_odd_0 r0 (u1 (u1 (u1 (u1 (u1 r1))))) a2 then bif g_pick r0 (g_Vs_l20Rd_odd_2 r0 (u1 (u1 (u1 (u1 (u1 r1))))) a2) (5 : Int) == (0 : Int) then (0 : Int) else bif g_pick r0 (g_Vs_l20Rd_odd_2 r0 (u1 (u1 (u1 (u1 (u1 r1))))) a2) (5 : Int) == (1 : Int) then (0 : Int) else bif g_pick r0 (g_Vs_l20Rd_odd_2 r0 (u1 (u1 (u1 (u1 (u1 r1))))) a2) (5 : Int) == (2 : Int) then (0 : Int) else bif g_pick r0 (g_Vs_l20Rd_odd_2 r0 (u1 (u1 (u1 (u1 (u1 r1))))) a2) (5 : Int) == (3 : Int) then (0 : Int) else (0 : Int) else (0 : Int) else bif IntKind.wrap IntKind.i64 ((1 : Int) + g_pick r0 r1 (5 : Int)) == (3 : Int) then bif g_Vs_l20Rd_odd_0 r0 (u1 (u1 (u1 (u1 r1)))) a2 then bif g_pick r0 (g_Vs_l20Rd_odd_2 r0 (u1 (u1 (u1 (u1 r1)))) a2) (5 : Int) == (0 : Int) then g_pick r0 (u1 (u1 (u1 r1))) (3 : Int) else bif g_pick r0 (g_Vs_l20Rd_odd_2 r0 (u1 (u1 (u1 (u1 r1)))) a2) (5 : Int) == (1 : Int) then g_pick r0 (u1 (u1 (u1 r1))) (3 : Int) else bif g_pick r0 (g_Vs_l20Rd_odd_2 r0 (u1 (u1 (u1 (u1 r1)))) a2) (5 : Int) == (2 : Int) then g_pick r0 (u1 (u1 (u1 r1))) (3 : Int) else bif g_pick r0 (g_Vs_l20Rd_odd_2 r0 (u1 (u1 (u1 (u1 r1)))) a2) (5 : Int) == (3 : Int) then g_pick r0 (u1 (u1 (u1 r1))) (3 : Int) else g_pick r0 (u1 (u1 (u1 r1))) (3 : Int) else g_pick r0 (u1 (u1 (u1 r1))) (3 : Int) else bif g_Vs_l20Rd_odd_0 r0 (u1 (u1 (u1 r1))) a2 then bif g_pick r0 (g_Vs_l20Rd_odd_2 r0 (u1 (u1 (u1 r1))) a2) (5 : Int) == (0 : Int) then g_pick r0 (u1 r1) (3 : Int) else bif g_pick r0 (g_Vs_l20Rd_odd_2 r0 (u1 (u1 (u1 r1))) a2) (5 : Int) == (1 : Int) then g_pick r0 (u1 r1) (3 : Int) else bif g_pick r0 (g_Vs_l20Rd_odd_2 r0 (u1 (u1 (u1 r1))) a2) (5 : Int) == (2 : Int) then g_pick r0 (u1 r1) (3 : Int) else bif g_pick r0 (g_Vs_l20Rd_odd_2 r0 (u1 (u1 (u1 r1))) a2) (5 : Int) == (3 : Int) then g_pick r0 (u1 r1) (3 : Int) else g_pick r0 (u1 r1) (3 : Int) else g_pick r0 (u1 r1) (3 : Int) else bif IntKind.wrap IntKind.i64 ((1 : Int) + g_pick r0 r1 (5 : Int)) == (5 : Int) then bif g_Vs_l20Rd_odd_0 r0 (u1 (u1 (u1 r1))) a2 then bif g_pick r0 (g_Vs_l20Rd_odd_2 r0 (u1 (u1 (u1 r1))) a2) (5 : Int) == (0 : Int) then (0 : Int) else bif g_pick r0 (g_Vs_l20Rd_odd_2 r0 (u1 (u1 (u1 r1))) a2) (5 : Int) == (1 : Int) then (0 : Int) else bif g_pick r0 (g_Vs_l20Rd_odd_2 r0 (u1 (u1 (u1 r1))) a2) (5 : Int) == (2 : Int) then (0 : Int) else bif g_pick r0 (g_Vs_l20Rd_odd_2 r0 (u1 (u1 (u1 r1))) a2) (5 : Int) == (3 : Int) then (0 : Int) else (0 : Int) else (0 : Int) else bif IntKind.wrap IntKind.i64 ((1 : Int) + g_pick r0 r1 (5 : Int)) == (2 : Int) then bif g_Vs_l20Rd_odd_0 r0 (u1 (u1 (u1 (u1 (u1 r1))))) a2 then bif g_pick r0 (g_Vs_l20Rd_odd_2 r0 (u1 (u1 (u1 (u1 (u1 r1))))) a2) (5 : Int) == (0 : Int) then (0 : Int) else bif g_pick r0 (g_Vs_l20Rd_odd_2 r0 (u1 (u1 (u1 (u1 (u1 r1))))) a2) (5 : Int) == (1 : Int) then (0 : Int) else bif g_pick r0 (g_Vs_l20Rd_odd_2 r0 (u1 (u1 (u1 (u1 (u1 r1))))) a2) (5 : Int) == (2 : Int) then (0 : Int) else bif g_pick r0 (g_Vs_l20Rd_odd_2 r0 (u1 (u1 (u1 (u1 (u1 r1))))) a2) (5 : Int) == (3 : Int) then (0 : Int) else (0 : Int) else (0 : Int) else bif IntKind.wrap IntKind.i64 ((1 : Int) + g_pick r0 r1 (5 : Int)) == (3 : Int) then bif g_Vs_l20Rd_odd_0 r0 (u1 (u1 (u1 (u1 r1)))) a2 then bif g_pick r0 (g_Vs_l20Rd_odd_2 r0 (u1 (u1 (u1 (u1 r1)))) a2) (5 : Int) == (0 : Int) then g_pick r0 (u1 (u1 (u1 r1))) (3 : Int) else bif g_pick r0 (g_Vs_l20Rd_odd_2 r0 (u1 (u1 (u1 (u1 r1)))) a2) (5 : Int) == (1 : Int) then g_pick r0 (u1 (u1 (u1 r1))) (3 : Int) else bif g_pick r0 (g_Vs_l20Rd_odd_2 r0 (u1 (u1 (u1 (u1 r1)))) a2) (5 : Int) == (2 : Int) then g_pick r0 (u1 (u1 (u1 r1))) (3 : Int) else bif g_pick r0 (g_Vs_l20Rd_odd_2 r0 (u1 (u1 (u1 (u1 r1)))) a2) (5 : Int) == (3 : Int) then g_pick r0 (u1 (u1 (u1 r1))) (3 : Int) else g_pick r0 (u1 (u1 (u1 r1))) (3 : Int) else g_pick r0 (u1 (u1 (u1 r1))) (3 : Int) else bif g_Vs_l20Rd_odd_0 r0 (u1 (u1 (u1 r1))) a2 then bif g_pick r0 (g_Vs_l20Rd_odd_2 r0 (u1 (u1 (u1 r1))) a2) (5 : Int) == (0 : Int) then g_pick r0 (u1 r1) (3 : Int) else bif g_pick r0 (g_Vs_l20Rd_odd_2 r0 (u1 (u1 (u1 r1))) a2) (5 : Int) == (1 : Int) then g_pick r0 (u1 r1) (3 : Int) else bif g_pick r0 (g_Vs_l20Rd_odd_2 r0 (u1 (u1 (u1 r1))) a2) (5 : Int) == (2 : Int) then g_pick r0 (u1 r1) (3 : Int) else bif g_pick r0 (g_Vs_l20Rd_odd_2 r0 (u1 (u1 (u1 r1))) a2) (5 : Int) == (3 : Int) then g_pick r0 (u1 r1) (3 : Int) else g_pick r0 (u1 r1) (3 : Int) else g_pick r0 (u1 r1) (3 : Int)
noncomputable def g_Vs_l20Op_6 (r0 : List Int) (r1 : Int) (a2 : Int) : Int := bif IntKind.wrap IntKind.i64 ((1 : Int) + g_pick r0 r1 (5 : Int)) == (1 : Int) then bif IntKind.wrap IntKind.i64 ((1 : Int) + g_pick r0 r1 (5 : Int)) == (1 : Int) then bif g_Vs_l20Rd_odd_0 r0 (u1 (u1 (u1 r1))) a2 then bif g_pick r0 (g_Vs_l20Rd_odd_2 r0 (u1 (u1 (u1 r1))) a2) (5 : Int) == (0 : Int) then (0 : Int) else bif g_pick r0 (g_Vs_l20Rd_odd_2 r0 (u1 (u1 (u1 r1))) a2) (5 : Int) == (1 : Int) then (0 : Int) else bif g_pick r0 (g_Vs_l20Rd_odd_2 r0 (u1 (u1 (u1 r1))) a2) (5 : Int) == (2 : Int) then (0 : Int) else bif g_pick r0 (g_Vs_l20Rd_odd_2 r0 (u1 (u1 (u1 r1))) a2) (5 : Int) == (3 : Int) then at_ (Ty.int IntKind.i64) [(-1 : Int), (100 : Int), (1 : Int)] (Int.toNat (g_pick r0 (u1 (g_Vs_l20Rd_odd_2 r0 (u1 (u1 (u1 r1))) a2)) (3 : Int))) else (0 : Int) else (0 : Int) else bif IntKind.wrap IntKind.i64 ((1 : Int) + g_pick r0 r1 (5 : Int)) == (2 : Int) then bif g_Vs_l20Rd_odd_0 r0 (u1 (u1 (u1 (u1 (u1 r1))))) a2 then bif g_pick r0 (g_Vs_l20Rd_odd_2 r0 (u1 (u1 (u1 (u1 (u1 r1))))) a2) (5 : Int) == (0 : Int) then (0 : Int) else bif g_pick r0 (g_Vs_l20Rd_odd_2 r0 (u1 (u1 (u1 (u1 (u1 r1))))) a2) (5 : Int) == (1 : Int) then (0 : Int) else bif g_pick r0 (g_Vs_l20Rd_odd_2 r0 (u1 (u1 (u1 (u1 (u1 r1))))) a2) (5 : Int) == (2 : Int) then (0 : Int) else bif g_pick r0 (g_Vs_l20Rd_odd_2 r0 (u1 (u1 (u1 (u1 (u1 r1))))) a2) (5 : Int) == (3 : Int) then at_ (Ty.int IntKind.i64) [(-1 : Int), (100 : Int), (1 : Int)] (Int.toNat (g_pick r0 (u1 (g_Vs_l20Rd_odd_2 r0 (u1 (u1 (u1 (u1 (u1 r1))))) a2)) (3 : Int))) else (0 : Int) else (0 : Int) else bif IntKind.wrap IntKind.i64 ((1 : Int) + g_pick r0 r1 (5 : Int)) == (3 : Int) then bif g_Vs_l20Rd_odd_0 r0 (u1 (u1 (u1 (u1 r1)))) a2 then bif g_pick r0 (g_Vs_l20Rd_odd_2 r0 (u1 (u1 (u1 (u1 r1)))) a2) (5 : Int) == (0 : Int) then (0 : Int) else bif g_pick r0 (g_Vs_l20Rd_odd_2 r0 (u1 (u1 (u1 (u1 r1)))) a2) (5 : Int) == (1 : Int) then (0 : Int) else bif g_pick r0 (g_Vs_l20Rd_odd_2 r0 (u1 (u1 (u1 (u1 r1)))) a2) (5 : Int) == (2 : Int) then (0 : Int) else bif g_pick r0 (g_Vs_l20Rd_odd_2 r0 (u1 (u1 (u1 (u1 r1)))) a2) (5 : Int) == (3 : Int) then at_ (Ty.int IntKind.i64) [(-1 : Int), (100 : Int), (1 : Int)] (Int.toNat (g_pick r0 (u1 (g_Vs_l20Rd_odd_2 r0 (u1 (u1 (u1 (u1 r1)))) a2)) (3 : Int))) else (0 : Int) else (0 : Int) else bif g_Vs_l20Rd_odd_0 r0 (u1 (u1 (u1 r1))) a2 then bif g_pick r0 (g_Vs_l20Rd_odd_2 r0 (u1 (u1 (u1 r1))) a2) (5 : Int) == (0 : Int) then IntKind.wrap IntKind.i64 ((1 : Int) + g_pick r0 (u1 (u1 r1)) (3 : Int)) else bif g_pick r0 (g_Vs_l20Rd_odd_2 r0 (u1 (u1 (u1 r1))) a2) (5 : Int) == (1 : Int) then IntKind.wrap IntKind.i64 ((1 : Int) + g_pick r0 (u1 (u1 r1)) (3 : Int)) else bif g_pick r0 (g_Vs_l20Rd_odd_2 r0 (u1 (u1 (u1 r1))) a2) (5 : Int) == (2 : Int) then IntKind.wrap IntKind.i64 ((1 : Int) + g_pick r0 (u1 (u1 r1)) (3 : Int)) else bif g_pick r0 (g_Vs_l20Rd_odd_2 r0 (u1 (u1 (u1 r1))) a2) (5 : Int) == (3 : Int) then at_ (Ty.int IntKind.i64) [(-1 : Int), (100 : Int), (1 : Int)] (Int.toNat (g_pick r0 (u1 (g_Vs_l20Rd_odd_2 r0 (u1 (u1 (u1 r1))) a2)) (3 : Int))) else IntKind.wrap IntKind.i64 ((1 : Int) + g_pick r0 (u1 (u1 r1)) (3 : Int)) else IntKind.wrap IntKind.i64 ((1 : Int) + g_pick r0 (u1 (u1 r1)) (3 : Int)) else bif IntKind.wrap IntKind.i64 ((1 : Int) + g_pick r0 r1 (5 : Int)) == (5 : Int) then bif g_Vs_l20Rd_odd_0 r0 (u1 (u1 (u1 r1))) a2 then bif g_pick r0 (g_Vs_l20Rd_odd_2 r0 (u1 (u1 (u1 r1))) a2) (5 : Int) == (0 : Int) then (0 : Int) else bif g_pick r0 (g_Vs_l20Rd_odd_2 r0 (u1 (u1 (u1 r1))) a2) (5 : Int) == (1 : Int) then (0 : Int) else bif g_pick r0 (g_Vs_l20Rd_odd_2 r0 (u1 (u1 (u1 r1))) a2) (5 : Int) == (2 : Int) then (0 : Int) else bif g_pick r0 (g_Vs_l20Rd_odd_2 r0 (u1 (u1 (u1 r1))) a2) (5 : Int) == (3 : Int) then at_ (Ty.int IntKind.i64) [(-1 : Int), (100 : Int), (1 : Int)] (Int.toNat (g_pick r0 (u1 (g_Vs_l20Rd_odd_2 r0 (u1 (u1 (u1 r1))) a2)) (3 : Int))) else (0 : Int) else (0 : Int) else bif IntKind.wrap IntKind.i64 ((1 : Int) + g_pick r0 r1 (5 : Int)) == (2 : Int) then bif g_Vs_l20Rd_odd_0 r0 (u1 (u1 (u1 (u1 (u1 r1))))) a2 then bif g_pick r0 (g_Vs_l20Rd_odd_2 r0 (u1 (u1 (u1 (u1 (u1 r1))))) a2) (5 : Int) == (0 : Int) then (0 : Int) else bif g_pick r0 (g_Vs_l20Rd_odd_2 r0 (u1 (u1 (u1 (u1 (u1 r1))))) a2) (5 : Int) == (1 : Int) then (0 : Int) else bif g_pick r0 (g_Vs_l20Rd_odd_2 r0 (u1 (u1 (u1 (u1 (u1 r1))))) a2) (5 : Int) == (2 : Int) then (0 : Int) else bif g_pick r0 (g_Vs_l20Rd_odd_2 r0 (u1 (u1 (u1 (u1 (u1 r1))))) a2) (5 : Int) == (3 : Int) then at_ (Ty.int IntKind.i64) [(-1 : Int), (100 : Int), (1 : Int)] (Int.toNat (g_pick r0 (u1 (g_Vs_l20Rd_odd_2 r0 (u1 (u1 (u1 (u1 (u1 r1))))) a2)) (3 : Int))) else (0 : Int) else (0 : Int) else bif IntKind.wrap IntKind.i64 ((1 : Int) + g_pick r0 r1 (5 : Int)) == (3 : Int) then bif g_Vs_l20Rd_odd_0 r0 (u1 (u1 (u1 (u1 r1)))) a2 then bif g_pick r0 (g_Vs_l20Rd_odd_2 r0 (u1 (u1 (u1 (u1 r1)))) a2) (5 : Int) == (0 : Int) then (0 : Int) else bif g_pick r0 (g_Vs_l20Rd_odd_2 r0 (u1 (u1 (u1 (u1 r1)))) a2) (5 : Int) == (1 : Int) then (0 : Int) else bif g_pick r0 (g_Vs_l20Rd_odd_2 r0 (u1 (u1 (u1 (u1 r1)))) a2) (5 : Int) == (2 : Int) then (0 : Int) else bif g_pick r0 (g_Vs_l20Rd_odd_2 r0 (u1 (u1 (u1 (u1 r1)))) a2) (5 : Int) == (3 : Int) then at_ (Ty.int IntKind.i64) [(-1 : Int), (100 : Int), (1 : Int)] (Int.toNat (g_pick r0 (u1 (g_Vs_l20Rd_odd_2 r0 (u1 (u1 (u1 (u1 r1)))) a2)) (3 : Int))) else (0 : Int) else (0 : Int) else bif g_Vs_l20Rd_odd_0 r0 (u1 (u1 (u1 r1))) a2 then bif g_pick r0 (g_Vs_l20Rd_odd_2 r0 (u1 (u1 (u1 r1))) a2) (5 : Int) == (0 : Int) then IntKind.wrap IntKind.i64 ((1 : Int) + g_pick r0 (u1 (u1 r1)) (3 : Int)) else bif g_pick r0 (g_Vs_l20Rd_odd_2 r0 (u1 (u1 (u1 r1))) a2) (5 : Int) == (1 : Int) then IntKind.wrap IntKind.i64 ((1 : Int) + g_pick r0 (u1 (u1 r1)) (3 : Int)) else bif g_pick r0 (g_Vs_l20Rd_odd_2 r0 (u1 (u1 (u1 r1))) a2) (5 : Int) == (2 : Int) then IntKind.wrap IntKind.i64 ((1 : Int) + g_pick r0 (u1 (u1 r1)) (3 : Int)) else bif g_pick r0 (g_Vs_l20Rd_odd_2 r0 (u1 (u1 (u1 r1))) a2) (5 : Int) == (3 : Int) then at_ (Ty.int IntKind.i64) [(-1 : Int), (100 : Int), (1 : Int)] (Int.toNat (g_pick r0 (u1 (g_Vs_l20Rd_odd_2 r0 (u1 (u1 (u1 r1))) a2)) (3 : Int))) else IntKind.wrap IntKind.i64 ((1 : Int) + g_pick r0 (u1 (u1 r1)) (3 : Int)) else IntKind.wrap IntKind.i64 ((1 : Int) + g_pick r0 (u1 (u1 r1)) (3 : Int))
noncomputable def g_Vs_l20Op_7 (r0 : List Int) (r1 : Int) (a2 : Int) : List (Int) := bif IntKind.wrap IntKind.i64 ((1 : Int) + g_pick r0 r1 (5 : Int)) == (1 : Int) then bif IntKind.wrap IntKind.i64 ((1 : Int) + g_pick r0 r1 (5 : Int)) == (1 : Int) then bif g_Vs_l20Rd_odd_0 r0 (u1 (u1 (u1 r1))) a2 then bif g_pick r0 (g_Vs_l20Rd_odd_2 r0 (u1 (u1 (u1 r1))) a2) (5 : Int) == (0 : Int) then r0 else bif g_pick r0 (g_Vs_l20Rd_odd_2 r0 (u1 (u1 (u1 r1))) a2) (5 : Int) == (1 : Int) then r0 else bif g_pick r0 (g_Vs_l20Rd_odd_2 r0 (u1 (u1 (u1 r1))) a2) (5 : Int) == (2 : Int) then r0 else bif g_pick r0 (g_Vs_l20Rd_odd_2 r0 (u1 (u1 (u1 r1))) a2) (5 : Int) == (3 : Int) then r0 else r0 else r0 else bif IntKind.wrap IntKind.i64 ((1 : Int) + g_pick r0 r1 (5 : Int)) == (2 : Int) then bif g_Vs_l20Rd_odd_0 r0 (u1 (u1 (u1 (u1 (u1 r1))))) a2 then bif g_pick r0 (g_Vs_l20Rd_odd_2 r0 (u1 (u1 (u1 (u1 (u1 r1))))) a2) (5 : Int) == (0 : Int) then r0 else bif g_pick r0 (g_Vs_l20Rd_odd_2 r0 (u1 (u1 (u1 (u1 (u1 r1))))) a2) (5 : Int) == (1 : Int) then r0 else bif g_pick r0 (g_Vs_l20Rd_odd_2 r0 (u1 (u1 (u1 (u1 (u1 r1))))) a2) (5 : Int) == (2 : Int) then r0 else bif g_pick r0 (g_Vs_l20Rd_odd_2 r0 (u1 (u1 (u1 (u1 (u1 r1))))) a2) (5 : Int) == (3 : Int) then r0 else r0 else r0 else bif IntKind.wrap IntKind.i64 ((1 : Int) + g_pick r0 r1 (5 : Int)) == (3 : Int) then bif g_Vs_l20Rd_odd_0 r0 (u1 (u1 (u1 (u1 r1)))) a2 then bif g_pick r0 (g_Vs_l20Rd_odd_2 r0 (u1 (u1 (u1 (u1 r1)))) a2) (5 : Int) == (0 : Int) then r0 else bif g_pick r0 (g_Vs_l20Rd_odd_2 r0 (u1 (u1 (u1 (u1 r1)))) a2) (5 : Int) == (1 : Int) then r0 else bif g_pick r0 (g_Vs_l20Rd_odd_2 r0 (u1 (u1 (u1 (u1 r1)))) a2) (5 : Int) == (2 : Int) then r0 else bif g_pick r0 (g_Vs_l20Rd_odd_2 r0 (u1 (u1 (u1 (u1 r1)))) a2) (5 : Int) == (3 : Int) then r0 else r0 else r0 else bif g_Vs_l20Rd_odd_0 r0 (u1 (u1 (u1 r1))) a2 then bif g_pick r0 (g_Vs_l20Rd_odd_2 r0 (u1 (u1 (u1 r1))) a2) (5 : Int) == (0 : Int) then r0 else bif g_pick r0 (g_Vs_l20Rd_odd_2 r0 (u1 (u1 (u1 r1))) a2) (5 : Int) == (1 : Int) then r0 else bif g_pick r0 (g_Vs_l20Rd_odd_2 r0 (u1 (u1 (u1 r1))) a2) (5 : Int) == (2 : Int) then r0 else bif g_pick r0 (g_Vs_l20Rd_odd_2 r0 (u1 (u1 (u1 r1))) a2) (5 : Int) == (3 : Int) then r0 else r0 else r0 else bif IntKind.wrap IntKind.i64 ((1 : Int) + g_pick r0 r1 (5 : Int)) == (5 : Int) then bif g_Vs_l20Rd_odd_0 r0 (u1 (u1 (u1 r1))) a2 then bif g_pick r0 (g_Vs_l20Rd_odd_2 r0 (u1 (u1 (u1 r1))) a2) (5 : Int) == (0 : Int) then r0 else bif g_pick r0 (g_Vs_l20Rd_odd_2 r0 (u1 (u1 (u1 r1))) a2) (5 : Int) == (1 : Int) then r0 else bif g_pick r0 (g_Vs_l20Rd_odd_2 r0 (u1 (u1 (u1 r1))) a2) (5 : Int) == (2 : Int) then r0 else bif g_pick r0 (g_Vs_l20Rd_odd_2 r0 (u1 (u1 (u1 r1))) a2) (5 : Int) == (3 : Int) then r0 else r0 else r0 else bif IntKind.wrap IntKind.i64 ((1 : Int) + g_pick r0 r1 (5 : Int)) == (2 : Int) then bif g_Vs_l20Rd_odd_0 r0 (u1 (u1 (u1 (u1 (u1 r1))))) a2 then bif g_pick r0 (g_Vs_l20Rd_odd_2 r0 (u1 (u1 (u1 (u1 (u1 r1))))) a2) (5 : Int) == (0 : Int) then r0 else bif g_pick r0 (g_Vs_l20Rd_odd_2 r0 (u1 (u1 (u1 (u1 (u1 r1))))) a2) (5 : Int) == (1 : Int) then r0 else bif g_pick r0 (g_Vs_l20Rd_odd_2 r0 (u1 (u1 (u1 (u1 (u1 r1))))) a2) (5 : Int) == (2 : Int) then r0 else bif g_pick r0 (g_Vs_l20Rd_odd_2 r0 (u1 (u1 (u1 (u1 (u1 r1))))) a2) (5 : Int) == (3 : Int) then r0 else r0 else r0 else bif IntKind.wrap IntKind.i64 ((1 : Int) + g_pick r0 r1 (5 : Int)) == (3 : Int) then bif g_Vs_l20Rd_odd_0 r0 (u1 (u1 (u1 (u1 r1)))) a2 then bif g_pick r0 (g_Vs_l20Rd_odd_2 r0 (u1 (u1 (u1 (u1 r1)))) a2) (5 : Int) == (0 : Int) then r0 else bif g_pick r0 (g_Vs_l20Rd_odd_2 r0 (u1 (u1 (u1 (u1 r1)))) a2) (5 : Int) == (1 : Int) then r0 else bif g_pick r0 (g_Vs_l20Rd_odd_2 r0 (u1 (u1 (u1 (u1 r1)))) a2) (5 : Int) == (2 : Int) then r0 else bif g_pick r0 (g_Vs_l20Rd_odd_2 r0 (u1 (u1 (u1 (u1 r1)))) a2) (5 : Int) == (3 : Int) then r0 else r0 else r0 else bif g_Vs_l20Rd_odd_0 r0 (u1 (u1 (u1 r1))) a2 then bif g_pick r0 (g_Vs_l20Rd_odd_2 r0 (u1 (u1 (u1 r1))) a2) (5 : Int) == (0 : Int) then r0 else bif g_pick r0 (g_Vs_l20Rd_odd_2 r0 (u1 (u1 (u1 r1))) a2) (5 : Int) == (1 : Int) then r0 else bif g_pick r0 (g_Vs_l20Rd_odd_2 r0 (u1 (u1 (u1 r1))) a2) (5 : Int) == (2 : Int) then r0 else bif g_pick r0 (g_Vs_l20Rd_odd_2 r0 (u1 (u1 (u1 r1))) a2) (5 : Int) == (3 : Int) then r0 else r0 else r0
noncomputable def g_Vs_l20Op_8 (r0 : List Int) (r1 : Int) (a2 : Int) : Int := bif IntKind.wrap IntKind.i64 ((1 : Int) + g_pick r0 r1 (5 : Int)) == (1 : Int) then bif IntKind.wrap IntKind.i64 ((1 : Int) + g_pick r0 r1 (5 : Int)) == (1 : Int) then bif g_Vs_l20Rd_odd_0 r0 (u1 (u1 (u1 r1))) a2 then bif g_pick r0 (g_Vs_l20Rd_odd_2 r0 (u1 (u1 (u1 r1))) a2) (5 : Int) == (0 : Int) then u1 (u1 (g_Vs_l20Rd_odd_2 r0 (u1 (u1 (u1 r1))) a2)) else bif g_pick r0 (g_Vs_l20Rd_odd_2 r0 (u1 (u1 (u1 r1))) a2) (5 : Int) == (1 : Int) then u1 (u1 (g_Vs_l20Rd_odd_2 r0 (u1 (u1 (u1 r1))) a2)) else bif g_pick r0 (g_Vs_l20Rd_odd_2 r0 (u1 (u1 (u1 r1))) a2) (5 : Int) == (2 : Int) then u1 (u1 (g_Vs_l20Rd_odd_2 r0 (u1 (u1 (u1 r1))) a2)) else bif g_pick r0 (g_Vs_l20Rd_odd_2 r0 (u1 (u1 (u1 r1))) a2) (5 : Int) == (3 : Int) then u1 (u1 (g_Vs_l20Rd_odd_2 r0 (u1 (u1 (u1 r1))) a2)) else u1 (u1 (g_Vs_l20Rd_odd_2 r0 (u1 (u1 (u1 r1))) a2)) else g_Vs_l20Rd_odd_2 r0 (u1 (u1 (u1 r1))) a2 else bif IntKind.wrap IntKind.i64 ((1 : Int) + g_pick r0 r1 (5 : Int)) == (2 : Int) then bif g_Vs_l20Rd_odd_0 r0 (u1 (u1 (u1 (u1 (u1 r1))))) a2 then bif g_pick r0 (g_Vs_l20Rd_odd_2 r0 (u1 (u1 (u1 (u1 (u1 r1))))) a2) (5 : Int) == (0 : Int) then u1 (u1 (g_Vs_l20Rd_odd_2 r0 (u1 (u1 (u1 (u1 (u1 r1))))) a2)) else bif g_pick r0 (g_Vs_l20Rd_odd_2 r0 (u1 (u1 (u1 (u1 (u1 r1))))) a2) (5 : Int) == (1 : Int) then u1 (u1 (g_Vs_l20Rd_odd_2 r0 (u1 (u1 (u1 (u1 (u1 r1))))) a2)) else bif g_pick r0 (g_Vs_l20Rd_odd_2 r0 (u1 (u1 (u1 (u1 (u1 r1))))) a2) (5 : Int) == (2 : Int) then u1 (u1 (g_Vs_l20Rd_odd_2 r0 (u1 (u1 (u1 (u1 (u1 r1))))) a2)) else bif g_pick r0 (g_Vs_l20Rd_odd_2 r0 (u1 (u1 (u1 (u1 (u1 r1))))) a2) (5 : Int) == (3 : Int) then u1 (u1 (g_Vs_l20Rd_odd_2 r0 (u1 (u1 (u1 (u1 (u1 r1))))) a2)) else u1 (u1 (g_Vs_l20Rd_odd_2 r0 (u1 (u1 (u1 (u1 (u1 r1))))) a2)) else g_Vs_l20Rd_odd_2 r0 (u1 (u1 (u1 (u1 (u1 r1))))) a2 else bif IntKind.wrap IntKind.i64 ((1 : Int) + g_pick r0 r1 (5 : Int)) == (3 : Int) then bif g_Vs_l20Rd_odd_0 r0 (u1 (u1 (u1 (u1 r1)))) a2 then bif g_pick r0 (g_Vs_l20Rd_odd_2 r0 (u1 (u1 (u1 (u1 r1)))) a2) (5 : Int) == (0 : Int) then u1 (u1 (g_Vs_l20Rd_odd_2 r0 (u1 (u1 (u1 (u1 r1)))) a2)) else bif g_pick r0 (g_Vs_l20Rd_odd_2 r0 (u1 (u1 (u1 (u1 r1)))) a2) (5 : Int) == (1 : Int) then u1 (u1 (g_Vs_l20Rd_odd_2 r0 (u1 (u1 (u1 (u1 r1)))) a2)) else bif g_pick r0 (g_Vs_l20Rd_odd_2 r0 (u1 (u1 (u1 (u1 r1)))) a2) (5 : Int) == (2 : Int) then u1 (u1 (g_Vs_l20Rd_odd_2 r0 (u1 (u1 (u1 (u1 r1)))) a2)) else bif g_pick r0 (g_Vs_l20Rd_odd_2 r0 (u1 (u1 (u1 (u1 r1)))) a2) (5 : Int) == (3 : Int) then u1 (u1 (g_Vs_l20Rd_odd_2 r0 (u1 (u1 (u1 (u1 r1)))) a2)) else u1 (u1 (g_Vs_l20Rd_odd_2 r0 (u1 (u1 (u1 (u1 r1)))) a2)) else g_Vs_l20Rd_odd_2 r0 (u1 (u1 (u1 (u1 r1)))) a2 else bif g_Vs_l20Rd_odd_0 r0 (u1 (u1 (u1 r1))) a2 then bif g_pick r0 (g_Vs_l20Rd_odd_2 r0 (u1 (u1 (u1 r1))) a2) (5 : Int) == (0 : Int) then u1 (u1 (g_Vs_l20Rd_odd_2 r0 (u1 (u1 (u1 r1))) a2)) else bif g_pick r0 (g_Vs_l20Rd_odd_2 r0 (u1 (u1 (u1 r1))) a2) (5 : Int) == (1 : Int) then u1 (u1 (g_Vs_l20Rd_odd_2 r0 (u1 (u1 (u1 r1))) a2)) else bif g_pick r0 (g_Vs_l20Rd_odd_2 r0 (u1 (u1 (u1 r1))) a2) (5 : Int) == (2 : Int) then u1 (u1 (g_Vs_l20Rd_odd_2 r0 (u1 (u1 (u1 r1))) a2)) else bif g_pick r0 (g_Vs_l20Rd_odd_2 r0 (u1 (u1 (u1 r1))) a2) (5 : Int) == (3 : Int) then u1 (u1 (g_Vs_l20Rd_odd_2 r0 (u1 (u1 (u1 r1))) a2)) else u1 (u1 (g_Vs_l20Rd_odd_2 r0 (u1 (u1 (u1 r1))) a2)) else g_Vs_l20Rd_odd_2 r0 (u1 (u1 (u1 r1))) a2 else bif IntKind.wrap IntKind.i64 ((1 : Int) + g_pick r0 r1 (5 : Int)) == (5 : Int) then bif g_Vs_l20Rd_odd_0 r0 (u1 (u1 (u1 r1))) a2 then bif g_pick r0 (g_Vs_l20Rd_odd_2 r0 (u1 (u1 (u1 r1))) a2) (5 : Int) == (0 : Int) then u1 (u1 (g_Vs_l20Rd_odd_2 r0 (u1 (u1 (u1 r1))) a2)) else bif g_pick r0 (g_Vs_l20Rd_odd_2 r0 (u1 (u1 (u1 r1))) a2) (5 : Int) == (1 : Int) then u1 (u1 (g_Vs_l20Rd_odd_2 r0 (u1 (u1 (u1 r1))) a2)) else bif g_pick r0 (g_Vs_l20Rd_odd_2 r0 (u1 (u1 (u1 r1))) a2) (5 : Int) == (2 : Int) then u1 (u1 (g_Vs_l20Rd_odd_2 r0 (u1 (u1 (u1 r1))) a2)) else bif g_pick r0 (g_Vs_l20Rd_odd_2 r0 (u1 (u1 (u1 r1))) a2) (5 : Int) == (3 : Int) then u1 (u1 (g_Vs_l20Rd_odd_2 r0 (u1 (u1 (u1 r1))) a2)) else u1 (u1 (g_Vs_l20Rd_odd_2 r0 (u1 (u1 (u1 r1))) a2)) else g_Vs_l20Rd_odd_2 r0 (u1 (u1 (u1 r1))) a2 else bif IntKind.wrap IntKind.i64 ((1 : Int) + g_pick r0 r1 (5 : Int)) == (2 : Int) then bif g_Vs_l20Rd_odd_0 r0 (u1 (u1 (u1 (u1 (u1 r1))))) a2 then bif g_pick r0 (g_Vs_l20Rd_odd_2 r0 (u1 (u1 (u1 (u1 (u1 r1))))) a2) (5 : Int) == (0 : Int) then u1 (u1 (g_Vs_l20Rd_odd_2 r0 (u1 (u1 (u1 (u1 (u1 r1))))) a2)) else bif g_pick r0 (g_Vs_l20Rd_odd_2 r0 (u1 (u1 (u1 (u1 (u1 r1))))) a2) (5 : Int) == (1 : Int) then u1 (u1 (g_Vs_l20Rd_odd_2 r0 (u1 (u1 (u1 (u1 (u1 r1))))) a2)) else bif g_pick r0 (g_Vs_l20Rd_odd_2 r0 (u1 (u1 (u1 (u1 (u1 r1))))) a2) (5 : Int) == (2 : Int) then u1 (u1 (g_Vs_l20Rd_odd_2 r0 (u1 (u1 (u1 (u1 (u1 r1))))) a2)) else bif g_pick r0 (g_Vs_l20Rd_odd_2 r0 (u1 (u1 (u1 (u1 (u1 r1))))) a2) (5 : Int) == (3 : Int) then u1 (u1 (g_Vs_l20Rd_odd_2 r0 (u1 (u1 (u1 (u1 (u1 r1))))) a2)) else u1 (u1 (g_Vs_l20Rd_odd_2 r0 (u1 (u1 (u1 (u1 (u1 r1))))) a2)) else g_Vs_l20Rd_odd_2 r0 (u1 (u1 (u1 (u1 (u1 r1))))) a2 else bif IntKind.wrap IntKind.i64 ((1 : Int) + g_pick r0 r1 (5 : Int)) == (3 : Int) then bif g_Vs_l20Rd_odd_0 r0 (u1 (u1 (u1 (u1 r1)))) a2 then bif g_pick r0 (g_Vs_l20Rd_odd_2 r0 (u1 (u1 (u1 (u1 r1)))) a2) (5 : Int) == (0 : Int) then u1 (u1 (g_Vs_l20Rd_odd_2 r0 (u1 (u1 (u1 (u1 r1)))) a2)) else bif g_pick r0 (g_Vs_l20Rd_odd_2 r0 (u1 (u1 (u1 (u1 r1)))) a2) (5 : Int) == (1 : Int) then u1 (u1 (g_Vs_l20Rd_odd_2 r0 (u1 (u1 (u1 (u1 r1)))) a2)) else bif g_pick r0 (g_Vs_l20Rd_odd_2 r0 (u1 (u1 (u1 (u1 r1)))) a2) (5 : Int) == (2 : Int) then u1 (u1 (g_Vs_l20Rd_odd_2 r0 (u1 (u1 (u1 (u1 r1)))) a2)) else bif g_pick r0 (g_Vs_l20Rd_odd_2 r0 (u1 (u1 (u1 (u1 r1)))) a2) (5 : Int) == (3 : Int) then u1 (u1 (g_Vs_l20Rd_odd_2 r0 (u1 (u1 (u1 (u1 r1)))) a2)) else u1 (u1 (g_Vs_l20Rd_odd_2 r0 (u1 (u1 (u1 (u1 r1)))) a2)) else g_Vs_l20Rd_odd_2 r0 (u1 (u1 (u1 (u1 r1)))) a2 else bif g_Vs_l20Rd_odd_0 r0 (u1 (u1 (u1 r1))) a2 then bif g_pick r0 (g_Vs_l20Rd_odd_2 r0 (u1 (u1 (u1 r1))) a2) (5 : Int) == (0 : Int) then u1 (u1 (g_Vs_l20Rd_odd_2 r0 (u1 (u1 (u1 r1))) a2)) else bif g_pick r0 (g_Vs_l20Rd_odd_2 r0 (u1 (u1 (u1 r1))) a2) (5 : Int) == (1 : Int) then u1 (u1 (g_Vs_l20Rd_odd_2 r0 (u1 (u1 (u1 r1))) a2)) else bif g_pick r0 (g_Vs_l20Rd_odd_2 r0 (u1 (u1 (u1 r1))) a2) (5 : Int) == (2 : Int) then u1 (u1 (g_Vs_l20Rd_odd_2 r0 (u1 (u1 (u1 r1))) a2)) else bif g_pick r0 (g_Vs_l20Rd_odd_2 r0 (u1 (u1 (u1 r1))) a2) (5 : Int) == (3 : Int) then u1 (u1 (g_Vs_l20Rd_odd_2 r0 (u1 (u1 (u1 r1))) a2)) else u1 (u1 (g_Vs_l20Rd_odd_2 r0 (u1 (u1 (u1 r1))) a2)) else g_Vs_l20Rd_odd_2 r0 (u1 (u1 (u1 r1))) a2
noncomputable def Fs_l20Op : FSem := fun ys => match ys with
  | [.val true [.sl .any 5 (.int .u8) r0, .int .i64 r1], .val false [.int .i64 a2]] => some ((g_As_l20Op r0 r1 a2), .val true [.int .i64 (g_Vs_l20Op_0 r0 r1 a2), .int .i64 (g_Vs_l20Op_1 r0 r1 a2), .int .i64 (g_Vs_l20Op_2 r0 r1 a2), .int .i64 (g_Vs_l20Op_3 r0 r1 a2), .int .i64 (g_Vs_l20Op_4 r0 r1 a2), .int .i64 (g_Vs_l20Op_5 r0 r1 a2), .int .i64 (g_Vs_l20Op_6 r0 r1 a2)], [[.sl .any 5 (.int .u8) (g_Vs_l20Op_7 r0 r1 a2), .int .i64 (g_Vs_l20Op_8 r0 r1 a2)]])
  | _ => none
theorem vs_l20Op (r0 : List Int) (r1 : Int) (a2 : Int) : collapseH .std Es_l20Op Os_l20Op_0 (execFn Es_l20Op Go.Proofs.Tryd.f24 mss_l20Op [.val true [.sl .any 5 (.int .u8) r0, .int .i64 r1], .val false [.int .i64 a2]]) = some ((g_As_l20Op r0 r1 a2), .val true [.int .i64 (g_Vs_l20Op_0 r0 r1 a2), .int .i64 (g_Vs_l20Op_1 r0 r1 a2), .int .i64 (g_Vs_l20Op_2 r0 r1 a2), .int .i64 (g_Vs_l20Op_3 r0 r1 a2), .int .i64 (g_Vs_l20Op_4 r0 r1 a2), .int .i64 (g_Vs_l20Op_5 r0 r1 a2), .int .i64 (g_Vs_l20Op_6 r0 r1 a2)], [[.sl .any 5 (.int .u8) (g_Vs_l20Op_7 r0 r1 a2), .int .i64 (g_Vs_l20Op_8 r0 r1 a2)]]) := by kernel_rfl
theorem ss_l20Op : Sound Go.Proofs.Tryd.prog 24 mss_l20Op Fs_l20Op := by
  refine fn_gen goods_l20Op (by kernel_rfl) .std (fn := Go.Proofs.Tryd.f24) (c := (Go.Proofs.Tryd.f24.body.getD .skip)) (o := Os_l20Op_0) (k := 0) (by kernel_rfl) (by kernel_rfl) (by kernel_rfl) (by kernel_rfl) (by decide) ks_l20Op_0 ?_
  intro ys r outs h
  unfold Fs_l20Op at h
  split at h
  · exact (vs_l20Op _ _ _).trans h
  · cases h
end Go.Proofs.YtnbcdkbjmpadmaaDoor.E
end
section
namespace Go.Proofs.YtnbcdkbjmpadmaaDoor.E
open Go
set_option maxRecDepth 100000
set_option linter.all false
noncomputable def mss_l20OpR : List PM := mss_l20Op
theorem sames_l20Op (r0 : List Int) (r1 : Int) (a2 : Int) : g_Vs_l20Op_7 r0 r1 a2 = r0 := by
  unfold g_Vs_l20Op_7
  simp only [Bool.cond_self]
noncomputable def Fs_l20OpR : FSem := fun ys => match ys with
  | [.val true [.sl .any 5 (.int .u8) r0, .int .i64 r1], .val false [.int .i64 a2]] => some ((g_As_l20Op r0 r1 a2), .val true [.int .i64 (g_Vs_l20Op_0 r0 r1 a2), .int .i64 (g_Vs_l20Op_1 r0 r1 a2), .int .i64 (g_Vs_l20Op_2 r0 r1 a2), .int .i64 (g_Vs_l20Op_3 r0 r1 a2), .int .i64 (g_Vs_l20Op_4 r0 r1 a2), .int .i64 (g_Vs_l20Op_5 r0 r1 a2), .int .i64 (g_Vs_l20Op_6 r0 r1 a2)], [[.sl .any 5 (.int .u8) r0, .int .i64 (g_Vs_l20Op_8 r0 r1 a2)]])
  | _ => none
theorem ss_l20OpR : Sound Go.Proofs.Tryd.prog 24 mss_l20OpR Fs_l20OpR := by
  refine ⟨ss_l20Op.fn, fun w S ψ ys vs r outs hF hh hg => ss_l20Op.calls w S ψ ys vs r outs (Eq.trans ?_ hF) hh hg⟩
  unfold Fs_l20OpR at hF ⊢
  split at hF
  · rename_i  r0 r1 a2
    show (some ((g_As_l20Op r0 r1 a2), .val true [.int .i64 (g_Vs_l20Op_0 r0 r1 a2), .int .i64 (g_Vs_l20Op_1 r0 r1 a2), .int .i64 (g_Vs_l20Op_2 r0 r1 a2), .int .i64 (g_Vs_l20Op_3 r0 r1 a2), .int .i64 (g_Vs_l20Op_4 r0 r1 a2), .int .i64 (g_Vs_l20Op_5 r0 r1 a2), .int .i64 (g_Vs_l20Op_6 r0 r1 a2)], [[.sl .any 5 (.int .u8) (g_Vs_l20Op_7 r0 r1 a2), .int .i64 (g_Vs_l20Op_8 r0 r1 a2)]]) : Option (Bool × RV × List (List Cell))) = _
    rw [sames_l20Op]
  · cases hF
end Go.Proofs.YtnbcdkbjmpadmaaDoor.E
end
section
namespace Go.Proofs.YtnbcdkbjmpadmaaDoor.E
open Go
set_option maxRecDepth 100000
set_option maxHeartbeats 0
set_option linter.all false
noncomputable def Es_l20Glo : Env where
  tt := mkTI Go.Proofs.Tryd.prog
  fn := fun f => match f with
    | 9 => some (mss_GloNew, FSem.wk mss_GloNew Fs_GloNew)
    | 14 => some (mss_l20Rd_pick, FSem.wk mss_l20Rd_pick Fs_l20Rd_pick)
    | 23 => some (mss_GloDo, FSem.wk mss_GloDo Fs_GloDo)
    | 24 => some (mss_l20OpR, FSem.wk mss_l20OpR Fs_l20OpR)
    | _ => none
  bxf := fun _ => none
  mv := []
  keep := fun b => match b with
    | 0 => [(0, false), (3, false), (4, false)]
    | _ => []
  keepB := fun b => match b with
    | 0 => [(0, false)]
    | _ => []
  keepX := fun b => match b with
    | 0 => [(0, false), (3, false)]
    | _ => []
  keepXB := fun b => match b with
    | 0 => [(0, false)]
    | _ => []
theorem goodFs_l20Glo : ∀ f ms F, Es_l20Glo.fn f = some (ms, F) → Sound Go.Proofs.Tryd.prog f ms F := fun f ms F h => by
  unfold Es_l20Glo at h
  dsimp only at h
  split at h
  · injection h with h; injection h with e1 e2; subst e1 e2; exact Sound.wk ss_GloNew
  · injection h with h; injection h with e1 e2; subst e1 e2; exact Sound.wk ss_l20Rd_pick
  · injection h with h; injection h with e1 e2; subst e1 e2; exact Sound.wk ss_GloDo
  · injection h with h; injection h with e1 e2; subst e1 e2; exact Sound.wk ss_l20OpR
  · cases h
theorem goodBs_l20Glo : ∀ f ms F, Es_l20Glo.bxf f = some (ms, F) → SoundB Go.Proofs.Tryd.prog f ms F := fun f ms F h => by cases h
theorem goods_l20Glo : Good Go.Proofs.Tryd.prog Es_l20Glo := ⟨rfl, goodFs_l20Glo, goodBs_l20Glo⟩
noncomputable def Os_l20Glo_0 : Orc := fun _ _ => none
noncomputable def mss_l20Glo : List PM := [.bx]
noncomputable def lss_l20Glo : List (Nat × Code) := loopsAll 0 (Go.Proofs.Tryd.f12.body.getD .skip)
noncomputable def cs_l20Glo_0 : Code := (loopOf 0 (Go.Proofs.Tryd.f12.body.getD .skip)).getD .skip
theorem lseqs_l20Glo : lss_l20Glo = [(0, cs_l20Glo_0)] := by kernel_rfl
theorem ms_l20Glo_0 : ∀ p, p ∈ lss_l20Glo → p.1 = 0 → p.2 = cs_l20Glo_0 := by
  intro p hp
  rw [lseqs_l20Glo] at hp
  simp only [List.mem_cons, List.not_mem_nil, or_false] at hp
  subst hp; simp
theorem ks_l20Glo_0 : OrcOk Es_l20Glo Os_l20Glo_0 lss_l20Glo 0 := orcOk_none
noncomputable def hs_l20Glo_0 (y0 : List (List ((ByteArray) × (List (Int))))) (y1 : Int) (y2 : List (Int)) (y3 : Int) : List (Pl × LV) := [(.T 0, .t (.val false [.ptr 0 0 0])), (.T 3, .t (.val false [.row 3 0 0])), (.R 3 0, .r 0 (some ⟨false, .any, true, 30, (.sl 42 (.pair .str (.sl 3 (.int .i64)))), y0⟩)), (.T 4, .t (.val false [.int .i64 y1])), (.B 0, .b 0 false [.sl .any 5 (.int .u8) y2, .int .i64 y3])]
noncomputable def g_Ss_l20Glo_0 (y2 : List (Int)) : ((List (List ((ByteArray) × (List (Int))))) × (Int) × (Int)) → RT ((List (List ((ByteArray) × (List (Int))))) × (Int) × (Int)) (((List (List ((ByteArray) × (List (Int))))) × (Int)))
  | (y0, y1, y3) => .br (true) (.br (decide (y1 > (0 : Int))) (.br (g_As_l20Op y2 y3 (0 : Int)) (.br (g_As_GloDo y0 y1 (g_Vs_l20Op_0 y2 y3 (0 : Int)) (g_Vs_l20Op_1 y2 y3 (0 : Int)) (g_Vs_l20Op_2 y2 y3 (0 : Int)) (g_Vs_l20Op_3 y2 y3 (0 : Int)) (g_Vs_l20Op_4 y2 y3 (0 : Int)) (g_Vs_l20Op_5 y2 y3 (0 : Int)) (g_Vs_l20Op_6 y2 y3 (0 : Int))) (.br (g_Vs_GloDo_1 y0 y1 (g_Vs_l20Op_0 y2 y3 (0 : Int)) (g_Vs_l20Op_1 y2 y3 (0 : Int)) (g_Vs_l20Op_2 y2 y3 (0 : Int)) (g_Vs_l20Op_3 y2 y3 (0 : Int)) (g_Vs_l20Op_4 y2 y3 (0 : Int)) (g_Vs_l20Op_5 y2 y3 (0 : Int)) (g_Vs_l20Op_6 y2 y3 (0 : Int))) (.br (true) (.go ((g_Vs_GloDo_0 y0 y1 (g_Vs_l20Op_0 y2 y3 (0 : Int)) (g_Vs_l20Op_1 y2 y3 (0 : Int)) (g_Vs_l20Op_2 y2 y3 (0 : Int)) (g_Vs_l20Op_3 y2 y3 (0 : Int)) (g_Vs_l20Op_4 y2 y3 (0 : Int)) (g_Vs_l20Op_5 y2 y3 (0 : Int)) (g_Vs_l20Op_6 y2 y3 (0 : Int)), IntKind.wrap IntKind.i64 (y1 - (1 : Int)), g_Vs_l20Op_8 y2 y3 (0 : Int)))) (.bad)) (.br (true) (.go ((y0, IntKind.wrap IntKind.i64 (y1 - (1 : Int)), g_Vs_l20Op_8 y2 y3 (0 : Int)))) (.bad))) (.bad)) (.bad)) (.out ((y0, y3)))) (.bad)
noncomputable def g_Ls_l20Glo_0 (y2 : List (Int)) (x : (List (List ((ByteArray) × (List (Int))))) × (Int) × (Int)) : Option (((List (List ((ByteArray) × (List (Int))))) × (Int))) := loopO (g_Ss_l20Glo_0 y2) x
noncomputable def xs_l20Glo_0 (y2 : List (Int)) : (((List (List ((ByteArray) × (List (Int))))) × (Int))) → Ex × List (Pl × LV) := fun r => (.exit 0, [(.T 0, .t (.val false [.ptr 0 0 0])), (.T 3, .t (.val false [.row 3 0 0])), (.R 3 0, .r 0 (some ⟨false, .any, true, 30, (.sl 42 (.pair .str (.sl 3 (.int .i64)))), r.1⟩)), (.B 0, .b 0 false [.sl .any 5 (.int .u8) y2, .int .i64 r.2])])
noncomputable def Os_l20Glo_1 : Orc := fun b h => match b, h with
  | 0, [(.T 0, .t (.val false [.ptr 0 0 0])), (.T 3, .t (.val false [.row 3 0 0])), (.R 3 0, .r 0 (some ⟨false, .any, true, 30, (.sl 42 (.pair .str (.sl 3 (.int .i64)))), y0⟩)), (.T 4, .t (.val false [.int .i64 y1])), (.B 0, .b 0 false [.sl .any 5 (.int .u8) y2, .int .i64 y3])] => some (okO (g_Ls_l20Glo_0 y2 (y0, y1, y3)), (.leaf (.exit 0) [(.T 0, .t (.val false [.ptr 0 0 0])), (.T 3, .t (.val false [.row 3 0 0])), (.R 3 0, .r 0 (some ⟨false, .any, true, 30, (.sl 42 (.pair .str (.sl 3 (.int .i64)))), (valO (g_Ls_l20Glo_0 y2 (y0, y1, y3))).1⟩)), (.B 0, .b 0 false [.sl .any 5 (.int .u8) y2, .int .i64 (valO (g_Ls_l20Glo_0 y2 (y0, y1, y3))).2])]))
  | b, h => Os_l20Glo_0 b h
theorem bs_l20Glo_0 (y0 : List (List ((ByteArray) × (List (Int))))) (y1 : Int) (y2 : List (Int)) (y3 : Int) : Tr.bt Es_l20Glo Os_l20Glo_0 (exec Es_l20Glo 0 cs_l20Glo_0 (St.of (hs_l20Glo_0 y0 y1 y2 y3)) (leafRd Es_l20Glo 0)) = (g_Ss_l20Glo_0 y2 (y0, y1, y3)).bt (fun ((y0, y1, y3) : (List (List ((ByteArray) × (List (Int))))) × (Int) × (Int)) => (hs_l20Glo_0 y0 y1 y2 y3)) (xs_l20Glo_0 y2) := by kernel_rfl
theorem ks_l20Glo_1 : OrcOk Es_l20Glo Os_l20Glo_1 lss_l20Glo 1 := orc_add ks_l20Glo_0 (fun n p hp h ex h' ho => by
  obtain ⟨b, c⟩ := p
  obtain ⟨xt, h1, h2⟩ := ho
  have h1 : Os_l20Glo_1 b h = some (true, xt) := h1
  unfold Os_l20Glo_1 at h1
  split at h1
  · injection h1 with h1
    injection h1 with e1 e2
    subst e2
    have hc : c = cs_l20Glo_0 := ms_l20Glo_0 _ hp rfl
    subst hc
    right
    rename_i y0 y1 y2 y3
    have key := LT_step ks_l20Glo_0 hp (fun q hq => loopsAll_in _ _ _ _ hp hq) (fun ((y0, y1, y3) : (List (List ((ByteArray) × (List (Int))))) × (Int) × (Int)) => (hs_l20Glo_0 y0 y1 y2 y3)) (xs_l20Glo_0 y2) (g_Ss_l20Glo_0 y2) (fun x => by first | exact bs_l20Glo_0 x.1 x.2.1 y2 x.2.2) n (x := (y0, y1, y3)) (okO_some e1)
    have hx : ∀ r, XT.sel (.leaf (.exit 0) [(.T 0, .t (.val false [.ptr 0 0 0])), (.T 3, .t (.val false [.row 3 0 0])), (.R 3 0, .r 0 (some ⟨false, .any, true, 30, (.sl 42 (.pair .str (.sl 3 (.int .i64)))), r.1⟩)), (.B 0, .b 0 false [.sl .any 5 (.int .u8) y2, .int .i64 r.2])]) = xs_l20Glo_0 y2 r := fun r => by first | rfl | (rcases r with r | r <;> rfl) | (rcases r with r | r | r <;> rfl) | (rcases r with r | r | r | r <;> rfl)
    have h3 := (hx (valO (g_Ls_l20Glo_0 y2 (y0, y1, y3)))).symm.trans h2
    have e3 := congrArg Prod.fst h3
    have e4 := congrArg Prod.snd h3
    simp only at e3 e4
    rw [← e3, ← e4]
    exact key
  · exact .inl ⟨xt, h1, h2⟩)
noncomputable def g_As_l20Glo (r0 : List Int) (r1 : Int) : Bool := g_pickA r0 r1 (14 : Int) && okO (g_Ls_l20Glo_0 r0 (g_Vs_GloNew_0, g_pick r0 r1 (14 : Int), IntKind.wrap IntKind.i64 (r1 + (1 : Int))))
noncomputable def g_Vs_l20Glo_0 (r0 : List Int) (r1 : Int) : List (List ((ByteArray) × (List (Int)))) := (valO (g_Ls_l20Glo_0 r0 (g_Vs_GloNew_0, g_pick r0 r1 (14 : Int), IntKind.wrap IntKind.i64 (r1 + (1 : Int))))).1
noncomputable def g_Vs_l20Glo_1 (r0 : List Int) (r1 : Int) : Int := (valO (g_Ls_l20Glo_0 r0 (g_Vs_GloNew_0, g_pick r0 r1 (14 : Int), IntKind.wrap IntKind.i64 (r1 + (1 : Int))))).2
noncomputable def Fs_l20Glo : FSem := fun ys => match ys with
  | [.val true [.sl .any 5 (.int .u8) r0, .int .i64 r1]] => some ((g_As_l20Glo r0 r1), .val false [.own .any true 30 (.sl 42 (.pair .str (.sl 3 (.int .i64)))) (g_Vs_l20Glo_0 r0 r1)], [[.sl .any 5 (.int .u8) r0, .int .i64 (g_Vs_l20Glo_1 r0 r1)]])
  | _ => none
theorem vs_l20Glo (r0 : List Int) (r1 : Int) : collapseH .std Es_l20Glo Os_l20Glo_1 (execFn Es_l20Glo Go.Proofs.Tryd.f12 mss_l20Glo [.val true [.sl .any 5 (.int .u8) r0, .int .i64 r1]]) = some ((g_As_l20Glo r0 r1), .val false [.own .any true 30 (.sl 42 (.pair .str (.sl 3 (.int .i64)))) (g_Vs_l20Glo_0 r0 r1)], [[.sl .any 5 (.int .u8) r0, .int .i64 (g_Vs_l20Glo_1 r0 r1)]]) := by kernel_rfl
theorem ss_l20Glo : Sound Go.Proofs.Tryd.prog 12 mss_l20Glo Fs_l20Glo := by
  refine fn_gen goods_l20Glo (by kernel_rfl) .std (fn := Go.Proofs.Tryd.f12) (c := (Go.Proofs.Tryd.f12.body.getD .skip)) (o := Os_l20Glo_1) (k := 1) (by kernel_rfl) (by kernel_rfl) (by kernel_rfl) (by kernel_rfl) (by decide) ks_l20Glo_1 ?_
  intro ys r outs h
  unfold Fs_l20Glo at h
  split at h
  · exact (vs_l20Glo _ _).trans h
  · cases h
end Go.Proofs.YtnbcdkbjmpadmaaDoor.E
end
section
namespace Go.Proofs.YtnbcdkbjmpadmaaDoor.E
open Go
set_option maxRecDepth 100000
set_option linter.all false
noncomputable def mss_l20GloR : List PM := mss_l20Glo
noncomputable def Fs_l20GloR : FSem := Fs_l20Glo
theorem ss_l20GloR : Sound Go.Proofs.Tryd.prog 12 mss_l20GloR Fs_l20GloR := ss_l20Glo
end Go.Proofs.YtnbcdkbjmpadmaaDoor.E
end
section
namespace Go.Proofs.YtnbcdkbjmpadmaaDoor.E
open Go
set_option maxRecDepth 100000
set_option maxHeartbeats 0
set_option linter.all false
noncomputable def Es_l20Open : Env where
  tt := mkTI Go.Proofs.Tryd.prog
  fn := fun _ => none
  bxf := fun _ => none
  mv := []
  keep := fun _ => []
  keepB := fun _ => []
  keepX := fun _ => []
  keepXB := fun _ => []
theorem goodFs_l20Open : ∀ f ms F, Es_l20Open.fn f = some (ms, F) → Sound Go.Proofs.Tryd.prog f ms F := fun f ms F h => by cases h
theorem goodBs_l20Open : ∀ f ms F, Es_l20Open.bxf f = some (ms, F) → SoundB Go.Proofs.Tryd.prog f ms F := fun f ms F h => by cases h
theorem goods_l20Open : Good Go.Proofs.Tryd.prog Es_l20Open := ⟨rfl, goodFs_l20Open, goodBs_l20Open⟩
noncomputable def Os_l20Open_0 : Orc := fun _ _ => none
noncomputable def mss_l20Open : List PM := [.fz]
noncomputable def lss_l20Open : List (Nat × Code) := loopsAll 0 (Go.Proofs.Tryd.f11.body.getD .skip)

theorem ks_l20Open_0 : OrcOk Es_l20Open Os_l20Open_0 lss_l20Open 0 := orcOk_none
noncomputable def g_As_l20Open (a0 : List (Int)) : Bool := Bool.rec (!decide ((↑(List.length a0) : Int) > (2000 : Int)) && true) true (decide ((0 : Int) ≤ (2000 : Int) ∧ (2000 : Int) ≤ (↑(List.length a0) : Int)) && true)
noncomputable def g_Vs_l20Open_0 (a0 : List (Int)) : List (Int) := bif decide ((↑(List.length a0) : Int) > (2000 : Int)) then List.drop (nat_lit 0) (List.take (nat_lit 2000) a0) else a0
noncomputable def g_Vs_l20Open_1 (a0 : List (Int)) : Int := bif decide ((↑(List.length a0) : Int) > (2000 : Int)) then (0 : Int) else (0 : Int)
noncomputable def Fs_l20Open : List RV → Option (Bool × List Cell × List (List Cell)) := fun ys => match ys with
  | [.val false [.sl .any 5 (.int .u8) a0]] => some ((g_As_l20Open a0), [.sl .any 5 (.int .u8) (g_Vs_l20Open_0 a0), .int .i64 (g_Vs_l20Open_1 a0)], [])
  | _ => none
theorem vs_l20Open (a0 : List (Int)) : collapse Es_l20Open Os_l20Open_0 (execFnB Es_l20Open Go.Proofs.Tryd.f11 mss_l20Open 2 [.val false [.sl .any 5 (.int .u8) a0]]) = some ((g_As_l20Open a0), .val true [.sl .any 5 (.int .u8) (g_Vs_l20Open_0 a0), .int .i64 (g_Vs_l20Open_1 a0)], []) := by kernel_rfl
theorem ss_l20Open : SoundB Go.Proofs.Tryd.prog 11 mss_l20Open Fs_l20Open := by
  refine fn_genB goods_l20Open (by kernel_rfl) (fn := Go.Proofs.Tryd.f11) (c := (Go.Proofs.Tryd.f11.body.getD .skip)) (o := Os_l20Open_0) (k := 0) (tr := 2) (by kernel_rfl) (by kernel_rfl) (by kernel_rfl) (by kernel_rfl) (by decide) (by kernel_rfl) (by decide) ks_l20Open_0 ?_
  intro ys r outs h
  unfold Fs_l20Open at h
  split at h
  · simp only [Option.some.injEq, Prod.mk.injEq] at h
    obtain ⟨h1, h2, h3⟩ := h
    refine ⟨h3.symm, (vs_l20Open _).trans ?_⟩
    rw [h1, h2]
  · cases h
end Go.Proofs.YtnbcdkbjmpadmaaDoor.E
end
section
namespace Go.Proofs.YtnbcdkbjmpadmaaDoor.E
open Go
set_option maxRecDepth 100000
set_option maxHeartbeats 0
set_option linter.all false
noncomputable def Es_l20Val : Env where
  tt := mkTI Go.Proofs.Tryd.prog
  fn := fun f => match f with
    | 13 => some (mss_l20Rd_oddR, FSem.wk mss_l20Rd_oddR Fs_l20Rd_oddR)
    | 14 => some (mss_l20Rd_pick, FSem.wk mss_l20Rd_pick Fs_l20Rd_pick)
    | _ => none
  bxf := fun _ => none
  mv := []
  keep := fun b => match b with
    | 0 => [(0, false), (1, false), (5, false), (6, false)]
    | _ => []
  keepB := fun b => match b with
    | 0 => [(0, false)]
    | _ => []
  keepX := fun b => match b with
    | 0 => [(0, false), (1, false), (5, false)]
    | _ => []
  keepXB := fun b => match b with
    | 0 => [(0, false)]
    | _ => []
theorem goodFs_l20Val : ∀ f ms F, Es_l20Val.fn f = some (ms, F) → Sound Go.Proofs.Tryd.prog f ms F := fun f ms F h => by
  unfold Es_l20Val at h
  dsimp only at h
  split at h
  · injection h with h; injection h with e1 e2; subst e1 e2; exact Sound.wk ss_l20Rd_oddR
  · injection h with h; injection h with e1 e2; subst e1 e2; exact Sound.wk ss_l20Rd_pick
  · cases h
theorem goodBs_l20Val : ∀ f ms F, Es_l20Val.bxf f = some (ms, F) → SoundB Go.Proofs.Tryd.prog f ms F := fun f ms F h => by cases h
theorem goods_l20Val : Good Go.Proofs.Tryd.prog Es_l20Val := ⟨rfl, goodFs_l20Val, goodBs_l20Val⟩
noncomputable def Os_l20Val_0 : Orc := fun _ _ => none
noncomputable def mss_l20Val : List PM := [.bx, .own]
noncomputable def lss_l20Val : List (Nat × Code) := loopsAll 0 (Go.Proofs.Tryd.f27.body.getD .skip)
noncomputable def cs_l20Val_0 : Code := (loopOf 0 (Go.Proofs.Tryd.f27.body.getD .skip)).getD .skip
theorem lseqs_l20Val : lss_l20Val = [(0, cs_l20Val_0)] := by kernel_rfl
theorem ms_l20Val_0 : ∀ p, p ∈ lss_l20Val → p.1 = 0 → p.2 = cs_l20Val_0 := by
  intro p hp
  rw [lseqs_l20Val] at hp
  simp only [List.mem_cons, List.not_mem_nil, or_false] at hp
  subst hp; simp
theorem ks_l20Val_0 : OrcOk Es_l20Val Os_l20Val_0 lss_l20Val 0 := orcOk_none
noncomputable def hs_l20Val_0 (y0 : Int) (y1 : List (Int)) (y2 : Int) (y3 : List (Int)) (y4 : Int) : List (Pl × LV) := [(.T 0, .t (.val false [.ptr 0 0 0])), (.T 1, .t (.val false [.int .i64 y0])), (.T 5, .t (.val false [.row 5 0 0])), (.R 5 0, .r 0 (some ⟨false, .non, true, 3, (.int .i64), y1⟩)), (.T 6, .t (.val false [.int .i64 y2])), (.B 0, .b 0 false [.sl .any 5 (.int .u8) y3, .int .i64 y4])]
noncomputable def g_Ss_l20Val_0 (y0 : Int) (y3 : List (Int)) : ((List (Int)) × (Int) × (Int)) → RT ((List (Int)) × (Int) × (Int)) (((List (Int)) × (Int)))
  | (y1, y2, y4) => .br (true) (.br (decide (y2 > (0 : Int))) (.br (g_pickA y3 y4 (12 : Int)) (.br (decide ((List.length y1 + List.length [g_pick y3 y4 (12 : Int)]) * nat_lit 8 ≤ nat_lit 140737488355328 ∧ List.length y1 + List.length [g_pick y3 y4 (12 : Int)] ≤ nat_lit 9223372036854775807)) (.br (true) (.go ((y1 ++ [g_pick y3 y4 (12 : Int)], IntKind.wrap IntKind.i64 (y2 - (1 : Int)), IntKind.wrap IntKind.i64 (y4 + (1 : Int))))) (.bad)) (.bad)) (.bad)) (.out ((y1, y4)))) (.bad)
noncomputable def g_Ls_l20Val_0 (y0 : Int) (y3 : List (Int)) (x : (List (Int)) × (Int) × (Int)) : Option (((List (Int)) × (Int))) := loopO (g_Ss_l20Val_0 y0 y3) x
noncomputable def xs_l20Val_0 (y0 : Int) (y3 : List (Int)) : (((List (Int)) × (Int))) → Ex × List (Pl × LV) := fun r => (.exit 0, [(.T 0, .t (.val false [.ptr 0 0 0])), (.T 1, .t (.val false [.int .i64 y0])), (.T 5, .t (.val false [.row 5 0 0])), (.R 5 0, .r 0 (some ⟨false, .non, true, 3, (.int .i64), r.1⟩)), (.B 0, .b 0 false [.sl .any 5 (.int .u8) y3, .int .i64 r.2])])
noncomputable def Os_l20Val_1 : Orc := fun b h => match b, h with
  | 0, [(.T 0, .t (.val false [.ptr 0 0 0])), (.T 1, .t (.val false [.int .i64 y0])), (.T 5, .t (.val false [.row 5 0 0])), (.R 5 0, .r 0 (some ⟨false, .non, true, 3, (.int .i64), y1⟩)), (.T 6, .t (.val false [.int .i64 y2])), (.B 0, .b 0 false [.sl .any 5 (.int .u8) y3, .int .i64 y4])] => some (okO (g_Ls_l20Val_0 y0 y3 (y1, y2, y4)), (.leaf (.exit 0) [(.T 0, .t (.val false [.ptr 0 0 0])), (.T 1, .t (.val false [.int .i64 y0])), (.T 5, .t (.val false [.row 5 0 0])), (.R 5 0, .r 0 (some ⟨false, .non, true, 3, (.int .i64), (valO (g_Ls_l20Val_0 y0 y3 (y1, y2, y4))).1⟩)), (.B 0, .b 0 false [.sl .any 5 (.int .u8) y3, .int .i64 (valO (g_Ls_l20Val_0 y0 y3 (y1, y2, y4))).2])]))
  | b, h => Os_l20Val_0 b h
theorem bs_l20Val_0 (y0 : Int) (y1 : List (Int)) (y2 : Int) (y3 : List (Int)) (y4 : Int) : Tr.bt Es_l20Val Os_l20Val_0 (exec Es_l20Val 0 cs_l20Val_0 (St.of (hs_l20Val_0 y0 y1 y2 y3 y4)) (leafRd Es_l20Val 0)) = (g_Ss_l20Val_0 y0 y3 (y1, y2, y4)).bt (fun ((y1, y2, y4) : (List (Int)) × (Int) × (Int)) => (hs_l20Val_0 y0 y1 y2 y3 y4)) (xs_l20Val_0 y0 y3) := by kernel_rfl
theorem ks_l20Val_1 : OrcOk Es_l20Val Os_l20Val_1 lss_l20Val 1 := orc_add ks_l20Val_0 (fun n p hp h ex h' ho => by
  obtain ⟨b, c⟩ := p
  obtain ⟨xt, h1, h2⟩ := ho
  have h1 : Os_l20Val_1 b h = some (true, xt) := h1
  unfold Os_l20Val_1 at h1
  split at h1
  · injection h1 with h1
    injection h1 with e1 e2
    subst e2
    have hc : c = cs_l20Val_0 := ms_l20Val_0 _ hp rfl
    subst hc
    right
    rename_i y0 y1 y2 y3 y4
    have key := LT_step ks_l20Val_0 hp (fun q hq => loopsAll_in _ _ _ _ hp hq) (fun ((y1, y2, y4) : (List (Int)) × (Int) × (Int)) => (hs_l20Val_0 y0 y1 y2 y3 y4)) (xs_l20Val_0 y0 y3) (g_Ss_l20Val_0 y0 y3) (fun x => by first | exact bs_l20Val_0 y0 x.1 x.2.1 y3 x.2.2) n (x := (y1, y2, y4)) (okO_some e1)
    have hx : ∀ r, XT.sel (.leaf (.exit 0) [(.T 0, .t (.val false [.ptr 0 0 0])), (.T 1, .t (.val false [.int .i64 y0])), (.T 5, .t (.val false [.row 5 0 0])), (.R 5 0, .r 0 (some ⟨false, .non, true, 3, (.int .i64), r.1⟩)), (.B 0, .b 0 false [.sl .any 5 (.int .u8) y3, .int .i64 r.2])]) = xs_l20Val_0 y0 y3 r := fun r => by first | rfl | (rcases r with r | r <;> rfl) | (rcases r with r | r | r <;> rfl) | (rcases r with r | r | r | r <;> rfl)
    have h3 := (hx (valO (g_Ls_l20Val_0 y0 y3 (y1, y2, y4)))).symm.trans h2
    have e3 := congrArg Prod.fst h3
    have e4 := congrArg Prod.snd h3
    simp only at e3 e4
    rw [← e3, ← e4]
    exact key
  · exact .inl ⟨xt, h1, h2⟩)
noncomputable def g_As_l20Val (r0 : List Int) (r1 : Int) (a2 : Int) : Bool := g_pickA r0 r1 (4 : Int) && (g_pickA r0 (IntKind.wrap IntKind.i64 (r1 + (1 : Int))) (3 : Int) && (okO (g_Ls_l20Val_0 a2 r0 ([g_pick r0 r1 (4 : Int)], g_pick r0 (IntKind.wrap IntKind.i64 (r1 + (1 : Int))) (3 : Int), IntKind.wrap IntKind.i64 (IntKind.wrap IntKind.i64 (r1 + (1 : Int)) + (1 : Int)))) && (g_As_l20Rd_odd r0 (valO (g_Ls_l20Val_0 a2 r0 ([g_pick r0 r1 (4 : Int)], g_pick r0 (IntKind.wrap IntKind.i64 (r1 + (1 : Int))) (3 : Int), IntKind.wrap IntKind.i64 (IntKind.wrap IntKind.i64 (r1 + (1 : Int)) + (1 : Int))))).2 a2 && (!g_Vs_l20Rd_odd_0 r0 (valO (g_Ls_l20Val_0 a2 r0 ([g_pick r0 r1 (4 : Int)], g_pick r0 (IntKind.wrap IntKind.i64 (r1 + (1 : Int))) (3 : Int), IntKind.wrap IntKind.i64 (IntKind.wrap IntKind.i64 (r1 + (1 : Int)) + (1 : Int))))).2 a2 || g_pickA r0 (g_Vs_l20Rd_odd_2 r0 (valO (g_Ls_l20Val_0 a2 r0 ([g_pick r0 r1 (4 : Int)], g_pick r0 (IntKind.wrap IntKind.i64 (r1 + (1 : Int))) (3 : Int), IntKind.wrap IntKind.i64 (IntKind.wrap IntKind.i64 (r1 + (1 : Int)) + (1 : Int))))).2 a2) (4 : Int) && (decide ((0 : Int) ≤ g_pick r0 (g_Vs_l20Rd_odd_2 r0 (valO (g_Ls_l20Val_0 a2 r0 ([g_pick r0 r1 (4 : Int)], g_pick r0 (IntKind.wrap IntKind.i64 (r1 + (1 : Int))) (3 : Int), IntKind.wrap IntKind.i64 (IntKind.wrap IntKind.i64 (r1 + (1 : Int)) + (1 : Int))))).2 a2) (4 : Int) ∧ g_pick r0 (g_Vs_l20Rd_odd_2 r0 (valO (g_Ls_l20Val_0 a2 r0 ([g_pick r0 r1 (4 : Int)], g_pick r0 (IntKind.wrap IntKind.i64 (r1 + (1 : Int))) (3 : Int), IntKind.wrap IntKind.i64 (IntKind.wrap IntKind.i64 (r1 + (1 : Int)) + (1 : Int))))).2 a2) (4 : Int) < (4 : Int)) && decide (Int.toNat (g_pick r0 (g_Vs_l20Rd_odd_2 r0 (valO (g_Ls_l20Val_0 a2 r0 ([g_pick r0 r1 (4 : Int)], g_pick r0 (IntKind.wrap IntKind.i64 (r1 + (1 : Int))) (3 : Int), IntKind.wrap IntKind.i64 (IntKind.wrap IntKind.i64 (r1 + (1 : Int)) + (1 : Int))))).2 a2) (4 : Int)) < nat_lit 4))))))
noncomputable def g_Vs_l20Val_0 (r0 : List Int) (r1 : Int) (a2 : Int) : List (Int) := bif g_Vs_l20Rd_odd_0 r0 (valO (g_Ls_l20Val_0 a2 r0 ([g_pick r0 r1 (4 : Int)], g_pick r0 (IntKind.wrap IntKind.i64 (r1 + (1 : Int))) (3 : Int), IntKind.wrap IntKind.i64 (IntKind.wrap IntKind.i64 (r1 + (1 : Int)) + (1 : Int))))).2 a2 then at_ (Ty.sl (nat_lit 3) (Ty.int IntKind.i64)) [[], [(-1 : Int)], [(10000 : Int)], [(1 : Int), (2 : Int), (3 : Int), (4 : Int)]] (Int.toNat (g_pick r0 (g_Vs_l20Rd_odd_2 r0 (valO (g_Ls_l20Val_0 a2 r0 ([g_pick r0 r1 (4 : Int)], g_pick r0 (IntKind.wrap IntKind.i64 (r1 + (1 : Int))) (3 : Int), IntKind.wrap IntKind.i64 (IntKind.wrap IntKind.i64 (r1 + (1 : Int)) + (1 : Int))))).2 a2) (4 : Int))) else (valO (g_Ls_l20Val_0 a2 r0 ([g_pick r0 r1 (4 : Int)], g_pick r0 (IntKind.wrap IntKind.i64 (r1 + (1 : Int))) (3 : Int), IntKind.wrap IntKind.i64 (IntKind.wrap IntKind.i64 (r1 + (1 : Int)) + (1 : Int))))).1
noncomputable def g_Vs_l20Val_1 (r0 : List Int) (r1 : Int) (a2 : Int) : List (Int) := bif g_Vs_l20Rd_odd_0 r0 (valO (g_Ls_l20Val_0 a2 r0 ([g_pick r0 r1 (4 : Int)], g_pick r0 (IntKind.wrap IntKind.i64 (r1 + (1 : Int))) (3 : Int), IntKind.wrap IntKind.i64 (IntKind.wrap IntKind.i64 (r1 + (1 : Int)) + (1 : Int))))).2 a2 then r0 else r0
noncomputable def g_Vs_l20Val_2 (r0 : List Int) (r1 : Int) (a2 : Int) : Int := bif g_Vs_l20Rd_odd_0 r0 (valO (g_Ls_l20Val_0 a2 r0 ([g_pick r0 r1 (4 : Int)], g_pick r0 (IntKind.wrap IntKind.i64 (r1 + (1 : Int))) (3 : Int), IntKind.wrap IntKind.i64 (IntKind.wrap IntKind.i64 (r1 + (1 : Int)) + (1 : Int))))).2 a2 then IntKind.wrap IntKind.i64 (g_Vs_l20Rd_odd_2 r0 (valO (g_Ls_l20Val_0 a2 r0 ([g_pick r0 r1 (4 : Int)], g_pick r0 (IntKind.wrap IntKind.i64 (r1 + (1 : Int))) (3 : Int), IntKind.wrap IntKind.i64 (IntKind.wrap IntKind.i64 (r1 + (1 : Int)) + (1 : Int))))).2 a2 + (1 : Int)) else g_Vs_l20Rd_odd_2 r0 (valO (g_Ls_l20Val_0 a2 r0 ([g_pick r0 r1 (4 : Int)], g_pick r0 (IntKind.wrap IntKind.i64 (r1 + (1 : Int))) (3 : Int), IntKind.wrap IntKind.i64 (IntKind.wrap IntKind.i64 (r1 + (1 : Int)) + (1 : Int))))).2 a2
noncomputable def Fs_l20Val : FSem := fun ys => match ys with
  | [.val true [.sl .any 5 (.int .u8) r0, .int .i64 r1], .val false [.int .i64 a2]] => some ((g_As_l20Val r0 r1 a2), .val false [.sl .any 3 (.int .i64) (g_Vs_l20Val_0 r0 r1 a2)], [[.sl .any 5 (.int .u8) (g_Vs_l20Val_1 r0 r1 a2), .int .i64 (g_Vs_l20Val_2 r0 r1 a2)]])
  | _ => none
theorem vs_l20Val (r0 : List Int) (r1 : Int) (a2 : Int) : collapseH .fr Es_l20Val Os_l20Val_1 (execFn Es_l20Val Go.Proofs.Tryd.f27 mss_l20Val [.val true [.sl .any 5 (.int .u8) r0, .int .i64 r1], .val false [.int .i64 a2]]) = some ((g_As_l20Val r0 r1 a2), .val false [.sl .any 3 (.int .i64) (g_Vs_l20Val_0 r0 r1 a2)], [[.sl .any 5 (.int .u8) (g_Vs_l20Val_1 r0 r1 a2), .int .i64 (g_Vs_l20Val_2 r0 r1 a2)]]) := by kernel_rfl
theorem ss_l20Val : Sound Go.Proofs.Tryd.prog 27 mss_l20Val Fs_l20Val := by
  refine fn_gen goods_l20Val (by kernel_rfl) .fr (fn := Go.Proofs.Tryd.f27) (c := (Go.Proofs.Tryd.f27.body.getD .skip)) (o := Os_l20Val_1) (k := 1) (by kernel_rfl) (by kernel_rfl) (by kernel_rfl) (by kernel_rfl) (by decide) ks_l20Val_1 ?_
  intro ys r outs h
  unfold Fs_l20Val at h
  split at h
  · exact (vs_l20Val _ _ _).trans h
  · cases h
end Go.Proofs.YtnbcdkbjmpadmaaDoor.E
end
section
namespace Go.Proofs.YtnbcdkbjmpadmaaDoor.E
open Go
set_option maxRecDepth 100000
set_option linter.all false
noncomputable def mss_l20ValR : List PM := mss_l20Val
theorem sames_l20Val (r0 : List Int) (r1 : Int) (a2 : Int) : g_Vs_l20Val_1 r0 r1 a2 = r0 := by
  unfold g_Vs_l20Val_1
  simp only [Bool.cond_self]
noncomputable def Fs_l20ValR : FSem := fun ys => match ys with
  | [.val true [.sl .any 5 (.int .u8) r0, .int .i64 r1], .val false [.int .i64 a2]] => some ((g_As_l20Val r0 r1 a2), .val false [.sl .any 3 (.int .i64) (g_Vs_l20Val_0 r0 r1 a2)], [[.sl .any 5 (.int .u8) r0, .int .i64 (g_Vs_l20Val_2 r0 r1 a2)]])
  | _ => none
theorem ss_l20ValR : Sound Go.Proofs.Tryd.prog 27 mss_l20ValR Fs_l20ValR := by
  refine ⟨ss_l20Val.fn, fun w S ψ ys vs r outs hF hh hg => ss_l20Val.calls w S ψ ys vs r outs (Eq.trans ?_ hF) hh hg⟩
  unfold Fs_l20ValR at hF ⊢
  split at hF
  · rename_i  r0 r1 a2
    show (some ((g_As_l20Val r0 r1 a2), .val false [.sl .any 3 (.int .i64) (g_Vs_l20Val_0 r0 r1 a2)], [[.sl .any 5 (.int .u8) (g_Vs_l20Val_1 r0 r1 a2), .int .i64 (g_Vs_l20Val_2 r0 r1 a2)]]) : Option (Bool × RV × List (List Cell))) = _
    rw [sames_l20Val]
  · cases hF
end Go.Proofs.YtnbcdkbjmpadmaaDoor.E
end
section
namespace Go.Proofs.YtnbcdkbjmpadmaaDoor.E
open Go
set_option maxRecDepth 100000
set_option maxHeartbeats 0
set_option linter.all false
noncomputable def Es_l20Key : Env where
  tt := mkTI Go.Proofs.Tryd.prog
  fn := fun f => match f with
    | 13 => some (mss_l20Rd_oddR, FSem.wk mss_l20Rd_oddR Fs_l20Rd_oddR)
    | 14 => some (mss_l20Rd_pick, FSem.wk mss_l20Rd_pick Fs_l20Rd_pick)
    | 61 => some (mss_l3Plain, FSem.wk mss_l3Plain Fs_l3Plain)
    | _ => none
  bxf := fun _ => none
  mv := []
  keep := fun _ => []
  keepB := fun _ => []
  keepX := fun _ => []
  keepXB := fun _ => []
theorem goodFs_l20Key : ∀ f ms F, Es_l20Key.fn f = some (ms, F) → Sound Go.Proofs.Tryd.prog f ms F := fun f ms F h => by
  unfold Es_l20Key at h
  dsimp only at h
  split at h
  · injection h with h; injection h with e1 e2; subst e1 e2; exact Sound.wk ss_l20Rd_oddR
  · injection h with h; injection h with e1 e2; subst e1 e2; exact Sound.wk ss_l20Rd_pick
  · injection h with h; injection h with e1 e2; subst e1 e2; exact Sound.wk ss_l3Plain
  · cases h
theorem goodBs_l20Key : ∀ f ms F, Es_l20Key.bxf f = some (ms, F) → SoundB Go.Proofs.Tryd.prog f ms F := fun f ms F h => by cases h
theorem goods_l20Key : Good Go.Proofs.Tryd.prog Es_l20Key := ⟨rfl, goodFs_l20Key, goodBs_l20Key⟩
noncomputable def Os_l20Key_0 : Orc := fun _ _ => none
noncomputable def mss_l20Key : List PM := [.bx, .own]
noncomputable def lss_l20Key : List (Nat × Code) := loopsAll 0 (Go.Proofs.Tryd.f50.body.getD .skip)

theorem ks_l20Key_0 : OrcOk Es_l20Key Os_l20Key_0 lss_l20Key 0 := orcOk_none
noncomputable def g_As_l20Key (r0 : List Int) (r1 : Int) (a2 : Int) : Bool := g_pickA r0 r1 (5 : Int) && (decide ((0 : Int) ≤ g_pick r0 r1 (5 : Int) ∧ g_pick r0 r1 (5 : Int) < (5 : Int)) && (decide (Int.toNat (g_pick r0 r1 (5 : Int)) < nat_lit 5) && (g_pickA r0 (IntKind.wrap IntKind.i64 (r1 + (1 : Int))) (4 : Int) && (g_pickA r0 (IntKind.wrap IntKind.i64 (IntKind.wrap IntKind.i64 (r1 + (1 : Int)) + (1 : Int))) (30 : Int) && (g_pickA r0 (IntKind.wrap IntKind.i64 (IntKind.wrap IntKind.i64 (IntKind.wrap IntKind.i64 (r1 + (1 : Int)) + (1 : Int)) + (1 : Int))) (2 : Int) && (decide ((0 : Int) ≤ g_pick r0 (IntKind.wrap IntKind.i64 (IntKind.wrap IntKind.i64 (IntKind.wrap IntKind.i64 (r1 + (1 : Int)) + (1 : Int)) + (1 : Int))) (2 : Int) ∧ g_pick r0 (IntKind.wrap IntKind.i64 (IntKind.wrap IntKind.i64 (IntKind.wrap IntKind.i64 (r1 + (1 : Int)) + (1 : Int)) + (1 : Int))) (2 : Int) < (↑(List.length [g_pick r0 (IntKind.wrap IntKind.i64 (r1 + (1 : Int))) (4 : Int), g_pick r0 (IntKind.wrap IntKind.i64 (IntKind.wrap IntKind.i64 (r1 + (1 : Int)) + (1 : Int))) (30 : Int)]) : Int)) && (decide (Int.toNat (g_pick r0 (IntKind.wrap IntKind.i64 (IntKind.wrap IntKind.i64 (IntKind.wrap IntKind.i64 (r1 + (1 : Int)) + (1 : Int)) + (1 : Int))) (2 : Int)) < List.length [g_pick r0 (IntKind.wrap IntKind.i64 (r1 + (1 : Int))) (4 : Int), g_pick r0 (IntKind.wrap IntKind.i64 (IntKind.wrap IntKind.i64 (r1 + (1 : Int)) + (1 : Int))) (30 : Int)]) && (g_As_l3Plain (at_ (Ty.int IntKind.i64) [g_pick r0 (IntKind.wrap IntKind.i64 (r1 + (1 : Int))) (4 : Int), g_pick r0 (IntKind.wrap IntKind.i64 (IntKind.wrap IntKind.i64 (r1 + (1 : Int)) + (1 : Int))) (30 : Int)] (Int.toNat (g_pick r0 (IntKind.wrap IntKind.i64 (IntKind.wrap IntKind.i64 (IntKind.wrap IntKind.i64 (r1 + (1 : Int)) + (1 : Int)) + (1 : Int))) (2 : Int)))) && (decide (ByteArray.size (at_ Ty.str [lit [(115 : Nat)], lit [(99 : Nat)], lit [(102 : Nat)], lit [(117 : Nat)], lit [(97 : Nat)]] (Int.toNat (g_pick r0 r1 (5 : Int)))) + ByteArray.size (g_Vs_l3Plain_0 (at_ (Ty.int IntKind.i64) [g_pick r0 (IntKind.wrap IntKind.i64 (r1 + (1 : Int))) (4 : Int), g_pick r0 (IntKind.wrap IntKind.i64 (IntKind.wrap IntKind.i64 (r1 + (1 : Int)) + (1 : Int))) (30 : Int)] (Int.toNat (g_pick r0 (IntKind.wrap IntKind.i64 (IntKind.wrap IntKind.i64 (IntKind.wrap IntKind.i64 (r1 + (1 : Int)) + (1 : Int)) + (1 : Int))) (2 : Int))))) ≤ nat_lit 9223372036854775807) && (g_As_l20Rd_odd r0 (IntKind.wrap IntKind.i64 (IntKind.wrap IntKind.i64 (IntKind.wrap IntKind.i64 (IntKind.wrap IntKind.i64 (r1 + (1 : Int)) + (1 : Int)) + (1 : Int)) + (1 : Int))) a2 && (!g_Vs_l20Rd_odd_0 r0 (IntKind.wrap IntKind.i64 (IntKind.wrap IntKind.i64 (IntKind.wrap IntKind.i64 (IntKind.wrap IntKind.i64 (r1 + (1 : Int)) + (1 : Int)) + (1 : Int)) + (1 : Int))) a2 || g_pickA r0 (g_Vs_l20Rd_odd_2 r0 (IntKind.wrap IntKind.i64 (IntKind.wrap IntKind.i64 (IntKind.wrap IntKind.i64 (IntKind.wrap IntKind.i64 (r1 + (1 : Int)) + (1 : Int)) + (1 : Int)) + (1 : Int))) a2) (6 : Int) && (decide ((0 : Int) ≤ g_pick r0 (g_Vs_l20Rd_odd_2 r0 (IntKind.wrap IntKind.i64 (IntKind.wrap IntKind.i64 (IntKind.wrap IntKind.i64 (IntKind.wrap IntKind.i64 (r1 + (1 : Int)) + (1 : Int)) + (1 : Int)) + (1 : Int))) a2) (6 : Int) ∧ g_pick r0 (g_Vs_l20Rd_odd_2 r0 (IntKind.wrap IntKind.i64 (IntKind.wrap IntKind.i64 (IntKind.wrap IntKind.i64 (IntKind.wrap IntKind.i64 (r1 + (1 : Int)) + (1 : Int)) + (1 : Int)) + (1 : Int))) a2) (6 : Int) < (6 : Int)) && decide (Int.toNat (g_pick r0 (g_Vs_l20Rd_odd_2 r0 (IntKind.wrap IntKind.i64 (IntKind.wrap IntKind.i64 (IntKind.wrap IntKind.i64 (IntKind.wrap IntKind.i64 (r1 + (1 : Int)) + (1 : Int)) + (1 : Int)) + (1 : Int))) a2) (6 : Int)) < nat_lit 6)))))))))))))
noncomputable def g_Vs_l20Key_0 (r0 : List Int) (r1 : Int) (a2 : Int) : ByteArray := bif g_Vs_l20Rd_odd_0 r0 (IntKind.wrap IntKind.i64 (IntKind.wrap IntKind.i64 (IntKind.wrap IntKind.i64 (IntKind.wrap IntKind.i64 (r1 + (1 : Int)) + (1 : Int)) + (1 : Int)) + (1 : Int))) a2 then at_ Ty.str [lit [], lit [(115 : Nat)], lit [(83 : Nat), (49 : Nat)], lit [(115 : Nat), (49 : Nat), (50 : Nat), (51 : Nat)], lit [(49 : Nat), (115 : Nat)], lit [(115 : Nat), (97 : Nat)]] (Int.toNat (g_pick r0 (g_Vs_l20Rd_odd_2 r0 (IntKind.wrap IntKind.i64 (IntKind.wrap IntKind.i64 (IntKind.wrap IntKind.i64 (IntKind.wrap IntKind.i64 (r1 + (1 : Int)) + (1 : Int)) + (1 : Int)) + (1 : Int))) a2) (6 : Int))) else at_ Ty.str [lit [(115 : Nat)], lit [(99 : Nat)], lit [(102 : Nat)], lit [(117 : Nat)], lit [(97 : Nat)]] (Int.toNat (g_pick r0 r1 (5 : Int))) ++ g_Vs_l3Plain_0 (at_ (Ty.int IntKind.i64) [g_pick r0 (IntKind.wrap IntKind.i64 (r1 + (1 : Int))) (4 : Int), g_pick r0 (IntKind.wrap IntKind.i64 (IntKind.wrap IntKind.i64 (r1 + (1 : Int)) + (1 : Int))) (30 : Int)] (Int.toNat (g_pick r0 (IntKind.wrap IntKind.i64 (IntKind.wrap IntKind.i64 (IntKind.wrap IntKind.i64 (r1 + (1 : Int)) + (1 : Int)) + (1 : Int))) (2 : Int))))
noncomputable def g_Vs_l20Key_1 (r0 : List Int) (r1 : Int) (a2 : Int) : List (Int) := bif g_Vs_l20Rd_odd_0 r0 (IntKind.wrap IntKind.i64 (IntKind.wrap IntKind.i64 (IntKind.wrap IntKind.i64 (IntKind.wrap IntKind.i64 (r1 + (1 : Int)) + (1 : Int)) + (1 : Int)) + (1 : Int))) a2 then r0 else r0
noncomputable def g_Vs_l20Key_2 (r0 : List Int) (r1 : Int) (a2 : Int) : Int := bif g_Vs_l20Rd_odd_0 r0 (IntKind.wrap IntKind.i64 (IntKind.wrap IntKind.i64 (IntKind.wrap IntKind.i64 (IntKind.wrap IntKind.i64 (r1 + (1 : Int)) + (1 : Int)) + (1 : Int)) + (1 : Int))) a2 then IntKind.wrap IntKind.i64 (g_Vs_l20Rd_odd_2 r0 (IntKind.wrap IntKind.i64 (IntKind.wrap IntKind.i64 (IntKind.wrap IntKind.i64 (IntKind.wrap IntKind.i64 (r1 + (1 : Int)) + (1 : Int)) + (1 : Int)) + (1 : Int))) a2 + (1 : Int)) else g_Vs_l20Rd_odd_2 r0 (IntKind.wrap IntKind.i64 (IntKind.wrap IntKind.i64 (IntKind.wrap IntKind.i64 (IntKind.wrap IntKind.i64 (r1 + (1 : Int)) + (1 : Int)) + (1 : Int)) + (1 : Int))) a2
noncomputable def Fs_l20Key : FSem := fun ys => match ys with
  | [.val true [.sl .any 5 (.int .u8) r0, .int .i64 r1], .val false [.int .i64 a2]] => some ((g_As_l20Key r0 r1 a2), .val false [.str (g_Vs_l20Key_0 r0 r1 a2)], [[.sl .any 5 (.int .u8) (g_Vs_l20Key_1 r0 r1 a2), .int .i64 (g_Vs_l20Key_2 r0 r1 a2)]])
  | _ => none
theorem vs_l20Key (r0 : List Int) (r1 : Int) (a2 : Int) : collapseH .std Es_l20Key Os_l20Key_0 (execFn Es_l20Key Go.Proofs.Tryd.f50 mss_l20Key [.val true [.sl .any 5 (.int .u8) r0, .int .i64 r1], .val false [.int .i64 a2]]) = some ((g_As_l20Key r0 r1 a2), .val false [.str (g_Vs_l20Key_0 r0 r1 a2)], [[.sl .any 5 (.int .u8) (g_Vs_l20Key_1 r0 r1 a2), .int .i64 (g_Vs_l20Key_2 r0 r1 a2)]]) := by kernel_rfl
theorem ss_l20Key : Sound Go.Proofs.Tryd.prog 50 mss_l20Key Fs_l20Key := by
  refine fn_gen goods_l20Key (by kernel_rfl) .std (fn := Go.Proofs.Tryd.f50) (c := (Go.Proofs.Tryd.f50.body.getD .skip)) (o := Os_l20Key_0) (k := 0) (by kernel_rfl) (by kernel_rfl) (by kernel_rfl) (by kernel_rfl) (by decide) ks_l20Key_0 ?_
  intro ys r outs h
  unfold Fs_l20Key at h
  split at h
  · exact (vs_l20Key _ _ _).trans h
  · cases h
end Go.Proofs.YtnbcdkbjmpadmaaDoor.E
end
section
namespace Go.Proofs.YtnbcdkbjmpadmaaDoor.E
open Go
set_option maxRecDepth 100000
set_option linter.all false
noncomputable def mss_l20KeyR : List PM := mss_l20Key
theorem sames_l20Key (r0 : List Int) (r1 : Int) (a2 : Int) : g_Vs_l20Key_1 r0 r1 a2 = r0 := by
  unfold g_Vs_l20Key_1
  simp only [Bool.cond_self]
noncomputable def Fs_l20KeyR : FSem := fun ys => match ys with
  | [.val true [.sl .any 5 (.int .u8) r0, .int .i64 r1], .val false [.int .i64 a2]] => some ((g_As_l20Key r0 r1 a2), .val false [.str (g_Vs_l20Key_0 r0 r1 a2)], [[.sl .any 5 (.int .u8) r0, .int .i64 (g_Vs_l20Key_2 r0 r1 a2)]])
  | _ => none
theorem ss_l20KeyR : Sound Go.Proofs.Tryd.prog 50 mss_l20KeyR Fs_l20KeyR := by
  refine ⟨ss_l20Key.fn, fun w S ψ ys vs r outs hF hh hg => ss_l20Key.calls w S ψ ys vs r outs (Eq.trans ?_ hF) hh hg⟩
  unfold Fs_l20KeyR at hF ⊢
  split at hF
  · rename_i  r0 r1 a2
    show (some ((g_As_l20Key r0 r1 a2), .val false [.str (g_Vs_l20Key_0 r0 r1 a2)], [[.sl .any 5 (.int .u8) (g_Vs_l20Key_1 r0 r1 a2), .int .i64 (g_Vs_l20Key_2 r0 r1 a2)]]) : Option (Bool × RV × List (List Cell))) = _
    rw [sames_l20Key]
  · cases hF
end Go.Proofs.YtnbcdkbjmpadmaaDoor.E
end
section
namespace Go.Proofs.YtnbcdkbjmpadmaaDoor.E
open Go
set_option maxRecDepth 100000
set_option maxHeartbeats 0
set_option linter.all false
noncomputable def Es_l20Write : Env where
  tt := mkTI Go.Proofs.Tryd.prog
  fn := fun f => match f with
    | 13 => some (mss_l20Rd_oddR, FSem.wk mss_l20Rd_oddR Fs_l20Rd_oddR)
    | 14 => some (mss_l20Rd_pick, FSem.wk mss_l20Rd_pick Fs_l20Rd_pick)
    | 27 => some (mss_l20ValR, FSem.wk mss_l20ValR Fs_l20ValR)
    | 50 => some (mss_l20KeyR, FSem.wk mss_l20KeyR Fs_l20KeyR)
    | _ => none
  bxf := fun _ => none
  mv := []
  keep := fun _ => []
  keepB := fun _ => []
  keepX := fun _ => []
  keepXB := fun _ => []
theorem goodFs_l20Write : ∀ f ms F, Es_l20Write.fn f = some (ms, F) → Sound Go.Proofs.Tryd.prog f ms F := fun f ms F h => by
  unfold Es_l20Write at h
  dsimp only at h
  split at h
  · injection h with h; injection h with e1 e2; subst e1 e2; exact Sound.wk ss_l20Rd_oddR
  · injection h with h; injection h with e1 e2; subst e1 e2; exact Sound.wk ss_l20Rd_pick
  · injection h with h; injection h with e1 e2; subst e1 e2; exact Sound.wk ss_l20ValR
  · injection h with h; injection h with e1 e2; subst e1 e2; exact Sound.wk ss_l20KeyR
  · cases h
theorem goodBs_l20Write : ∀ f ms F, Es_l20Write.bxf f = some (ms, F) → SoundB Go.Proofs.Tryd.prog f ms F := fun f ms F h => by cases h
theorem goods_l20Write : Good Go.Proofs.Tryd.prog Es_l20Write := ⟨rfl, goodFs_l20Write, goodBs_l20Write⟩
noncomputable def Os_l20Write_0 : Orc := fun _ _ => none
noncomputable def mss_l20Write : List PM := [.bx, .own]
noncomputable def lss_l20Write : List (Nat × Code) := loopsAll 0 (Go.Proofs.Tryd.f42.body.getD .skip)

theorem ks_l20Write_0 : OrcOk Es_l20Write Os_l20Write_0 lss_l20Write 0 := orcOk_none
noncomputable def g_As_l20Write (r0 : List Int) (r1 : Int) (a2 : Int) : Bool := g_As_l20Key r0 r1 a2 && (g_pickA r0 (g_Vs_l20Key_2 r0 r1 a2) (3 : Int) && bif g_pick r0 (g_Vs_l20Key_2 r0 r1 a2) (3 : Int) == (0 : Int) then g_As_l20Rd_odd r0 (IntKind.wrap IntKind.i64 (g_Vs_l20Key_2 r0 r1 a2 + (1 : Int))) a2 else g_As_l20Val r0 (IntKind.wrap IntKind.i64 (g_Vs_l20Key_2 r0 r1 a2 + (1 : Int))) a2)
noncomputable def g_Vs_l20Write_0 (r0 : List Int) (r1 : Int) (a2 : Int) : ByteArray := bif g_pick r0 (g_Vs_l20Key_2 r0 r1 a2) (3 : Int) == (0 : Int) then bif g_Vs_l20Rd_odd_0 r0 (IntKind.wrap IntKind.i64 (g_Vs_l20Key_2 r0 r1 a2 + (1 : Int))) a2 then g_Vs_l20Key_0 r0 r1 a2 else g_Vs_l20Key_0 r0 r1 a2 else g_Vs_l20Key_0 r0 r1 a2
noncomputable def g_Vs_l20Write_1 (r0 : List Int) (r1 : Int) (a2 : Int) : Bool := bif g_pick r0 (g_Vs_l20Key_2 r0 r1 a2) (3 : Int) == (0 : Int) then bif g_Vs_l20Rd_odd_0 r0 (IntKind.wrap IntKind.i64 (g_Vs_l20Key_2 r0 r1 a2 + (1 : Int))) a2 then true else true else false
noncomputable def g_Vs_l20Write_2 (r0 : List Int) (r1 : Int) (a2 : Int) : List (Int) := bif g_pick r0 (g_Vs_l20Key_2 r0 r1 a2) (3 : Int) == (0 : Int) then bif g_Vs_l20Rd_odd_0 r0 (IntKind.wrap IntKind.i64 (g_Vs_l20Key_2 r0 r1 a2 + (1 : Int))) a2 then [(1 : Int)] else [] else g_Vs_l20Val_0 r0 (IntKind.wrap IntKind.i64 (g_Vs_l20Key_2 r0 r1 a2 + (1 : Int))) a2
noncomputable def g_Vs_l20Write_3 (r0 : List Int) (r1 : Int) (a2 : Int) : List (Int) := bif g_pick r0 (g_Vs_l20Key_2 r0 r1 a2) (3 : Int) == (0 : Int) then bif g_Vs_l20Rd_odd_0 r0 (IntKind.wrap IntKind.i64 (g_Vs_l20Key_2 r0 r1 a2 + (1 : Int))) a2 then r0 else r0 else r0
noncomputable def g_Vs_l20Write_4 (r0 : List Int) (r1 : Int) (a2 : Int) : Int := bif g_pick r0 (g_Vs_l20Key_2 r0 r1 a2) (3 : Int) == (0 : Int) then bif g_Vs_l20Rd_odd_0 r0 (IntKind.wrap IntKind.i64 (g_Vs_l20Key_2 r0 r1 a2 + (1 : Int))) a2 then g_Vs_l20Rd_odd_2 r0 (IntKind.wrap IntKind.i64 (g_Vs_l20Key_2 r0 r1 a2 + (1 : Int))) a2 else g_Vs_l20Rd_odd_2 r0 (IntKind.wrap IntKind.i64 (g_Vs_l20Key_2 r0 r1 a2 + (1 : Int))) a2 else g_Vs_l20Val_2 r0 (IntKind.wrap IntKind.i64 (g_Vs_l20Key_2 r0 r1 a2 + (1 : Int))) a2
noncomputable def Fs_l20Write : FSem := fun ys => match ys with
  | [.val true [.sl .any 5 (.int .u8) r0, .int .i64 r1], .val false [.int .i64 a2]] => some ((g_As_l20Write r0 r1 a2), .val true [.str (g_Vs_l20Write_0 r0 r1 a2), .bool (g_Vs_l20Write_1 r0 r1 a2), .sl .any 3 (.int .i64) (g_Vs_l20Write_2 r0 r1 a2)], [[.sl .any 5 (.int .u8) (g_Vs_l20Write_3 r0 r1 a2), .int .i64 (g_Vs_l20Write_4 r0 r1 a2)]])
  | _ => none
theorem vs_l20Write (r0 : List Int) (r1 : Int) (a2 : Int) : collapseH .fr Es_l20Write Os_l20Write_0 (execFn Es_l20Write Go.Proofs.Tryd.f42 mss_l20Write [.val true [.sl .any 5 (.int .u8) r0, .int .i64 r1], .val false [.int .i64 a2]]) = some ((g_As_l20Write r0 r1 a2), .val true [.str (g_Vs_l20Write_0 r0 r1 a2), .bool (g_Vs_l20Write_1 r0 r1 a2), .sl .any 3 (.int .i64) (g_Vs_l20Write_2 r0 r1 a2)], [[.sl .any 5 (.int .u8) (g_Vs_l20Write_3 r0 r1 a2), .int .i64 (g_Vs_l20Write_4 r0 r1 a2)]]) := by kernel_rfl
theorem ss_l20Write : Sound Go.Proofs.Tryd.prog 42 mss_l20Write Fs_l20Write := by
  refine fn_gen goods_l20Write (by kernel_rfl) .fr (fn := Go.Proofs.Tryd.f42) (c := (Go.Proofs.Tryd.f42.body.getD .skip)) (o := Os_l20Write_0) (k := 0) (by kernel_rfl) (by kernel_rfl) (by kernel_rfl) (by kernel_rfl) (by decide) ks_l20Write_0 ?_
  intro ys r outs h
  unfold Fs_l20Write at h
  split at h
  · exact (vs_l20Write _ _ _).trans h
  · cases h
end Go.Proofs.YtnbcdkbjmpadmaaDoor.E
end
section
namespace Go.Proofs.YtnbcdkbjmpadmaaDoor.E
open Go
set_option maxRecDepth 100000
set_option linter.all false
noncomputable def mss_l20WriteR : List PM := mss_l20Write
theorem sames_l20Write (r0 : List Int) (r1 : Int) (a2 : Int) : g_Vs_l20Write_3 r0 r1 a2 = r0 := by
  unfold g_Vs_l20Write_3
  simp only [Bool.cond_self]
noncomputable def Fs_l20WriteR : FSem := fun ys => match ys with
  | [.val true [.sl .any 5 (.int .u8) r0, .int .i64 r1], .val false [.int .i64 a2]] => some ((g_As_l20Write r0 r1 a2), .val true [.str (g_Vs_l20Write_0 r0 r1 a2), .bool (g_Vs_l20Write_1 r0 r1 a2), .sl .any 3 (.int .i64) (g_Vs_l20Write_2 r0 r1 a2)], [[.sl .any 5 (.int .u8) r0, .int .i64 (g_Vs_l20Write_4 r0 r1 a2)]])
  | _ => none
theorem ss_l20WriteR : Sound Go.Proofs.Tryd.prog 42 mss_l20WriteR Fs_l20WriteR := by
  refine ⟨ss_l20Write.fn, fun w S ψ ys vs r outs hF hh hg => ss_l20Write.calls w S ψ ys vs r outs (Eq.trans ?_ hF) hh hg⟩
  unfold Fs_l20WriteR at hF ⊢
  split at hF
  · rename_i  r0 r1 a2
    show (some ((g_As_l20Write r0 r1 a2), .val true [.str (g_Vs_l20Write_0 r0 r1 a2), .bool (g_Vs_l20Write_1 r0 r1 a2), .sl .any 3 (.int .i64) (g_Vs_l20Write_2 r0 r1 a2)], [[.sl .any 5 (.int .u8) (g_Vs_l20Write_3 r0 r1 a2), .int .i64 (g_Vs_l20Write_4 r0 r1 a2)]]) : Option (Bool × RV × List (List Cell))) = _
    rw [sames_l20Write]
  · cases hF
end Go.Proofs.YtnbcdkbjmpadmaaDoor.E
end
section
namespace Go.Proofs.YtnbcdkbjmpadmaaDoor.E
open Go
set_option maxRecDepth 100000
set_option maxHeartbeats 0
set_option linter.all false
noncomputable def Es_l20Writes : Env where
  tt := mkTI Go.Proofs.Tryd.prog
  fn := fun f => match f with
    | 13 => some (mss_l20Rd_oddR, FSem.wk mss_l20Rd_oddR Fs_l20Rd_oddR)
    | 14 => some (mss_l20Rd_pick, FSem.wk mss_l20Rd_pick Fs_l20Rd_pick)
    | 42 => some (mss_l20WriteR, FSem.wk mss_l20WriteR Fs_l20WriteR)
    | _ => none
  bxf := fun _ => none
  mv := []
  keep := fun b => match b with
    | 0 => [(0, false), (1, false), (5, true), (6, false)]
    | _ => []
  keepB := fun b => match b with
    | 0 => [(0, false)]
    | _ => []
  keepX := fun b => match b with
    | 0 => [(0, false), (1, false), (5, true)]
    | _ => []
  keepXB := fun b => match b with
    | 0 => [(0, false)]
    | _ => []
theorem goodFs_l20Writes : ∀ f ms F, Es_l20Writes.fn f = some (ms, F) → Sound Go.Proofs.Tryd.prog f ms F := fun f ms F h => by
  unfold Es_l20Writes at h
  dsimp only at h
  split at h
  · injection h with h; injection h with e1 e2; subst e1 e2; exact Sound.wk ss_l20Rd_oddR
  · injection h with h; injection h with e1 e2; subst e1 e2; exact Sound.wk ss_l20Rd_pick
  · injection h with h; injection h with e1 e2; subst e1 e2; exact Sound.wk ss_l20WriteR
  · cases h
theorem goodBs_l20Writes : ∀ f ms F, Es_l20Writes.bxf f = some (ms, F) → SoundB Go.Proofs.Tryd.prog f ms F := fun f ms F h => by cases h
theorem goods_l20Writes : Good Go.Proofs.Tryd.prog Es_l20Writes := ⟨rfl, goodFs_l20Writes, goodBs_l20Writes⟩
noncomputable def Os_l20Writes_0 : Orc := fun _ _ => none
noncomputable def mss_l20Writes : List PM := [.bx, .own]
noncomputable def lss_l20Writes : List (Nat × Code) := loopsAll 0 (Go.Proofs.Tryd.f26.body.getD .skip)
noncomputable def cs_l20Writes_0 : Code := (loopOf 0 (Go.Proofs.Tryd.f26.body.getD .skip)).getD .skip
theorem lseqs_l20Writes : lss_l20Writes = [(0, cs_l20Writes_0)] := by kernel_rfl
theorem ms_l20Writes_0 : ∀ p, p ∈ lss_l20Writes → p.1 = 0 → p.2 = cs_l20Writes_0 := by
  intro p hp
  rw [lseqs_l20Writes] at hp
  simp only [List.mem_cons, List.not_mem_nil, or_false] at hp
  subst hp; simp
theorem ks_l20Writes_0 : OrcOk Es_l20Writes Os_l20Writes_0 lss_l20Writes 0 := orcOk_none
noncomputable def hs_l20Writes_0 (y0 : Int) (y1 : List ((ByteArray) × ((Bool) × (List (Int))))) (y2 : Int) (y3 : List (Int)) (y4 : Int) : List (Pl × LV) := [(.T 0, .t (.val false [.ptr 0 0 0])), (.T 1, .t (.val false [.int .i64 y0])), (.T 5, .t (.val false [.row 5 0 0])), (.R 5 0, .r 0 (some ⟨false, .non, false, 68, (.pair .str (.pair .bool (.sl 3 (.int .i64)))), y1⟩)), (.T 6, .t (.val false [.int .i64 y2])), (.B 0, .b 0 false [.sl .any 5 (.int .u8) y3, .int .i64 y4])]
noncomputable def g_Ss_l20Writes_0 (y0 : Int) (y3 : List (Int)) : ((List ((ByteArray) × ((Bool) × (List (Int))))) × (Int) × (Int)) → RT ((List ((ByteArray) × ((Bool) × (List (Int))))) × (Int) × (Int)) (((List ((ByteArray) × ((Bool) × (List (Int))))) × (Int)))
  | (y1, y2, y4) => .br (true) (.br (decide (y2 > (0 : Int))) (.br (g_As_l20Write y3 y4 (0 : Int)) (.br (decide ((List.length y1 + List.length [(g_Vs_l20Write_0 y3 y4 (0 : Int), g_Vs_l20Write_1 y3 y4 (0 : Int), g_Vs_l20Write_2 y3 y4 (0 : Int))]) * nat_lit 48 ≤ nat_lit 140737488355328 ∧ List.length y1 + List.length [(g_Vs_l20Write_0 y3 y4 (0 : Int), g_Vs_l20Write_1 y3 y4 (0 : Int), g_Vs_l20Write_2 y3 y4 (0 : Int))] ≤ nat_lit 9223372036854775807)) (.br (true) (.go ((y1 ++ [(g_Vs_l20Write_0 y3 y4 (0 : Int), g_Vs_l20Write_1 y3 y4 (0 : Int), g_Vs_l20Write_2 y3 y4 (0 : Int))], IntKind.wrap IntKind.i64 (y2 - (1 : Int)), g_Vs_l20Write_4 y3 y4 (0 : Int)))) (.bad)) (.bad)) (.bad)) (.out ((y1, y4)))) (.bad)
noncomputable def g_Ls_l20Writes_0 (y0 : Int) (y3 : List (Int)) (x : (List ((ByteArray) × ((Bool) × (List (Int))))) × (Int) × (Int)) : Option (((List ((ByteArray) × ((Bool) × (List (Int))))) × (Int))) := loopO (g_Ss_l20Writes_0 y0 y3) x
noncomputable def xs_l20Writes_0 (y0 : Int) (y3 : List (Int)) : (((List ((ByteArray) × ((Bool) × (List (Int))))) × (Int))) → Ex × List (Pl × LV) := fun r => (.exit 0, [(.T 0, .t (.val false [.ptr 0 0 0])), (.T 1, .t (.val false [.int .i64 y0])), (.T 5, .t (.val false [.row 5 0 0])), (.R 5 0, .r 0 (some ⟨false, .non, false, 68, (.pair .str (.pair .bool (.sl 3 (.int .i64)))), r.1⟩)), (.B 0, .b 0 false [.sl .any 5 (.int .u8) y3, .int .i64 r.2])])
noncomputable def Os_l20Writes_1 : Orc := fun b h => match b, h with
  | 0, [(.T 0, .t (.val false [.ptr 0 0 0])), (.T 1, .t (.val false [.int .i64 y0])), (.T 5, .t (.val false [.row 5 0 0])), (.R 5 0, .r 0 (some ⟨false, .non, false, 68, (.pair .str (.pair .bool (.sl 3 (.int .i64)))), y1⟩)), (.T 6, .t (.val false [.int .i64 y2])), (.B 0, .b 0 false [.sl .any 5 (.int .u8) y3, .int .i64 y4])] => some (okO (g_Ls_l20Writes_0 y0 y3 (y1, y2, y4)), (.leaf (.exit 0) [(.T 0, .t (.val false [.ptr 0 0 0])), (.T 1, .t (.val false [.int .i64 y0])), (.T 5, .t (.val false [.row 5 0 0])), (.R 5 0, .r 0 (some ⟨false, .non, false, 68, (.pair .str (.pair .bool (.sl 3 (.int .i64)))), (valO (g_Ls_l20Writes_0 y0 y3 (y1, y2, y4))).1⟩)), (.B 0, .b 0 false [.sl .any 5 (.int .u8) y3, .int .i64 (valO (g_Ls_l20Writes_0 y0 y3 (y1, y2, y4))).2])]))
  | b, h => Os_l20Writes_0 b h
theorem bs_l20Writes_0 (y0 : Int) (y1 : List ((ByteArray) × ((Bool) × (List (Int))))) (y2 : Int) (y3 : List (Int)) (y4 : Int) : Tr.bt Es_l20Writes Os_l20Writes_0 (exec Es_l20Writes 0 cs_l20Writes_0 (St.of (hs_l20Writes_0 y0 y1 y2 y3 y4)) (leafRd Es_l20Writes 0)) = (g_Ss_l20Writes_0 y0 y3 (y1, y2, y4)).bt (fun ((y1, y2, y4) : (List ((ByteArray) × ((Bool) × (List (Int))))) × (Int) × (Int)) => (hs_l20Writes_0 y0 y1 y2 y3 y4)) (xs_l20Writes_0 y0 y3) := by kernel_rfl
theorem ks_l20Writes_1 : OrcOk Es_l20Writes Os_l20Writes_1 lss_l20Writes 1 := orc_add ks_l20Writes_0 (fun n p hp h ex h' ho => by
  obtain ⟨b, c⟩ := p
  obtain ⟨xt, h1, h2⟩ := ho
  have h1 : Os_l20Writes_1 b h = some (true, xt) := h1
  unfold Os_l20Writes_1 at h1
  split at h1
  · injection h1 with h1
    injection h1 with e1 e2
    subst e2
    have hc : c = cs_l20Writes_0 := ms_l20Writes_0 _ hp rfl
    subst hc
    right
    rename_i y0 y1 y2 y3 y4
    have key := LT_step ks_l20Writes_0 hp (fun q hq => loopsAll_in _ _ _ _ hp hq) (fun ((y1, y2, y4) : (List ((ByteArray) × ((Bool) × (List (Int))))) × (Int) × (Int)) => (hs_l20Writes_0 y0 y1 y2 y3 y4)) (xs_l20Writes_0 y0 y3) (g_Ss_l20Writes_0 y0 y3) (fun x => by first | exact bs_l20Writes_0 y0 x.1 x.2.1 y3 x.2.2) n (x := (y1, y2, y4)) (okO_some e1)
    have hx : ∀ r, XT.sel (.leaf (.exit 0) [(.T 0, .t (.val false [.ptr 0 0 0])), (.T 1, .t (.val false [.int .i64 y0])), (.T 5, .t (.val false [.row 5 0 0])), (.R 5 0, .r 0 (some ⟨false, .non, false, 68, (.pair .str (.pair .bool (.sl 3 (.int .i64)))), r.1⟩)), (.B 0, .b 0 false [.sl .any 5 (.int .u8) y3, .int .i64 r.2])]) = xs_l20Writes_0 y0 y3 r := fun r => by first | rfl | (rcases r with r | r <;> rfl) | (rcases r with r | r | r <;> rfl) | (rcases r with r | r | r | r <;> rfl)
    have h3 := (hx (valO (g_Ls_l20Writes_0 y0 y3 (y1, y2, y4)))).symm.trans h2
    have e3 := congrArg Prod.fst h3
    have e4 := congrArg Prod.snd h3
    simp only at e3 e4
    rw [← e3, ← e4]
    exact key
  · exact .inl ⟨xt, h1, h2⟩)
noncomputable def g_As_l20Writes (r0 : List Int) (r1 : Int) (a2 : Int) : Bool := g_pickA r0 r1 (6 : Int) && (okO (g_Ls_l20Writes_0 a2 r0 ([], g_pick r0 r1 (6 : Int), IntKind.wrap IntKind.i64 (r1 + (1 : Int)))) && (g_As_l20Rd_odd r0 (valO (g_Ls_l20Writes_0 a2 r0 ([], g_pick r0 r1 (6 : Int), IntKind.wrap IntKind.i64 (r1 + (1 : Int))))).2 a2 && (!g_Vs_l20Rd_odd_0 r0 (valO (g_Ls_l20Writes_0 a2 r0 ([], g_pick r0 r1 (6 : Int), IntKind.wrap IntKind.i64 (r1 + (1 : Int))))).2 a2 || g_As_l20Write r0 (g_Vs_l20Rd_odd_2 r0 (valO (g_Ls_l20Writes_0 a2 r0 ([], g_pick r0 r1 (6 : Int), IntKind.wrap IntKind.i64 (r1 + (1 : Int))))).2 a2) (2 : Int) && decide ((List.length (valO (g_Ls_l20Writes_0 a2 r0 ([], g_pick r0 r1 (6 : Int), IntKind.wrap IntKind.i64 (r1 + (1 : Int))))).1 + List.length [(g_Vs_l20Write_0 r0 (g_Vs_l20Rd_odd_2 r0 (valO (g_Ls_l20Writes_0 a2 r0 ([], g_pick r0 r1 (6 : Int), IntKind.wrap IntKind.i64 (r1 + (1 : Int))))).2 a2) (2 : Int), g_Vs_l20Write_1 r0 (g_Vs_l20Rd_odd_2 r0 (valO (g_Ls_l20Writes_0 a2 r0 ([], g_pick r0 r1 (6 : Int), IntKind.wrap IntKind.i64 (r1 + (1 : Int))))).2 a2) (2 : Int), g_Vs_l20Write_2 r0 (g_Vs_l20Rd_odd_2 r0 (valO (g_Ls_l20Writes_0 a2 r0 ([], g_pick r0 r1 (6 : Int), IntKind.wrap IntKind.i64 (r1 + (1 : Int))))).2 a2) (2 : Int))]) * nat_lit 48 ≤ nat_lit 140737488355328 ∧ List.length (valO (g_Ls_l20Writes_0 a2 r0 ([], g_pick r0 r1 (6 : Int), IntKind.wrap IntKind.i64 (r1 + (1 : Int))))).1 + List.length [(g_Vs_l20Write_0 r0 (g_Vs_l20Rd_odd_2 r0 (valO (g_Ls_l20Writes_0 a2 r0 ([], g_pick r0 r1 (6 : Int), IntKind.wrap IntKind.i64 (r1 + (1 : Int))))).2 a2) (2 : Int), g_Vs_l20Write_1 r0 (g_Vs_l20Rd_odd_2 r0 (valO (g_Ls_l20Writes_0 a2 r0 ([], g_pick r0 r1 (6 : Int), IntKind.wrap IntKind.i64 (r1 + (1 : Int))))).2 a2) (2 : Int), g_Vs_l20Write_2 r0 (g_Vs_l20Rd_odd_2 r0 (valO (g_Ls_l20Writes_0 a2 r0 ([], g_pick r0 r1 (6 : Int), IntKind.wrap IntKind.i64 (r1 + (1 : Int))))).2 a2) (2 : Int))] ≤ nat_lit 9223372036854775807))))
noncomputable def g_Vs_l20Writes_0 (r0 : List Int) (r1 : Int) (a2 : Int) : List ((ByteArray) × ((Bool) × (List (Int)))) := bif g_Vs_l20Rd_odd_0 r0 (valO (g_Ls_l20Writes_0 a2 r0 ([], g_pick r0 r1 (6 : Int), IntKind.wrap IntKind.i64 (r1 + (1 : Int))))).2 a2 then (valO (g_Ls_l20Writes_0 a2 r0 ([], g_pick r0 r1 (6 : Int), IntKind.wrap IntKind.i64 (r1 + (1 : Int))))).1 ++ [(g_Vs_l20Write_0 r0 (g_Vs_l20Rd_odd_2 r0 (valO (g_Ls_l20Writes_0 a2 r0 ([], g_pick r0 r1 (6 : Int), IntKind.wrap IntKind.i64 (r1 + (1 : Int))))).2 a2) (2 : Int), g_Vs_l20Write_1 r0 (g_Vs_l20Rd_odd_2 r0 (valO (g_Ls_l20Writes_0 a2 r0 ([], g_pick r0 r1 (6 : Int), IntKind.wrap IntKind.i64 (r1 + (1 : Int))))).2 a2) (2 : Int), g_Vs_l20Write_2 r0 (g_Vs_l20Rd_odd_2 r0 (valO (g_Ls_l20Writes_0 a2 r0 ([], g_pick r0 r1 (6 : Int), IntKind.wrap IntKind.i64 (r1 + (1 : Int))))).2 a2) (2 : Int))] else (valO (g_Ls_l20Writes_0 a2 r0 ([], g_pick r0 r1 (6 : Int), IntKind.wrap IntKind.i64 (r1 + (1 : Int))))).1
noncomputable def g_Vs_l20Writes_1 (r0 : List Int) (r1 : Int) (a2 : Int) : List (Int) := bif g_Vs_l20Rd_odd_0 r0 (valO (g_Ls_l20Writes_0 a2 r0 ([], g_pick r0 r1 (6 : Int), IntKind.wrap IntKind.i64 (r1 + (1 : Int))))).2 a2 then r0 else r0
noncomputable def g_Vs_l20Writes_2 (r0 : List Int) (r1 : Int) (a2 : Int) : Int := bif g_Vs_l20Rd_odd_0 r0 (valO (g_Ls_l20Writes_0 a2 r0 ([], g_pick r0 r1 (6 : Int), IntKind.wrap IntKind.i64 (r1 + (1 : Int))))).2 a2 then g_Vs_l20Write_4 r0 (g_Vs_l20Rd_odd_2 r0 (valO (g_Ls_l20Writes_0 a2 r0 ([], g_pick r0 r1 (6 : Int), IntKind.wrap IntKind.i64 (r1 + (1 : Int))))).2 a2) (2 : Int) else g_Vs_l20Rd_odd_2 r0 (valO (g_Ls_l20Writes_0 a2 r0 ([], g_pick r0 r1 (6 : Int), IntKind.wrap IntKind.i64 (r1 + (1 : Int))))).2 a2
noncomputable def Fs_l20Writes : FSem := fun ys => match ys with
  | [.val true [.sl .any 5 (.int .u8) r0, .int .i64 r1], .val false [.int .i64 a2]] => some ((g_As_l20Writes r0 r1 a2), .val false [.own .any false 68 (.pair .str (.pair .bool (.sl 3 (.int .i64)))) (g_Vs_l20Writes_0 r0 r1 a2)], [[.sl .any 5 (.int .u8) (g_Vs_l20Writes_1 r0 r1 a2), .int .i64 (g_Vs_l20Writes_2 r0 r1 a2)]])
  | _ => none
theorem vs_l20Writes (r0 : List Int) (r1 : Int) (a2 : Int) : collapseH .std Es_l20Writes Os_l20Writes_1 (execFn Es_l20Writes Go.Proofs.Tryd.f26 mss_l20Writes [.val true [.sl .any 5 (.int .u8) r0, .int .i64 r1], .val false [.int .i64 a2]]) = some ((g_As_l20Writes r0 r1 a2), .val false [.own .any false 68 (.pair .str (.pair .bool (.sl 3 (.int .i64)))) (g_Vs_l20Writes_0 r0 r1 a2)], [[.sl .any 5 (.int .u8) (g_Vs_l20Writes_1 r0 r1 a2), .int .i64 (g_Vs_l20Writes_2 r0 r1 a2)]]) := by kernel_rfl
theorem ss_l20Writes : Sound Go.Proofs.Tryd.prog 26 mss_l20Writes Fs_l20Writes := by
  refine fn_gen goods_l20Writes (by kernel_rfl) .std (fn := Go.Proofs.Tryd.f26) (c := (Go.Proofs.Tryd.f26.body.getD .skip)) (o := Os_l20Writes_1) (k := 1) (by kernel_rfl) (by kernel_rfl) (by kernel_rfl) (by kernel_rfl) (by decide) ks_l20Writes_1 ?_
  intro ys r outs h
  unfold Fs_l20Writes at h
  split at h
  · exact (vs_l20Writes _ _ _).trans h
  · cases h
end Go.Proofs.YtnbcdkbjmpadmaaDoor.E
end
section
namespace Go.Proofs.YtnbcdkbjmpadmaaDoor.E
open Go
set_option maxRecDepth 100000
set_option linter.all false
noncomputable def mss_l20WritesR : List PM := mss_l20Writes
theorem sames_l20Writes (r0 : List Int) (r1 : Int) (a2 : Int) : g_Vs_l20Writes_1 r0 r1 a2 = r0 := by
  unfold g_Vs_l20Writes_1
  simp only [Bool.cond_self]
noncomputable def Fs_l20WritesR : FSem := fun ys => match ys with
  | [.val true [.sl .any 5 (.int .u8) r0, .int .i64 r1], .val false [.int .i64 a2]] => some ((g_As_l20Writes r0 r1 a2), .val false [.own .any false 68 (.pair .str (.pair .bool (.sl 3 (.int .i64)))) (g_Vs_l20Writes_0 r0 r1 a2)], [[.sl .any 5 (.int .u8) r0, .int .i64 (g_Vs_l20Writes_2 r0 r1 a2)]])
  | _ => none
theorem ss_l20WritesR : Sound Go.Proofs.Tryd.prog 26 mss_l20WritesR Fs_l20WritesR := by
  refine ⟨ss_l20Writes.fn, fun w S ψ ys vs r outs hF hh hg => ss_l20Writes.calls w S ψ ys vs r outs (Eq.trans ?_ hF) hh hg⟩
  unfold Fs_l20WritesR at hF ⊢
  split at hF
  · rename_i  r0 r1 a2
    show (some ((g_As_l20Writes r0 r1 a2), .val false [.own .any false 68 (.pair .str (.pair .bool (.sl 3 (.int .i64)))) (g_Vs_l20Writes_0 r0 r1 a2)], [[.sl .any 5 (.int .u8) (g_Vs_l20Writes_1 r0 r1 a2), .int .i64 (g_Vs_l20Writes_2 r0 r1 a2)]]) : Option (Bool × RV × List (List Cell))) = _
    rw [sames_l20Writes]
  · cases hF
end Go.Proofs.YtnbcdkbjmpadmaaDoor.E
end
section
namespace Go.Proofs.YtnbcdkbjmpadmaaDoor.E
open Go
set_option maxRecDepth 100000
set_option maxHeartbeats 0
set_option linter.all false
noncomputable def Es_l20Sto : Env where
  tt := mkTI Go.Proofs.Tryd.prog
  fn := fun f => match f with
    | 13 => some (mss_l20Rd_oddR, FSem.wk mss_l20Rd_oddR Fs_l20Rd_oddR)
    | 14 => some (mss_l20Rd_pick, FSem.wk mss_l20Rd_pick Fs_l20Rd_pick)
    | 25 => some (mss_StoDo, FSem.wk mss_StoDo Fs_StoDo)
    | 26 => some (mss_l20WritesR, FSem.wk mss_l20WritesR Fs_l20WritesR)
    | 27 => some (mss_l20ValR, FSem.wk mss_l20ValR Fs_l20ValR)
    | _ => none
  bxf := fun _ => none
  mv := []
  keep := fun b => match b with
    | 1 => [(0, false), (4, false), (5, false)]
    | _ => []
  keepB := fun b => match b with
    | 1 => [(4, false), (5, false), (0, false)]
    | _ => []
  keepX := fun b => match b with
    | 1 => [(0, false), (4, false), (5, false)]
    | _ => []
  keepXB := fun b => match b with
    | 1 => [(4, false), (5, false), (0, false)]
    | _ => []
theorem goodFs_l20Sto : ∀ f ms F, Es_l20Sto.fn f = some (ms, F) → Sound Go.Proofs.Tryd.prog f ms F := fun f ms F h => by
  unfold Es_l20Sto at h
  dsimp only at h
  split at h
  · injection h with h; injection h with e1 e2; subst e1 e2; exact Sound.wk ss_l20Rd_oddR
  · injection h with h; injection h with e1 e2; subst e1 e2; exact Sound.wk ss_l20Rd_pick
  · injection h with h; injection h with e1 e2; subst e1 e2; exact Sound.wk ss_StoDo
  · injection h with h; injection h with e1 e2; subst e1 e2; exact Sound.wk ss_l20WritesR
  · injection h with h; injection h with e1 e2; subst e1 e2; exact Sound.wk ss_l20ValR
  · cases h
theorem goodBs_l20Sto : ∀ f ms F, Es_l20Sto.bxf f = some (ms, F) → SoundB Go.Proofs.Tryd.prog f ms F := fun f ms F h => by cases h
theorem goods_l20Sto : Good Go.Proofs.Tryd.prog Es_l20Sto := ⟨rfl, goodFs_l20Sto, goodBs_l20Sto⟩
noncomputable def Os_l20Sto_0 : Orc := fun _ _ => none
noncomputable def mss_l20Sto : List PM := [.bx, .own]
noncomputable def lss_l20Sto : List (Nat × Code) := loopsAll 0 (Go.Proofs.Tryd.f15.body.getD .skip)
noncomputable def cs_l20Sto_1 : Code := (loopOf 1 (Go.Proofs.Tryd.f15.body.getD .skip)).getD .skip
theorem lseqs_l20Sto : lss_l20Sto = [(1, cs_l20Sto_1)] := by kernel_rfl
theorem ms_l20Sto_1 : ∀ p, p ∈ lss_l20Sto → p.1 = 1 → p.2 = cs_l20Sto_1 := by
  intro p hp
  rw [lseqs_l20Sto] at hp
  simp only [List.mem_cons, List.not_mem_nil, or_false] at hp
  subst hp; simp
theorem ks_l20Sto_0 : OrcOk Es_l20Sto Os_l20Sto_0 lss_l20Sto 0 := orcOk_none
noncomputable def hs_l20Sto_1 (y0 : List ((ByteArray) × (List (Int)))) (y1 : List ((ByteArray) × (List (Int)))) (y2 : List (Int)) (y3 : Int) : List (Pl × LV) := [(.T 0, .t (.val false [.ptr 0 0 0])), (.T 4, .t (.val false [.ptr 4 0 0])), (.T 5, .t (.val false [.ptr 5 0 0])), (.B 4, .b 0 false [.row 4 1 0]), (.R 4 1, .r 0 (some ⟨false, .any, true, 42, (.pair .str (.sl 3 (.int .i64))), y0⟩)), (.B 5, .b 0 false [.row 5 1 0]), (.R 5 1, .r 0 (some ⟨false, .any, true, 42, (.pair .str (.sl 3 (.int .i64))), y1⟩)), (.B 0, .b 0 false [.sl .any 5 (.int .u8) y2, .int .i64 y3])]
noncomputable def g_Ss_l20Sto_1 (y0 : List ((ByteArray) × (List (Int)))) (y2 : List (Int)) (y3 : Int) : ((List ((ByteArray) × (List (Int))))) → RT ((List ((ByteArray) × (List (Int))))) (((List ((ByteArray) × (List (Int))))))
  | y1 => .br (true) (.br (decide ((↑(List.length y1) : Int) ≤ (40 : Int))) (.br (decide ((List.length y1 + nat_lit 1) * nat_lit 40 ≤ nat_lit 140737488355328 ∧ List.length y1 + nat_lit 1 ≤ nat_lit 9223372036854775807)) (.go (y1 ++ [(lit [(122 : Nat), (57 : Nat)], [(1 : Int)])])) (.bad)) (.out (y1))) (.bad)
noncomputable def g_Ls_l20Sto_1 (y0 : List ((ByteArray) × (List (Int)))) (y2 : List (Int)) (y3 : Int) (x : (List ((ByteArray) × (List (Int))))) : Option (((List ((ByteArray) × (List (Int)))))) := loopO (g_Ss_l20Sto_1 y0 y2 y3) x
noncomputable def xs_l20Sto_1 (y0 : List ((ByteArray) × (List (Int)))) (y2 : List (Int)) (y3 : Int) : (((List ((ByteArray) × (List (Int)))))) → Ex × List (Pl × LV) := fun r => (.exit 1, [(.T 0, .t (.val false [.ptr 0 0 0])), (.T 4, .t (.val false [.ptr 4 0 0])), (.T 5, .t (.val false [.ptr 5 0 0])), (.B 4, .b 0 false [.row 4 1 0]), (.R 4 1, .r 0 (some ⟨false, .any, true, 42, (.pair .str (.sl 3 (.int .i64))), y0⟩)), (.B 5, .b 0 false [.row 5 1 0]), (.R 5 1, .r 0 (some ⟨false, .any, true, 42, (.pair .str (.sl 3 (.int .i64))), r⟩)), (.B 0, .b 0 false [.sl .any 5 (.int .u8) y2, .int .i64 y3])])
noncomputable def Os_l20Sto_1 : Orc := fun b h => match b, h with
  | 1, [(.T 0, .t (.val false [.ptr 0 0 0])), (.T 4, .t (.val false [.ptr 4 0 0])), (.T 5, .t (.val false [.ptr 5 0 0])), (.B 4, .b 0 false [.row 4 1 0]), (.R 4 1, .r 0 (some ⟨false, .any, true, 42, (.pair .str (.sl 3 (.int .i64))), y0⟩)), (.B 5, .b 0 false [.row 5 1 0]), (.R 5 1, .r 0 (some ⟨false, .any, true, 42, (.pair .str (.sl 3 (.int .i64))), y1⟩)), (.B 0, .b 0 false [.sl .any 5 (.int .u8) y2, .int .i64 y3])] => some (okO (g_Ls_l20Sto_1 y0 y2 y3 y1), (.leaf (.exit 1) [(.T 0, .t (.val false [.ptr 0 0 0])), (.T 4, .t (.val false [.ptr 4 0 0])), (.T 5, .t (.val false [.ptr 5 0 0])), (.B 4, .b 0 false [.row 4 1 0]), (.R 4 1, .r 0 (some ⟨false, .any, true, 42, (.pair .str (.sl 3 (.int .i64))), y0⟩)), (.B 5, .b 0 false [.row 5 1 0]), (.R 5 1, .r 0 (some ⟨false, .any, true, 42, (.pair .str (.sl 3 (.int .i64))), (valO (g_Ls_l20Sto_1 y0 y2 y3 y1))⟩)), (.B 0, .b 0 false [.sl .any 5 (.int .u8) y2, .int .i64 y3])]))
  | b, h => Os_l20Sto_0 b h
theorem bs_l20Sto_1 (y0 : List ((ByteArray) × (List (Int)))) (y1 : List ((ByteArray) × (List (Int)))) (y2 : List (Int)) (y3 : Int) : Tr.bt Es_l20Sto Os_l20Sto_0 (exec Es_l20Sto 1 cs_l20Sto_1 (St.of (hs_l20Sto_1 y0 y1 y2 y3)) (leafRd Es_l20Sto 1)) = (g_Ss_l20Sto_1 y0 y2 y3 y1).bt (fun (y1 : (List ((ByteArray) × (List (Int))))) => (hs_l20Sto_1 y0 y1 y2 y3)) (xs_l20Sto_1 y0 y2 y3) := by kernel_rfl
theorem ks_l20Sto_1 : OrcOk Es_l20Sto Os_l20Sto_1 lss_l20Sto 1 := orc_add ks_l20Sto_0 (fun n p hp h ex h' ho => by
  obtain ⟨b, c⟩ := p
  obtain ⟨xt, h1, h2⟩ := ho
  have h1 : Os_l20Sto_1 b h = some (true, xt) := h1
  unfold Os_l20Sto_1 at h1
  split at h1
  · injection h1 with h1
    injection h1 with e1 e2
    subst e2
    have hc : c = cs_l20Sto_1 := ms_l20Sto_1 _ hp rfl
    subst hc
    right
    rename_i y0 y1 y2 y3
    have key := LT_step ks_l20Sto_0 hp (fun q hq => loopsAll_in _ _ _ _ hp hq) (fun (y1 : (List ((ByteArray) × (List (Int))))) => (hs_l20Sto_1 y0 y1 y2 y3)) (xs_l20Sto_1 y0 y2 y3) (g_Ss_l20Sto_1 y0 y2 y3) (fun x => by first | exact bs_l20Sto_1 y0 x y2 y3) n (x := y1) (okO_some e1)
    have hx : ∀ r, XT.sel (.leaf (.exit 1) [(.T 0, .t (.val false [.ptr 0 0 0])), (.T 4, .t (.val false [.ptr 4 0 0])), (.T 5, .t (.val false [.ptr 5 0 0])), (.B 4, .b 0 false [.row 4 1 0]), (.R 4 1, .r 0 (some ⟨false, .any, true, 42, (.pair .str (.sl 3 (.int .i64))), y0⟩)), (.B 5, .b 0 false [.row 5 1 0]), (.R 5 1, .r 0 (some ⟨false, .any, true, 42, (.pair .str (.sl 3 (.int .i64))), r⟩)), (.B 0, .b 0 false [.sl .any 5 (.int .u8) y2, .int .i64 y3])]) = xs_l20Sto_1 y0 y2 y3 r := fun r => by first | rfl | (rcases r with r | r <;> rfl) | (rcases r with r | r | r <;> rfl) | (rcases r with r | r | r | r <;> rfl)
    have h3 := (hx (valO (g_Ls_l20Sto_1 y0 y2 y3 y1))).symm.trans h2
    have e3 := congrArg Prod.fst h3
    have e4 := congrArg Prod.snd h3
    simp only at e3 e4
    rw [← e3, ← e4]
    exact key
  · exact .inl ⟨xt, h1, h2⟩)
noncomputable def g_As_l20Sto (r0 : List Int) (r1 : Int) (a2 : Int) : Bool := g_As_l20Writes r0 r1 (0 : Int) && (g_As_l20Writes r0 (g_Vs_l20Writes_2 r0 r1 (0 : Int)) (0 : Int) && (decide ((List.length (g_Vs_l20Writes_0 r0 r1 (0 : Int)) + List.length (g_Vs_l20Writes_0 r0 (g_Vs_l20Writes_2 r0 r1 (0 : Int)) (0 : Int))) * nat_lit 48 ≤ nat_lit 140737488355328 ∧ List.length (g_Vs_l20Writes_0 r0 r1 (0 : Int)) + List.length (g_Vs_l20Writes_0 r0 (g_Vs_l20Writes_2 r0 r1 (0 : Int)) (0 : Int)) ≤ nat_lit 9223372036854775807) && (g_As_StoDo [] (g_Vs_l20Writes_0 r0 r1 (0 : Int) ++ g_Vs_l20Writes_0 r0 (g_Vs_l20Writes_2 r0 r1 (0 : Int)) (0 : Int)) && (g_As_l20Rd_odd r0 (g_Vs_l20Writes_2 r0 (g_Vs_l20Writes_2 r0 r1 (0 : Int)) (0 : Int)) a2 && (!g_Vs_l20Rd_odd_0 r0 (g_Vs_l20Writes_2 r0 (g_Vs_l20Writes_2 r0 r1 (0 : Int)) (0 : Int)) a2 || g_pickA r0 (g_Vs_l20Rd_odd_2 r0 (g_Vs_l20Writes_2 r0 (g_Vs_l20Writes_2 r0 r1 (0 : Int)) (0 : Int)) a2) (3 : Int) && bif g_pick r0 (g_Vs_l20Rd_odd_2 r0 (g_Vs_l20Writes_2 r0 (g_Vs_l20Writes_2 r0 r1 (0 : Int)) (0 : Int)) a2) (3 : Int) == (0 : Int) then decide ((List.length (g_Vs_StoDo_0 [] (g_Vs_l20Writes_0 r0 r1 (0 : Int) ++ g_Vs_l20Writes_0 r0 (g_Vs_l20Writes_2 r0 r1 (0 : Int)) (0 : Int))) + nat_lit 1) * nat_lit 40 ≤ nat_lit 140737488355328 ∧ List.length (g_Vs_StoDo_0 [] (g_Vs_l20Writes_0 r0 r1 (0 : Int) ++ g_Vs_l20Writes_0 r0 (g_Vs_l20Writes_2 r0 r1 (0 : Int)) (0 : Int))) + nat_lit 1 ≤ nat_lit 9223372036854775807) else bif g_pick r0 (g_Vs_l20Rd_odd_2 r0 (g_Vs_l20Writes_2 r0 (g_Vs_l20Writes_2 r0 r1 (0 : Int)) (0 : Int)) a2) (3 : Int) == (1 : Int) then g_As_l20Val r0 (IntKind.wrap IntKind.i64 (g_Vs_l20Rd_odd_2 r0 (g_Vs_l20Writes_2 r0 (g_Vs_l20Writes_2 r0 r1 (0 : Int)) (0 : Int)) a2 + (1 : Int))) (1 : Int) && decide ((List.length (g_Vs_StoDo_0 [] (g_Vs_l20Writes_0 r0 r1 (0 : Int) ++ g_Vs_l20Writes_0 r0 (g_Vs_l20Writes_2 r0 r1 (0 : Int)) (0 : Int))) + List.length [(lit [(122 : Nat), (57 : Nat)], g_Vs_l20Val_0 r0 (IntKind.wrap IntKind.i64 (g_Vs_l20Rd_odd_2 r0 (g_Vs_l20Writes_2 r0 (g_Vs_l20Writes_2 r0 r1 (0 : Int)) (0 : Int)) a2 + (1 : Int))) (1 : Int))]) * nat_lit 40 ≤ nat_lit 140737488355328 ∧ List.length (g_Vs_StoDo_0 [] (g_Vs_l20Writes_0 r0 r1 (0 : Int) ++ g_Vs_l20Writes_0 r0 (g_Vs_l20Writes_2 r0 r1 (0 : Int)) (0 : Int))) + List.length [(lit [(122 : Nat), (57 : Nat)], g_Vs_l20Val_0 r0 (IntKind.wrap IntKind.i64 (g_Vs_l20Rd_odd_2 r0 (g_Vs_l20Writes_2 r0 (g_Vs_l20Writes_2 r0 r1 (0 : Int)) (0 : Int)) a2 + (1 : Int))) (1 : Int))] ≤ nat_lit 9223372036854775807) else okO (g_Ls_l20Sto_1 [] r0 (IntKind.wrap IntKind.i64 (g_Vs_l20Rd_odd_2 r0 (g_Vs_l20Writes_2 r0 (g_Vs_l20Writes_2 r0 r1 (0 : Int)) (0 : Int)) a2 + (1 : Int))) (g_Vs_StoDo_0 [] (g_Vs_l20Writes_0 r0 r1 (0 : Int) ++ g_Vs_l20Writes_0 r0 (g_Vs_l20Writes_2 r0 r1 (0 : Int)) (0 : Int)))))))))
noncomputable def g_Vs_l20Sto_0 (r0 : List Int) (r1 : Int) (a2 : Int) : List ((ByteArray) × (List (Int))) := bif g_Vs_l20Rd_odd_0 r0 (g_Vs_l20Writes_2 r0 (g_Vs_l20Writes_2 r0 r1 (0 : Int)) (0 : Int)) a2 then bif g_pick r0 (g_Vs_l20Rd_odd_2 r0 (g_Vs_l20Writes_2 r0 (g_Vs_l20Writes_2 r0 r1 (0 : Int)) (0 : Int)) a2) (3 : Int) == (0 : Int) then g_Vs_StoDo_0 [] (g_Vs_l20Writes_0 r0 r1 (0 : Int) ++ g_Vs_l20Writes_0 r0 (g_Vs_l20Writes_2 r0 r1 (0 : Int)) (0 : Int)) ++ [(lit [(97 : Nat), (48 : Nat)], [(1 : Int)])] else bif g_pick r0 (g_Vs_l20Rd_odd_2 r0 (g_Vs_l20Writes_2 r0 (g_Vs_l20Writes_2 r0 r1 (0 : Int)) (0 : Int)) a2) (3 : Int) == (1 : Int) then g_Vs_StoDo_0 [] (g_Vs_l20Writes_0 r0 r1 (0 : Int) ++ g_Vs_l20Writes_0 r0 (g_Vs_l20Writes_2 r0 r1 (0 : Int)) (0 : Int)) ++ [(lit [(122 : Nat), (57 : Nat)], g_Vs_l20Val_0 r0 (IntKind.wrap IntKind.i64 (g_Vs_l20Rd_odd_2 r0 (g_Vs_l20Writes_2 r0 (g_Vs_l20Writes_2 r0 r1 (0 : Int)) (0 : Int)) a2 + (1 : Int))) (1 : Int))] else valO (g_Ls_l20Sto_1 [] r0 (IntKind.wrap IntKind.i64 (g_Vs_l20Rd_odd_2 r0 (g_Vs_l20Writes_2 r0 (g_Vs_l20Writes_2 r0 r1 (0 : Int)) (0 : Int)) a2 + (1 : Int))) (g_Vs_StoDo_0 [] (g_Vs_l20Writes_0 r0 r1 (0 : Int) ++ g_Vs_l20Writes_0 r0 (g_Vs_l20Writes_2 r0 r1 (0 : Int)) (0 : Int)))) else g_Vs_StoDo_0 [] (g_Vs_l20Writes_0 r0 r1 (0 : Int) ++ g_Vs_l20Writes_0 r0 (g_Vs_l20Writes_2 r0 r1 (0 : Int)) (0 : Int))
noncomputable def g_Vs_l20Sto_1 (r0 : List Int) (r1 : Int) (a2 : Int) : List (Int) := bif g_Vs_l20Rd_odd_0 r0 (g_Vs_l20Writes_2 r0 (g_Vs_l20Writes_2 r0 r1 (0 : Int)) (0 : Int)) a2 then bif g_pick r0 (g_Vs_l20Rd_odd_2 r0 (g_Vs_l20Writes_2 r0 (g_Vs_l20Writes_2 r0 r1 (0 : Int)) (0 : Int)) a2) (3 : Int) == (0 : Int) then r0 else bif g_pick r0 (g_Vs_l20Rd_odd_2 r0 (g_Vs_l20Writes_2 r0 (g_Vs_l20Writes_2 r0 r1 (0 : Int)) (0 : Int)) a2) (3 : Int) == (1 : Int) then r0 else r0 else r0
noncomputable def g_Vs_l20Sto_2 (r0 : List Int) (r1 : Int) (a2 : Int) : Int := bif g_Vs_l20Rd_odd_0 r0 (g_Vs_l20Writes_2 r0 (g_Vs_l20Writes_2 r0 r1 (0 : Int)) (0 : Int)) a2 then bif g_pick r0 (g_Vs_l20Rd_odd_2 r0 (g_Vs_l20Writes_2 r0 (g_Vs_l20Writes_2 r0 r1 (0 : Int)) (0 : Int)) a2) (3 : Int) == (0 : Int) then IntKind.wrap IntKind.i64 (g_Vs_l20Rd_odd_2 r0 (g_Vs_l20Writes_2 r0 (g_Vs_l20Writes_2 r0 r1 (0 : Int)) (0 : Int)) a2 + (1 : Int)) else bif g_pick r0 (g_Vs_l20Rd_odd_2 r0 (g_Vs_l20Writes_2 r0 (g_Vs_l20Writes_2 r0 r1 (0 : Int)) (0 : Int)) a2) (3 : Int) == (1 : Int) then g_Vs_l20Val_2 r0 (IntKind.wrap IntKind.i64 (g_Vs_l20Rd_odd_2 r0 (g_Vs_l20Writes_2 r0 (g_Vs_l20Writes_2 r0 r1 (0 : Int)) (0 : Int)) a2 + (1 : Int))) (1 : Int) else IntKind.wrap IntKind.i64 (g_Vs_l20Rd_odd_2 r0 (g_Vs_l20Writes_2 r0 (g_Vs_l20Writes_2 r0 r1 (0 : Int)) (0 : Int)) a2 + (1 : Int)) else g_Vs_l20Rd_odd_2 r0 (g_Vs_l20Writes_2 r0 (g_Vs_l20Writes_2 r0 r1 (0 : Int)) (0 : Int)) a2
noncomputable def Fs_l20Sto : FSem := fun ys => match ys with
  | [.val true [.sl .any 5 (.int .u8) r0, .int .i64 r1], .val false [.int .i64 a2]] => some ((g_As_l20Sto r0 r1 a2), .val true [.sl .any 42 (.pair .str (.sl 3 (.int .i64))) (g_Vs_l20Sto_0 r0 r1 a2)], [[.sl .any 5 (.int .u8) (g_Vs_l20Sto_1 r0 r1 a2), .int .i64 (g_Vs_l20Sto_2 r0 r1 a2)]])
  | _ => none
theorem vs_l20Sto (r0 : List Int) (r1 : Int) (a2 : Int) : collapseH .fr Es_l20Sto Os_l20Sto_1 (execFn Es_l20Sto Go.Proofs.Tryd.f15 mss_l20Sto [.val true [.sl .any 5 (.int .u8) r0, .int .i64 r1], .val false [.int .i64 a2]]) = some ((g_As_l20Sto r0 r1 a2), .val true [.sl .any 42 (.pair .str (.sl 3 (.int .i64))) (g_Vs_l20Sto_0 r0 r1 a2)], [[.sl .any 5 (.int .u8) (g_Vs_l20Sto_1 r0 r1 a2), .int .i64 (g_Vs_l20Sto_2 r0 r1 a2)]]) := by kernel_rfl
theorem ss_l20Sto : Sound Go.Proofs.Tryd.prog 15 mss_l20Sto Fs_l20Sto := by
  refine fn_gen goods_l20Sto (by kernel_rfl) .fr (fn := Go.Proofs.Tryd.f15) (c := (Go.Proofs.Tryd.f15.body.getD .skip)) (o := Os_l20Sto_1) (k := 1) (by kernel_rfl) (by kernel_rfl) (by kernel_rfl) (by kernel_rfl) (by decide) ks_l20Sto_1 ?_
  intro ys r outs h
  unfold Fs_l20Sto at h
  split at h
  · exact (vs_l20Sto _ _ _).trans h
  · cases h
end Go.Proofs.YtnbcdkbjmpadmaaDoor.E
end
section
namespace Go.Proofs.YtnbcdkbjmpadmaaDoor.E
open Go
set_option maxRecDepth 100000
set_option linter.all false
noncomputable def mss_l20StoR : List PM := mss_l20Sto
theorem sames_l20Sto (r0 : List Int) (r1 : Int) (a2 : Int) : g_Vs_l20Sto_1 r0 r1 a2 = r0 := by
  unfold g_Vs_l20Sto_1
  simp only [Bool.cond_self]
noncomputable def Fs_l20StoR : FSem := fun ys => match ys with
  | [.val true [.sl .any 5 (.int .u8) r0, .int .i64 r1], .val false [.int .i64 a2]] => some ((g_As_l20Sto r0 r1 a2), .val true [.sl .any 42 (.pair .str (.sl 3 (.int .i64))) (g_Vs_l20Sto_0 r0 r1 a2)], [[.sl .any 5 (.int .u8) r0, .int .i64 (g_Vs_l20Sto_2 r0 r1 a2)]])
  | _ => none
theorem ss_l20StoR : Sound Go.Proofs.Tryd.prog 15 mss_l20StoR Fs_l20StoR := by
  refine ⟨ss_l20Sto.fn, fun w S ψ ys vs r outs hF hh hg => ss_l20Sto.calls w S ψ ys vs r outs (Eq.trans ?_ hF) hh hg⟩
  unfold Fs_l20StoR at hF ⊢
  split at hF
  · rename_i  r0 r1 a2
    show (some ((g_As_l20Sto r0 r1 a2), .val true [.sl .any 42 (.pair .str (.sl 3 (.int .i64))) (g_Vs_l20Sto_0 r0 r1 a2)], [[.sl .any 5 (.int .u8) (g_Vs_l20Sto_1 r0 r1 a2), .int .i64 (g_Vs_l20Sto_2 r0 r1 a2)]]) : Option (Bool × RV × List (List Cell))) = _
    rw [sames_l20Sto]
  · cases hF
end Go.Proofs.YtnbcdkbjmpadmaaDoor.E
end
section
namespace Go.Proofs.YtnbcdkbjmpadmaaDoor.E
open Go
set_option maxRecDepth 100000
set_option maxHeartbeats 0
set_option linter.all false
noncomputable def Es_DrawGloOk : Env where
  tt := mkTI Go.Proofs.Tryd.prog
  fn := fun f => match f with
    | 12 => some (mss_l20GloR, FSem.wk mss_l20GloR Fs_l20GloR)
    | 13 => some (mss_l20Rd_oddR, FSem.wk mss_l20Rd_oddR Fs_l20Rd_oddR)
    | 14 => some (mss_l20Rd_pick, FSem.wk mss_l20Rd_pick Fs_l20Rd_pick)
    | 15 => some (mss_l20StoR, FSem.wk mss_l20StoR Fs_l20StoR)
    | _ => none
  bxf := fun f => match f with
    | 11 => some (mss_l20Open, Fs_l20Open)
    | _ => none
  mv := []
  keep := fun _ => []
  keepB := fun _ => []
  keepX := fun _ => []
  keepXB := fun _ => []
theorem goodFs_DrawGloOk : ∀ f ms F, Es_DrawGloOk.fn f = some (ms, F) → Sound Go.Proofs.Tryd.prog f ms F := fun f ms F h => by
  unfold Es_DrawGloOk at h
  dsimp only at h
  split at h
  · injection h with h; injection h with e1 e2; subst e1 e2; exact Sound.wk ss_l20GloR
  · injection h with h; injection h with e1 e2; subst e1 e2; exact Sound.wk ss_l20Rd_oddR
  · injection h with h; injection h with e1 e2; subst e1 e2; exact Sound.wk ss_l20Rd_pick
  · injection h with h; injection h with e1 e2; subst e1 e2; exact Sound.wk ss_l20StoR
  · cases h
theorem goodBs_DrawGloOk : ∀ f ms F, Es_DrawGloOk.bxf f = some (ms, F) → SoundB Go.Proofs.Tryd.prog f ms F := fun f ms F h => by
  unfold Es_DrawGloOk at h
  dsimp only at h
  split at h
  · injection h with h; injection h with e1 e2; subst e1 e2; exact ss_l20Open
  · cases h
theorem goods_DrawGloOk : Good Go.Proofs.Tryd.prog Es_DrawGloOk := ⟨rfl, goodFs_DrawGloOk, goodBs_DrawGloOk⟩
noncomputable def Os_DrawGloOk_0 : Orc := fun _ _ => none
noncomputable def mss_DrawGloOk : List PM := [.fz]
noncomputable def lss_DrawGloOk : List (Nat × Code) := loopsAll 0 (Go.Proofs.Tryd.f4.body.getD .skip)

theorem ks_DrawGloOk_0 : OrcOk Es_DrawGloOk Os_DrawGloOk_0 lss_DrawGloOk 0 := orcOk_none
noncomputable def g_As_DrawGloOk (a0 : List (Int)) : Bool := g_As_l20Open a0 && (g_As_l20Glo (g_Vs_l20Open_0 a0) (g_Vs_l20Open_1 a0) && (g_As_l20Rd_odd (g_Vs_l20Open_0 a0) (g_Vs_l20Glo_1 (g_Vs_l20Open_0 a0) (g_Vs_l20Open_1 a0)) (2 : Int) && (!g_Vs_l20Rd_odd_0 (g_Vs_l20Open_0 a0) (g_Vs_l20Glo_1 (g_Vs_l20Open_0 a0) (g_Vs_l20Open_1 a0)) (2 : Int) || g_pickA (g_Vs_l20Open_0 a0) (g_Vs_l20Rd_odd_2 (g_Vs_l20Open_0 a0) (g_Vs_l20Glo_1 (g_Vs_l20Open_0 a0) (g_Vs_l20Open_1 a0)) (2 : Int)) (3 : Int) && bif g_pick (g_Vs_l20Open_0 a0) (g_Vs_l20Rd_odd_2 (g_Vs_l20Open_0 a0) (g_Vs_l20Glo_1 (g_Vs_l20Open_0 a0) (g_Vs_l20Open_1 a0)) (2 : Int)) (3 : Int) == (0 : Int) then decide ((0 : Int) ≤ (1 : Int) ∧ (1 : Int) ≤ (↑(List.length (g_Vs_l20Glo_0 (g_Vs_l20Open_0 a0) (g_Vs_l20Open_1 a0))) : Int)) else bif g_pick (g_Vs_l20Open_0 a0) (g_Vs_l20Rd_odd_2 (g_Vs_l20Open_0 a0) (g_Vs_l20Glo_1 (g_Vs_l20Open_0 a0) (g_Vs_l20Open_1 a0)) (2 : Int)) (3 : Int) == (1 : Int) then g_pickA (g_Vs_l20Open_0 a0) (IntKind.wrap IntKind.i64 (g_Vs_l20Rd_odd_2 (g_Vs_l20Open_0 a0) (g_Vs_l20Glo_1 (g_Vs_l20Open_0 a0) (g_Vs_l20Open_1 a0)) (2 : Int) + (1 : Int))) (3 : Int) && (g_As_l20Sto (g_Vs_l20Open_0 a0) (IntKind.wrap IntKind.i64 (IntKind.wrap IntKind.i64 (g_Vs_l20Rd_odd_2 (g_Vs_l20Open_0 a0) (g_Vs_l20Glo_1 (g_Vs_l20Open_0 a0) (g_Vs_l20Open_1 a0)) (2 : Int) + (1 : Int)) + (1 : Int))) (3 : Int) && (decide ((0 : Int) ≤ g_pick (g_Vs_l20Open_0 a0) (IntKind.wrap IntKind.i64 (g_Vs_l20Rd_odd_2 (g_Vs_l20Open_0 a0) (g_Vs_l20Glo_1 (g_Vs_l20Open_0 a0) (g_Vs_l20Open_1 a0)) (2 : Int) + (1 : Int))) (3 : Int) ∧ g_pick (g_Vs_l20Open_0 a0) (IntKind.wrap IntKind.i64 (g_Vs_l20Rd_odd_2 (g_Vs_l20Open_0 a0) (g_Vs_l20Glo_1 (g_Vs_l20Open_0 a0) (g_Vs_l20Open_1 a0)) (2 : Int) + (1 : Int))) (3 : Int) < (↑(List.length (g_Vs_l20Glo_0 (g_Vs_l20Open_0 a0) (g_Vs_l20Open_1 a0))) : Int)) && decide (Int.toNat (g_pick (g_Vs_l20Open_0 a0) (IntKind.wrap IntKind.i64 (g_Vs_l20Rd_odd_2 (g_Vs_l20Open_0 a0) (g_Vs_l20Glo_1 (g_Vs_l20Open_0 a0) (g_Vs_l20Open_1 a0)) (2 : Int) + (1 : Int))) (3 : Int)) < List.length (g_Vs_l20Glo_0 (g_Vs_l20Open_0 a0) (g_Vs_l20Open_1 a0))))) else decide ((List.length (g_Vs_l20Glo_0 (g_Vs_l20Open_0 a0) (g_Vs_l20Open_1 a0)) + nat_lit 1) * nat_lit 24 ≤ nat_lit 140737488355328 ∧ List.length (g_Vs_l20Glo_0 (g_Vs_l20Open_0 a0) (g_Vs_l20Open_1 a0)) + nat_lit 1 ≤ nat_lit 9223372036854775807))))
noncomputable def g_Vs_DrawGloOk_0 (a0 : List (Int)) : List (List ((ByteArray) × (List (Int)))) := bif g_Vs_l20Rd_odd_0 (g_Vs_l20Open_0 a0) (g_Vs_l20Glo_1 (g_Vs_l20Open_0 a0) (g_Vs_l20Open_1 a0)) (2 : Int) then bif g_pick (g_Vs_l20Open_0 a0) (g_Vs_l20Rd_odd_2 (g_Vs_l20Open_0 a0) (g_Vs_l20Glo_1 (g_Vs_l20Open_0 a0) (g_Vs_l20Open_1 a0)) (2 : Int)) (3 : Int) == (0 : Int) then List.drop (nat_lit 1) (List.take (List.length (g_Vs_l20Glo_0 (g_Vs_l20Open_0 a0) (g_Vs_l20Open_1 a0))) (g_Vs_l20Glo_0 (g_Vs_l20Open_0 a0) (g_Vs_l20Open_1 a0))) else bif g_pick (g_Vs_l20Open_0 a0) (g_Vs_l20Rd_odd_2 (g_Vs_l20Open_0 a0) (g_Vs_l20Glo_1 (g_Vs_l20Open_0 a0) (g_Vs_l20Open_1 a0)) (2 : Int)) (3 : Int) == (1 : Int) then List.set (g_Vs_l20Glo_0 (g_Vs_l20Open_0 a0) (g_Vs_l20Open_1 a0)) (Int.toNat (g_pick (g_Vs_l20Open_0 a0) (IntKind.wrap IntKind.i64 (g_Vs_l20Rd_odd_2 (g_Vs_l20Open_0 a0) (g_Vs_l20Glo_1 (g_Vs_l20Open_0 a0) (g_Vs_l20Open_1 a0)) (2 : Int) + (1 : Int))) (3 : Int))) (g_Vs_l20Sto_0 (g_Vs_l20Open_0 a0) (IntKind.wrap IntKind.i64 (IntKind.wrap IntKind.i64 (g_Vs_l20Rd_odd_2 (g_Vs_l20Open_0 a0) (g_Vs_l20Glo_1 (g_Vs_l20Open_0 a0) (g_Vs_l20Open_1 a0)) (2 : Int) + (1 : Int)) + (1 : Int))) (3 : Int)) else g_Vs_l20Glo_0 (g_Vs_l20Open_0 a0) (g_Vs_l20Open_1 a0) ++ [[]] else g_Vs_l20Glo_0 (g_Vs_l20Open_0 a0) (g_Vs_l20Open_1 a0)
noncomputable def Fs_DrawGloOk : FSem := fun ys => match ys with
  | [.val false [.sl .any 5 (.int .u8) a0]] => some ((g_As_DrawGloOk a0), .val false [.sl .any 30 (.sl 42 (.pair .str (.sl 3 (.int .i64)))) (g_Vs_DrawGloOk_0 a0)], [])
  | _ => none
theorem vs_DrawGloOk (a0 : List (Int)) : collapseH .fr Es_DrawGloOk Os_DrawGloOk_0 (execFn Es_DrawGloOk Go.Proofs.Tryd.f4 mss_DrawGloOk [.val false [.sl .any 5 (.int .u8) a0]]) = some ((g_As_DrawGloOk a0), .val false [.sl .any 30 (.sl 42 (.pair .str (.sl 3 (.int .i64)))) (g_Vs_DrawGloOk_0 a0)], []) := by kernel_rfl
theorem ss_DrawGloOk : Sound Go.Proofs.Tryd.prog 4 mss_DrawGloOk Fs_DrawGloOk := by
  refine fn_gen goods_DrawGloOk (by kernel_rfl) .fr (fn := Go.Proofs.Tryd.f4) (c := (Go.Proofs.Tryd.f4.body.getD .skip)) (o := Os_DrawGloOk_0) (k := 0) (by kernel_rfl) (by kernel_rfl) (by kernel_rfl) (by kernel_rfl) (by decide) ks_DrawGloOk_0 ?_
  intro ys r outs h
  unfold Fs_DrawGloOk at h
  split at h
  · exact (vs_DrawGloOk _).trans h
  · cases h
end Go.Proofs.YtnbcdkbjmpadmaaDoor.E
end
section
namespace Go.Proofs.YtnbcdkbjmpadmaaDoor.E
open Go
set_option maxRecDepth 100000
set_option maxHeartbeats 0
set_option linter.all false
noncomputable def Ew_jaInts : Env where
  tt := mkTI Go.Proofs.Tryd.prog
  fn := fun _ => none
  bxf := fun _ => none
  mv := []
  keep := fun b => match b with
    | 0 => [(0, false), (1, false), (5, false)]
    | _ => []
  keepB := fun b => match b with
    | 0 => []
    | _ => []
  keepX := fun b => match b with
    | 0 => [(4, false)]
    | _ => []
  keepXB := fun b => match b with
    | 0 => []
    | _ => []
theorem goodFw_jaInts : ∀ f ms F, Ew_jaInts.fn f = some (ms, F) → Sound Go.Proofs.Tryd.prog f ms F := fun f ms F h => by cases h
theorem goodBw_jaInts : ∀ f ms F, Ew_jaInts.bxf f = some (ms, F) → SoundB Go.Proofs.Tryd.prog f ms F := fun f ms F h => by cases h
theorem goodw_jaInts : Good Go.Proofs.Tryd.prog Ew_jaInts := ⟨rfl, goodFw_jaInts, goodBw_jaInts⟩
noncomputable def Ow_jaInts_0 : Orc := fun _ _ => none
noncomputable def msw_jaInts : List PM := [.rd, .rd]
noncomputable def lsw_jaInts : List (Nat × Code) := loopsAll 0 (Go.Proofs.Tryd.f31.body.getD .skip)
noncomputable def cw_jaInts_0 : Code := (loopOf 0 (Go.Proofs.Tryd.f31.body.getD .skip)).getD .skip
theorem lseqw_jaInts : lsw_jaInts = [(0, cw_jaInts_0)] := by kernel_rfl
theorem mw_jaInts_0 : ∀ p, p ∈ lsw_jaInts → p.1 = 0 → p.2 = cw_jaInts_0 := by
  intro p hp
  rw [lseqw_jaInts] at hp
  simp only [List.mem_cons, List.not_mem_nil, or_false] at hp
  subst hp; simp
theorem kw_jaInts_0 : OrcOk Ew_jaInts Ow_jaInts_0 lsw_jaInts 0 := orcOk_none
noncomputable def hw_jaInts_0 (y0 : List (Int)) (y1 : List (Int)) (y2 : Int) : List (Pl × LV) := [(.T 0, .t (.val false [.sl .any 3 (.int .i64) y0])), (.T 1, .t (.val false [.sl .any 3 (.int .i64) y1])), (.T 5, .t (.val false [.int .i64 y2]))]
noncomputable def g_Sw_jaInts_0 (y0 : List (Int)) (y1 : List (Int)) : ((Int)) → RT ((Int)) (((Bool)) ⊕ (Unit))
  | y2 => .br (true) (.br (decide (y2 < (↑(List.length y0) : Int))) (.br (decide ((0 : Int) ≤ y2 ∧ y2 < (↑(List.length y0) : Int))) (.br (decide ((0 : Int) ≤ y2 ∧ y2 < (↑(List.length y1) : Int))) (.br (true) (.br (at_ (Ty.int IntKind.i64) y0 (Int.toNat y2) != at_ (Ty.int IntKind.i64) y1 (Int.toNat y2)) (.out (.inl false)) (.br (true) (.go (IntKind.wrap IntKind.i64 (y2 + (1 : Int)))) (.bad))) (.bad)) (.bad)) (.bad)) (.out (.inr (())))) (.bad)
noncomputable def g_Lw_jaInts_0 (y0 : List (Int)) (y1 : List (Int)) (x : (Int)) : Option (((Bool)) ⊕ (Unit)) := loopO (g_Sw_jaInts_0 y0 y1) x
noncomputable def xw_jaInts_0 (y0 : List (Int)) (y1 : List (Int)) : (((Bool)) ⊕ (Unit)) → Ex × List (Pl × LV) := fun
  | .inl r => (.ret, [(.T 4, .t (.val false [.bool r]))])
  | .inr (r) => (.exit 0, [(.T 4, .t (.val false [.undef]))])
noncomputable def Ow_jaInts_1 : Orc := fun b h => match b, h with
  | 0, [(.T 0, .t (.val false [.sl .any 3 (.int .i64) y0])), (.T 1, .t (.val false [.sl .any 3 (.int .i64) y1])), (.T 5, .t (.val false [.int .i64 y2]))] => some (okO (g_Lw_jaInts_0 y0 y1 y2), (.br (isL (valO (g_Lw_jaInts_0 y0 y1 y2))) (.leaf .ret [(.T 4, .t (.val false [.bool (getL (valO (g_Lw_jaInts_0 y0 y1 y2)))]))]) (.leaf (.exit 0) [(.T 4, .t (.val false [.undef]))])))
  | b, h => Ow_jaInts_0 b h
theorem bw_jaInts_0 (y0 : List (Int)) (y1 : List (Int)) (y2 : Int) : Tr.bt Ew_jaInts Ow_jaInts_0 (exec Ew_jaInts 0 cw_jaInts_0 (St.of (hw_jaInts_0 y0 y1 y2)) (leafRd Ew_jaInts 0)) = (g_Sw_jaInts_0 y0 y1 y2).bt (fun (y2 : (Int)) => (hw_jaInts_0 y0 y1 y2)) (xw_jaInts_0 y0 y1) := by kernel_rfl
theorem kw_jaInts_1 : OrcOk Ew_jaInts Ow_jaInts_1 lsw_jaInts 1 := orc_add kw_jaInts_0 (fun n p hp h ex h' ho => by
  obtain ⟨b, c⟩ := p
  obtain ⟨xt, h1, h2⟩ := ho
  have h1 : Ow_jaInts_1 b h = some (true, xt) := h1
  unfold Ow_jaInts_1 at h1
  split at h1
  · injection h1 with h1
    injection h1 with e1 e2
    subst e2
    have hc : c = cw_jaInts_0 := mw_jaInts_0 _ hp rfl
    subst hc
    right
    rename_i y0 y1 y2
    have key := LT_step kw_jaInts_0 hp (fun q hq => loopsAll_in _ _ _ _ hp hq) (fun (y2 : (Int)) => (hw_jaInts_0 y0 y1 y2)) (xw_jaInts_0 y0 y1) (g_Sw_jaInts_0 y0 y1) (fun x => by first | exact bw_jaInts_0 y0 y1 x) n (x := y2) (okO_some e1)
    have hx : ∀ r, XT.sel (.br (isL r) (.leaf .ret [(.T 4, .t (.val false [.bool (getL r)]))]) (.leaf (.exit 0) [(.T 4, .t (.val false [.undef]))])) = xw_jaInts_0 y0 y1 r := fun r => by first | rfl | (rcases r with r | r <;> rfl) | (rcases r with r | r | r <;> rfl) | (rcases r with r | r | r | r <;> rfl)
    have h3 := (hx (valO (g_Lw_jaInts_0 y0 y1 y2))).symm.trans h2
    have e3 := congrArg Prod.fst h3
    have e4 := congrArg Prod.snd h3
    simp only at e3 e4
    rw [← e3, ← e4]
    exact key
  · exact .inl ⟨xt, h1, h2⟩)
noncomputable def g_Aw_jaInts (a0 : List (Int)) (a1 : List (Int)) : Bool := (↑(List.length a0) : Int) != (↑(List.length a1) : Int) || okO (g_Lw_jaInts_0 a0 a1 (0 : Int))
noncomputable def g_Vw_jaInts_0 (a0 : List (Int)) (a1 : List (Int)) : Bool := bif (↑(List.length a0) : Int) != (↑(List.length a1) : Int) then false else bif isL (valO (g_Lw_jaInts_0 a0 a1 (0 : Int))) then getL (valO (g_Lw_jaInts_0 a0 a1 (0 : Int))) else true
noncomputable def Fw_jaInts : FSem := fun ys => match ys with
  | [.val false [.sl .any 3 (.int .i64) a0], .val false [.sl .any 3 (.int .i64) a1]] => some ((g_Aw_jaInts a0 a1), .val false [.bool (g_Vw_jaInts_0 a0 a1)], [])
  | _ => none
theorem vw_jaInts (a0 : List (Int)) (a1 : List (Int)) : collapseH .std Ew_jaInts Ow_jaInts_1 (execFn Ew_jaInts Go.Proofs.Tryd.f31 msw_jaInts [.val false [.sl .any 3 (.int .i64) a0], .val false [.sl .any 3 (.int .i64) a1]]) = some ((g_Aw_jaInts a0 a1), .val false [.bool (g_Vw_jaInts_0 a0 a1)], []) := by kernel_rfl
theorem sw_jaInts : Sound Go.Proofs.Tryd.prog 31 msw_jaInts Fw_jaInts := by
  refine fn_gen goodw_jaInts (by kernel_rfl) .std (fn := Go.Proofs.Tryd.f31) (c := (Go.Proofs.Tryd.f31.body.getD .skip)) (o := Ow_jaInts_1) (k := 1) (by kernel_rfl) (by kernel_rfl) (by kernel_rfl) (by kernel_rfl) (by decide) kw_jaInts_1 ?_
  intro ys r outs h
  unfold Fw_jaInts at h
  split at h
  · exact (vw_jaInts _ _).trans h
  · cases h
end Go.Proofs.YtnbcdkbjmpadmaaDoor.E
end
section
namespace Go.Proofs.YtnbcdkbjmpadmaaDoor.E
open Go
set_option maxRecDepth 100000
set_option maxHeartbeats 0
set_option linter.all false
noncomputable def Ew_jaSto : Env where
  tt := mkTI Go.Proofs.Tryd.prog
  fn := fun f => match f with
    | 31 => some (msw_jaInts, FSem.wk msw_jaInts Fw_jaInts)
    | _ => none
  bxf := fun _ => none
  mv := []
  keep := fun b => match b with
    | 0 => [(2, false), (3, false), (5, false)]
    | _ => []
  keepB := fun b => match b with
    | 0 => [(2, false), (3, false)]
    | _ => []
  keepX := fun b => match b with
    | 0 => [(4, false)]
    | _ => []
  keepXB := fun b => match b with
    | 0 => []
    | _ => []
theorem goodFw_jaSto : ∀ f ms F, Ew_jaSto.fn f = some (ms, F) → Sound Go.Proofs.Tryd.prog f ms F := fun f ms F h => by
  unfold Ew_jaSto at h
  dsimp only at h
  split at h
  · injection h with h; injection h with e1 e2; subst e1 e2; exact Sound.wk sw_jaInts
  · cases h
theorem goodBw_jaSto : ∀ f ms F, Ew_jaSto.bxf f = some (ms, F) → SoundB Go.Proofs.Tryd.prog f ms F := fun f ms F h => by cases h
theorem goodw_jaSto : Good Go.Proofs.Tryd.prog Ew_jaSto := ⟨rfl, goodFw_jaSto, goodBw_jaSto⟩
noncomputable def Ow_jaSto_0 : Orc := fun _ _ => none
noncomputable def msw_jaSto : List PM := [.rd, .rd]
noncomputable def lsw_jaSto : List (Nat × Code) := loopsAll 0 (Go.Proofs.Tryd.f17.body.getD .skip)
noncomputable def cw_jaSto_0 : Code := (loopOf 0 (Go.Proofs.Tryd.f17.body.getD .skip)).getD .skip
theorem lseqw_jaSto : lsw_jaSto = [(0, cw_jaSto_0)] := by kernel_rfl
theorem mw_jaSto_0 : ∀ p, p ∈ lsw_jaSto → p.1 = 0 → p.2 = cw_jaSto_0 := by
  intro p hp
  rw [lseqw_jaSto] at hp
  simp only [List.mem_cons, List.not_mem_nil, or_false] at hp
  subst hp; simp
theorem kw_jaSto_0 : OrcOk Ew_jaSto Ow_jaSto_0 lsw_jaSto 0 := orcOk_none
noncomputable def hw_jaSto_0 (y0 : Int) (y1 : List ((ByteArray) × (List (Int)))) (y2 : List ((ByteArray) × (List (Int)))) : List (Pl × LV) := [(.T 2, .t (.val false [.ptr 2 0 0])), (.T 3, .t (.val false [.ptr 3 0 0])), (.T 5, .t (.val false [.int .i64 y0])), (.B 2, .b 0 false [.sl .any 42 (.pair .str (.sl 3 (.int .i64))) y1]), (.B 3, .b 0 false [.sl .any 42 (.pair .str (.sl 3 (.int .i64))) y2])]
noncomputable def g_Sw_jaSto_0 (y1 : List ((ByteArray) × (List (Int)))) (y2 : List ((ByteArray) × (List (Int)))) : ((Int)) → RT ((Int)) (((Bool)) ⊕ (Unit))
  | y0 => .br (true) (.br (decide (y0 < (↑(List.length y1) : Int))) (.br (decide ((0 : Int) ≤ y0 ∧ y0 < (↑(List.length y1) : Int))) (.br (decide ((0 : Int) ≤ y0 ∧ y0 < (↑(List.length y2) : Int))) (.br (true) (.br (!ByteArray.toList (at_ (Ty.pair Ty.str (Ty.sl (nat_lit 3) (Ty.int IntKind.i64))) y1 (Int.toNat y0)).1 == ByteArray.toList (at_ (Ty.pair Ty.str (Ty.sl (nat_lit 3) (Ty.int IntKind.i64))) y2 (Int.toNat y0)).1) (.out (.inl false)) (.br (decide ((0 : Int) ≤ y0 ∧ y0 < (↑(List.length y1) : Int))) (.br (decide ((0 : Int) ≤ y0 ∧ y0 < (↑(List.length y2) : Int))) (.br (g_Aw_jaInts (at_ (Ty.pair Ty.str (Ty.sl (nat_lit 3) (Ty.int IntKind.i64))) y1 (Int.toNat y0)).2 (at_ (Ty.pair Ty.str (Ty.sl (nat_lit 3) (Ty.int IntKind.i64))) y2 (Int.toNat y0)).2) (.br (!g_Vw_jaInts_0 (at_ (Ty.pair Ty.str (Ty.sl (nat_lit 3) (Ty.int IntKind.i64))) y1 (Int.toNat y0)).2 (at_ (Ty.pair Ty.str (Ty.sl (nat_lit 3) (Ty.int IntKind.i64))) y2 (Int.toNat y0)).2) (.out (.inl false)) (.br (true) (.go (IntKind.wrap IntKind.i64 (y0 + (1 : Int)))) (.bad))) (.bad)) (.bad)) (.bad))) (.bad)) (.bad)) (.bad)) (.out (.inr (())))) (.bad)
noncomputable def g_Lw_jaSto_0 (y1 : List ((ByteArray) × (List (Int)))) (y2 : List ((ByteArray) × (List (Int)))) (x : (Int)) : Option (((Bool)) ⊕ (Unit)) := loopO (g_Sw_jaSto_0 y1 y2) x
noncomputable def xw_jaSto_0 (y1 : List ((ByteArray) × (List (Int)))) (y2 : List ((ByteArray) × (List (Int)))) : (((Bool)) ⊕ (Unit)) → Ex × List (Pl × LV) := fun
  | .inl r => (.ret, [(.T 4, .t (.val false [.bool r]))])
  | .inr (r) => (.exit 0, [(.T 4, .t (.val false [.undef]))])
noncomputable def Ow_jaSto_1 : Orc := fun b h => match b, h with
  | 0, [(.T 2, .t (.val false [.ptr 2 0 0])), (.T 3, .t (.val false [.ptr 3 0 0])), (.T 5, .t (.val false [.int .i64 y0])), (.B 2, .b 0 false [.sl .any 42 (.pair .str (.sl 3 (.int .i64))) y1]), (.B 3, .b 0 false [.sl .any 42 (.pair .str (.sl 3 (.int .i64))) y2])] => some (okO (g_Lw_jaSto_0 y1 y2 y0), (.br (isL (valO (g_Lw_jaSto_0 y1 y2 y0))) (.leaf .ret [(.T 4, .t (.val false [.bool (getL (valO (g_Lw_jaSto_0 y1 y2 y0)))]))]) (.leaf (.exit 0) [(.T 4, .t (.val false [.undef]))])))
  | b, h => Ow_jaSto_0 b h
theorem bw_jaSto_0 (y0 : Int) (y1 : List ((ByteArray) × (List (Int)))) (y2 : List ((ByteArray) × (List (Int)))) : Tr.bt Ew_jaSto Ow_jaSto_0 (exec Ew_jaSto 0 cw_jaSto_0 (St.of (hw_jaSto_0 y0 y1 y2)) (leafRd Ew_jaSto 0)) = (g_Sw_jaSto_0 y1 y2 y0).bt (fun (y0 : (Int)) => (hw_jaSto_0 y0 y1 y2)) (xw_jaSto_0 y1 y2) := by kernel_rfl
theorem kw_jaSto_1 : OrcOk Ew_jaSto Ow_jaSto_1 lsw_jaSto 1 := orc_add kw_jaSto_0 (fun n p hp h ex h' ho => by
  obtain ⟨b, c⟩ := p
  obtain ⟨xt, h1, h2⟩ := ho
  have h1 : Ow_jaSto_1 b h = some (true, xt) := h1
  unfold Ow_jaSto_1 at h1
  split at h1
  · injection h1 with h1
    injection h1 with e1 e2
    subst e2
    have hc : c = cw_jaSto_0 := mw_jaSto_0 _ hp rfl
    subst hc
    right
    rename_i y0 y1 y2
    have key := LT_step kw_jaSto_0 hp (fun q hq => loopsAll_in _ _ _ _ hp hq) (fun (y0 : (Int)) => (hw_jaSto_0 y0 y1 y2)) (xw_jaSto_0 y1 y2) (g_Sw_jaSto_0 y1 y2) (fun x => by first | exact bw_jaSto_0 x y1 y2) n (x := y0) (okO_some e1)
    have hx : ∀ r, XT.sel (.br (isL r) (.leaf .ret [(.T 4, .t (.val false [.bool (getL r)]))]) (.leaf (.exit 0) [(.T 4, .t (.val false [.undef]))])) = xw_jaSto_0 y1 y2 r := fun r => by first | rfl | (rcases r with r | r <;> rfl) | (rcases r with r | r | r <;> rfl) | (rcases r with r | r | r | r <;> rfl)
    have h3 := (hx (valO (g_Lw_jaSto_0 y1 y2 y0))).symm.trans h2
    have e3 := congrArg Prod.fst h3
    have e4 := congrArg Prod.snd h3
    simp only at e3 e4
    rw [← e3, ← e4]
    exact key
  · exact .inl ⟨xt, h1, h2⟩)
noncomputable def g_Aw_jaSto (a0 : List ((ByteArray) × (List (Int)))) (a1 : List ((ByteArray) × (List (Int)))) : Bool := (↑(List.length a0) : Int) != (↑(List.length a1) : Int) || okO (g_Lw_jaSto_0 a0 a1 (0 : Int))
noncomputable def g_Vw_jaSto_0 (a0 : List ((ByteArray) × (List (Int)))) (a1 : List ((ByteArray) × (List (Int)))) : Bool := bif (↑(List.length a0) : Int) != (↑(List.length a1) : Int) then false else bif isL (valO (g_Lw_jaSto_0 a0 a1 (0 : Int))) then getL (valO (g_Lw_jaSto_0 a0 a1 (0 : Int))) else true
noncomputable def Fw_jaSto : FSem := fun ys => match ys with
  | [.val true [.sl .any 42 (.pair .str (.sl 3 (.int .i64))) a0], .val true [.sl .any 42 (.pair .str (.sl 3 (.int .i64))) a1]] => some ((g_Aw_jaSto a0 a1), .val false [.bool (g_Vw_jaSto_0 a0 a1)], [])
  | _ => none
theorem vw_jaSto (a0 : List ((ByteArray) × (List (Int)))) (a1 : List ((ByteArray) × (List (Int)))) : collapseH .std Ew_jaSto Ow_jaSto_1 (execFn Ew_jaSto Go.Proofs.Tryd.f17 msw_jaSto [.val true [.sl .any 42 (.pair .str (.sl 3 (.int .i64))) a0], .val true [.sl .any 42 (.pair .str (.sl 3 (.int .i64))) a1]]) = some ((g_Aw_jaSto a0 a1), .val false [.bool (g_Vw_jaSto_0 a0 a1)], []) := by kernel_rfl
theorem sw_jaSto : Sound Go.Proofs.Tryd.prog 17 msw_jaSto Fw_jaSto := by
  refine fn_gen goodw_jaSto (by kernel_rfl) .std (fn := Go.Proofs.Tryd.f17) (c := (Go.Proofs.Tryd.f17.body.getD .skip)) (o := Ow_jaSto_1) (k := 1) (by kernel_rfl) (by kernel_rfl) (by kernel_rfl) (by kernel_rfl) (by decide) kw_jaSto_1 ?_
  intro ys r outs h
  unfold Fw_jaSto at h
  split at h
  · exact (vw_jaSto _ _).trans h
  · cases h
end Go.Proofs.YtnbcdkbjmpadmaaDoor.E
end
section
namespace Go.Proofs.YtnbcdkbjmpadmaaDoor.E
open Go
set_option maxRecDepth 100000
set_option maxHeartbeats 0
set_option linter.all false
noncomputable def Ew_jaStos : Env where
  tt := mkTI Go.Proofs.Tryd.prog
  fn := fun f => match f with
    | 17 => some (msw_jaSto, FSem.wk msw_jaSto Fw_jaSto)
    | _ => none
  bxf := fun _ => none
  mv := []
  keep := fun b => match b with
    | 0 => [(0, false), (1, false), (5, false)]
    | _ => []
  keepB := fun b => match b with
    | 0 => []
    | _ => []
  keepX := fun b => match b with
    | 0 => [(4, false)]
    | _ => []
  keepXB := fun b => match b with
    | 0 => []
    | _ => []
theorem goodFw_jaStos : ∀ f ms F, Ew_jaStos.fn f = some (ms, F) → Sound Go.Proofs.Tryd.prog f ms F := fun f ms F h => by
  unfold Ew_jaStos at h
  dsimp only at h
  split at h
  · injection h with h; injection h with e1 e2; subst e1 e2; exact Sound.wk sw_jaSto
  · cases h
theorem goodBw_jaStos : ∀ f ms F, Ew_jaStos.bxf f = some (ms, F) → SoundB Go.Proofs.Tryd.prog f ms F := fun f ms F h => by cases h
theorem goodw_jaStos : Good Go.Proofs.Tryd.prog Ew_jaStos := ⟨rfl, goodFw_jaStos, goodBw_jaStos⟩
noncomputable def Ow_jaStos_0 : Orc := fun _ _ => none
noncomputable def msw_jaStos : List PM := [.rd, .rd]
noncomputable def lsw_jaStos : List (Nat × Code) := loopsAll 0 (Go.Proofs.Tryd.f8.body.getD .skip)
noncomputable def cw_jaStos_0 : Code := (loopOf 0 (Go.Proofs.Tryd.f8.body.getD .skip)).getD .skip
theorem lseqw_jaStos : lsw_jaStos = [(0, cw_jaStos_0)] := by kernel_rfl
theorem mw_jaStos_0 : ∀ p, p ∈ lsw_jaStos → p.1 = 0 → p.2 = cw_jaStos_0 := by
  intro p hp
  rw [lseqw_jaStos] at hp
  simp only [List.mem_cons, List.not_mem_nil, or_false] at hp
  subst hp; simp
theorem kw_jaStos_0 : OrcOk Ew_jaStos Ow_jaStos_0 lsw_jaStos 0 := orcOk_none
noncomputable def hw_jaStos_0 (y0 : List (List ((ByteArray) × (List (Int))))) (y1 : List (List ((ByteArray) × (List (Int))))) (y2 : Int) : List (Pl × LV) := [(.T 0, .t (.val false [.sl .any 30 (.sl 42 (.pair .str (.sl 3 (.int .i64)))) y0])), (.T 1, .t (.val false [.sl .any 30 (.sl 42 (.pair .str (.sl 3 (.int .i64)))) y1])), (.T 5, .t (.val false [.int .i64 y2]))]
noncomputable def g_Sw_jaStos_0 (y0 : List (List ((ByteArray) × (List (Int))))) (y1 : List (List ((ByteArray) × (List (Int))))) : ((Int)) → RT ((Int)) (((Bool)) ⊕ (Unit))
  | y2 => .br (true) (.br (decide (y2 < (↑(List.length y0) : Int))) (.br (decide ((0 : Int) ≤ y2 ∧ y2 < (↑(List.length y0) : Int))) (.br (decide ((0 : Int) ≤ y2 ∧ y2 < (↑(List.length y1) : Int))) (.br (g_Aw_jaSto (at_ (Ty.sl (nat_lit 42) (Ty.pair Ty.str (Ty.sl (nat_lit 3) (Ty.int IntKind.i64)))) y0 (Int.toNat y2)) (at_ (Ty.sl (nat_lit 42) (Ty.pair Ty.str (Ty.sl (nat_lit 3) (Ty.int IntKind.i64)))) y1 (Int.toNat y2))) (.br (!g_Vw_jaSto_0 (at_ (Ty.sl (nat_lit 42) (Ty.pair Ty.str (Ty.sl (nat_lit 3) (Ty.int IntKind.i64)))) y0 (Int.toNat y2)) (at_ (Ty.sl (nat_lit 42) (Ty.pair Ty.str (Ty.sl (nat_lit 3) (Ty.int IntKind.i64)))) y1 (Int.toNat y2))) (.out (.inl false)) (.br (true) (.go (IntKind.wrap IntKind.i64 (y2 + (1 : Int)))) (.bad))) (.bad)) (.bad)) (.bad)) (.out (.inr (())))) (.bad)
noncomputable def g_Lw_jaStos_0 (y0 : List (List ((ByteArray) × (List (Int))))) (y1 : List (List ((ByteArray) × (List (Int))))) (x : (Int)) : Option (((Bool)) ⊕ (Unit)) := loopO (g_Sw_jaStos_0 y0 y1) x
noncomputable def xw_jaStos_0 (y0 : List (List ((ByteArray) × (List (Int))))) (y1 : List (List ((ByteArray) × (List (Int))))) : (((Bool)) ⊕ (Unit)) → Ex × List (Pl × LV) := fun
  | .inl r => (.ret, [(.T 4, .t (.val false [.bool r]))])
  | .inr (r) => (.exit 0, [(.T 4, .t (.val false [.undef]))])
noncomputable def Ow_jaStos_1 : Orc := fun b h => match b, h with
  | 0, [(.T 0, .t (.val false [.sl .any 30 (.sl 42 (.pair .str (.sl 3 (.int .i64)))) y0])), (.T 1, .t (.val false [.sl .any 30 (.sl 42 (.pair .str (.sl 3 (.int .i64)))) y1])), (.T 5, .t (.val false [.int .i64 y2]))] => some (okO (g_Lw_jaStos_0 y0 y1 y2), (.br (isL (valO (g_Lw_jaStos_0 y0 y1 y2))) (.leaf .ret [(.T 4, .t (.val false [.bool (getL (valO (g_Lw_jaStos_0 y0 y1 y2)))]))]) (.leaf (.exit 0) [(.T 4, .t (.val false [.undef]))])))
  | b, h => Ow_jaStos_0 b h
theorem bw_jaStos_0 (y0 : List (List ((ByteArray) × (List (Int))))) (y1 : List (List ((ByteArray) × (List (Int))))) (y2 : Int) : Tr.bt Ew_jaStos Ow_jaStos_0 (exec Ew_jaStos 0 cw_jaStos_0 (St.of (hw_jaStos_0 y0 y1 y2)) (leafRd Ew_jaStos 0)) = (g_Sw_jaStos_0 y0 y1 y2).bt (fun (y2 : (Int)) => (hw_jaStos_0 y0 y1 y2)) (xw_jaStos_0 y0 y1) := by kernel_rfl
theorem kw_jaStos_1 : OrcOk Ew_jaStos Ow_jaStos_1 lsw_jaStos 1 := orc_add kw_jaStos_0 (fun n p hp h ex h' ho => by
  obtain ⟨b, c⟩ := p
  obtain ⟨xt, h1, h2⟩ := ho
  have h1 : Ow_jaStos_1 b h = some (true, xt) := h1
  unfold Ow_jaStos_1 at h1
  split at h1
  · injection h1 with h1
    injection h1 with e1 e2
    subst e2
    have hc : c = cw_jaStos_0 := mw_jaStos_0 _ hp rfl
    subst hc
    right
    rename_i y0 y1 y2
    have key := LT_step kw_jaStos_0 hp (fun q hq => loopsAll_in _ _ _ _ hp hq) (fun (y2 : (Int)) => (hw_jaStos_0 y0 y1 y2)) (xw_jaStos_0 y0 y1) (g_Sw_jaStos_0 y0 y1) (fun x => by first | exact bw_jaStos_0 y0 y1 x) n (x := y2) (okO_some e1)
    have hx : ∀ r, XT.sel (.br (isL r) (.leaf .ret [(.T 4, .t (.val false [.bool (getL r)]))]) (.leaf (.exit 0) [(.T 4, .t (.val false [.undef]))])) = xw_jaStos_0 y0 y1 r := fun r => by first | rfl | (rcases r with r | r <;> rfl) | (rcases r with r | r | r <;> rfl) | (rcases r with r | r | r | r <;> rfl)
    have h3 := (hx (valO (g_Lw_jaStos_0 y0 y1 y2))).symm.trans h2
    have e3 := congrArg Prod.fst h3
    have e4 := congrArg Prod.snd h3
    simp only at e3 e4
    rw [← e3, ← e4]
    exact key
  · exact .inl ⟨xt, h1, h2⟩)
noncomputable def g_Aw_jaStos (a0 : List (List ((ByteArray) × (List (Int))))) (a1 : List (List ((ByteArray) × (List (Int))))) : Bool := (↑(List.length a0) : Int) != (↑(List.length a1) : Int) || okO (g_Lw_jaStos_0 a0 a1 (0 : Int))
noncomputable def g_Vw_jaStos_0 (a0 : List (List ((ByteArray) × (List (Int))))) (a1 : List (List ((ByteArray) × (List (Int))))) : Bool := bif (↑(List.length a0) : Int) != (↑(List.length a1) : Int) then false else bif isL (valO (g_Lw_jaStos_0 a0 a1 (0 : Int))) then getL (valO (g_Lw_jaStos_0 a0 a1 (0 : Int))) else true
noncomputable def Fw_jaStos : FSem := fun ys => match ys with
  | [.val false [.sl .any 30 (.sl 42 (.pair .str (.sl 3 (.int .i64)))) a0], .val false [.sl .any 30 (.sl 42 (.pair .str (.sl 3 (.int .i64)))) a1]] => some ((g_Aw_jaStos a0 a1), .val false [.bool (g_Vw_jaStos_0 a0 a1)], [])
  | _ => none
theorem vw_jaStos (a0 : List (List ((ByteArray) × (List (Int))))) (a1 : List (List ((ByteArray) × (List (Int))))) : collapseH .std Ew_jaStos Ow_jaStos_1 (execFn Ew_jaStos Go.Proofs.Tryd.f8 msw_jaStos [.val false [.sl .any 30 (.sl 42 (.pair .str (.sl 3 (.int .i64)))) a0], .val false [.sl .any 30 (.sl 42 (.pair .str (.sl 3 (.int .i64)))) a1]]) = some ((g_Aw_jaStos a0 a1), .val false [.bool (g_Vw_jaStos_0 a0 a1)], []) := by kernel_rfl
theorem sw_jaStos : Sound Go.Proofs.Tryd.prog 8 msw_jaStos Fw_jaStos := by
  refine fn_gen goodw_jaStos (by kernel_rfl) .std (fn := Go.Proofs.Tryd.f8) (c := (Go.Proofs.Tryd.f8.body.getD .skip)) (o := Ow_jaStos_1) (k := 1) (by kernel_rfl) (by kernel_rfl) (by kernel_rfl) (by kernel_rfl) (by decide) kw_jaStos_1 ?_
  intro ys r outs h
  unfold Fw_jaStos at h
  split at h
  · exact (vw_jaStos _ _).trans h
  · cases h
end Go.Proofs.YtnbcdkbjmpadmaaDoor.E
end
section
namespace Go.Proofs.YtnbcdkbjmpadmaaDoor.E
open Go
set_option maxRecDepth 100000
set_option maxHeartbeats 0
set_option linter.all false
noncomputable def Ew_FnGloOk : Env where
  tt := mkTI Go.Proofs.Tryd.prog
  fn := fun f => match f with
    | 4 => some (mss_DrawGloOk, FSem.wk mss_DrawGloOk Fs_DrawGloOk)
    | 5 => some (msi_GloOk, FSem.wk msi_GloOk Fi_GloOk)
    | 6 => some (mss_GloOk, FSem.wk mss_GloOk Fs_GloOk)
    | 7 => some (msi_GloNew, FSem.wk msi_GloNew Fi_GloNew)
    | 8 => some (msw_jaStos, FSem.wk msw_jaStos Fw_jaStos)
    | 9 => some (mss_GloNew, FSem.wk mss_GloNew Fs_GloNew)
    | 10 => some (msi_PlcOk, FSem.wk msi_PlcOk Fi_PlcOk)
    | _ => none
  bxf := fun _ => none
  mv := []
  keep := fun _ => []
  keepB := fun _ => []
  keepX := fun _ => []
  keepXB := fun _ => []
theorem goodFw_FnGloOk : ∀ f ms F, Ew_FnGloOk.fn f = some (ms, F) → Sound Go.Proofs.Tryd.prog f ms F := fun f ms F h => by
  unfold Ew_FnGloOk at h
  dsimp only at h
  split at h
  · injection h with h; injection h with e1 e2; subst e1 e2; exact Sound.wk ss_DrawGloOk
  · injection h with h; injection h with e1 e2; subst e1 e2; exact Sound.wk si_GloOk
  · injection h with h; injection h with e1 e2; subst e1 e2; exact Sound.wk ss_GloOk
  · injection h with h; injection h with e1 e2; subst e1 e2; exact Sound.wk si_GloNew
  · injection h with h; injection h with e1 e2; subst e1 e2; exact Sound.wk sw_jaStos
  · injection h with h; injection h with e1 e2; subst e1 e2; exact Sound.wk ss_GloNew
  · injection h with h; injection h with e1 e2; subst e1 e2; exact Sound.wk si_PlcOk
  · cases h
theorem goodBw_FnGloOk : ∀ f ms F, Ew_FnGloOk.bxf f = some (ms, F) → SoundB Go.Proofs.Tryd.prog f ms F := fun f ms F h => by cases h
theorem goodw_FnGloOk : Good Go.Proofs.Tryd.prog Ew_FnGloOk := ⟨rfl, goodFw_FnGloOk, goodBw_FnGloOk⟩
noncomputable def Ow_FnGloOk_0 : Orc := fun _ _ => none
noncomputable def msw_FnGloOk : List PM := [.rd]
noncomputable def lsw_FnGloOk : List (Nat × Code) := loopsAll 0 (Go.Proofs.Tryd.f3.body.getD .skip)

theorem kw_FnGloOk_0 : OrcOk Ew_FnGloOk Ow_FnGloOk_0 lsw_FnGloOk 0 := orcOk_none
noncomputable def g_Aw_FnGloOk (a0 : List (Int)) : Bool := decide ((↑(List.length a0) : Int) > (1048576 : Int)) || g_As_DrawGloOk a0 && (g_Ai_GloOk (g_Vs_DrawGloOk_0 a0) && (g_As_GloOk (g_Vs_DrawGloOk_0 a0) && (!g_Vi_GloOk_0 (g_Vs_DrawGloOk_0 a0) == g_Vs_GloOk_0 (g_Vs_DrawGloOk_0 a0) || g_Ai_GloOk g_Vi_GloNew_0 && (!g_Vi_GloOk_0 g_Vi_GloNew_0 || g_Aw_jaStos g_Vi_GloNew_0 g_Vs_GloNew_0 && (!g_Vw_jaStos_0 g_Vi_GloNew_0 g_Vs_GloNew_0 || (!g_Vi_GloOk_0 (g_Vs_DrawGloOk_0 a0) || decide ((0 : Int) ≤ (1 : Int) ∧ (1 : Int) ≤ (↑(List.length (g_Vs_DrawGloOk_0 a0)) : Int)) && (g_Ai_GloOk (List.drop (nat_lit 1) (List.take (List.length (g_Vs_DrawGloOk_0 a0)) (g_Vs_DrawGloOk_0 a0))) && (!!g_Vi_GloOk_0 (List.drop (nat_lit 1) (List.take (List.length (g_Vs_DrawGloOk_0 a0)) (g_Vs_DrawGloOk_0 a0))) || decide ((nat_lit 0 + List.length (g_Vs_DrawGloOk_0 a0)) * nat_lit 24 ≤ nat_lit 140737488355328 ∧ nat_lit 0 + List.length (g_Vs_DrawGloOk_0 a0) ≤ nat_lit 9223372036854775807) && (decide ((List.length ([] ++ g_Vs_DrawGloOk_0 a0) + nat_lit 1) * nat_lit 24 ≤ nat_lit 140737488355328 ∧ List.length ([] ++ g_Vs_DrawGloOk_0 a0) + nat_lit 1 ≤ nat_lit 9223372036854775807) && (g_Ai_GloOk ([] ++ g_Vs_DrawGloOk_0 a0 ++ [[]]) && (!!g_Vi_GloOk_0 ([] ++ g_Vs_DrawGloOk_0 a0 ++ [[]]) || decide ((0 : Int) ≤ (0 : Int) ∧ (0 : Int) < (↑(List.length (g_Vs_DrawGloOk_0 a0)) : Int)) && (g_Ai_PlcOk (1 : Int) (at_ (Ty.sl (nat_lit 42) (Ty.pair Ty.str (Ty.sl (nat_lit 3) (Ty.int IntKind.i64)))) (g_Vs_DrawGloOk_0 a0) (nat_lit 0)) && (!g_Vi_PlcOk_0 (1 : Int) (at_ (Ty.sl (nat_lit 42) (Ty.pair Ty.str (Ty.sl (nat_lit 3) (Ty.int IntKind.i64)))) (g_Vs_DrawGloOk_0 a0) (nat_lit 0)) || decide ((0 : Int) ≤ (1 : Int) ∧ (1 : Int) < (↑(List.length (g_Vs_DrawGloOk_0 a0)) : Int)) && (g_Ai_PlcOk (2 : Int) (at_ (Ty.sl (nat_lit 42) (Ty.pair Ty.str (Ty.sl (nat_lit 3) (Ty.int IntKind.i64)))) (g_Vs_DrawGloOk_0 a0) (nat_lit 1)) && (!g_Vi_PlcOk_0 (2 : Int) (at_ (Ty.sl (nat_lit 42) (Ty.pair Ty.str (Ty.sl (nat_lit 3) (Ty.int IntKind.i64)))) (g_Vs_DrawGloOk_0 a0) (nat_lit 1)) || decide ((0 : Int) ≤ (2 : Int) ∧ (2 : Int) < (↑(List.length (g_Vs_DrawGloOk_0 a0)) : Int)) && g_Ai_PlcOk (3 : Int) (at_ (Ty.sl (nat_lit 42) (Ty.pair Ty.str (Ty.sl (nat_lit 3) (Ty.int IntKind.i64)))) (g_Vs_DrawGloOk_0 a0) (nat_lit 2)))))))))))))))))
noncomputable def g_Vw_FnGloOk_0 (a0 : List (Int)) : Bool := bif decide ((↑(List.length a0) : Int) > (1048576 : Int)) then true else bif !g_Vi_GloOk_0 (g_Vs_DrawGloOk_0 a0) == g_Vs_GloOk_0 (g_Vs_DrawGloOk_0 a0) then false else bif !g_Vi_GloOk_0 g_Vi_GloNew_0 then false else bif !g_Vw_jaStos_0 g_Vi_GloNew_0 g_Vs_GloNew_0 then false else bif !g_Vi_GloOk_0 (g_Vs_DrawGloOk_0 a0) then true else bif !g_Vi_GloOk_0 (List.drop (nat_lit 1) (List.take (List.length (g_Vs_DrawGloOk_0 a0)) (g_Vs_DrawGloOk_0 a0))) then bif !g_Vi_GloOk_0 ([] ++ g_Vs_DrawGloOk_0 a0 ++ [[]]) then bif g_Vi_PlcOk_0 (1 : Int) (at_ (Ty.sl (nat_lit 42) (Ty.pair Ty.str (Ty.sl (nat_lit 3) (Ty.int IntKind.i64)))) (g_Vs_DrawGloOk_0 a0) (nat_lit 0)) then bif g_Vi_PlcOk_0 (2 : Int) (at_ (Ty.sl (nat_lit 42) (Ty.pair Ty.str (Ty.sl (nat_lit 3) (Ty.int IntKind.i64)))) (g_Vs_DrawGloOk_0 a0) (nat_lit 1)) then g_Vi_PlcOk_0 (3 : Int) (at_ (Ty.sl (nat_lit 42) (Ty.pair Ty.str (Ty.sl (nat_lit 3) (Ty.int IntKind.i64)))) (g_Vs_DrawGloOk_0 a0) (nat_lit 2)) else false else false else false else false
noncomputable def Fw_FnGloOk : FSem := fun ys => match ys with
  | [.val false [.sl .any 5 (.int .u8) a0]] => some ((g_Aw_FnGloOk a0), .val false [.bool (g_Vw_FnGloOk_0 a0)], [])
  | _ => none
theorem vw_FnGloOk (a0 : List (Int)) : collapseH .std Ew_FnGloOk Ow_FnGloOk_0 (execFn Ew_FnGloOk Go.Proofs.Tryd.f3 msw_FnGloOk [.val false [.sl .any 5 (.int .u8) a0]]) = some ((g_Aw_FnGloOk a0), .val false [.bool (g_Vw_FnGloOk_0 a0)], []) := by kernel_rfl
theorem sw_FnGloOk : Sound Go.Proofs.Tryd.prog 3 msw_FnGloOk Fw_FnGloOk := by
  refine fn_gen goodw_FnGloOk (by kernel_rfl) .std (fn := Go.Proofs.Tryd.f3) (c := (Go.Proofs.Tryd.f3.body.getD .skip)) (o := Ow_FnGloOk_0) (k := 0) (by kernel_rfl) (by kernel_rfl) (by kernel_rfl) (by kernel_rfl) (by decide) kw_FnGloOk_0 ?_
  intro ys r outs h
  unfold Fw_FnGloOk at h
  split at h
  · exact (vw_FnGloOk _).trans h
  · cases h
end Go.Proofs.YtnbcdkbjmpadmaaDoor.E
end
