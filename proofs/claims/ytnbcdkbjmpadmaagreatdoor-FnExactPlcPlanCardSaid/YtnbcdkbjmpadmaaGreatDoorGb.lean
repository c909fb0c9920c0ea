/- What the functions that are reached do, by the engine: for the proof (laws.FnExactPlcPlan): part 2. No conditions. -/
import Derived.Test.YtnbcdkbjmpadmaaGreatDoorGa
import Derived.Test.YtnbcdkbjmpadmaaGreatDoorProg
set_option linter.all false
section
namespace Go.Proofs.YtnbcdkbjmpadmaaGreatDoor.E
open Go
set_option maxRecDepth 100000
set_option maxHeartbeats 0
set_option linter.all false
noncomputable def Es_l3Form : Env where
  tt := mkTI Go.Proofs.Tryz.prog
  fn := fun f => match f with
    | 31 => some (mss_l1In, FSem.wk mss_l1In Fs_l1In)
    | _ => none
  bxf := fun _ => none
  mv := []
  keep := fun b => match b with
    | 0 => [(0, false), (3, false), (5, false)]
    | _ => []
  keepB := fun b => match b with
    | 0 => [(3, false)]
    | _ => []
  keepX := fun b => match b with
    | 0 => [(4, false)]
    | _ => []
  keepXB := fun b => match b with
    | 0 => []
    | _ => []
theorem goodFs_l3Form : ∀ f ms F, Es_l3Form.fn f = some (ms, F) → Sound Go.Proofs.Tryz.prog f ms F := fun f ms F h => by
  unfold Es_l3Form at h
  dsimp only at h
  split at h
  · injection h with h; injection h with e1 e2; subst e1 e2; exact Sound.wk ss_l1In
  · cases h
theorem goodBs_l3Form : ∀ f ms F, Es_l3Form.bxf f = some (ms, F) → SoundB Go.Proofs.Tryz.prog f ms F := fun f ms F h => by cases h
theorem goods_l3Form : Good Go.Proofs.Tryz.prog Es_l3Form := ⟨rfl, goodFs_l3Form, goodBs_l3Form⟩
noncomputable def Os_l3Form_0 : Orc := fun _ _ => none
noncomputable def mss_l3Form : List PM := [.own, .rd]
noncomputable def lss_l3Form : List (Nat × Code) := loopsAll 0 (Go.Proofs.Tryz.f67.body.getD .skip)
noncomputable def cs_l3Form_0 : Code := (loopOf 0 (Go.Proofs.Tryz.f67.body.getD .skip)).getD .skip
theorem lseqs_l3Form : lss_l3Form = [(0, cs_l3Form_0)] := by kernel_rfl
theorem ms_l3Form_0 : ∀ p, p ∈ lss_l3Form → p.1 = 0 → p.2 = cs_l3Form_0 := by
  intro p hp
  rw [lseqs_l3Form] at hp
  simp only [List.mem_cons, List.not_mem_nil, or_false] at hp
  subst hp; simp
theorem ks_l3Form_0 : OrcOk Es_l3Form Os_l3Form_0 lss_l3Form 0 := orcOk_none
noncomputable def hs_l3Form_0 (y0 : Int) (y1 : Int) (y2 : List ((ByteArray) × (List (Int)))) : List (Pl × LV) := [(.T 0, .t (.val false [.int .i64 y0])), (.T 3, .t (.val false [.ptr 3 0 0])), (.T 5, .t (.val false [.int .i64 y1])), (.B 3, .b 0 false [.sl .any 60 (.pair .str (.sl 3 (.int .i64))) y2])]
noncomputable def g_Ss_l3Form_0 (y0 : Int) (y2 : List ((ByteArray) × (List (Int)))) : ((Int)) → RT ((Int)) (((Bool)) ⊕ (Unit))
  | y1 => .br (true) (.br (decide (y1 < (↑(List.length y2) : Int))) (.br (decide ((0 : Int) ≤ y1 ∧ y1 < (↑(List.length y2) : Int))) (.br (decide ((0 : Int) ≤ (0 : Int) ∧ (0 : Int) < (↑(ByteArray.size (at_ (Ty.pair Ty.str (Ty.sl (nat_lit 3) (Ty.int IntKind.i64))) y2 (Int.toNat y1)).1) : Int))) (.br (decide ((0 : Int) ≤ (0 : Int) ∧ (0 : Int) < (↑(List.length (at_ (Ty.pair Ty.str (Ty.sl (nat_lit 3) (Ty.int IntKind.i64))) y2 (Int.toNat y1)).2) : Int))) (.br (true) (.br (y0 == (1 : Int)) (.br (true) (.br (byteAt (at_ (Ty.pair Ty.str (Ty.sl (nat_lit 3) (Ty.int IntKind.i64))) y2 (Int.toNat y1)).1 (nat_lit 0) == (115 : Int)) (.br (true) (.br ((↑(List.length (at_ (Ty.pair Ty.str (Ty.sl (nat_lit 3) (Ty.int IntKind.i64))) y2 (Int.toNat y1)).2) : Int) == (1 : Int)) (.br (true) (.br (decide (at_ (Ty.int IntKind.i64) (at_ (Ty.pair Ty.str (Ty.sl (nat_lit 3) (Ty.int IntKind.i64))) y2 (Int.toNat y1)).2 (nat_lit 0) ≤ (9 : Int))) (.br (false) (.out (.inl false)) (.br (true) (.br (byteAt (at_ (Ty.pair Ty.str (Ty.sl (nat_lit 3) (Ty.int IntKind.i64))) y2 (Int.toNat y1)).1 (nat_lit 0) != (97 : Int)) (.br (true) (.br ((↑(ByteArray.size (at_ (Ty.pair Ty.str (Ty.sl (nat_lit 3) (Ty.int IntKind.i64))) y2 (Int.toNat y1)).1) : Int) != (2 : Int)) (.out (.inl false)) (.br (true) (.go (IntKind.wrap IntKind.i64 (y1 + (1 : Int)))) (.bad))) (.bad)) (.br (true) (.go (IntKind.wrap IntKind.i64 (y1 + (1 : Int)))) (.bad))) (.bad))) (.br (true) (.br (y0 == (3 : Int)) (.br (true) (.br (byteAt (at_ (Ty.pair Ty.str (Ty.sl (nat_lit 3) (Ty.int IntKind.i64))) y2 (Int.toNat y1)).1 (nat_lit 0) == (97 : Int)) (.br (true) (.br ((↑(List.length (at_ (Ty.pair Ty.str (Ty.sl (nat_lit 3) (Ty.int IntKind.i64))) y2 (Int.toNat y1)).2) : Int) == (1 : Int)) (.br (false) (.out (.inl false)) (.br (true) (.br (byteAt (at_ (Ty.pair Ty.str (Ty.sl (nat_lit 3) (Ty.int IntKind.i64))) y2 (Int.toNat y1)).1 (nat_lit 0) != (97 : Int)) (.br (true) (.br ((↑(ByteArray.size (at_ (Ty.pair Ty.str (Ty.sl (nat_lit 3) (Ty.int IntKind.i64))) y2 (Int.toNat y1)).1) : Int) != (2 : Int)) (.out (.inl false)) (.br (true) (.go (IntKind.wrap IntKind.i64 (y1 + (1 : Int)))) (.bad))) (.bad)) (.br (true) (.go (IntKind.wrap IntKind.i64 (y1 + (1 : Int)))) (.bad))) (.bad))) (.br (true) (.br (y0 == (2 : Int)) (.br (true) (.br (decide (at_ (Ty.int IntKind.i64) (at_ (Ty.pair Ty.str (Ty.sl (nat_lit 3) (Ty.int IntKind.i64))) y2 (Int.toNat y1)).2 (nat_lit 0) ≤ (9 : Int))) (.br (true) (.br (byteAt (at_ (Ty.pair Ty.str (Ty.sl (nat_lit 3) (Ty.int IntKind.i64))) y2 (Int.toNat y1)).1 (nat_lit 0) == (99 : Int)) (.br (true) (.br ((↑(List.length (at_ (Ty.pair Ty.str (Ty.sl (nat_lit 3) (Ty.int IntKind.i64))) y2 (Int.toNat y1)).2) : Int) == (2 : Int)) (.br (false) (.out (.inl false)) (.br (true) (.br (byteAt (at_ (Ty.pair Ty.str (Ty.sl (nat_lit 3) (Ty.int IntKind.i64))) y2 (Int.toNat y1)).1 (nat_lit 0) != (97 : Int)) (.br (true) (.br ((↑(ByteArray.size (at_ (Ty.pair Ty.str (Ty.sl (nat_lit 3) (Ty.int IntKind.i64))) y2 (Int.toNat y1)).1) : Int) != (2 : Int)) (.out (.inl false)) (.br (true) (.go (IntKind.wrap IntKind.i64 (y1 + (1 : Int)))) (.bad))) (.bad)) (.br (true) (.go (IntKind.wrap IntKind.i64 (y1 + (1 : Int)))) (.bad))) (.bad))) (.br (true) (.br (byteAt (at_ (Ty.pair Ty.str (Ty.sl (nat_lit 3) (Ty.int IntKind.i64))) y2 (Int.toNat y1)).1 (nat_lit 0) == (102 : Int)) (.br (true) (.br ((↑(List.length (at_ (Ty.pair Ty.str (Ty.sl (nat_lit 3) (Ty.int IntKind.i64))) y2 (Int.toNat y1)).2) : Int) == (3 : Int)) (.br (decide ((0 : Int) ≤ (1 : Int) ∧ (1 : Int) < (↑(List.length (at_ (Ty.pair Ty.str (Ty.sl (nat_lit 3) (Ty.int IntKind.i64))) y2 (Int.toNat y1)).2) : Int))) (.br (g_As_l1In (at_ (Ty.int IntKind.i64) (at_ (Ty.pair Ty.str (Ty.sl (nat_lit 3) (Ty.int IntKind.i64))) y2 (Int.toNat y1)).2 (nat_lit 1)) (1 : Int) (99 : Int)) (.br (g_Vs_l1In_0 (at_ (Ty.int IntKind.i64) (at_ (Ty.pair Ty.str (Ty.sl (nat_lit 3) (Ty.int IntKind.i64))) y2 (Int.toNat y1)).2 (nat_lit 1)) (1 : Int) (99 : Int)) (.br (decide ((0 : Int) ≤ (2 : Int) ∧ (2 : Int) < (↑(List.length (at_ (Ty.pair Ty.str (Ty.sl (nat_lit 3) (Ty.int IntKind.i64))) y2 (Int.toNat y1)).2) : Int))) (.br (true) (.br (!decide (at_ (Ty.int IntKind.i64) (at_ (Ty.pair Ty.str (Ty.sl (nat_lit 3) (Ty.int IntKind.i64))) y2 (Int.toNat y1)).2 (nat_lit 2) ≤ (1 : Int))) (.out (.inl false)) (.br (true) (.br (byteAt (at_ (Ty.pair Ty.str (Ty.sl (nat_lit 3) (Ty.int IntKind.i64))) y2 (Int.toNat y1)).1 (nat_lit 0) != (97 : Int)) (.br (true) (.br ((↑(ByteArray.size (at_ (Ty.pair Ty.str (Ty.sl (nat_lit 3) (Ty.int IntKind.i64))) y2 (Int.toNat y1)).1) : Int) != (2 : Int)) (.out (.inl false)) (.br (true) (.go (IntKind.wrap IntKind.i64 (y1 + (1 : Int)))) (.bad))) (.bad)) (.br (true) (.go (IntKind.wrap IntKind.i64 (y1 + (1 : Int)))) (.bad))) (.bad))) (.bad)) (.bad)) (.br (true) (.out (.inl false)) (.br (true) (.br (byteAt (at_ (Ty.pair Ty.str (Ty.sl (nat_lit 3) (Ty.int IntKind.i64))) y2 (Int.toNat y1)).1 (nat_lit 0) != (97 : Int)) (.br (true) (.br ((↑(ByteArray.size (at_ (Ty.pair Ty.str (Ty.sl (nat_lit 3) (Ty.int IntKind.i64))) y2 (Int.toNat y1)).1) : Int) != (2 : Int)) (.out (.inl false)) (.br (true) (.go (IntKind.wrap IntKind.i64 (y1 + (1 : Int)))) (.bad))) (.bad)) (.br (true) (.go (IntKind.wrap IntKind.i64 (y1 + (1 : Int)))) (.bad))) (.bad)))) (.bad)) (.bad)) (.br (true) (.out (.inl false)) (.br (true) (.br (byteAt (at_ (Ty.pair Ty.str (Ty.sl (nat_lit 3) (Ty.int IntKind.i64))) y2 (Int.toNat y1)).1 (nat_lit 0) != (97 : Int)) (.br (true) (.br ((↑(ByteArray.size (at_ (Ty.pair Ty.str (Ty.sl (nat_lit 3) (Ty.int IntKind.i64))) y2 (Int.toNat y1)).1) : Int) != (2 : Int)) (.out (.inl false)) (.br (true) (.go (IntKind.wrap IntKind.i64 (y1 + (1 : Int)))) (.bad))) (.bad)) (.br (true) (.go (IntKind.wrap IntKind.i64 (y1 + (1 : Int)))) (.bad))) (.bad)))) (.bad)) (.br (true) (.out (.inl false)) (.br (true) (.br (byteAt (at_ (Ty.pair Ty.str (Ty.sl (nat_lit 3) (Ty.int IntKind.i64))) y2 (Int.toNat y1)).1 (nat_lit 0) != (97 : Int)) (.br (true) (.br ((↑(ByteArray.size (at_ (Ty.pair Ty.str (Ty.sl (nat_lit 3) (Ty.int IntKind.i64))) y2 (Int.toNat y1)).1) : Int) != (2 : Int)) (.out (.inl false)) (.br (true) (.go (IntKind.wrap IntKind.i64 (y1 + (1 : Int)))) (.bad))) (.bad)) (.br (true) (.go (IntKind.wrap IntKind.i64 (y1 + (1 : Int)))) (.bad))) (.bad)))) (.bad))) (.bad)) (.br (true) (.br (byteAt (at_ (Ty.pair Ty.str (Ty.sl (nat_lit 3) (Ty.int IntKind.i64))) y2 (Int.toNat y1)).1 (nat_lit 0) == (102 : Int)) (.br (true) (.br ((↑(List.length (at_ (Ty.pair Ty.str (Ty.sl (nat_lit 3) (Ty.int IntKind.i64))) y2 (Int.toNat y1)).2) : Int) == (3 : Int)) (.br (decide ((0 : Int) ≤ (1 : Int) ∧ (1 : Int) < (↑(List.length (at_ (Ty.pair Ty.str (Ty.sl (nat_lit 3) (Ty.int IntKind.i64))) y2 (Int.toNat y1)).2) : Int))) (.br (g_As_l1In (at_ (Ty.int IntKind.i64) (at_ (Ty.pair Ty.str (Ty.sl (nat_lit 3) (Ty.int IntKind.i64))) y2 (Int.toNat y1)).2 (nat_lit 1)) (1 : Int) (99 : Int)) (.br (g_Vs_l1In_0 (at_ (Ty.int IntKind.i64) (at_ (Ty.pair Ty.str (Ty.sl (nat_lit 3) (Ty.int IntKind.i64))) y2 (Int.toNat y1)).2 (nat_lit 1)) (1 : Int) (99 : Int)) (.br (decide ((0 : Int) ≤ (2 : Int) ∧ (2 : Int) < (↑(List.length (at_ (Ty.pair Ty.str (Ty.sl (nat_lit 3) (Ty.int IntKind.i64))) y2 (Int.toNat y1)).2) : Int))) (.br (true) (.br (!decide (at_ (Ty.int IntKind.i64) (at_ (Ty.pair Ty.str (Ty.sl (nat_lit 3) (Ty.int IntKind.i64))) y2 (Int.toNat y1)).2 (nat_lit 2) ≤ (1 : Int))) (.out (.inl false)) (.br (true) (.br (byteAt (at_ (Ty.pair Ty.str (Ty.sl (nat_lit 3) (Ty.int IntKind.i64))) y2 (Int.toNat y1)).1 (nat_lit 0) != (97 : Int)) (.br (true) (.br ((↑(ByteArray.size (at_ (Ty.pair Ty.str (Ty.sl (nat_lit 3) (Ty.int IntKind.i64))) y2 (Int.toNat y1)).1) : Int) != (2 : Int)) (.out (.inl false)) (.br (true) (.go (IntKind.wrap IntKind.i64 (y1 + (1 : Int)))) (.bad))) (.bad)) (.br (true) (.go (IntKind.wrap IntKind.i64 (y1 + (1 : Int)))) (.bad))) (.bad))) (.bad)) (.bad)) (.br (true) (.out (.inl false)) (.br (true) (.br (byteAt (at_ (Ty.pair Ty.str (Ty.sl (nat_lit 3) (Ty.int IntKind.i64))) y2 (Int.toNat y1)).1 (nat_lit 0) != (97 : Int)) (.br (true) (.br ((↑(ByteArray.size (at_ (Ty.pair Ty.str (Ty.sl (nat_lit 3) (Ty.int IntKind.i64))) y2 (Int.toNat y1)).1) : Int) != (2 : Int)) (.out (.inl false)) (.br (true) (.go (IntKind.wrap IntKind.i64 (y1 + (1 : Int)))) (.bad))) (.bad)) (.br (true) (.go (IntKind.wrap IntKind.i64 (y1 + (1 : Int)))) (.bad))) (.bad)))) (.bad)) (.bad)) (.br (true) (.out (.inl false)) (.br (true) (.br (byteAt (at_ (Ty.pair Ty.str (Ty.sl (nat_lit 3) (Ty.int IntKind.i64))) y2 (Int.toNat y1)).1 (nat_lit 0) != (97 : Int)) (.br (true) (.br ((↑(ByteArray.size (at_ (Ty.pair Ty.str (Ty.sl (nat_lit 3) (Ty.int IntKind.i64))) y2 (Int.toNat y1)).1) : Int) != (2 : Int)) (.out (.inl false)) (.br (true) (.go (IntKind.wrap IntKind.i64 (y1 + (1 : Int)))) (.bad))) (.bad)) (.br (true) (.go (IntKind.wrap IntKind.i64 (y1 + (1 : Int)))) (.bad))) (.bad)))) (.bad)) (.br (true) (.out (.inl false)) (.br (true) (.br (byteAt (at_ (Ty.pair Ty.str (Ty.sl (nat_lit 3) (Ty.int IntKind.i64))) y2 (Int.toNat y1)).1 (nat_lit 0) != (97 : Int)) (.br (true) (.br ((↑(ByteArray.size (at_ (Ty.pair Ty.str (Ty.sl (nat_lit 3) (Ty.int IntKind.i64))) y2 (Int.toNat y1)).1) : Int) != (2 : Int)) (.out (.inl false)) (.br (true) (.go (IntKind.wrap IntKind.i64 (y1 + (1 : Int)))) (.bad))) (.bad)) (.br (true) (.go (IntKind.wrap IntKind.i64 (y1 + (1 : Int)))) (.bad))) (.bad)))) (.bad))) (.bad)) (.br (true) (.out (.inl false)) (.br (true) (.br (byteAt (at_ (Ty.pair Ty.str (Ty.sl (nat_lit 3) (Ty.int IntKind.i64))) y2 (Int.toNat y1)).1 (nat_lit 0) != (97 : Int)) (.br (true) (.br ((↑(ByteArray.size (at_ (Ty.pair Ty.str (Ty.sl (nat_lit 3) (Ty.int IntKind.i64))) y2 (Int.toNat y1)).1) : Int) != (2 : Int)) (.out (.inl false)) (.br (true) (.go (IntKind.wrap IntKind.i64 (y1 + (1 : Int)))) (.bad))) (.bad)) (.br (true) (.go (IntKind.wrap IntKind.i64 (y1 + (1 : Int)))) (.bad))) (.bad)))) (.bad)) (.br (true) (.out (.inl false)) (.br (true) (.br (byteAt (at_ (Ty.pair Ty.str (Ty.sl (nat_lit 3) (Ty.int IntKind.i64))) y2 (Int.toNat y1)).1 (nat_lit 0) != (97 : Int)) (.br (true) (.br ((↑(ByteArray.size (at_ (Ty.pair Ty.str (Ty.sl (nat_lit 3) (Ty.int IntKind.i64))) y2 (Int.toNat y1)).1) : Int) != (2 : Int)) (.out (.inl false)) (.br (true) (.go (IntKind.wrap IntKind.i64 (y1 + (1 : Int)))) (.bad))) (.bad)) (.br (true) (.go (IntKind.wrap IntKind.i64 (y1 + (1 : Int)))) (.bad))) (.bad)))) (.bad))) (.bad)) (.br (true) (.br (y0 == (2 : Int)) (.br (true) (.br (decide (at_ (Ty.int IntKind.i64) (at_ (Ty.pair Ty.str (Ty.sl (nat_lit 3) (Ty.int IntKind.i64))) y2 (Int.toNat y1)).2 (nat_lit 0) ≤ (9 : Int))) (.br (true) (.br (byteAt (at_ (Ty.pair Ty.str (Ty.sl (nat_lit 3) (Ty.int IntKind.i64))) y2 (Int.toNat y1)).1 (nat_lit 0) == (99 : Int)) (.br (true) (.br ((↑(List.length (at_ (Ty.pair Ty.str (Ty.sl (nat_lit 3) (Ty.int IntKind.i64))) y2 (Int.toNat y1)).2) : Int) == (2 : Int)) (.br (false) (.out (.inl false)) (.br (true) (.br (byteAt (at_ (Ty.pair Ty.str (Ty.sl (nat_lit 3) (Ty.int IntKind.i64))) y2 (Int.toNat y1)).1 (nat_lit 0) != (97 : Int)) (.br (true) (.br ((↑(ByteArray.size (at_ (Ty.pair Ty.str (Ty.sl (nat_lit 3) (Ty.int IntKind.i64))) y2 (Int.toNat y1)).1) : Int) != (2 : Int)) (.out (.inl false)) (.br (true) (.go (IntKind.wrap IntKind.i64 (y1 + (1 : Int)))) (.bad))) (.bad)) (.br (true) (.go (IntKind.wrap IntKind.i64 (y1 + (1 : Int)))) (.bad))) (.bad))) (.br (true) (.br (byteAt (at_ (Ty.pair Ty.str (Ty.sl (nat_lit 3) (Ty.int IntKind.i64))) y2 (Int.toNat y1)).1 (nat_lit 0) == (102 : Int)) (.br (true) (.br ((↑(List.length (at_ (Ty.pair Ty.str (Ty.sl (nat_lit 3) (Ty.int IntKind.i64))) y2 (Int.toNat y1)).2) : Int) == (3 : Int)) (.br (decide ((0 : Int) ≤ (1 : Int) ∧ (1 : Int) < (↑(List.length (at_ (Ty.pair Ty.str (Ty.sl (nat_lit 3) (Ty.int IntKind.i64))) y2 (Int.toNat y1)).2) : Int))) (.br (g_As_l1In (at_ (Ty.int IntKind.i64) (at_ (Ty.pair Ty.str (Ty.sl (nat_lit 3) (Ty.int IntKind.i64))) y2 (Int.toNat y1)).2 (nat_lit 1)) (1 : Int) (99 : Int)) (.br (g_Vs_l1In_0 (at_ (Ty.int IntKind.i64) (at_ (Ty.pair Ty.str (Ty.sl (nat_lit 3) (Ty.int IntKind.i64))) y2 (Int.toNat y1)).2 (nat_lit 1)) (1 : Int) (99 : Int)) (.br (decide ((0 : Int) ≤ (2 : Int) ∧ (2 : Int) < (↑(List.length (at_ (Ty.pair Ty.str (Ty.sl (nat_lit 3) (Ty.int IntKind.i64))) y2 (Int.toNat y1)).2) : Int))) (.br (true) (.br (!decide (at_ (Ty.int IntKind.i64) (at_ (Ty.pair Ty.str (Ty.sl (nat_lit 3) (Ty.int IntKind.i64))) y2 (Int.toNat y1)).2 (nat_lit 2) ≤ (1 : Int))) (.out (.inl false)) (.br (true) (.br (byteAt (at_ (Ty.pair Ty.str (Ty.sl (nat_lit 3) (Ty.int IntKind.i64))) y2 (Int.toNat y1)).1 (nat_lit 0) != (97 : Int)) (.br (true) (.br ((↑(ByteArray.size (at_ (Ty.pair Ty.str (Ty.sl (nat_lit 3) (Ty.int IntKind.i64))) y2 (Int.toNat y1)).1) : Int) != (2 : Int)) (.out (.inl false)) (.br (true) (.go (IntKind.wrap IntKind.i64 (y1 + (1 : Int)))) (.bad))) (.bad)) (.br (true) (.go (IntKind.wrap IntKind.i64 (y1 + (1 : Int)))) (.bad))) (.bad))) (.bad)) (.bad)) (.br (true) (.out (.inl false)) (.br (true) (.br (byteAt (at_ (Ty.pair Ty.str (Ty.sl (nat_lit 3) (Ty.int IntKind.i64))) y2 (Int.toNat y1)).1 (nat_lit 0) != (97 : Int)) (.br (true) (.br ((↑(ByteArray.size (at_ (Ty.pair Ty.str (Ty.sl (nat_lit 3) (Ty.int IntKind.i64))) y2 (Int.toNat y1)).1) : Int) != (2 : Int)) (.out (.inl false)) (.br (true) (.go (IntKind.wrap IntKind.i64 (y1 + (1 : Int)))) (.bad))) (.bad)) (.br (true) (.go (IntKind.wrap IntKind.i64 (y1 + (1 : Int)))) (.bad))) (.bad)))) (.bad)) (.bad)) (.br (true) (.out (.inl false)) (.br (true) (.br (byteAt (at_ (Ty.pair Ty.str (Ty.sl (nat_lit 3) (Ty.int IntKind.i64))) y2 (Int.toNat y1)).1 (nat_lit 0) != (97 : Int)) (.br (true) (.br ((↑(ByteArray.size (at_ (Ty.pair Ty.str (Ty.sl (nat_lit 3) (Ty.int IntKind.i64))) y2 (Int.toNat y1)).1) : Int) != (2 : Int)) (.out (.inl false)) (.br (true) (.go (IntKind.wrap IntKind.i64 (y1 + (1 : Int)))) (.bad))) (.bad)) (.br (true) (.go (IntKind.wrap IntKind.i64 (y1 + (1 : Int)))) (.bad))) (.bad)))) (.bad)) (.br (true) (.out (.inl false)) (.br (true) (.br (byteAt (at_ (Ty.pair Ty.str (Ty.sl (nat_lit 3) (Ty.int IntKind.i64))) y2 (Int.toNat y1)).1 (nat_lit 0) != (97 : Int)) (.br (true) (.br ((↑(ByteArray.size (at_ (Ty.pair Ty.str (Ty.sl (nat_lit 3) (Ty.int IntKind.i64))) y2 (Int.toNat y1)).1) : Int) != (2 : Int)) (.out (.inl false)) (.br (true) (.go (IntKind.wrap IntKind.i64 (y1 + (1 : Int)))) (.bad))) (.bad)) (.br (true) (.go (IntKind.wrap IntKind.i64 (y1 + (1 : Int)))) (.bad))) (.bad)))) (.bad))) (.bad)) (.br (true) (.br (byteAt (at_ (Ty.pair Ty.str (Ty.sl (nat_lit 3) (Ty.int IntKind.i64))) y2 (Int.toNat y1)).1 (nat_lit 0) == (102 : Int)) (.br (true) (.br ((↑(List.length (at_ (Ty.pair Ty.str (Ty.sl (nat_lit 3) (Ty.int IntKind.i64))) y2 (Int.toNat y1)).2) : Int) == (3 : Int)) (.br (decide ((0 : Int) ≤ (1 : Int) ∧ (1 : Int) < (↑(List.length (at_ (Ty.pair Ty.str (Ty.sl (nat_lit 3) (Ty.int IntKind.i64))) y2 (Int.toNat y1)).2) : Int))) (.br (g_As_l1In (at_ (Ty.int IntKind.i64) (at_ (Ty.pair Ty.str (Ty.sl (nat_lit 3) (Ty.int IntKind.i64))) y2 (Int.toNat y1)).2 (nat_lit 1)) (1 : Int) (99 : Int)) (.br (g_Vs_l1In_0 (at_ (Ty.int IntKind.i64) (at_ (Ty.pair Ty.str (Ty.sl (nat_lit 3) (Ty.int IntKind.i64))) y2 (Int.toNat y1)).2 (nat_lit 1)) (1 : Int) (99 : Int)) (.br (decide ((0 : Int) ≤ (2 : Int) ∧ (2 : Int) < (↑(List.length (at_ (Ty.pair Ty.str (Ty.sl (nat_lit 3) (Ty.int IntKind.i64))) y2 (Int.toNat y1)).2) : Int))) (.br (true) (.br (!decide (at_ (Ty.int IntKind.i64) (at_ (Ty.pair Ty.str (Ty.sl (nat_lit 3) (Ty.int IntKind.i64))) y2 (Int.toNat y1)).2 (nat_lit 2) ≤ (1 : Int))) (.out (.inl false)) (.br (true) (.br (byteAt (at_ (Ty.pair Ty.str (Ty.sl (nat_lit 3) (Ty.int IntKind.i64))) y2 (Int.toNat y1)).1 (nat_lit 0) != (97 : Int)) (.br (true) (.br ((↑(ByteArray.size (at_ (Ty.pair Ty.str (Ty.sl (nat_lit 3) (Ty.int IntKind.i64))) y2 (Int.toNat y1)).1) : Int) != (2 : Int)) (.out (.inl false)) (.br (true) (.go (IntKind.wrap IntKind.i64 (y1 + (1 : Int)))) (.bad))) (.bad)) (.br (true) (.go (IntKind.wrap IntKind.i64 (y1 + (1 : Int)))) (.bad))) (.bad))) (.bad)) (.bad)) (.br (true) (.out (.inl false)) (.br (true) (.br (byteAt (at_ (Ty.pair Ty.str (Ty.sl (nat_lit 3) (Ty.int IntKind.i64))) y2 (Int.toNat y1)).1 (nat_lit 0) != (97 : Int)) (.br (true) (.br ((↑(ByteArray.size (at_ (Ty.pair Ty.str (Ty.sl (nat_lit 3) (Ty.int IntKind.i64))) y2 (Int.toNat y1)).1) : Int) != (2 : Int)) (.out (.inl false)) (.br (true) (.go (IntKind.wrap IntKind.i64 (y1 + (1 : Int)))) (.bad))) (.bad)) (.br (true) (.go (IntKind.wrap IntKind.i64 (y1 + (1 : Int)))) (.bad))) (.bad)))) (.bad)) (.bad)) (.br (true) (.out (.inl false)) (.br (true) (.br (byteAt (at_ (Ty.pair Ty.str (Ty.sl (nat_lit 3) (Ty.int IntKind.i64))) y2 (Int.toNat y1)).1 (nat_lit 0) != (97 : Int)) (.br (true) (.br ((↑(ByteArray.size (at_ (Ty.pair Ty.str (Ty.sl (nat_lit 3) (Ty.int IntKind.i64))) y2 (Int.toNat y1)).1) : Int) != (2 : Int)) (.out (.inl false)) (.br (true) (.go (IntKind.wrap IntKind.i64 (y1 + (1 : Int)))) (.bad))) (.bad)) (.br (true) (.go (IntKind.wrap IntKind.i64 (y1 + (1 : Int)))) (.bad))) (.bad)))) (.bad)) (.br (true) (.out (.inl false)) (.br (true) (.br (byteAt (at_ (Ty.pair Ty.str (Ty.sl (nat_lit 3) (Ty.int IntKind.i64))) y2 (Int.toNat y1)).1 (nat_lit 0) != (97 : Int)) (.br (true) (.br ((↑(ByteArray.size (at_ (Ty.pair Ty.str (Ty.sl (nat_lit 3) (Ty.int IntKind.i64))) y2 (Int.toNat y1)).1) : Int) != (2 : Int)) (.out (.inl false)) (.br (true) (.go (IntKind.wrap IntKind.i64 (y1 + (1 : Int)))) (.bad))) (.bad)) (.br (true) (.go (IntKind.wrap IntKind.i64 (y1 + (1 : Int)))) (.bad))) (.bad)))) (.bad))) (.bad)) (.br (true) (.out (.inl false)) (.br (true) (.br (byteAt (at_ (Ty.pair Ty.str (Ty.sl (nat_lit 3) (Ty.int IntKind.i64))) y2 (Int.toNat y1)).1 (nat_lit 0) != (97 : Int)) (.br (true) (.br ((↑(ByteArray.size (at_ (Ty.pair Ty.str (Ty.sl (nat_lit 3) (Ty.int IntKind.i64))) y2 (Int.toNat y1)).1) : Int) != (2 : Int)) (.out (.inl false)) (.br (true) (.go (IntKind.wrap IntKind.i64 (y1 + (1 : Int)))) (.bad))) (.bad)) (.br (true) (.go (IntKind.wrap IntKind.i64 (y1 + (1 : Int)))) (.bad))) (.bad)))) (.bad)) (.br (true) (.out (.inl false)) (.br (true) (.br (byteAt (at_ (Ty.pair Ty.str (Ty.sl (nat_lit 3) (Ty.int IntKind.i64))) y2 (Int.toNat y1)).1 (nat_lit 0) != (97 : Int)) (.br (true) (.br ((↑(ByteArray.size (at_ (Ty.pair Ty.str (Ty.sl (nat_lit 3) (Ty.int IntKind.i64))) y2 (Int.toNat y1)).1) : Int) != (2 : Int)) (.out (.inl false)) (.br (true) (.go (IntKind.wrap IntKind.i64 (y1 + (1 : Int)))) (.bad))) (.bad)) (.br (true) (.go (IntKind.wrap IntKind.i64 (y1 + (1 : Int)))) (.bad))) (.bad)))) (.bad))) (.bad)) (.br (true) (.br (y0 == (2 : Int)) (.br (true) (.br (decide (at_ (Ty.int IntKind.i64) (at_ (Ty.pair Ty.str (Ty.sl (nat_lit 3) (Ty.int IntKind.i64))) y2 (Int.toNat y1)).2 (nat_lit 0) ≤ (9 : Int))) (.br (true) (.br (byteAt (at_ (Ty.pair Ty.str (Ty.sl (nat_lit 3) (Ty.int IntKind.i64))) y2 (Int.toNat y1)).1 (nat_lit 0) == (99 : Int)) (.br (true) (.br ((↑(List.length (at_ (Ty.pair Ty.str (Ty.sl (nat_lit 3) (Ty.int IntKind.i64))) y2 (Int.toNat y1)).2) : Int) == (2 : Int)) (.br (false) (.out (.inl false)) (.br (true) (.br (byteAt (at_ (Ty.pair Ty.str (Ty.sl (nat_lit 3) (Ty.int IntKind.i64))) y2 (Int.toNat y1)).1 (nat_lit 0) != (97 : Int)) (.br (true) (.br ((↑(ByteArray.size (at_ (Ty.pair Ty.str (Ty.sl (nat_lit 3) (Ty.int IntKind.i64))) y2 (Int.toNat y1)).1) : Int) != (2 : Int)) (.out (.inl false)) (.br (true) (.go (IntKind.wrap IntKind.i64 (y1 + (1 : Int)))) (.bad))) (.bad)) (.br (true) (.go (IntKind.wrap IntKind.i64 (y1 + (1 : Int)))) (.bad))) (.bad))) (.br (true) (.br (byteAt (at_ (Ty.pair Ty.str (Ty.sl (nat_lit 3) (Ty.int IntKind.i64))) y2 (Int.toNat y1)).1 (nat_lit 0) == (102 : Int)) (.br (true) (.br ((↑(List.length (at_ (Ty.pair Ty.str (Ty.sl (nat_lit 3) (Ty.int IntKind.i64))) y2 (Int.toNat y1)).2) : Int) == (3 : Int)) (.br (decide ((0 : Int) ≤ (1 : Int) ∧ (1 : Int) < (↑(List.length (at_ (Ty.pair Ty.str (Ty.sl (nat_lit 3) (Ty.int IntKind.i64))) y2 (Int.toNat y1)).2) : Int))) (.br (g_As_l1In (at_ (Ty.int IntKind.i64) (at_ (Ty.pair Ty.str (Ty.sl (nat_lit 3) (Ty.int IntKind.i64))) y2 (Int.toNat y1)).2 (nat_lit 1)) (1 : Int) (99 : Int)) (.br (g_Vs_l1In_0 (at_ (Ty.int IntKind.i64) (at_ (Ty.pair Ty.str (Ty.sl (nat_lit 3) (Ty.int IntKind.i64))) y2 (Int.toNat y1)).2 (nat_lit 1)) (1 : Int) (99 : Int)) (.br (decide ((0 : Int) ≤ (2 : Int) ∧ (2 : Int) < (↑(List.length (at_ (Ty.pair Ty.str (Ty.sl (nat_lit 3) (Ty.int IntKind.i64))) y2 (Int.toNat y1)).2) : Int))) (.br (true) (.br (!decide (at_ (Ty.int IntKind.i64) (at_ (Ty.pair Ty.str (Ty.sl (nat_lit 3) (Ty.int IntKind.i64))) y2 (Int.toNat y1)).2 (nat_lit 2) ≤ (1 : Int))) (.out (.inl false)) (.br (true) (.br (byteAt (at_ (Ty.pair Ty.str (Ty.sl (nat_lit 3) (Ty.int IntKind.i64))) y2 (Int.toNat y1)).1 (nat_lit 0) != (97 : Int)) (.br (true) (.br ((↑(ByteArray.size (at_ (Ty.pair Ty.str (Ty.sl (nat_lit 3) (Ty.int IntKind.i64))) y2 (Int.toNat y1)).1) : Int) != (2 : Int)) (.out (.inl false)) (.br (true) (.go (IntKind.wrap IntKind.i64 (y1 + (1 : Int)))) (.bad))) (.bad)) (.br (true) (.go (IntKind.wrap IntKind.i64 (y1 + (1 : Int)))) (.bad))) (.bad))) (.bad)) (.bad)) (.br (true) (.out (.inl false)) (.br (true) (.br (byteAt (at_ (Ty.pair Ty.str (Ty.sl (nat_lit 3) (Ty.int IntKind.i64))) y2 (Int.toNat y1)).1 (nat_lit 0) != (97 : Int)) (.br (true) (.br ((↑(ByteArray.size (at_ (Ty.pair Ty.str (Ty.sl (nat_lit 3) (Ty.int IntKind.i64))) y2 (Int.toNat y1)).1) : Int) != (2 : Int)) (.out (.inl false)) (.br (true) (.go (IntKind.wrap IntKind.i64 (y1 + (1 : Int)))) (.bad))) (.bad)) (.br (true) (.go (IntKind.wrap IntKind.i64 (y1 + (1 : Int)))) (.bad))) (.bad)))) (.bad)) (.bad)) (.br (true) (.out (.inl false)) (.br (true) (.br (byteAt (at_ (Ty.pair Ty.str (Ty.sl (nat_lit 3) (Ty.int IntKind.i64))) y2 (Int.toNat y1)).1 (nat_lit 0) != (97 : Int)) (.br (true) (.br ((↑(ByteArray.size (at_ (Ty.pair Ty.str (Ty.sl (nat_lit 3) (Ty.int IntKind.i64))) y2 (Int.toNat y1)).1) : Int) != (2 : Int)) (.out (.inl false)) (.br (true) (.go (IntKind.wrap IntKind.i64 (y1 + (1 : Int)))) (.bad))) (.bad)) (.br (true) (.go (IntKind.wrap IntKind.i64 (y1 + (1 : Int)))) (.bad))) (.bad)))) (.bad)) (.br (true) (.out (.inl false)) (.br (true) (.br (byteAt (at_ (Ty.pair Ty.str (Ty.sl (nat_lit 3) (Ty.int IntKind.i64))) y2 (Int.toNat y1)).1 (nat_lit 0) != (97 : Int)) (.br (true) (.br ((↑(ByteArray.size (at_ (Ty.pair Ty.str (Ty.sl (nat_lit 3) (Ty.int IntKind.i64))) y2 (Int.toNat y1)).1) : Int) != (2 : Int)) (.out (.inl false)) (.br (true) (.go (IntKind.wrap IntKind.i64 (y1 + (1 : Int)))) (.bad))) (.bad)) (.br (true) (.go (IntKind.wrap IntKind.i64 (y1 + (1 : Int)))) (.bad))) (.bad)))) (.bad))) (.bad)) (.br (true) (.br (byteAt (at_ (Ty.pair Ty.str (Ty.sl (nat_lit 3) (Ty.int IntKind.i64))) y2 (Int.toNat y1)).1 (nat_lit 0) == (102 : Int)) (.br (true) (.br ((↑(List.length (at_ (Ty.pair Ty.str (Ty.sl (nat_lit 3) (Ty.int IntKind.i64))) y2 (Int.toNat y1)).2) : Int) == (3 : Int)) (.br (decide ((0 : Int) ≤ (1 : Int) ∧ (1 : Int) < (↑(List.length (at_ (Ty.pair Ty.str (Ty.sl (nat_lit 3) (Ty.int IntKind.i64))) y2 (Int.toNat y1)).2) : Int))) (.br (g_As_l1In (at_ (Ty.int IntKind.i64) (at_ (Ty.pair Ty.str (Ty.sl (nat_lit 3) (Ty.int IntKind.i64))) y2 (Int.toNat y1)).2 (nat_lit 1)) (1 : Int) (99 : Int)) (.br (g_Vs_l1In_0 (at_ (Ty.int IntKind.i64) (at_ (Ty.pair Ty.str (Ty.sl (nat_lit 3) (Ty.int IntKind.i64))) y2 (Int.toNat y1)).2 (nat_lit 1)) (1 : Int) (99 : Int)) (.br (decide ((0 : Int) ≤ (2 : Int) ∧ (2 : Int) < (↑(List.length (at_ (Ty.pair Ty.str (Ty.sl (nat_lit 3) (Ty.int IntKind.i64))) y2 (Int.toNat y1)).2) : Int))) (.br (true) (.br (!decide (at_ (Ty.int IntKind.i64) (at_ (Ty.pair Ty.str (Ty.sl (nat_lit 3) (Ty.int IntKind.i64))) y2 (Int.toNat y1)).2 (nat_lit 2) ≤ (1 : Int))) (.out (.inl false)) (.br (true) (.br (byteAt (at_ (Ty.pair Ty.str (Ty.sl (nat_lit 3) (Ty.int IntKind.i64))) y2 (Int.toNat y1)).1 (nat_lit 0) != (97 : Int)) (.br (true) (.br ((↑(ByteArray.size (at_ (Ty.pair Ty.str (Ty.sl (nat_lit 3) (Ty.int IntKind.i64))) y2 (Int.toNat y1)).1) : Int) != (2 : Int)) (.out (.inl false)) (.br (true) (.go (IntKind.wrap IntKind.i64 (y1 + (1 : Int)))) (.bad))) (.bad)) (.br (true) (.go (IntKind.wrap IntKind.i64 (y1 + (1 : Int)))) (.bad))) (.bad))) (.bad)) (.bad)) (.br (true) (.out (.inl false)) (.br (true) (.br (byteAt (at_ (Ty.pair Ty.str (Ty.sl (nat_lit 3) (Ty.int IntKind.i64))) y2 (Int.toNat y1)).1 (nat_lit 0) != (97 : Int)) (.br (true) (.br ((↑(ByteArray.size (at_ (Ty.pair Ty.str (Ty.sl (nat_lit 3) (Ty.int IntKind.i64))) y2 (Int.toNat y1)).1) : Int) != (2 : Int)) (.out (.inl false)) (.br (true) (.go (IntKind.wrap IntKind.i64 (y1 + (1 : Int)))) (.bad))) (.bad)) (.br (true) (.go (IntKind.wrap IntKind.i64 (y1 + (1 : Int)))) (.bad))) (.bad)))) (.bad)) (.bad)) (.br (true) (.out (.inl false)) (.br (true) (.br (byteAt (at_ (Ty.pair Ty.str (Ty.sl (nat_lit 3) (Ty.int IntKind.i64))) y2 (Int.toNat y1)).1 (nat_lit 0) != (97 : Int)) (.br (true) (.br ((↑(ByteArray.size (at_ (Ty.pair Ty.str (Ty.sl (nat_lit 3) (Ty.int IntKind.i64))) y2 (Int.toNat y1)).1) : Int) != (2 : Int)) (.out (.inl false)) (.br (true) (.go (IntKind.wrap IntKind.i64 (y1 + (1 : Int)))) (.bad))) (.bad)) (.br (true) (.go (IntKind.wrap IntKind.i64 (y1 + (1 : Int)))) (.bad))) (.bad)))) (.bad)) (.br (true) (.out (.inl false)) (.br (true) (.br (byteAt (at_ (Ty.pair Ty.str (Ty.sl (nat_lit 3) (Ty.int IntKind.i64))) y2 (Int.toNat y1)).1 (nat_lit 0) != (97 : Int)) (.br (true) (.br ((↑(ByteArray.size (at_ (Ty.pair Ty.str (Ty.sl (nat_lit 3) (Ty.int IntKind.i64))) y2 (Int.toNat y1)).1) : Int) != (2 : Int)) (.out (.inl false)) (.br (true) (.go (IntKind.wrap IntKind.i64 (y1 + (1 : Int)))) (.bad))) (.bad)) (.br (true) (.go (IntKind.wrap IntKind.i64 (y1 + (1 : Int)))) (.bad))) (.bad)))) (.bad))) (.bad)) (.br (true) (.out (.inl false)) (.br (true) (.br (byteAt (at_ (Ty.pair Ty.str (Ty.sl (nat_lit 3) (Ty.int IntKind.i64))) y2 (Int.toNat y1)).1 (nat_lit 0) != (97 : Int)) (.br (true) (.br ((↑(ByteArray.size (at_ (Ty.pair Ty.str (Ty.sl (nat_lit 3) (Ty.int IntKind.i64))) y2 (Int.toNat y1)).1) : Int) != (2 : Int)) (.out (.inl false)) (.br (true) (.go (IntKind.wrap IntKind.i64 (y1 + (1 : Int)))) (.bad))) (.bad)) (.br (true) (.go (IntKind.wrap IntKind.i64 (y1 + (1 : Int)))) (.bad))) (.bad)))) (.bad)) (.br (true) (.out (.inl false)) (.br (true) (.br (byteAt (at_ (Ty.pair Ty.str (Ty.sl (nat_lit 3) (Ty.int IntKind.i64))) y2 (Int.toNat y1)).1 (nat_lit 0) != (97 : Int)) (.br (true) (.br ((↑(ByteArray.size (at_ (Ty.pair Ty.str (Ty.sl (nat_lit 3) (Ty.int IntKind.i64))) y2 (Int.toNat y1)).1) : Int) != (2 : Int)) (.out (.inl false)) (.br (true) (.go (IntKind.wrap IntKind.i64 (y1 + (1 : Int)))) (.bad))) (.bad)) (.br (true) (.go (IntKind.wrap IntKind.i64 (y1 + (1 : Int)))) (.bad))) (.bad)))) (.bad))) (.bad))) (.bad)) (.br (true) (.br (y0 == (3 : Int)) (.br (true) (.br (byteAt (at_ (Ty.pair Ty.str (Ty.sl (nat_lit 3) (Ty.int IntKind.i64))) y2 (Int.toNat y1)).1 (nat_lit 0) == (97 : Int)) (.br (true) (.br ((↑(List.length (at_ (Ty.pair Ty.str (Ty.sl (nat_lit 3) (Ty.int IntKind.i64))) y2 (Int.toNat y1)).2) : Int) == (1 : Int)) (.br (false) (.out (.inl false)) (.br (true) (.br (byteAt (at_ (Ty.pair Ty.str (Ty.sl (nat_lit 3) (Ty.int IntKind.i64))) y2 (Int.toNat y1)).1 (nat_lit 0) != (97 : Int)) (.br (true) (.br ((↑(ByteArray.size (at_ (Ty.pair Ty.str (Ty.sl (nat_lit 3) (Ty.int IntKind.i64))) y2 (Int.toNat y1)).1) : Int) != (2 : Int)) (.out (.inl false)) (.br (true) (.go (IntKind.wrap IntKind.i64 (y1 + (1 : Int)))) (.bad))) (.bad)) (.br (true) (.go (IntKind.wrap IntKind.i64 (y1 + (1 : Int)))) (.bad))) (.bad))) (.br (true) (.br (y0 == (2 : Int)) (.br (true) (.br (decide (at_ (Ty.int IntKind.i64) (at_ (Ty.pair Ty.str (Ty.sl (nat_lit 3) (Ty.int IntKind.i64))) y2 (Int.toNat y1)).2 (nat_lit 0) ≤ (9 : Int))) (.br (true) (.br (byteAt (at_ (Ty.pair Ty.str (Ty.sl (nat_lit 3) (Ty.int IntKind.i64))) y2 (Int.toNat y1)).1 (nat_lit 0) == (99 : Int)) (.br (true) (.br ((↑(List.length (at_ (Ty.pair Ty.str (Ty.sl (nat_lit 3) (Ty.int IntKind.i64))) y2 (Int.toNat y1)).2) : Int) == (2 : Int)) (.br (false) (.out (.inl false)) (.br (true) (.br (byteAt (at_ (Ty.pair Ty.str (Ty.sl (nat_lit 3) (Ty.int IntKind.i64))) y2 (Int.toNat y1)).1 (nat_lit 0) != (97 : Int)) (.br (true) (.br ((↑(ByteArray.size (at_ (Ty.pair Ty.str (Ty.sl (nat_lit 3) (Ty.int IntKind.i64))) y2 (Int.toNat y1)).1) : Int) != (2 : Int)) (.out (.inl false)) (.br (true) (.go (IntKind.wrap IntKind.i64 (y1 + (1 : Int)))) (.bad))) (.bad)) (.br (true) (.go (IntKind.wrap IntKind.i64 (y1 + (1 : Int)))) (.bad))) (.bad))) (.br (true) (.br (byteAt (at_ (Ty.pair Ty.str (Ty.sl (nat_lit 3) (Ty.int IntKind.i64))) y2 (Int.toNat y1)).1 (nat_lit 0) == (102 : Int)) (.br (true) (.br ((↑(List.length (at_ (Ty.pair Ty.str (Ty.sl (nat_lit 3) (Ty.int IntKind.i64))) y2 (Int.toNat y1)).2) : Int) == (3 : Int)) (.br (decide ((0 : Int) ≤ (1 : Int) ∧ (1 : Int) < (↑(List.length (at_ (Ty.pair Ty.str (Ty.sl (nat_lit 3) (Ty.int IntKind.i64))) y2 (Int.toNat y1)).2) : Int))) (.br (g_As_l1In (at_ (Ty.int IntKind.i64) (at_ (Ty.pair Ty.str (Ty.sl (nat_lit 3) (Ty.int IntKind.i64))) y2 (Int.toNat y1)).2 (nat_lit 1)) (1 : Int) (99 : Int)) (.br (g_Vs_l1In_0 (at_ (Ty.int IntKind.i64) (at_ (Ty.pair Ty.str (Ty.sl (nat_lit 3) (Ty.int IntKind.i64))) y2 (Int.toNat y1)).2 (nat_lit 1)) (1 : Int) (99 : Int)) (.br (decide ((0 : Int) ≤ (2 : Int) ∧ (2 : Int) < (↑(List.length (at_ (Ty.pair Ty.str (Ty.sl (nat_lit 3) (Ty.int IntKind.i64))) y2 (Int.toNat y1)).2) : Int))) (.br (true) (.br (!decide (at_ (Ty.int IntKind.i64) (at_ (Ty.pair Ty.str (Ty.sl (nat_lit 3) (Ty.int IntKind.i64))) y2 (Int.toNat y1)).2 (nat_lit 2) ≤ (1 : Int))) (.out (.inl false)) (.br (true) (.br (byteAt (at_ (Ty.pair Ty.str (Ty.sl (nat_lit 3) (Ty.int IntKind.i64))) y2 (Int.toNat y1)).1 (nat_lit 0) != (97 : Int)) (.br (true) (.br ((↑(ByteArray.size (at_ (Ty.pair Ty.str (Ty.sl (nat_lit 3) (Ty.int IntKind.i64))) y2 (Int.toNat y1)).1) : Int) != (2 : Int)) (.out (.inl false)) (.br (true) (.go (IntKind.wrap IntKind.i64 (y1 + (1 : Int)))) (.bad))) (.bad)) (.br (true) (.go (IntKind.wrap IntKind.i64 (y1 + (1 : Int)))) (.bad))) (.bad))) (.bad)) (.bad)) (.br (true) (.out (.inl false)) (.br (true) (.br (byteAt (at_ (Ty.pair Ty.str (Ty.sl (nat_lit 3) (Ty.int IntKind.i64))) y2 (Int.toNat y1)).1 (nat_lit 0) != (97 : Int)) (.br (true) (.br ((↑(ByteArray.size (at_ (Ty.pair Ty.str (Ty.sl (nat_lit 3) (Ty.int IntKind.i64))) y2 (Int.toNat y1)).1) : Int) != (2 : Int)) (.out (.inl false)) (.br (true) (.go (IntKind.wrap IntKind.i64 (y1 + (1 : Int)))) (.bad))) (.bad)) (.br (true) (.go (IntKind.wrap IntKind.i64 (y1 + (1 : Int)))) (.bad))) (.bad)))) (.bad)) (.bad)) (.br (true) (.out (.inl false)) (.br (true) (.br (byteAt (at_ (Ty.pair Ty.str (Ty.sl (nat_lit 3) (Ty.int IntKind.i64))) y2 (Int.toNat y1)).1 (nat_lit 0) != (97 : Int)) (.br (true) (.br ((↑(ByteArray.size (at_ (Ty.pair Ty.str (Ty.sl (nat_lit 3) (Ty.int IntKind.i64))) y2 (Int.toNat y1)).1) : Int) != (2 : Int)) (.out (.inl false)) (.br (true) (.go (IntKind.wrap IntKind.i64 (y1 + (1 : Int)))) (.bad))) (.bad)) (.br (true) (.go (IntKind.wrap IntKind.i64 (y1 + (1 : Int)))) (.bad))) (.bad)))) (.bad)) (.br (true) (.out (.inl false)) (.br (true) (.br (byteAt (at_ (Ty.pair Ty.str (Ty.sl (nat_lit 3) (Ty.int IntKind.i64))) y2 (Int.toNat y1)).1 (nat_lit 0) != (97 : Int)) (.br (true) (.br ((↑(ByteArray.size (at_ (Ty.pair Ty.str (Ty.sl (nat_lit 3) (Ty.int IntKind.i64))) y2 (Int.toNat y1)).1) : Int) != (2 : Int)) (.out (.inl false)) (.br (true) (.go (IntKind.wrap IntKind.i64 (y1 + (1 : Int)))) (.bad))) (.bad)) (.br (true) (.go (IntKind.wrap IntKind.i64 (y1 + (1 : Int)))) (.bad))) (.bad)))) (.bad))) (.bad)) (.br (true) (.br (byteAt (at_ (Ty.pair Ty.str (Ty.sl (nat_lit 3) (Ty.int IntKind.i64))) y2 (Int.toNat y1)).1 (nat_lit 0) == (102 : Int)) (.br (true) (.br ((↑(List.length (at_ (Ty.pair Ty.str (Ty.sl (nat_lit 3) (Ty.int IntKind.i64))) y2 (Int.toNat y1)).2) : Int) == (3 : Int)) (.br (decide ((0 : Int) ≤ (1 : Int) ∧ (1 : Int) < (↑(List.length (at_ (Ty.pair Ty.str (Ty.sl (nat_lit 3) (Ty.int IntKind.i64))) y2 (Int.toNat y1)).2) : Int))) (.br (g_As_l1In (at_ (Ty.int IntKind.i64) (at_ (Ty.pair Ty.str (Ty.sl (nat_lit 3) (Ty.int IntKind.i64))) y2 (Int.toNat y1)).2 (nat_lit 1)) (1 : Int) (99 : Int)) (.br (g_Vs_l1In_0 (at_ (Ty.int IntKind.i64) (at_ (Ty.pair Ty.str (Ty.sl (nat_lit 3) (Ty.int IntKind.i64))) y2 (Int.toNat y1)).2 (nat_lit 1)) (1 : Int) (99 : Int)) (.br (decide ((0 : Int) ≤ (2 : Int) ∧ (2 : Int) < (↑(List.length (at_ (Ty.pair Ty.str (Ty.sl (nat_lit 3) (Ty.int IntKind.i64))) y2 (Int.toNat y1)).2) : Int))) (.br (true) (.br (!decide (at_ (Ty.int IntKind.i64) (at_ (Ty.pair Ty.str (Ty.sl (nat_lit 3) (Ty.int IntKind.i64))) y2 (Int.toNat y1)).2 (nat_lit 2) ≤ (1 : Int))) (.out (.inl false)) (.br (true) (.br (byteAt (at_ (Ty.pair Ty.str (Ty.sl (nat_lit 3) (Ty.int IntKind.i64))) y2 (Int.toNat y1)).1 (nat_lit 0) != (97 : Int)) (.br (true) (.br ((↑(ByteArray.size (at_ (Ty.pair Ty.str (Ty.sl (nat_lit 3) (Ty.int IntKind.i64))) y2 (Int.toNat y1)).1) : Int) != (2 : Int)) (.out (.inl false)) (.br (true) (.go (IntKind.wrap IntKind.i64 (y1 + (1 : Int)))) (.bad))) (.bad)) (.br (true) (.go (IntKind.wrap IntKind.i64 (y1 + (1 : Int)))) (.bad))) (.bad))) (.bad)) (.bad)) (.br (true) (.out (.inl false)) (.br (true) (.br (byteAt (at_ (Ty.pair Ty.str (Ty.sl (nat_lit 3) (Ty.int IntKind.i64))) y2 (Int.toNat y1)).1 (nat_lit 0) != (97 : Int)) (.br (true) (.br ((↑(ByteArray.size (at_ (Ty.pair Ty.str (Ty.sl (nat_lit 3) (Ty.int IntKind.i64))) y2 (Int.toNat y1)).1) : Int) != (2 : Int)) (.out (.inl false)) (.br (true) (.go (IntKind.wrap IntKind.i64 (y1 + (1 : Int)))) (.bad))) (.bad)) (.br (true) (.go (IntKind.wrap IntKind.i64 (y1 + (1 : Int)))) (.bad))) (.bad)))) (.bad)) (.bad)) (.br (true) (.out (.inl false)) (.br (true) (.br (byteAt (at_ (Ty.pair Ty.str (Ty.sl (nat_lit 3) (Ty.int IntKind.i64))) y2 (Int.toNat y1)).1 (nat_lit 0) != (97 : Int)) (.br (true) (.br ((↑(ByteArray.size (at_ (Ty.pair Ty.str (Ty.sl (nat_lit 3) (Ty.int IntKind.i64))) y2 (Int.toNat y1)).1) : Int) != (2 : Int)) (.out (.inl false)) (.br (true) (.go (IntKind.wrap IntKind.i64 (y1 + (1 : Int)))) (.bad))) (.bad)) (.br (true) (.go (IntKind.wrap IntKind.i64 (y1 + (1 : Int)))) (.bad))) (.bad)))) (.bad)) (.br (true) (.out (.inl false)) (.br (true) (.br (byteAt (at_ (Ty.pair Ty.str (Ty.sl (nat_lit 3) (Ty.int IntKind.i64))) y2 (Int.toNat y1)).1 (nat_lit 0) != (97 : Int)) (.br (true) (.br ((↑(ByteArray.size (at_ (Ty.pair Ty.str (Ty.sl (nat_lit 3) (Ty.int IntKind.i64))) y2 (Int.toNat y1)).1) : Int) != (2 : Int)) (.out (.inl false)) (.br (true) (.go (IntKind.wrap IntKind.i64 (y1 + (1 : Int)))) (.bad))) (.bad)) (.br (true) (.go (IntKind.wrap IntKind.i64 (y1 + (1 : Int)))) (.bad))) (.bad)))) (.bad))) (.bad)) (.br (true) (.out (.inl false)) (.br (true) (.br (byteAt (at_ (Ty.pair Ty.str (Ty.sl (nat_lit 3) (Ty.int IntKind.i64))) y2 (Int.toNat y1)).1 (nat_lit 0) != (97 : Int)) (.br (true) (.br ((↑(ByteArray.size (at_ (Ty.pair Ty.str (Ty.sl (nat_lit 3) (Ty.int IntKind.i64))) y2 (Int.toNat y1)).1) : Int) != (2 : Int)) (.out (.inl false)) (.br (true) (.go (IntKind.wrap IntKind.i64 (y1 + (1 : Int)))) (.bad))) (.bad)) (.br (true) (.go (IntKind.wrap IntKind.i64 (y1 + (1 : Int)))) (.bad))) (.bad)))) (.bad)) (.br (true) (.out (.inl false)) (.br (true) (.br (byteAt (at_ (Ty.pair Ty.str (Ty.sl (nat_lit 3) (Ty.int IntKind.i64))) y2 (Int.toNat y1)).1 (nat_lit 0) != (97 : Int)) (.br (true) (.br ((↑(ByteArray.size (at_ (Ty.pair Ty.str (Ty.sl (nat_lit 3) (Ty.int IntKind.i64))) y2 (Int.toNat y1)).1) : Int) != (2 : Int)) (.out (.inl false)) (.br (true) (.go (IntKind.wrap IntKind.i64 (y1 + (1 : Int)))) (.bad))) (.bad)) (.br (true) (.go (IntKind.wrap IntKind.i64 (y1 + (1 : Int)))) (.bad))) (.bad)))) (.bad))) (.bad)) (.br (true) (.br (y0 == (2 : Int)) (.br (true) (.br (decide (at_ (Ty.int IntKind.i64) (at_ (Ty.pair Ty.str (Ty.sl (nat_lit 3) (Ty.int IntKind.i64))) y2 (Int.toNat y1)).2 (nat_lit 0) ≤ (9 : Int))) (.br (true) (.br (byteAt (at_ (Ty.pair Ty.str (Ty.sl (nat_lit 3) (Ty.int IntKind.i64))) y2 (Int.toNat y1)).1 (nat_lit 0) == (99 : Int)) (.br (true) (.br ((↑(List.length (at_ (Ty.pair Ty.str (Ty.sl (nat_lit 3) (Ty.int IntKind.i64))) y2 (Int.toNat y1)).2) : Int) == (2 : Int)) (.br (false) (.out (.inl false)) (.br (true) (.br (byteAt (at_ (Ty.pair Ty.str (Ty.sl (nat_lit 3) (Ty.int IntKind.i64))) y2 (Int.toNat y1)).1 (nat_lit 0) != (97 : Int)) (.br (true) (.br ((↑(ByteArray.size (at_ (Ty.pair Ty.str (Ty.sl (nat_lit 3) (Ty.int IntKind.i64))) y2 (Int.toNat y1)).1) : Int) != (2 : Int)) (.out (.inl false)) (.br (true) (.go (IntKind.wrap IntKind.i64 (y1 + (1 : Int)))) (.bad))) (.bad)) (.br (true) (.go (IntKind.wrap IntKind.i64 (y1 + (1 : Int)))) (.bad))) (.bad))) (.br (true) (.br (byteAt (at_ (Ty.pair Ty.str (Ty.sl (nat_lit 3) (Ty.int IntKind.i64))) y2 (Int.toNat y1)).1 (nat_lit 0) == (102 : Int)) (.br (true) (.br ((↑(List.length (at_ (Ty.pair Ty.str (Ty.sl (nat_lit 3) (Ty.int IntKind.i64))) y2 (Int.toNat y1)).2) : Int) == (3 : Int)) (.br (decide ((0 : Int) ≤ (1 : Int) ∧ (1 : Int) < (↑(List.length (at_ (Ty.pair Ty.str (Ty.sl (nat_lit 3) (Ty.int IntKind.i64))) y2 (Int.toNat y1)).2) : Int))) (.br (g_As_l1In (at_ (Ty.int IntKind.i64) (at_ (Ty.pair Ty.str (Ty.sl (nat_lit 3) (Ty.int IntKind.i64))) y2 (Int.toNat y1)).2 (nat_lit 1)) (1 : Int) (99 : Int)) (.br (g_Vs_l1In_0 (at_ (Ty.int IntKind.i64) (at_ (Ty.pair Ty.str (Ty.sl (nat_lit 3) (Ty.int IntKind.i64))) y2 (Int.toNat y1)).2 (nat_lit 1)) (1 : Int) (99 : Int)) (.br (decide ((0 : Int) ≤ (2 : Int) ∧ (2 : Int) < (↑(List.length (at_ (Ty.pair Ty.str (Ty.sl (nat_lit 3) (Ty.int IntKind.i64))) y2 (Int.toNat y1)).2) : Int))) (.br (true) (.br (!decide (at_ (Ty.int IntKind.i64) (at_ (Ty.pair Ty.str (Ty.sl (nat_lit 3) (Ty.int IntKind.i64))) y2 (Int.toNat y1)).2 (nat_lit 2) ≤ (1 : Int))) (.out (.inl false)) (.br (true) (.br (byteAt (at_ (Ty.pair Ty.str (Ty.sl (nat_lit 3) (Ty.int IntKind.i64))) y2 (Int.toNat y1)).1 (nat_lit 0) != (97 : Int)) (.br (true) (.br ((↑(ByteArray.size (at_ (Ty.pair Ty.str (Ty.sl (nat_lit 3) (Ty.int IntKind.i64))) y2 (Int.toNat y1)).1) : Int) != (2 : Int)) (.out (.inl false)) (.br (true) (.go (IntKind.wrap IntKind.i64 (y1 + (1 : Int)))) (.bad))) (.bad)) (.br (true) (.go (IntKind.wrap IntKind.i64 (y1 + (1 : Int)))) (.bad))) (.bad))) (.bad)) (.bad)) (.br (true) (.out (.inl false)) (.br (true) (.br (byteAt (at_ (Ty.pair Ty.str (Ty.sl (nat_lit 3) (Ty.int IntKind.i64))) y2 (Int.toNat y1)).1 (nat_lit 0) != (97 : Int)) (.br (true) (.br ((↑(ByteArray.size (at_ (Ty.pair Ty.str (Ty.sl (nat_lit 3) (Ty.int IntKind.i64))) y2 (Int.toNat y1)).1) : Int) != (2 : Int)) (.out (.inl false)) (.br (true) (.go (IntKind.wrap IntKind.i64 (y1 + (1 : Int)))) (.bad))) (.bad)) (.br (true) (.go (IntKind.wrap IntKind.i64 (y1 + (1 : Int)))) (.bad))) (.bad)))) (.bad)) (.bad)) (.br (true) (.out (.inl false)) (.br (true) (.br (byteAt (at_ (Ty.pair Ty.str (Ty.sl (nat_lit 3) (Ty.int IntKind.i64))) y2 (Int.toNat y1)).1 (nat_lit 0) != (97 : Int)) (.br (true) (.br ((↑(ByteArray.size (at_ (Ty.pair Ty.str (Ty.sl (nat_lit 3) (Ty.int IntKind.i64))) y2 (Int.toNat y1)).1) : Int) != (2 : Int)) (.out (.inl false)) (.br (true) (.go (IntKind.wrap IntKind.i64 (y1 + (1 : Int)))) (.bad))) (.bad)) (.br (true) (.go (IntKind.wrap IntKind.i64 (y1 + (1 : Int)))) (.bad))) (.bad)))) (.bad)) (.br (true) (.out (.inl false)) (.br (true) (.br (byteAt (at_ (Ty.pair Ty.str (Ty.sl (nat_lit 3) (Ty.int IntKind.i64))) y2 (Int.toNat y1)).1 (nat_lit 0) != (97 : Int)) (.br (true) (.br ((↑(ByteArray.size (at_ (Ty.pair Ty.str (Ty.sl (nat_lit 3) (Ty.int IntKind.i64))) y2 (Int.toNat y1)).1) : Int) != (2 : Int)) (.out (.inl false)) (.br (true) (.go (IntKind.wrap IntKind.i64 (y1 + (1 : Int)))) (.bad))) (.bad)) (.br (true) (.go (IntKind.wrap IntKind.i64 (y1 + (1 : Int)))) (.bad))) (.bad)))) (.bad))) (.bad)) (.br (true) (.br (byteAt (at_ (Ty.pair Ty.str (Ty.sl (nat_lit 3) (Ty.int IntKind.i64))) y2 (Int.toNat y1)).1 (nat_lit 0) == (102 : Int)) (.br (true) (.br ((↑(List.length (at_ (Ty.pair Ty.str (Ty.sl (nat_lit 3) (Ty.int IntKind.i64))) y2 (Int.toNat y1)).2) : Int) == (3 : Int)) (.br (decide ((0 : Int) ≤ (1 : Int) ∧ (1 : Int) < (↑(List.length (at_ (Ty.pair Ty.str (Ty.sl (nat_lit 3) (Ty.int IntKind.i64))) y2 (Int.toNat y1)).2) : Int))) (.br (g_As_l1In (at_ (Ty.int IntKind.i64) (at_ (Ty.pair Ty.str (Ty.sl (nat_lit 3) (Ty.int IntKind.i64))) y2 (Int.toNat y1)).2 (nat_lit 1)) (1 : Int) (99 : Int)) (.br (g_Vs_l1In_0 (at_ (Ty.int IntKind.i64) (at_ (Ty.pair Ty.str (Ty.sl (nat_lit 3) (Ty.int IntKind.i64))) y2 (Int.toNat y1)).2 (nat_lit 1)) (1 : Int) (99 : Int)) (.br (decide ((0 : Int) ≤ (2 : Int) ∧ (2 : Int) < (↑(List.length (at_ (Ty.pair Ty.str (Ty.sl (nat_lit 3) (Ty.int IntKind.i64))) y2 (Int.toNat y1)).2) : Int))) (.br (true) (.br (!decide (at_ (Ty.int IntKind.i64) (at_ (Ty.pair Ty.str (Ty.sl (nat_lit 3) (Ty.int IntKind.i64))) y2 (Int.toNat y1)).2 (nat_lit 2) ≤ (1 : Int))) (.out (.inl false)) (.br (true) (.br (byteAt (at_ (Ty.pair Ty.str (Ty.sl (nat_lit 3) (Ty.int IntKind.i64))) y2 (Int.toNat y1)).1 (nat_lit 0) != (97 : Int)) (.br (true) (.br ((↑(ByteArray.size (at_ (Ty.pair Ty.str (Ty.sl (nat_lit 3) (Ty.int IntKind.i64))) y2 (Int.toNat y1)).1) : Int) != (2 : Int)) (.out (.inl false)) (.br (true) (.go (IntKind.wrap IntKind.i64 (y1 + (1 : Int)))) (.bad))) (.bad)) (.br (true) (.go (IntKind.wrap IntKind.i64 (y1 + (1 : Int)))) (.bad))) (.bad))) (.bad)) (.bad)) (.br (true) (.out (.inl false)) (.br (true) (.br (byteAt (at_ (Ty.pair Ty.str (Ty.sl (nat_lit 3) (Ty.int IntKind.i64))) y2 (Int.toNat y1)).1 (nat_lit 0) != (97 : Int)) (.br (true) (.br ((↑(ByteArray.size (at_ (Ty.pair Ty.str (Ty.sl (nat_lit 3) (Ty.int IntKind.i64))) y2 (Int.toNat y1)).1) : Int) != (2 : Int)) (.out (.inl false)) (.br (true) (.go (IntKind.wrap IntKind.i64 (y1 + (1 : Int)))) (.bad))) (.bad)) (.br (true) (.go (IntKind.wrap IntKind.i64 (y1 + (1 : Int)))) (.bad))) (.bad)))) (.bad)) (.bad)) (.br (true) (.out (.inl false)) (.br (true) (.br (byteAt (at_ (Ty.pair Ty.str (Ty.sl (nat_lit 3) (Ty.int IntKind.i64))) y2 (Int.toNat y1)).1 (nat_lit 0) != (97 : Int)) (.br (true) (.br ((↑(ByteArray.size (at_ (Ty.pair Ty.str (Ty.sl (nat_lit 3) (Ty.int IntKind.i64))) y2 (Int.toNat y1)).1) : Int) != (2 : Int)) (.out (.inl false)) (.br (true) (.go (IntKind.wrap IntKind.i64 (y1 + (1 : Int)))) (.bad))) (.bad)) (.br (true) (.go (IntKind.wrap IntKind.i64 (y1 + (1 : Int)))) (.bad))) (.bad)))) (.bad)) (.br (true) (.out (.inl false)) (.br (true) (.br (byteAt (at_ (Ty.pair Ty.str (Ty.sl (nat_lit 3) (Ty.int IntKind.i64))) y2 (Int.toNat y1)).1 (nat_lit 0) != (97 : Int)) (.br (true) (.br ((↑(ByteArray.size (at_ (Ty.pair Ty.str (Ty.sl (nat_lit 3) (Ty.int IntKind.i64))) y2 (Int.toNat y1)).1) : Int) != (2 : Int)) (.out (.inl false)) (.br (true) (.go (IntKind.wrap IntKind.i64 (y1 + (1 : Int)))) (.bad))) (.bad)) (.br (true) (.go (IntKind.wrap IntKind.i64 (y1 + (1 : Int)))) (.bad))) (.bad)))) (.bad))) (.bad)) (.br (true) (.out (.inl false)) (.br (true) (.br (byteAt (at_ (Ty.pair Ty.str (Ty.sl (nat_lit 3) (Ty.int IntKind.i64))) y2 (Int.toNat y1)).1 (nat_lit 0) != (97 : Int)) (.br (true) (.br ((↑(ByteArray.size (at_ (Ty.pair Ty.str (Ty.sl (nat_lit 3) (Ty.int IntKind.i64))) y2 (Int.toNat y1)).1) : Int) != (2 : Int)) (.out (.inl false)) (.br (true) (.go (IntKind.wrap IntKind.i64 (y1 + (1 : Int)))) (.bad))) (.bad)) (.br (true) (.go (IntKind.wrap IntKind.i64 (y1 + (1 : Int)))) (.bad))) (.bad)))) (.bad)) (.br (true) (.out (.inl false)) (.br (true) (.br (byteAt (at_ (Ty.pair Ty.str (Ty.sl (nat_lit 3) (Ty.int IntKind.i64))) y2 (Int.toNat y1)).1 (nat_lit 0) != (97 : Int)) (.br (true) (.br ((↑(ByteArray.size (at_ (Ty.pair Ty.str (Ty.sl (nat_lit 3) (Ty.int IntKind.i64))) y2 (Int.toNat y1)).1) : Int) != (2 : Int)) (.out (.inl false)) (.br (true) (.go (IntKind.wrap IntKind.i64 (y1 + (1 : Int)))) (.bad))) (.bad)) (.br (true) (.go (IntKind.wrap IntKind.i64 (y1 + (1 : Int)))) (.bad))) (.bad)))) (.bad))) (.bad)) (.br (true) (.br (y0 == (2 : Int)) (.br (true) (.br (decide (at_ (Ty.int IntKind.i64) (at_ (Ty.pair Ty.str (Ty.sl (nat_lit 3) (Ty.int IntKind.i64))) y2 (Int.toNat y1)).2 (nat_lit 0) ≤ (9 : Int))) (.br (true) (.br (byteAt (at_ (Ty.pair Ty.str (Ty.sl (nat_lit 3) (Ty.int IntKind.i64))) y2 (Int.toNat y1)).1 (nat_lit 0) == (99 : Int)) (.br (true) (.br ((↑(List.length (at_ (Ty.pair Ty.str (Ty.sl (nat_lit 3) (Ty.int IntKind.i64))) y2 (Int.toNat y1)).2) : Int) == (2 : Int)) (.br (false) (.out (.inl false)) (.br (true) (.br (byteAt (at_ (Ty.pair Ty.str (Ty.sl (nat_lit 3) (Ty.int IntKind.i64))) y2 (Int.toNat y1)).1 (nat_lit 0) != (97 : Int)) (.br (true) (.br ((↑(ByteArray.size (at_ (Ty.pair Ty.str (Ty.sl (nat_lit 3) (Ty.int IntKind.i64))) y2 (Int.toNat y1)).1) : Int) != (2 : Int)) (.out (.inl false)) (.br (true) (.go (IntKind.wrap IntKind.i64 (y1 + (1 : Int)))) (.bad))) (.bad)) (.br (true) (.go (IntKind.wrap IntKind.i64 (y1 + (1 : Int)))) (.bad))) (.bad))) (.br (true) (.br (byteAt (at_ (Ty.pair Ty.str (Ty.sl (nat_lit 3) (Ty.int IntKind.i64))) y2 (Int.toNat y1)).1 (nat_lit 0) == (102 : Int)) (.br (true) (.br ((↑(List.length (at_ (Ty.pair Ty.str (Ty.sl (nat_lit 3) (Ty.int IntKind.i64))) y2 (Int.toNat y1)).2) : Int) == (3 : Int)) (.br (decide ((0 : Int) ≤ (1 : Int) ∧ (1 : Int) < (↑(List.length (at_ (Ty.pair Ty.str (Ty.sl (nat_lit 3) (Ty.int IntKind.i64))) y2 (Int.toNat y1)).2) : Int))) (.br (g_As_l1In (at_ (Ty.int IntKind.i64) (at_ (Ty.pair Ty.str (Ty.sl (nat_lit 3) (Ty.int IntKind.i64))) y2 (Int.toNat y1)).2 (nat_lit 1)) (1 : Int) (99 : Int)) (.br (g_Vs_l1In_0 (at_ (Ty.int IntKind.i64) (at_ (Ty.pair Ty.str (Ty.sl (nat_lit 3) (Ty.int IntKind.i64))) y2 (Int.toNat y1)).2 (nat_lit 1)) (1 : Int) (99 : Int)) (.br (decide ((0 : Int) ≤ (2 : Int) ∧ (2 : Int) < (↑(List.length (at_ (Ty.pair Ty.str (Ty.sl (nat_lit 3) (Ty.int IntKind.i64))) y2 (Int.toNat y1)).2) : Int))) (.br (true) (.br (!decide (at_ (Ty.int IntKind.i64) (at_ (Ty.pair Ty.str (Ty.sl (nat_lit 3) (Ty.int IntKind.i64))) y2 (Int.toNat y1)).2 (nat_lit 2) ≤ (1 : Int))) (.out (.inl false)) (.br (true) (.br (byteAt (at_ (Ty.pair Ty.str (Ty.sl (nat_lit 3) (Ty.int IntKind.i64))) y2 (Int.toNat y1)).1 (nat_lit 0) != (97 : Int)) (.br (true) (.br ((↑(ByteArray.size (at_ (Ty.pair Ty.str (Ty.sl (nat_lit 3) (Ty.int IntKind.i64))) y2 (Int.toNat y1)).1) : Int) != (2 : Int)) (.out (.inl false)) (.br (true) (.go (IntKind.wrap IntKind.i64 (y1 + (1 : Int)))) (.bad))) (.bad)) (.br (true) (.go (IntKind.wrap IntKind.i64 (y1 + (1 : Int)))) (.bad))) (.bad))) (.bad)) (.bad)) (.br (true) (.out (.inl false)) (.br (true) (.br (byteAt (at_ (Ty.pair Ty.str (Ty.sl (nat_lit 3) (Ty.int IntKind.i64))) y2 (Int.toNat y1)).1 (nat_lit 0) != (97 : Int)) (.br (true) (.br ((↑(ByteArray.size (at_ (Ty.pair Ty.str (Ty.sl (nat_lit 3) (Ty.int IntKind.i64))) y2 (Int.toNat y1)).1) : Int) != (2 : Int)) (.out (.inl false)) (.br (true) (.go (IntKind.wrap IntKind.i64 (y1 + (1 : Int)))) (.bad))) (.bad)) (.br (true) (.go (IntKind.wrap IntKind.i64 (y1 + (1 : Int)))) (.bad))) (.bad)))) (.bad)) (.bad)) (.br (true) (.out (.inl false)) (.br (true) (.br (byteAt (at_ (Ty.pair Ty.str (Ty.sl (nat_lit 3) (Ty.int IntKind.i64))) y2 (Int.toNat y1)).1 (nat_lit 0) != (97 : Int)) (.br (true) (.br ((↑(ByteArray.size (at_ (Ty.pair Ty.str (Ty.sl (nat_lit 3) (Ty.int IntKind.i64))) y2 (Int.toNat y1)).1) : Int) != (2 : Int)) (.out (.inl false)) (.br (true) (.go (IntKind.wrap IntKind.i64 (y1 + (1 : Int)))) (.bad))) (.bad)) (.br (true) (.go (IntKind.wrap IntKind.i64 (y1 + (1 : Int)))) (.bad))) (.bad)))) (.bad)) (.br (true) (.out (.inl false)) (.br (true) (.br (byteAt (at_ (Ty.pair Ty.str (Ty.sl (nat_lit 3) (Ty.int IntKind.i64))) y2 (Int.toNat y1)).1 (nat_lit 0) != (97 : Int)) (.br (true) (.br ((↑(ByteArray.size (at_ (Ty.pair Ty.str (Ty.sl (nat_lit 3) (Ty.int IntKind.i64))) y2 (Int.toNat y1)).1) : Int) != (2 : Int)) (.out (.inl false)) (.br (true) (.go (IntKind.wrap IntKind.i64 (y1 + (1 : Int)))) (.bad))) (.bad)) (.br (true) (.go (IntKind.wrap IntKind.i64 (y1 + (1 : Int)))) (.bad))) (.bad)))) (.bad))) (.bad)) (.br (true) (.br (byteAt (at_ (Ty.pair Ty.str (Ty.sl (nat_lit 3) (Ty.int IntKind.i64))) y2 (Int.toNat y1)).1 (nat_lit 0) == (102 : Int)) (.br (true) (.br ((↑(List.length (at_ (Ty.pair Ty.str (Ty.sl (nat_lit 3) (Ty.int IntKind.i64))) y2 (Int.toNat y1)).2) : Int) == (3 : Int)) (.br (decide ((0 : Int) ≤ (1 : Int) ∧ (1 : Int) < (↑(List.length (at_ (Ty.pair Ty.str (Ty.sl (nat_lit 3) (Ty.int IntKind.i64))) y2 (Int.toNat y1)).2) : Int))) (.br (g_As_l1In (at_ (Ty.int IntKind.i64) (at_ (Ty.pair Ty.str (Ty.sl (nat_lit 3) (Ty.int IntKind.i64))) y2 (Int.toNat y1)).2 (nat_lit 1)) (1 : Int) (99 : Int)) (.br (g_Vs_l1In_0 (at_ (Ty.int IntKind.i64) (at_ (Ty.pair Ty.str (Ty.sl (nat_lit 3) (Ty.int IntKind.i64))) y2 (Int.toNat y1)).2 (nat_lit 1)) (1 : Int) (99 : Int)) (.br (decide ((0 : Int) ≤ (2 : Int) ∧ (2 : Int) < (↑(List.length (at_ (Ty.pair Ty.str (Ty.sl (nat_lit 3) (Ty.int IntKind.i64))) y2 (Int.toNat y1)).2) : Int))) (.br (true) (.br (!decide (at_ (Ty.int IntKind.i64) (at_ (Ty.pair Ty.str (Ty.sl (nat_lit 3) (Ty.int IntKind.i64))) y2 (Int.toNat y1)).2 (nat_lit 2) ≤ (1 : Int))) (.out (.inl false)) (.br (true) (.br (byteAt (at_ (Ty.pair Ty.str (Ty.sl (nat_lit 3) (Ty.int IntKind.i64))) y2 (Int.toNat y1)).1 (nat_lit 0) != (97 : Int)) (.br (true) (.br ((↑(ByteArray.size (at_ (Ty.pair Ty.str (Ty.sl (nat_lit 3) (Ty.int IntKind.i64))) y2 (Int.toNat y1)).1) : Int) != (2 : Int)) (.out (.inl false)) (.br (true) (.go (IntKind.wrap IntKind.i64 (y1 + (1 : Int)))) (.bad))) (.bad)) (.br (true) (.go (IntKind.wrap IntKind.i64 (y1 + (1 : Int)))) (.bad))) (.bad))) (.bad)) (.bad)) (.br (true) (.out (.inl false)) (.br (true) (.br (byteAt (at_ (Ty.pair Ty.str (Ty.sl (nat_lit 3) (Ty.int IntKind.i64))) y2 (Int.toNat y1)).1 (nat_lit 0) != (97 : Int)) (.br (true) (.br ((↑(ByteArray.size (at_ (Ty.pair Ty.str (Ty.sl (nat_lit 3) (Ty.int IntKind.i64))) y2 (Int.toNat y1)).1) : Int) != (2 : Int)) (.out (.inl false)) (.br (true) (.go (IntKind.wrap IntKind.i64 (y1 + (1 : Int)))) (.bad))) (.bad)) (.br (true) (.go (IntKind.wrap IntKind.i64 (y1 + (1 : Int)))) (.bad))) (.bad)))) (.bad)) (.bad)) (.br (true) (.out (.inl false)) (.br (true) (.br (byteAt (at_ (Ty.pair Ty.str (Ty.sl (nat_lit 3) (Ty.int IntKind.i64))) y2 (Int.toNat y1)).1 (nat_lit 0) != (97 : Int)) (.br (true) (.br ((↑(ByteArray.size (at_ (Ty.pair Ty.str (Ty.sl (nat_lit 3) (Ty.int IntKind.i64))) y2 (Int.toNat y1)).1) : Int) != (2 : Int)) (.out (.inl false)) (.br (true) (.go (IntKind.wrap IntKind.i64 (y1 + (1 : Int)))) (.bad))) (.bad)) (.br (true) (.go (IntKind.wrap IntKind.i64 (y1 + (1 : Int)))) (.bad))) (.bad)))) (.bad)) (.br (true) (.out (.inl false)) (.br (true) (.br (byteAt (at_ (Ty.pair Ty.str (Ty.sl (nat_lit 3) (Ty.int IntKind.i64))) y2 (Int.toNat y1)).1 (nat_lit 0) != (97 : Int)) (.br (true) (.br ((↑(ByteArray.size (at_ (Ty.pair Ty.str (Ty.sl (nat_lit 3) (Ty.int IntKind.i64))) y2 (Int.toNat y1)).1) : Int) != (2 : Int)) (.out (.inl false)) (.br (true) (.go (IntKind.wrap IntKind.i64 (y1 + (1 : Int)))) (.bad))) (.bad)) (.br (true) (.go (IntKind.wrap IntKind.i64 (y1 + (1 : Int)))) (.bad))) (.bad)))) (.bad))) (.bad)) (.br (true) (.out (.inl false)) (.br (true) (.br (byteAt (at_ (Ty.pair Ty.str (Ty.sl (nat_lit 3) (Ty.int IntKind.i64))) y2 (Int.toNat y1)).1 (nat_lit 0) != (97 : Int)) (.br (true) (.br ((↑(ByteArray.size (at_ (Ty.pair Ty.str (Ty.sl (nat_lit 3) (Ty.int IntKind.i64))) y2 (Int.toNat y1)).1) : Int) != (2 : Int)) (.out (.inl false)) (.br (true) (.go (IntKind.wrap IntKind.i64 (y1 + (1 : Int)))) (.bad))) (.bad)) (.br (true) (.go (IntKind.wrap IntKind.i64 (y1 + (1 : Int)))) (.bad))) (.bad)))) (.bad)) (.br (true) (.out (.inl false)) (.br (true) (.br (byteAt (at_ (Ty.pair Ty.str (Ty.sl (nat_lit 3) (Ty.int IntKind.i64))) y2 (Int.toNat y1)).1 (nat_lit 0) != (97 : Int)) (.br (true) (.br ((↑(ByteArray.size (at_ (Ty.pair Ty.str (Ty.sl (nat_lit 3) (Ty.int IntKind.i64))) y2 (Int.toNat y1)).1) : Int) != (2 : Int)) (.out (.inl false)) (.br (true) (.go (IntKind.wrap IntKind.i64 (y1 + (1 : Int)))) (.bad))) (.bad)) (.br (true) (.go (IntKind.wrap IntKind.i64 (y1 + (1 : Int)))) (.bad))) (.bad)))) (.bad))) (.bad))) (.bad)) (.br (true) (.br (y0 == (3 : Int)) (.br (true) (.br (byteAt (at_ (Ty.pair Ty.str (Ty.sl (nat_lit 3) (Ty.int IntKind.i64))) y2 (Int.toNat y1)).1 (nat_lit 0) == (97 : Int)) (.br (true) (.br ((↑(List.length (at_ (Ty.pair Ty.str (Ty.sl (nat_lit 3) (Ty.int IntKind.i64))) y2 (Int.toNat y1)).2) : Int) == (1 : Int)) (.br (false) (.out (.inl false)) (.br (true) (.br (byteAt (at_ (Ty.pair Ty.str (Ty.sl (nat_lit 3) (Ty.int IntKind.i64))) y2 (Int.toNat y1)).1 (nat_lit 0) != (97 : Int)) (.br (true) (.br ((↑(ByteArray.size (at_ (Ty.pair Ty.str (Ty.sl (nat_lit 3) (Ty.int IntKind.i64))) y2 (Int.toNat y1)).1) : Int) != (2 : Int)) (.out (.inl false)) (.br (true) (.go (IntKind.wrap IntKind.i64 (y1 + (1 : Int)))) (.bad))) (.bad)) (.br (true) (.go (IntKind.wrap IntKind.i64 (y1 + (1 : Int)))) (.bad))) (.bad))) (.br (true) (.br (y0 == (2 : Int)) (.br (true) (.br (decide (at_ (Ty.int IntKind.i64) (at_ (Ty.pair Ty.str (Ty.sl (nat_lit 3) (Ty.int IntKind.i64))) y2 (Int.toNat y1)).2 (nat_lit 0) ≤ (9 : Int))) (.br (true) (.br (byteAt (at_ (Ty.pair Ty.str (Ty.sl (nat_lit 3) (Ty.int IntKind.i64))) y2 (Int.toNat y1)).1 (nat_lit 0) == (99 : Int)) (.br (true) (.br ((↑(List.length (at_ (Ty.pair Ty.str (Ty.sl (nat_lit 3) (Ty.int IntKind.i64))) y2 (Int.toNat y1)).2) : Int) == (2 : Int)) (.br (false) (.out (.inl false)) (.br (true) (.br (byteAt (at_ (Ty.pair Ty.str (Ty.sl (nat_lit 3) (Ty.int IntKind.i64))) y2 (Int.toNat y1)).1 (nat_lit 0) != (97 : Int)) (.br (true) (.br ((↑(ByteArray.size (at_ (Ty.pair Ty.str (Ty.sl (nat_lit 3) (Ty.int IntKind.i64))) y2 (Int.toNat y1)).1) : Int) != (2 : Int)) (.out (.inl false)) (.br (true) (.go (IntKind.wrap IntKind.i64 (y1 + (1 : Int)))) (.bad))) (.bad)) (.br (true) (.go (IntKind.wrap IntKind.i64 (y1 + (1 : Int)))) (.bad))) (.bad))) (.br (true) (.br (byteAt (at_ (Ty.pair Ty.str (Ty.sl (nat_lit 3) (Ty.int IntKind.i64))) y2 (Int.toNat y1)).1 (nat_lit 0) == (102 : Int)) (.br (true) (.br ((↑(List.length (at_ (Ty.pair Ty.str (Ty.sl (nat_lit 3) (Ty.int IntKind.i64))) y2 (Int.toNat y1)).2) : Int) == (3 : Int)) (.br (decide ((0 : Int) ≤ (1 : Int) ∧ (1 : Int) < (↑(List.length (at_ (Ty.pair Ty.str (Ty.sl (nat_lit 3) (Ty.int IntKind.i64))) y2 (Int.toNat y1)).2) : Int))) (.br (g_As_l1In (at_ (Ty.int IntKind.i64) (at_ (Ty.pair Ty.str (Ty.sl (nat_lit 3) (Ty.int IntKind.i64))) y2 (Int.toNat y1)).2 (nat_lit 1)) (1 : Int) (99 : Int)) (.br (g_Vs_l1In_0 (at_ (Ty.int IntKind.i64) (at_ (Ty.pair Ty.str (Ty.sl (nat_lit 3) (Ty.int IntKind.i64))) y2 (Int.toNat y1)).2 (nat_lit 1)) (1 : Int) (99 : Int)) (.br (decide ((0 : Int) ≤ (2 : Int) ∧ (2 : Int) < (↑(List.length (at_ (Ty.pair Ty.str (Ty.sl (nat_lit 3) (Ty.int IntKind.i64))) y2 (Int.toNat y1)).2) : Int))) (.br (true) (.br (!decide (at_ (Ty.int IntKind.i64) (at_ (Ty.pair Ty.str (Ty.sl (nat_lit 3) (Ty.int IntKind.i64))) y2 (Int.toNat y1)).2 (nat_lit 2) ≤ (1 : Int))) (.out (.inl false)) (.br (true) (.br (byteAt (at_ (Ty.pair Ty.str (Ty.sl (nat_lit 3) (Ty.int IntKind.i64))) y2 (Int.toNat y1)).1 (nat_lit 0) != (97 : Int)) (.br (true) (.br ((↑(ByteArray.size (at_ (Ty.pair Ty.str (Ty.sl (nat_lit 3) (Ty.int IntKind.i64))) y2 (Int.toNat y1)).1) : Int) != (2 : Int)) (.out (.inl false)) (.br (true) (.go (IntKind.wrap IntKind.i64 (y1 + (1 : Int)))) (.bad))) (.bad)) (.br (true) (.go (IntKind.wrap IntKind.i64 (y1 + (1 : Int)))) (.bad))) (.bad))) (.bad)) (.bad)) (.br (true) (.out (.inl false)) (.br (true) (.br (byteAt (at_ (Ty.pair Ty.str (Ty.sl (nat_lit 3) (Ty.int IntKind.i64))) y2 (Int.toNat y1)).1 (nat_lit 0) != (97 : Int)) (.br (true) (.br ((↑(ByteArray.size (at_ (Ty.pair Ty.str (Ty.sl (nat_lit 3) (Ty.int IntKind.i64))) y2 (Int.toNat y1)).1) : Int) != (2 : Int)) (.out (.inl false)) (.br (true) (.go (IntKind.wrap IntKind.i64 (y1 + (1 : Int)))) (.bad))) (.bad)) (.br (true) (.go (IntKind.wrap IntKind.i64 (y1 + (1 : Int)))) (.bad))) (.bad)))) (.bad)) (.bad)) (.br (true) (.out (.inl false)) (.br (true) (.br (byteAt (at_ (Ty.pair Ty.str (Ty.sl (nat_lit 3) (Ty.int IntKind.i64))) y2 (Int.toNat y1)).1 (nat_lit 0) != (97 : Int)) (.br (true) (.br ((↑(ByteArray.size (at_ (Ty.pair Ty.str (Ty.sl (nat_lit 3) (Ty.int IntKind.i64))) y2 (Int.toNat y1)).1) : Int) != (2 : Int)) (.out (.inl false)) (.br (true) (.go (IntKind.wrap IntKind.i64 (y1 + (1 : Int)))) (.bad))) (.bad)) (.br (true) (.go (IntKind.wrap IntKind.i64 (y1 + (1 : Int)))) (.bad))) (.bad)))) (.bad)) (.br (true) (.out (.inl false)) (.br (true) (.br (byteAt (at_ (Ty.pair Ty.str (Ty.sl (nat_lit 3) (Ty.int IntKind.i64))) y2 (Int.toNat y1)).1 (nat_lit 0) != (97 : Int)) (.br (true) (.br ((↑(ByteArray.size (at_ (Ty.pair Ty.str (Ty.sl (nat_lit 3) (Ty.int IntKind.i64))) y2 (Int.toNat y1)).1) : Int) != (2 : Int)) (.out (.inl false)) (.br (true) (.go (IntKind.wrap IntKind.i64 (y1 + (1 : Int)))) (.bad))) (.bad)) (.br (true) (.go (IntKind.wrap IntKind.i64 (y1 + (1 : Int)))) (.bad))) (.bad)))) (.bad))) (.bad)) (.br (true) (.br (byteAt (at_ (Ty.pair Ty.str (Ty.sl (nat_lit 3) (Ty.int IntKind.i64))) y2 (Int.toNat y1)).1 (nat_lit 0) == (102 : Int)) (.br (true) (.br ((↑(List.length (at_ (Ty.pair Ty.str (Ty.sl (nat_lit 3) (Ty.int IntKind.i64))) y2 (Int.toNat y1)).2) : Int) == (3 : Int)) (.br (decide ((0 : Int) ≤ (1 : Int) ∧ (1 : Int) < (↑(List.length (at_ (Ty.pair Ty.str (Ty.sl (nat_lit 3) (Ty.int IntKind.i64))) y2 (Int.toNat y1)).2) : Int))) (.br (g_As_l1In (at_ (Ty.int IntKind.i64) (at_ (Ty.pair Ty.str (Ty.sl (nat_lit 3) (Ty.int IntKind.i64))) y2 (Int.toNat y1)).2 (nat_lit 1)) (1 : Int) (99 : Int)) (.br (g_Vs_l1In_0 (at_ (Ty.int IntKind.i64) (at_ (Ty.pair Ty.str (Ty.sl (nat_lit 3) (Ty.int IntKind.i64))) y2 (Int.toNat y1)).2 (nat_lit 1)) (1 : Int) (99 : Int)) (.br (decide ((0 : Int) ≤ (2 : Int) ∧ (2 : Int) < (↑(List.length (at_ (Ty.pair Ty.str (Ty.sl (nat_lit 3) (Ty.int IntKind.i64))) y2 (Int.toNat y1)).2) : Int))) (.br (true) (.br (!decide (at_ (Ty.int IntKind.i64) (at_ (Ty.pair Ty.str (Ty.sl (nat_lit 3) (Ty.int IntKind.i64))) y2 (Int.toNat y1)).2 (nat_lit 2) ≤ (1 : Int))) (.out (.inl false)) (.br (true) (.br (byteAt (at_ (Ty.pair Ty.str (Ty.sl (nat_lit 3) (Ty.int IntKind.i64))) y2 (Int.toNat y1)).1 (nat_lit 0) != (97 : Int)) (.br (true) (.br ((↑(ByteArray.size (at_ (Ty.pair Ty.str (Ty.sl (nat_lit 3) (Ty.int IntKind.i64))) y2 (Int.toNat y1)).1) : Int) != (2 : Int)) (.out (.inl false)) (.br (true) (.go (IntKind.wrap IntKind.i64 (y1 + (1 : Int)))) (.bad))) (.bad)) (.br (true) (.go (IntKind.wrap IntKind.i64 (y1 + (1 : Int)))) (.bad))) (.bad))) (.bad)) (.bad)) (.br (true) (.out (.inl false)) (.br (true) (.br (byteAt (at_ (Ty.pair Ty.str (Ty.sl (nat_lit 3) (Ty.int IntKind.i64))) y2 (Int.toNat y1)).1 (nat_lit 0) != (97 : Int)) (.br (true) (.br ((↑(ByteArray.size (at_ (Ty.pair Ty.str (Ty.sl (nat_lit 3) (Ty.int IntKind.i64))) y2 (Int.toNat y1)).1) : Int) != (2 : Int)) (.out (.inl false)) (.br (true) (.go (IntKind.wrap IntKind.i64 (y1 + (1 : Int)))) (.bad))) (.bad)) (.br (true) (.go (IntKind.wrap IntKind.i64 (y1 + (1 : Int)))) (.bad))) (.bad)))) (.bad)) (.bad)) (.br (true) (.out (.inl false)) (.br (true) (.br (byteAt (at_ (Ty.pair Ty.str (Ty.sl (nat_lit 3) (Ty.int IntKind.i64))) y2 (Int.toNat y1)).1 (nat_lit 0) != (97 : Int)) (.br (true) (.br ((↑(ByteArray.size (at_ (Ty.pair Ty.str (Ty.sl (nat_lit 3) (Ty.int IntKind.i64))) y2 (Int.toNat y1)).1) : Int) != (2 : Int)) (.out (.inl false)) (.br (true) (.go (IntKind.wrap IntKind.i64 (y1 + (1 : Int)))) (.bad))) (.bad)) (.br (true) (.go (IntKind.wrap IntKind.i64 (y1 + (1 : Int)))) (.bad))) (.bad)))) (.bad)) (.br (true) (.out (.inl false)) (.br (true) (.br (byteAt (at_ (Ty.pair Ty.str (Ty.sl (nat_lit 3) (Ty.int IntKind.i64))) y2 (Int.toNat y1)).1 (nat_lit 0) != (97 : Int)) (.br (true) (.br ((↑(ByteArray.size (at_ (Ty.pair Ty.str (Ty.sl (nat_lit 3) (Ty.int IntKind.i64))) y2 (Int.toNat y1)).1) : Int) != (2 : Int)) (.out (.inl false)) (.br (true) (.go (IntKind.wrap IntKind.i64 (y1 + (1 : Int)))) (.bad))) (.bad)) (.br (true) (.go (IntKind.wrap IntKind.i64 (y1 + (1 : Int)))) (.bad))) (.bad)))) (.bad))) (.bad)) (.br (true) (.out (.inl false)) (.br (true) (.br (byteAt (at_ (Ty.pair Ty.str (Ty.sl (nat_lit 3) (Ty.int IntKind.i64))) y2 (Int.toNat y1)).1 (nat_lit 0) != (97 : Int)) (.br (true) (.br ((↑(ByteArray.size (at_ (Ty.pair Ty.str (Ty.sl (nat_lit 3) (Ty.int IntKind.i64))) y2 (Int.toNat y1)).1) : Int) != (2 : Int)) (.out (.inl false)) (.br (true) (.go (IntKind.wrap IntKind.i64 (y1 + (1 : Int)))) (.bad))) (.bad)) (.br (true) (.go (IntKind.wrap IntKind.i64 (y1 + (1 : Int)))) (.bad))) (.bad)))) (.bad)) (.br (true) (.out (.inl false)) (.br (true) (.br (byteAt (at_ (Ty.pair Ty.str (Ty.sl (nat_lit 3) (Ty.int IntKind.i64))) y2 (Int.toNat y1)).1 (nat_lit 0) != (97 : Int)) (.br (true) (.br ((↑(ByteArray.size (at_ (Ty.pair Ty.str (Ty.sl (nat_lit 3) (Ty.int IntKind.i64))) y2 (Int.toNat y1)).1) : Int) != (2 : Int)) (.out (.inl false)) (.br (true) (.go (IntKind.wrap IntKind.i64 (y1 + (1 : Int)))) (.bad))) (.bad)) (.br (true) (.go (IntKind.wrap IntKind.i64 (y1 + (1 : Int)))) (.bad))) (.bad)))) (.bad))) (.bad)) (.br (true) (.br (y0 == (2 : Int)) (.br (true) (.br (decide (at_ (Ty.int IntKind.i64) (at_ (Ty.pair Ty.str (Ty.sl (nat_lit 3) (Ty.int IntKind.i64))) y2 (Int.toNat y1)).2 (nat_lit 0) ≤ (9 : Int))) (.br (true) (.br (byteAt (at_ (Ty.pair Ty.str (Ty.sl (nat_lit 3) (Ty.int IntKind.i64))) y2 (Int.toNat y1)).1 (nat_lit 0) == (99 : Int)) (.br (true) (.br ((↑(List.length (at_ (Ty.pair Ty.str (Ty.sl (nat_lit 3) (Ty.int IntKind.i64))) y2 (Int.toNat y1)).2) : Int) == (2 : Int)) (.br (false) (.out (.inl false)) (.br (true) (.br (byteAt (at_ (Ty.pair Ty.str (Ty.sl (nat_lit 3) (Ty.int IntKind.i64))) y2 (Int.toNat y1)).1 (nat_lit 0) != (97 : Int)) (.br (true) (.br ((↑(ByteArray.size (at_ (Ty.pair Ty.str (Ty.sl (nat_lit 3) (Ty.int IntKind.i64))) y2 (Int.toNat y1)).1) : Int) != (2 : Int)) (.out (.inl false)) (.br (true) (.go (IntKind.wrap IntKind.i64 (y1 + (1 : Int)))) (.bad))) (.bad)) (.br (true) (.go (IntKind.wrap IntKind.i64 (y1 + (1 : Int)))) (.bad))) (.bad))) (.br (true) (.br (byteAt (at_ (Ty.pair Ty.str (Ty.sl (nat_lit 3) (Ty.int IntKind.i64))) y2 (Int.toNat y1)).1 (nat_lit 0) == (102 : Int)) (.br (true) (.br ((↑(List.length (at_ (Ty.pair Ty.str (Ty.sl (nat_lit 3) (Ty.int IntKind.i64))) y2 (Int.toNat y1)).2) : Int) == (3 : Int)) (.br (decide ((0 : Int) ≤ (1 : Int) ∧ (1 : Int) < (↑(List.length (at_ (Ty.pair Ty.str (Ty.sl (nat_lit 3) (Ty.int IntKind.i64))) y2 (Int.toNat y1)).2) : Int))) (.br (g_As_l1In (at_ (Ty.int IntKind.i64) (at_ (Ty.pair Ty.str (Ty.sl (nat_lit 3) (Ty.int IntKind.i64))) y2 (Int.toNat y1)).2 (nat_lit 1)) (1 : Int) (99 : Int)) (.br (g_Vs_l1In_0 (at_ (Ty.int IntKind.i64) (at_ (Ty.pair Ty.str (Ty.sl (nat_lit 3) (Ty.int IntKind.i64))) y2 (Int.toNat y1)).2 (nat_lit 1)) (1 : Int) (99 : Int)) (.br (decide ((0 : Int) ≤ (2 : Int) ∧ (2 : Int) < (↑(List.length (at_ (Ty.pair Ty.str (Ty.sl (nat_lit 3) (Ty.int IntKind.i64))) y2 (Int.toNat y1)).2) : Int))) (.br (true) (.br (!decide (at_ (Ty.int IntKind.i64) (at_ (Ty.pair Ty.str (Ty.sl (nat_lit 3) (Ty.int IntKind.i64))) y2 (Int.toNat y1)).2 (nat_lit 2) ≤ (1 : Int))) (.out (.inl false)) (.br (true) (.br (byteAt (at_ (Ty.pair Ty.str (Ty.sl (nat_lit 3) (Ty.int IntKind.i64))) y2 (Int.toNat y1)).1 (nat_lit 0) != (97 : Int)) (.br (true) (.br ((↑(ByteArray.size (at_ (Ty.pair Ty.str (Ty.sl (nat_lit 3) (Ty.int IntKind.i64))) y2 (Int.toNat y1)).1) : Int) != (2 : Int)) (.out (.inl false)) (.br (true) (.go (IntKind.wrap IntKind.i64 (y1 + (1 : Int)))) (.bad))) (.bad)) (.br (true) (.go (IntKind.wrap IntKind.i64 (y1 + (1 : Int)))) (.bad))) (.bad))) (.bad)) (.bad)) (.br (true) (.out (.inl false)) (.br (true) (.br (byteAt (at_ (Ty.pair Ty.str (Ty.sl (nat_lit 3) (Ty.int IntKind.i64))) y2 (Int.toNat y1)).1 (nat_lit 0) != (97 : Int)) (.br (true) (.br ((↑(ByteArray.size (at_ (Ty.pair Ty.str (Ty.sl (nat_lit 3) (Ty.int IntKind.i64))) y2 (Int.toNat y1)).1) : Int) != (2 : Int)) (.out (.inl false)) (.br (true) (.go (IntKind.wrap IntKind.i64 (y1 + (1 : Int)))) (.bad))) (.bad)) (.br (true) (.go (IntKind.wrap IntKind.i64 (y1 + (1 : Int)))) (.bad))) (.bad)))) (.bad)) (.bad)) (.br (true) (.out (.inl false)) (.br (true) (.br (byteAt (at_ (Ty.pair Ty.str (Ty.sl (nat_lit 3) (Ty.int IntKind.i64))) y2 (Int.toNat y1)).1 (nat_lit 0) != (97 : Int)) (.br (true) (.br ((↑(ByteArray.size (at_ (Ty.pair Ty.str (Ty.sl (nat_lit 3) (Ty.int IntKind.i64))) y2 (Int.toNat y1)).1) : Int) != (2 : Int)) (.out (.inl false)) (.br (true) (.go (IntKind.wrap IntKind.i64 (y1 + (1 : Int)))) (.bad))) (.bad)) (.br (true) (.go (IntKind.wrap IntKind.i64 (y1 + (1 : Int)))) (.bad))) (.bad)))) (.bad)) (.br (true) (.out (.inl false)) (.br (true) (.br (byteAt (at_ (Ty.pair Ty.str (Ty.sl (nat_lit 3) (Ty.int IntKind.i64))) y2 (Int.toNat y1)).1 (nat_lit 0) != (97 : Int)) (.br (true) (.br ((↑(ByteArray.size (at_ (Ty.pair Ty.str (Ty.sl (nat_lit 3) (Ty.int IntKind.i64))) y2 (Int.toNat y1)).1) : Int) != (2 : Int)) (.out (.inl false)) (.br (true) (.go (IntKind.wrap IntKind.i64 (y1 + (1 : Int)))) (.bad))) (.bad)) (.br (true) (.go (IntKind.wrap IntKind.i64 (y1 + (1 : Int)))) (.bad))) (.bad)))) (.bad))) (.bad)) (.br (true) (.br (byteAt (at_ (Ty.pair Ty.str (Ty.sl (nat_lit 3) (Ty.int IntKind.i64))) y2 (Int.toNat y1)).1 (nat_lit 0) == (102 : Int)) (.br (true) (.br ((↑(List.length (at_ (Ty.pair Ty.str (Ty.sl (nat_lit 3) (Ty.int IntKind.i64))) y2 (Int.toNat y1)).2) : Int) == (3 : Int)) (.br (decide ((0 : Int) ≤ (1 : Int) ∧ (1 : Int) < (↑(List.length (at_ (Ty.pair Ty.str (Ty.sl (nat_lit 3) (Ty.int IntKind.i64))) y2 (Int.toNat y1)).2) : Int))) (.br (g_As_l1In (at_ (Ty.int IntKind.i64) (at_ (Ty.pair Ty.str (Ty.sl (nat_lit 3) (Ty.int IntKind.i64))) y2 (Int.toNat y1)).2 (nat_lit 1)) (1 : Int) (99 : Int)) (.br (g_Vs_l1In_0 (at_ (Ty.int IntKind.i64) (at_ (Ty.pair Ty.str (Ty.sl (nat_lit 3) (Ty.int IntKind.i64))) y2 (Int.toNat y1)).2 (nat_lit 1)) (1 : Int) (99 : Int)) (.br (decide ((0 : Int) ≤ (2 : Int) ∧ (2 : Int) < (↑(List.length (at_ (Ty.pair Ty.str (Ty.sl (nat_lit 3) (Ty.int IntKind.i64))) y2 (Int.toNat y1)).2) : Int))) (.br (true) (.br (!decide (at_ (Ty.int IntKind.i64) (at_ (Ty.pair Ty.str (Ty.sl (nat_lit 3) (Ty.int IntKind.i64))) y2 (Int.toNat y1)).2 (nat_lit 2) ≤ (1 : Int))) (.out (.inl false)) (.br (true) (.br (byteAt (at_ (Ty.pair Ty.str (Ty.sl (nat_lit 3) (Ty.int IntKind.i64))) y2 (Int.toNat y1)).1 (nat_lit 0) != (97 : Int)) (.br (true) (.br ((↑(ByteArray.size (at_ (Ty.pair Ty.str (Ty.sl (nat_lit 3) (Ty.int IntKind.i64))) y2 (Int.toNat y1)).1) : Int) != (2 : Int)) (.out (.inl false)) (.br (true) (.go (IntKind.wrap IntKind.i64 (y1 + (1 : Int)))) (.bad))) (.bad)) (.br (true) (.go (IntKind.wrap IntKind.i64 (y1 + (1 : Int)))) (.bad))) (.bad))) (.bad)) (.bad)) (.br (true) (.out (.inl false)) (.br (true) (.br (byteAt (at_ (Ty.pair Ty.str (Ty.sl (nat_lit 3) (Ty.int IntKind.i64))) y2 (Int.toNat y1)).1 (nat_lit 0) != (97 : Int)) (.br (true) (.br ((↑(ByteArray.size (at_ (Ty.pair Ty.str (Ty.sl (nat_lit 3) (Ty.int IntKind.i64))) y2 (Int.toNat y1)).1) : Int) != (2 : Int)) (.out (.inl false)) (.br (true) (.go (IntKind.wrap IntKind.i64 (y1 + (1 : Int)))) (.bad))) (.bad)) (.br (true) (.go (IntKind.wrap IntKind.i64 (y1 + (1 : Int)))) (.bad))) (.bad)))) (.bad)) (.bad)) (.br (true) (.out (.inl false)) (.br (true) (.br (byteAt (at_ (Ty.pair Ty.str (Ty.sl (nat_lit 3) (Ty.int IntKind.i64))) y2 (Int.toNat y1)).1 (nat_lit 0) != (97 : Int)) (.br (true) (.br ((↑(ByteArray.size (at_ (Ty.pair Ty.str (Ty.sl (nat_lit 3) (Ty.int IntKind.i64))) y2 (Int.toNat y1)).1) : Int) != (2 : Int)) (.out (.inl false)) (.br (true) (.go (IntKind.wrap IntKind.i64 (y1 + (1 : Int)))) (.bad))) (.bad)) (.br (true) (.go (IntKind.wrap IntKind.i64 (y1 + (1 : Int)))) (.bad))) (.bad)))) (.bad)) (.br (true) (.out (.inl false)) (.br (true) (.br (byteAt (at_ (Ty.pair Ty.str (Ty.sl (nat_lit 3) (Ty.int IntKind.i64))) y2 (Int.toNat y1)).1 (nat_lit 0) != (97 : Int)) (.br (true) (.br ((↑(ByteArray.size (at_ (Ty.pair Ty.str (Ty.sl (nat_lit 3) (Ty.int IntKind.i64))) y2 (Int.toNat y1)).1) : Int) != (2 : Int)) (.out (.inl false)) (.br (true) (.go (IntKind.wrap IntKind.i64 (y1 + (1 : Int)))) (.bad))) (.bad)) (.br (true) (.go (IntKind.wrap IntKind.i64 (y1 + (1 : Int)))) (.bad))) (.bad)))) (.bad))) (.bad)) (.br (true) (.out (.inl false)) (.br (true) (.br (byteAt (at_ (Ty.pair Ty.str (Ty.sl (nat_lit 3) (Ty.int IntKind.i64))) y2 (Int.toNat y1)).1 (nat_lit 0) != (97 : Int)) (.br (true) (.br ((↑(ByteArray.size (at_ (Ty.pair Ty.str (Ty.sl (nat_lit 3) (Ty.int IntKind.i64))) y2 (Int.toNat y1)).1) : Int) != (2 : Int)) (.out (.inl false)) (.br (true) (.go (IntKind.wrap IntKind.i64 (y1 + (1 : Int)))) (.bad))) (.bad)) (.br (true) (.go (IntKind.wrap IntKind.i64 (y1 + (1 : Int)))) (.bad))) (.bad)))) (.bad)) (.br (true) (.out (.inl false)) (.br (true) (.br (byteAt (at_ (Ty.pair Ty.str (Ty.sl (nat_lit 3) (Ty.int IntKind.i64))) y2 (Int.toNat y1)).1 (nat_lit 0) != (97 : Int)) (.br (true) (.br ((↑(ByteArray.size (at_ (Ty.pair Ty.str (Ty.sl (nat_lit 3) (Ty.int IntKind.i64))) y2 (Int.toNat y1)).1) : Int) != (2 : Int)) (.out (.inl false)) (.br (true) (.go (IntKind.wrap IntKind.i64 (y1 + (1 : Int)))) (.bad))) (.bad)) (.br (true) (.go (IntKind.wrap IntKind.i64 (y1 + (1 : Int)))) (.bad))) (.bad)))) (.bad))) (.bad)) (.br (true) (.br (y0 == (2 : Int)) (.br (true) (.br (decide (at_ (Ty.int IntKind.i64) (at_ (Ty.pair Ty.str (Ty.sl (nat_lit 3) (Ty.int IntKind.i64))) y2 (Int.toNat y1)).2 (nat_lit 0) ≤ (9 : Int))) (.br (true) (.br (byteAt (at_ (Ty.pair Ty.str (Ty.sl (nat_lit 3) (Ty.int IntKind.i64))) y2 (Int.toNat y1)).1 (nat_lit 0) == (99 : Int)) (.br (true) (.br ((↑(List.length (at_ (Ty.pair Ty.str (Ty.sl (nat_lit 3) (Ty.int IntKind.i64))) y2 (Int.toNat y1)).2) : Int) == (2 : Int)) (.br (false) (.out (.inl false)) (.br (true) (.br (byteAt (at_ (Ty.pair Ty.str (Ty.sl (nat_lit 3) (Ty.int IntKind.i64))) y2 (Int.toNat y1)).1 (nat_lit 0) != (97 : Int)) (.br (true) (.br ((↑(ByteArray.size (at_ (Ty.pair Ty.str (Ty.sl (nat_lit 3) (Ty.int IntKind.i64))) y2 (Int.toNat y1)).1) : Int) != (2 : Int)) (.out (.inl false)) (.br (true) (.go (IntKind.wrap IntKind.i64 (y1 + (1 : Int)))) (.bad))) (.bad)) (.br (true) (.go (IntKind.wrap IntKind.i64 (y1 + (1 : Int)))) (.bad))) (.bad))) (.br (true) (.br (byteAt (at_ (Ty.pair Ty.str (Ty.sl (nat_lit 3) (Ty.int IntKind.i64))) y2 (Int.toNat y1)).1 (nat_lit 0) == (102 : Int)) (.br (true) (.br ((↑(List.length (at_ (Ty.pair Ty.str (Ty.sl (nat_lit 3) (Ty.int IntKind.i64))) y2 (Int.toNat y1)).2) : Int) == (3 : Int)) (.br (decide ((0 : Int) ≤ (1 : Int) ∧ (1 : Int) < (↑(List.length (at_ (Ty.pair Ty.str (Ty.sl (nat_lit 3) (Ty.int IntKind.i64))) y2 (Int.toNat y1)).2) : Int))) (.br (g_As_l1In (at_ (Ty.int IntKind.i64) (at_ (Ty.pair Ty.str (Ty.sl (nat_lit 3) (Ty.int IntKind.i64))) y2 (Int.toNat y1)).2 (nat_lit 1)) (1 : Int) (99 : Int)) (.br (g_Vs_l1In_0 (at_ (Ty.int IntKind.i64) (at_ (Ty.pair Ty.str (Ty.sl (nat_lit 3) (Ty.int IntKind.i64))) y2 (Int.toNat y1)).2 (nat_lit 1)) (1 : Int) (99 : Int)) (.br (decide ((0 : Int) ≤ (2 : Int) ∧ (2 : Int) < (↑(List.length (at_ (Ty.pair Ty.str (Ty.sl (nat_lit 3) (Ty.int IntKind.i64))) y2 (Int.toNat y1)).2) : Int))) (.br (true) (.br (!decide (at_ (Ty.int IntKind.i64) (at_ (Ty.pair Ty.str (Ty.sl (nat_lit 3) (Ty.int IntKind.i64))) y2 (Int.toNat y1)).2 (nat_lit 2) ≤ (1 : Int))) (.out (.inl false)) (.br (true) (.br (byteAt (at_ (Ty.pair Ty.str (Ty.sl (nat_lit 3) (Ty.int IntKind.i64))) y2 (Int.toNat y1)).1 (nat_lit 0) != (97 : Int)) (.br (true) (.br ((↑(ByteArray.size (at_ (Ty.pair Ty.str (Ty.sl (nat_lit 3) (Ty.int IntKind.i64))) y2 (Int.toNat y1)).1) : Int) != (2 : Int)) (.out (.inl false)) (.br (true) (.go (IntKind.wrap IntKind.i64 (y1 + (1 : Int)))) (.bad))) (.bad)) (.br (true) (.go (IntKind.wrap IntKind.i64 (y1 + (1 : Int)))) (.bad))) (.bad))) (.bad)) (.bad)) (.br (true) (.out (.inl false)) (.br (true) (.br (byteAt (at_ (Ty.pair Ty.str (Ty.sl (nat_lit 3) (Ty.int IntKind.i64))) y2 (Int.toNat y1)).1 (nat_lit 0) != (97 : Int)) (.br (true) (.br ((↑(ByteArray.size (at_ (Ty.pair Ty.str (Ty.sl (nat_lit 3) (Ty.int IntKind.i64))) y2 (Int.toNat y1)).1) : Int) != (2 : Int)) (.out (.inl false)) (.br (true) (.go (IntKind.wrap IntKind.i64 (y1 + (1 : Int)))) (.bad))) (.bad)) (.br (true) (.go (IntKind.wrap IntKind.i64 (y1 + (1 : Int)))) (.bad))) (.bad)))) (.bad)) (.bad)) (.br (true) (.out (.inl false)) (.br (true) (.br (byteAt (at_ (Ty.pair Ty.str (Ty.sl (nat_lit 3) (Ty.int IntKind.i64))) y2 (Int.toNat y1)).1 (nat_lit 0) != (97 : Int)) (.br (true) (.br ((↑(ByteArray.size (at_ (Ty.pair Ty.str (Ty.sl (nat_lit 3) (Ty.int IntKind.i64))) y2 (Int.toNat y1)).1) : Int) != (2 : Int)) (.out (.inl false)) (.br (true) (.go (IntKind.wrap IntKind.i64 (y1 + (1 : Int)))) (.bad))) (.bad)) (.br (true) (.go (IntKind.wrap IntKind.i64 (y1 + (1 : Int)))) (.bad))) (.bad)))) (.bad)) (.br (true) (.out (.inl false)) (.br (true) (.br (byteAt (at_ (Ty.pair Ty.str (Ty.sl (nat_lit 3) (Ty.int IntKind.i64))) y2 (Int.toNat y1)).1 (nat_lit 0) != (97 : Int)) (.br (true) (.br ((↑(ByteArray.size (at_ (Ty.pair Ty.str (Ty.sl (nat_lit 3) (Ty.int IntKind.i64))) y2 (Int.toNat y1)).1) : Int) != (2 : Int)) (.out (.inl false)) (.br (true) (.go (IntKind.wrap IntKind.i64 (y1 + (1 : Int)))) (.bad))) (.bad)) (.br (true) (.go (IntKind.wrap IntKind.i64 (y1 + (1 : Int)))) (.bad))) (.bad)))) (.bad))) (.bad)) (.br (true) (.br (byteAt (at_ (Ty.pair Ty.str (Ty.sl (nat_lit 3) (Ty.int IntKind.i64))) y2 (Int.toNat y1)).1 (nat_lit 0) == (102 : Int)) (.br (true) (.br ((↑(List.length (at_ (Ty.pair Ty.str (Ty.sl (nat_lit 3) (Ty.int IntKind.i64))) y2 (Int.toNat y1)).2) : Int) == (3 : Int)) (.br (decide ((0 : Int) ≤ (1 : Int) ∧ (1 : Int) < (↑(List.length (at_ (Ty.pair Ty.str (Ty.sl (nat_lit 3) (Ty.int IntKind.i64))) y2 (Int.toNat y1)).2) : Int))) (.br (g_As_l1In (at_ (Ty.int IntKind.i64) (at_ (Ty.pair Ty.str (Ty.sl (nat_lit 3) (Ty.int IntKind.i64))) y2 (Int.toNat y1)).2 (nat_lit 1)) (1 : Int) (99 : Int)) (.br (g_Vs_l1In_0 (at_ (Ty.int IntKind.i64) (at_ (Ty.pair Ty.str (Ty.sl (nat_lit 3) (Ty.int IntKind.i64))) y2 (Int.toNat y1)).2 (nat_lit 1)) (1 : Int) (99 : Int)) (.br (decide ((0 : Int) ≤ (2 : Int) ∧ (2 : Int) < (↑(List.length (at_ (Ty.pair Ty.str (Ty.sl (nat_lit 3) (Ty.int IntKind.i64))) y2 (Int.toNat y1)).2) : Int))) (.br (true) (.br (!decide (at_ (Ty.int IntKind.i64) (at_ (Ty.pair Ty.str (Ty.sl (nat_lit 3) (Ty.int IntKind.i64))) y2 (Int.toNat y1)).2 (nat_lit 2) ≤ (1 : Int))) (.out (.inl false)) (.br (true) (.br (byteAt (at_ (Ty.pair Ty.str (Ty.sl (nat_lit 3) (Ty.int IntKind.i64))) y2 (Int.toNat y1)).1 (nat_lit 0) != (97 : Int)) (.br (true) (.br ((↑(ByteArray.size (at_ (Ty.pair Ty.str (Ty.sl (nat_lit 3) (Ty.int IntKind.i64))) y2 (Int.toNat y1)).1) : Int) != (2 : Int)) (.out (.inl false)) (.br (true) (.go (IntKind.wrap IntKind.i64 (y1 + (1 : Int)))) (.bad))) (.bad)) (.br (true) (.go (IntKind.wrap IntKind.i64 (y1 + (1 : Int)))) (.bad))) (.bad))) (.bad)) (.bad)) (.br (true) (.out (.inl false)) (.br (true) (.br (byteAt (at_ (Ty.pair Ty.str (Ty.sl (nat_lit 3) (Ty.int IntKind.i64))) y2 (Int.toNat y1)).1 (nat_lit 0) != (97 : Int)) (.br (true) (.br ((↑(ByteArray.size (at_ (Ty.pair Ty.str (Ty.sl (nat_lit 3) (Ty.int IntKind.i64))) y2 (Int.toNat y1)).1) : Int) != (2 : Int)) (.out (.inl false)) (.br (true) (.go (IntKind.wrap IntKind.i64 (y1 + (1 : Int)))) (.bad))) (.bad)) (.br (true) (.go (IntKind.wrap IntKind.i64 (y1 + (1 : Int)))) (.bad))) (.bad)))) (.bad)) (.bad)) (.br (true) (.out (.inl false)) (.br (true) (.br (byteAt (at_ (Ty.pair Ty.str (Ty.sl (nat_lit 3) (Ty.int IntKind.i64))) y2 (Int.toNat y1)).1 (nat_lit 0) != (97 : Int)) (.br (true) (.br ((↑(ByteArray.size (at_ (Ty.pair Ty.str (Ty.sl (nat_lit 3) (Ty.int IntKind.i64))) y2 (Int.toNat y1)).1) : Int) != (2 : Int)) (.out (.inl false)) (.br (true) (.go (IntKind.wrap IntKind.i64 (y1 + (1 : Int)))) (.bad))) (.bad)) (.br (true) (.go (IntKind.wrap IntKind.i64 (y1 + (1 : Int)))) (.bad))) (.bad)))) (.bad)) (.br (true) (.out (.inl false)) (.br (true) (.br (byteAt (at_ (Ty.pair Ty.str (Ty.sl (nat_lit 3) (Ty.int IntKind.i64))) y2 (Int.toNat y1)).1 (nat_lit 0) != (97 : Int)) (.br (true) (.br ((↑(ByteArray.size (at_ (Ty.pair Ty.str (Ty.sl (nat_lit 3) (Ty.int IntKind.i64))) y2 (Int.toNat y1)).1) : Int) != (2 : Int)) (.out (.inl false)) (.br (true) (.go (IntKind.wrap IntKind.i64 (y1 + (1 : Int)))) (.bad))) (.bad)) (.br (true) (.go (IntKind.wrap IntKind.i64 (y1 + (1 : Int)))) (.bad))) (.bad)))) (.bad))) (.bad)) (.br (true) (.out (.inl false)) (.br (true) (.br (byteAt (at_ (Ty.pair Ty.str (Ty.sl (nat_lit 3) (Ty.int IntKind.i64))) y2 (Int.toNat y1)).1 (nat_lit 0) != (97 : Int)) (.br (true) (.br ((↑(ByteArray.size (at_ (Ty.pair Ty.str (Ty.sl (nat_lit 3) (Ty.int IntKind.i64))) y2 (Int.toNat y1)).1) : Int) != (2 : Int)) (.out (.inl false)) (.br (true) (.go (IntKind.wrap IntKind.i64 (y1 + (1 : Int)))) (.bad))) (.bad)) (.br (true) (.go (IntKind.wrap IntKind.i64 (y1 + (1 : Int)))) (.bad))) (.bad)))) (.bad)) (.br (true) (.out (.inl false)) (.br (true) (.br (byteAt (at_ (Ty.pair Ty.str (Ty.sl (nat_lit 3) (Ty.int IntKind.i64))) y2 (Int.toNat y1)).1 (nat_lit 0) != (97 : Int)) (.br (true) (.br ((↑(ByteArray.size (at_ (Ty.pair Ty.str (Ty.sl (nat_lit 3) (Ty.int IntKind.i64))) y2 (Int.toNat y1)).1) : Int) != (2 : Int)) (.out (.inl false)) (.br (true) (.go (IntKind.wrap IntKind.i64 (y1 + (1 : Int)))) (.bad))) (.bad)) (.br (true) (.go (IntKind.wrap IntKind.i64 (y1 + (1 : Int)))) (.bad))) (.bad)))) (.bad))) (.bad))) (.bad)) (.br (true) (.br (y0 == (3 : Int)) (.br (true) (.br (byteAt (at_ (Ty.pair Ty.str (Ty.sl (nat_lit 3) (Ty.int IntKind.i64))) y2 (Int.toNat y1)).1 (nat_lit 0) == (97 : Int)) (.br (true) (.br ((↑(List.length (at_ (Ty.pair Ty.str (Ty.sl (nat_lit 3) (Ty.int IntKind.i64))) y2 (Int.toNat y1)).2) : Int) == (1 : Int)) (.br (false) (.out (.inl false)) (.br (true) (.br (byteAt (at_ (Ty.pair Ty.str (Ty.sl (nat_lit 3) (Ty.int IntKind.i64))) y2 (Int.toNat y1)).1 (nat_lit 0) != (97 : Int)) (.br (true) (.br ((↑(ByteArray.size (at_ (Ty.pair Ty.str (Ty.sl (nat_lit 3) (Ty.int IntKind.i64))) y2 (Int.toNat y1)).1) : Int) != (2 : Int)) (.out (.inl false)) (.br (true) (.go (IntKind.wrap IntKind.i64 (y1 + (1 : Int)))) (.bad))) (.bad)) (.br (true) (.go (IntKind.wrap IntKind.i64 (y1 + (1 : Int)))) (.bad))) (.bad))) (.br (true) (.br (y0 == (2 : Int)) (.br (true) (.br (decide (at_ (Ty.int IntKind.i64) (at_ (Ty.pair Ty.str (Ty.sl (nat_lit 3) (Ty.int IntKind.i64))) y2 (Int.toNat y1)).2 (nat_lit 0) ≤ (9 : Int))) (.br (true) (.br (byteAt (at_ (Ty.pair Ty.str (Ty.sl (nat_lit 3) (Ty.int IntKind.i64))) y2 (Int.toNat y1)).1 (nat_lit 0) == (99 : Int)) (.br (true) (.br ((↑(List.length (at_ (Ty.pair Ty.str (Ty.sl (nat_lit 3) (Ty.int IntKind.i64))) y2 (Int.toNat y1)).2) : Int) == (2 : Int)) (.br (false) (.out (.inl false)) (.br (true) (.br (byteAt (at_ (Ty.pair Ty.str (Ty.sl (nat_lit 3) (Ty.int IntKind.i64))) y2 (Int.toNat y1)).1 (nat_lit 0) != (97 : Int)) (.br (true) (.br ((↑(ByteArray.size (at_ (Ty.pair Ty.str (Ty.sl (nat_lit 3) (Ty.int IntKind.i64))) y2 (Int.toNat y1)).1) : Int) != (2 : Int)) (.out (.inl false)) (.br (true) (.go (IntKind.wrap IntKind.i64 (y1 + (1 : Int)))) (.bad))) (.bad)) (.br (true) (.go (IntKind.wrap IntKind.i64 (y1 + (1 : Int)))) (.bad))) (.bad))) (.br (true) (.br (byteAt (at_ (Ty.pair Ty.str (Ty.sl (nat_lit 3) (Ty.int IntKind.i64))) y2 (Int.toNat y1)).1 (nat_lit 0) == (102 : Int)) (.br (true) (.br ((↑(List.length (at_ (Ty.pair Ty.str (Ty.sl (nat_lit 3) (Ty.int IntKind.i64))) y2 (Int.toNat y1)).2) : Int) == (3 : Int)) (.br (decide ((0 : Int) ≤ (1 : Int) ∧ (1 : Int) < (↑(List.length (at_ (Ty.pair Ty.str (Ty.sl (nat_lit 3) (Ty.int IntKind.i64))) y2 (Int.toNat y1)).2) : Int))) (.br (g_As_l1In (at_ (Ty.int IntKind.i64) (at_ (Ty.pair Ty.str (Ty.sl (nat_lit 3) (Ty.int IntKind.i64))) y2 (Int.toNat y1)).2 (nat_lit 1)) (1 : Int) (99 : Int)) (.br (g_Vs_l1In_0 (at_ (Ty.int IntKind.i64) (at_ (Ty.pair Ty.str (Ty.sl (nat_lit 3) (Ty.int IntKind.i64))) y2 (Int.toNat y1)).2 (nat_lit 1)) (1 : Int) (99 : Int)) (.br (decide ((0 : Int) ≤ (2 : Int) ∧ (2 : Int) < (↑(List.length (at_ (Ty.pair Ty.str (Ty.sl (nat_lit 3) (Ty.int IntKind.i64))) y2 (Int.toNat y1)).2) : Int))) (.br (true) (.br (!decide (at_ (Ty.int IntKind.i64) (at_ (Ty.pair Ty.str (Ty.sl (nat_lit 3) (Ty.int IntKind.i64))) y2 (Int.toNat y1)).2 (nat_lit 2) ≤ (1 : Int))) (.out (.inl false)) (.br (true) (.br (byteAt (at_ (Ty.pair Ty.str (Ty.sl (nat_lit 3) (Ty.int IntKind.i64))) y2 (Int.toNat y1)).1 (nat_lit 0) != (97 : Int)) (.br (true) (.br ((↑(ByteArray.size (at_ (Ty.pair Ty.str (Ty.sl (nat_lit 3) (Ty.int IntKind.i64))) y2 (Int.toNat y1)).1) : Int) != (2 : Int)) (.out (.inl false)) (.br (true) (.go (IntKind.wrap IntKind.i64 (y1 + (1 : Int)))) (.bad))) (.bad)) (.br (true) (.go (IntKind.wrap IntKind.i64 (y1 + (1 : Int)))) (.bad))) (.bad))) (.bad)) (.bad)) (.br (true) (.out (.inl false)) (.br (true) (.br (byteAt (at_ (Ty.pair Ty.str (Ty.sl (nat_lit 3) (Ty.int IntKind.i64))) y2 (Int.toNat y1)).1 (nat_lit 0) != (97 : Int)) (.br (true) (.br ((↑(ByteArray.size (at_ (Ty.pair Ty.str (Ty.sl (nat_lit 3) (Ty.int IntKind.i64))) y2 (Int.toNat y1)).1) : Int) != (2 : Int)) (.out (.inl false)) (.br (true) (.go (IntKind.wrap IntKind.i64 (y1 + (1 : Int)))) (.bad))) (.bad)) (.br (true) (.go (IntKind.wrap IntKind.i64 (y1 + (1 : Int)))) (.bad))) (.bad)))) (.bad)) (.bad)) (.br (true) (.out (.inl false)) (.br (true) (.br (byteAt (at_ (Ty.pair Ty.str (Ty.sl (nat_lit 3) (Ty.int IntKind.i64))) y2 (Int.toNat y1)).1 (nat_lit 0) != (97 : Int)) (.br (true) (.br ((↑(ByteArray.size (at_ (Ty.pair Ty.str (Ty.sl (nat_lit 3) (Ty.int IntKind.i64))) y2 (Int.toNat y1)).1) : Int) != (2 : Int)) (.out (.inl false)) (.br (true) (.go (IntKind.wrap IntKind.i64 (y1 + (1 : Int)))) (.bad))) (.bad)) (.br (true) (.go (IntKind.wrap IntKind.i64 (y1 + (1 : Int)))) (.bad))) (.bad)))) (.bad)) (.br (true) (.out (.inl false)) (.br (true) (.br (byteAt (at_ (Ty.pair Ty.str (Ty.sl (nat_lit 3) (Ty.int IntKind.i64))) y2 (Int.toNat y1)).1 (nat_lit 0) != (97 : Int)) (.br (true) (.br ((↑(ByteArray.size (at_ (Ty.pair Ty.str (Ty.sl (nat_lit 3) (Ty.int IntKind.i64))) y2 (Int.toNat y1)).1) : Int) != (2 : Int)) (.out (.inl false)) (.br (true) (.go (IntKind.wrap IntKind.i64 (y1 + (1 : Int)))) (.bad))) (.bad)) (.br (true) (.go (IntKind.wrap IntKind.i64 (y1 + (1 : Int)))) (.bad))) (.bad)))) (.bad))) (.bad)) (.br (true) (.br (byteAt (at_ (Ty.pair Ty.str (Ty.sl (nat_lit 3) (Ty.int IntKind.i64))) y2 (Int.toNat y1)).1 (nat_lit 0) == (102 : Int)) (.br (true) (.br ((↑(List.length (at_ (Ty.pair Ty.str (Ty.sl (nat_lit 3) (Ty.int IntKind.i64))) y2 (Int.toNat y1)).2) : Int) == (3 : Int)) (.br (decide ((0 : Int) ≤ (1 : Int) ∧ (1 : Int) < (↑(List.length (at_ (Ty.pair Ty.str (Ty.sl (nat_lit 3) (Ty.int IntKind.i64))) y2 (Int.toNat y1)).2) : Int))) (.br (g_As_l1In (at_ (Ty.int IntKind.i64) (at_ (Ty.pair Ty.str (Ty.sl (nat_lit 3) (Ty.int IntKind.i64))) y2 (Int.toNat y1)).2 (nat_lit 1)) (1 : Int) (99 : Int)) (.br (g_Vs_l1In_0 (at_ (Ty.int IntKind.i64) (at_ (Ty.pair Ty.str (Ty.sl (nat_lit 3) (Ty.int IntKind.i64))) y2 (Int.toNat y1)).2 (nat_lit 1)) (1 : Int) (99 : Int)) (.br (decide ((0 : Int) ≤ (2 : Int) ∧ (2 : Int) < (↑(List.length (at_ (Ty.pair Ty.str (Ty.sl (nat_lit 3) (Ty.int IntKind.i64))) y2 (Int.toNat y1)).2) : Int))) (.br (true) (.br (!decide (at_ (Ty.int IntKind.i64) (at_ (Ty.pair Ty.str (Ty.sl (nat_lit 3) (Ty.int IntKind.i64))) y2 (Int.toNat y1)).2 (nat_lit 2) ≤ (1 : Int))) (.out (.inl false)) (.br (true) (.br (byteAt (at_ (Ty.pair Ty.str (Ty.sl (nat_lit 3) (Ty.int IntKind.i64))) y2 (Int.toNat y1)).1 (nat_lit 0) != (97 : Int)) (.br (true) (.br ((↑(ByteArray.size (at_ (Ty.pair Ty.str (Ty.sl (nat_lit 3) (Ty.int IntKind.i64))) y2 (Int.toNat y1)).1) : Int) != (2 : Int)) (.out (.inl false)) (.br (true) (.go (IntKind.wrap IntKind.i64 (y1 + (1 : Int)))) (.bad))) (.bad)) (.br (true) (.go (IntKind.wrap IntKind.i64 (y1 + (1 : Int)))) (.bad))) (.bad))) (.bad)) (.bad)) (.br (true) (.out (.inl false)) (.br (true) (.br (byteAt (at_ (Ty.pair Ty.str (Ty.sl (nat_lit 3) (Ty.int IntKind.i64))) y2 (Int.toNat y1)).1 (nat_lit 0) != (97 : Int)) (.br (true) (.br ((↑(ByteArray.size (at_ (Ty.pair Ty.str (Ty.sl (nat_lit 3) (Ty.int IntKind.i64))) y2 (Int.toNat y1)).1) : Int) != (2 : Int)) (.out (.inl false)) (.br (true) (.go (IntKind.wrap IntKind.i64 (y1 + (1 : Int)))) (.bad))) (.bad)) (.br (true) (.go (IntKind.wrap IntKind.i64 (y1 + (1 : Int)))) (.bad))) (.bad)))) (.bad)) (.bad)) (.br (true) (.out (.inl false)) (.br (true) (.br (byteAt (at_ (Ty.pair Ty.str (Ty.sl (nat_lit 3) (Ty.int IntKind.i64))) y2 (Int.toNat y1)).1 (nat_lit 0) != (97 : Int)) (.br (true) (.br ((↑(ByteArray.size (at_ (Ty.pair Ty.str (Ty.sl (nat_lit 3) (Ty.int IntKind.i64))) y2 (Int.toNat y1)).1) : Int) != (2 : Int)) (.out (.inl false)) (.br (true) (.go (IntKind.wrap IntKind.i64 (y1 + (1 : Int)))) (.bad))) (.bad)) (.br (true) (.go (IntKind.wrap IntKind.i64 (y1 + (1 : Int)))) (.bad))) (.bad)))) (.bad)) (.br (true) (.out (.inl false)) (.br (true) (.br (byteAt (at_ (Ty.pair Ty.str (Ty.sl (nat_lit 3) (Ty.int IntKind.i64))) y2 (Int.toNat y1)).1 (nat_lit 0) != (97 : Int)) (.br (true) (.br ((↑(ByteArray.size (at_ (Ty.pair Ty.str (Ty.sl (nat_lit 3) (Ty.int IntKind.i64))) y2 (Int.toNat y1)).1) : Int) != (2 : Int)) (.out (.inl false)) (.br (true) (.go (IntKind.wrap IntKind.i64 (y1 + (1 : Int)))) (.bad))) (.bad)) (.br (true) (.go (IntKind.wrap IntKind.i64 (y1 + (1 : Int)))) (.bad))) (.bad)))) (.bad))) (.bad)) (.br (true) (.out (.inl false)) (.br (true) (.br (byteAt (at_ (Ty.pair Ty.str (Ty.sl (nat_lit 3) (Ty.int IntKind.i64))) y2 (Int.toNat y1)).1 (nat_lit 0) != (97 : Int)) (.br (true) (.br ((↑(ByteArray.size (at_ (Ty.pair Ty.str (Ty.sl (nat_lit 3) (Ty.int IntKind.i64))) y2 (Int.toNat y1)).1) : Int) != (2 : Int)) (.out (.inl false)) (.br (true) (.go (IntKind.wrap IntKind.i64 (y1 + (1 : Int)))) (.bad))) (.bad)) (.br (true) (.go (IntKind.wrap IntKind.i64 (y1 + (1 : Int)))) (.bad))) (.bad)))) (.bad)) (.br (true) (.out (.inl false)) (.br (true) (.br (byteAt (at_ (Ty.pair Ty.str (Ty.sl (nat_lit 3) (Ty.int IntKind.i64))) y2 (Int.toNat y1)).1 (nat_lit 0) != (97 : Int)) (.br (true) (.br ((↑(ByteArray.size (at_ (Ty.pair Ty.str (Ty.sl (nat_lit 3) (Ty.int IntKind.i64))) y2 (Int.toNat y1)).1) : Int) != (2 : Int)) (.out (.inl false)) (.br (true) (.go (IntKind.wrap IntKind.i64 (y1 + (1 : Int)))) (.bad))) (.bad)) (.br (true) (.go (IntKind.wrap IntKind.i64 (y1 + (1 : Int)))) (.bad))) (.bad)))) (.bad))) (.bad)) (.br (true) (.br (y0 == (2 : Int)) (.br (true) (.br (decide (at_ (Ty.int IntKind.i64) (at_ (Ty.pair Ty.str (Ty.sl (nat_lit 3) (Ty.int IntKind.i64))) y2 (Int.toNat y1)).2 (nat_lit 0) ≤ (9 : Int))) (.br (true) (.br (byteAt (at_ (Ty.pair Ty.str (Ty.sl (nat_lit 3) (Ty.int IntKind.i64))) y2 (Int.toNat y1)).1 (nat_lit 0) == (99 : Int)) (.br (true) (.br ((↑(List.length (at_ (Ty.pair Ty.str (Ty.sl (nat_lit 3) (Ty.int IntKind.i64))) y2 (Int.toNat y1)).2) : Int) == (2 : Int)) (.br (false) (.out (.inl false)) (.br (true) (.br (byteAt (at_ (Ty.pair Ty.str (Ty.sl (nat_lit 3) (Ty.int IntKind.i64))) y2 (Int.toNat y1)).1 (nat_lit 0) != (97 : Int)) (.br (true) (.br ((↑(ByteArray.size (at_ (Ty.pair Ty.str (Ty.sl (nat_lit 3) (Ty.int IntKind.i64))) y2 (Int.toNat y1)).1) : Int) != (2 : Int)) (.out (.inl false)) (.br (true) (.go (IntKind.wrap IntKind.i64 (y1 + (1 : Int)))) (.bad))) (.bad)) (.br (true) (.go (IntKind.wrap IntKind.i64 (y1 + (1 : Int)))) (.bad))) (.bad))) (.br (true) (.br (byteAt (at_ (Ty.pair Ty.str (Ty.sl (nat_lit 3) (Ty.int IntKind.i64))) y2 (Int.toNat y1)).1 (nat_lit 0) == (102 : Int)) (.br (true) (.br ((↑(List.length (at_ (Ty.pair Ty.str (Ty.sl (nat_lit 3) (Ty.int IntKind.i64))) y2 (Int.toNat y1)).2) : Int) == (3 : Int)) (.br (decide ((0 : Int) ≤ (1 : Int) ∧ (1 : Int) < (↑(List.length (at_ (Ty.pair Ty.str (Ty.sl (nat_lit 3) (Ty.int IntKind.i64))) y2 (Int.toNat y1)).2) : Int))) (.br (g_As_l1In (at_ (Ty.int IntKind.i64) (at_ (Ty.pair Ty.str (Ty.sl (nat_lit 3) (Ty.int IntKind.i64))) y2 (Int.toNat y1)).2 (nat_lit 1)) (1 : Int) (99 : Int)) (.br (g_Vs_l1In_0 (at_ (Ty.int IntKind.i64) (at_ (Ty.pair Ty.str (Ty.sl (nat_lit 3) (Ty.int IntKind.i64))) y2 (Int.toNat y1)).2 (nat_lit 1)) (1 : Int) (99 : Int)) (.br (decide ((0 : Int) ≤ (2 : Int) ∧ (2 : Int) < (↑(List.length (at_ (Ty.pair Ty.str (Ty.sl (nat_lit 3) (Ty.int IntKind.i64))) y2 (Int.toNat y1)).2) : Int))) (.br (true) (.br (!decide (at_ (Ty.int IntKind.i64) (at_ (Ty.pair Ty.str (Ty.sl (nat_lit 3) (Ty.int IntKind.i64))) y2 (Int.toNat y1)).2 (nat_lit 2) ≤ (1 : Int))) (.out (.inl false)) (.br (true) (.br (byteAt (at_ (Ty.pair Ty.str (Ty.sl (nat_lit 3) (Ty.int IntKind.i64))) y2 (Int.toNat y1)).1 (nat_lit 0) != (97 : Int)) (.br (true) (.br ((↑(ByteArray.size (at_ (Ty.pair Ty.str (Ty.sl (nat_lit 3) (Ty.int IntKind.i64))) y2 (Int.toNat y1)).1) : Int) != (2 : Int)) (.out (.inl false)) (.br (true) (.go (IntKind.wrap IntKind.i64 (y1 + (1 : Int)))) (.bad))) (.bad)) (.br (true) (.go (IntKind.wrap IntKind.i64 (y1 + (1 : Int)))) (.bad))) (.bad))) (.bad)) (.bad)) (.br (true) (.out (.inl false)) (.br (true) (.br (byteAt (at_ (Ty.pair Ty.str (Ty.sl (nat_lit 3) (Ty.int IntKind.i64))) y2 (Int.toNat y1)).1 (nat_lit 0) != (97 : Int)) (.br (true) (.br ((↑(ByteArray.size (at_ (Ty.pair Ty.str (Ty.sl (nat_lit 3) (Ty.int IntKind.i64))) y2 (Int.toNat y1)).1) : Int) != (2 : Int)) (.out (.inl false)) (.br (true) (.go (IntKind.wrap IntKind.i64 (y1 + (1 : Int)))) (.bad))) (.bad)) (.br (true) (.go (IntKind.wrap IntKind.i64 (y1 + (1 : Int)))) (.bad))) (.bad)))) (.bad)) (.bad)) (.br (true) (.out (.inl false)) (.br (true) (.br (byteAt (at_ (Ty.pair Ty.str (Ty.sl (nat_lit 3) (Ty.int IntKind.i64))) y2 (Int.toNat y1)).1 (nat_lit 0) != (97 : Int)) (.br (true) (.br ((↑(ByteArray.size (at_ (Ty.pair Ty.str (Ty.sl (nat_lit 3) (Ty.int IntKind.i64))) y2 (Int.toNat y1)).1) : Int) != (2 : Int)) (.out (.inl false)) (.br (true) (.go (IntKind.wrap IntKind.i64 (y1 + (1 : Int)))) (.bad))) (.bad)) (.br (true) (.go (IntKind.wrap IntKind.i64 (y1 + (1 : Int)))) (.bad))) (.bad)))) (.bad)) (.br (true) (.out (.inl false)) (.br (true) (.br (byteAt (at_ (Ty.pair Ty.str (Ty.sl (nat_lit 3) (Ty.int IntKind.i64))) y2 (Int.toNat y1)).1 (nat_lit 0) != (97 : Int)) (.br (true) (.br ((↑(ByteArray.size (at_ (Ty.pair Ty.str (Ty.sl (nat_lit 3) (Ty.int IntKind.i64))) y2 (Int.toNat y1)).1) : Int) != (2 : Int)) (.out (.inl false)) (.br (true) (.go (IntKind.wrap IntKind.i64 (y1 + (1 : Int)))) (.bad))) (.bad)) (.br (true) (.go (IntKind.wrap IntKind.i64 (y1 + (1 : Int)))) (.bad))) (.bad)))) (.bad))) (.bad)) (.br (true) (.br (byteAt (at_ (Ty.pair Ty.str (Ty.sl (nat_lit 3) (Ty.int IntKind.i64))) y2 (Int.toNat y1)).1 (nat_lit 0) == (102 : Int)) (.br (true) (.br ((↑(List.length (at_ (Ty.pair Ty.str (Ty.sl (nat_lit 3) (Ty.int IntKind.i64))) y2 (Int.toNat y1)).2) : Int) == (3 : Int)) (.br (decide ((0 : Int) ≤ (1 : Int) ∧ (1 : Int) < (↑(List.length (at_ (Ty.pair Ty.str (Ty.sl (nat_lit 3) (Ty.int IntKind.i64))) y2 (Int.toNat y1)).2) : Int))) (.br (g_As_l1In (at_ (Ty.int IntKind.i64) (at_ (Ty.pair Ty.str (Ty.sl (nat_lit 3) (Ty.int IntKind.i64))) y2 (Int.toNat y1)).2 (nat_lit 1)) (1 : Int) (99 : Int)) (.br (g_Vs_l1In_0 (at_ (Ty.int IntKind.i64) (at_ (Ty.pair Ty.str (Ty.sl (nat_lit 3) (Ty.int IntKind.i64))) y2 (Int.toNat y1)).2 (nat_lit 1)) (1 : Int) (99 : Int)) (.br (decide ((0 : Int) ≤ (2 : Int) ∧ (2 : Int) < (↑(List.length (at_ (Ty.pair Ty.str (Ty.sl (nat_lit 3) (Ty.int IntKind.i64))) y2 (Int.toNat y1)).2) : Int))) (.br (true) (.br (!decide (at_ (Ty.int IntKind.i64) (at_ (Ty.pair Ty.str (Ty.sl (nat_lit 3) (Ty.int IntKind.i64))) y2 (Int.toNat y1)).2 (nat_lit 2) ≤ (1 : Int))) (.out (.inl false)) (.br (true) (.br (byteAt (at_ (Ty.pair Ty.str (Ty.sl (nat_lit 3) (Ty.int IntKind.i64))) y2 (Int.toNat y1)).1 (nat_lit 0) != (97 : Int)) (.br (true) (.br ((↑(ByteArray.size (at_ (Ty.pair Ty.str (Ty.sl (nat_lit 3) (Ty.int IntKind.i64))) y2 (Int.toNat y1)).1) : Int) != (2 : Int)) (.out (.inl false)) (.br (true) (.go (IntKind.wrap IntKind.i64 (y1 + (1 : Int)))) (.bad))) (.bad)) (.br (true) (.go (IntKind.wrap IntKind.i64 (y1 + (1 : Int)))) (.bad))) (.bad))) (.bad)) (.bad)) (.br (true) (.out (.inl false)) (.br (true) (.br (byteAt (at_ (Ty.pair Ty.str (Ty.sl (nat_lit 3) (Ty.int IntKind.i64))) y2 (Int.toNat y1)).1 (nat_lit 0) != (97 : Int)) (.br (true) (.br ((↑(ByteArray.size (at_ (Ty.pair Ty.str (Ty.sl (nat_lit 3) (Ty.int IntKind.i64))) y2 (Int.toNat y1)).1) : Int) != (2 : Int)) (.out (.inl false)) (.br (true) (.go (IntKind.wrap IntKind.i64 (y1 + (1 : Int)))) (.bad))) (.bad)) (.br (true) (.go (IntKind.wrap IntKind.i64 (y1 + (1 : Int)))) (.bad))) (.bad)))) (.bad)) (.bad)) (.br (true) (.out (.inl false)) (.br (true) (.br (byteAt (at_ (Ty.pair Ty.str (Ty.sl (nat_lit 3) (Ty.int IntKind.i64))) y2 (Int.toNat y1)).1 (nat_lit 0) != (97 : Int)) (.br (true) (.br ((↑(ByteArray.size (at_ (Ty.pair Ty.str (Ty.sl (nat_lit 3) (Ty.int IntKind.i64))) y2 (Int.toNat y1)).1) : Int) != (2 : Int)) (.out (.inl false)) (.br (true) (.go (IntKind.wrap IntKind.i64 (y1 + (1 : Int)))) (.bad))) (.bad)) (.br (true) (.go (IntKind.wrap IntKind.i64 (y1 + (1 : Int)))) (.bad))) (.bad)))) (.bad)) (.br (true) (.out (.inl false)) (.br (true) (.br (byteAt (at_ (Ty.pair Ty.str (Ty.sl (nat_lit 3) (Ty.int IntKind.i64))) y2 (Int.toNat y1)).1 (nat_lit 0) != (97 : Int)) (.br (true) (.br ((↑(ByteArray.size (at_ (Ty.pair Ty.str (Ty.sl (nat_lit 3) (Ty.int IntKind.i64))) y2 (Int.toNat y1)).1) : Int) != (2 : Int)) (.out (.inl false)) (.br (true) (.go (IntKind.wrap IntKind.i64 (y1 + (1 : Int)))) (.bad))) (.bad)) (.br (true) (.go (IntKind.wrap IntKind.i64 (y1 + (1 : Int)))) (.bad))) (.bad)))) (.bad))) (.bad)) (.br (true) (.out (.inl false)) (.br (true) (.br (byteAt (at_ (Ty.pair Ty.str (Ty.sl (nat_lit 3) (Ty.int IntKind.i64))) y2 (Int.toNat y1)).1 (nat_lit 0) != (97 : Int)) (.br (true) (.br ((↑(ByteArray.size (at_ (Ty.pair Ty.str (Ty.sl (nat_lit 3) (Ty.int IntKind.i64))) y2 (Int.toNat y1)).1) : Int) != (2 : Int)) (.out (.inl false)) (.br (true) (.go (IntKind.wrap IntKind.i64 (y1 + (1 : Int)))) (.bad))) (.bad)) (.br (true) (.go (IntKind.wrap IntKind.i64 (y1 + (1 : Int)))) (.bad))) (.bad)))) (.bad)) (.br (true) (.out (.inl false)) (.br (true) (.br (byteAt (at_ (Ty.pair Ty.str (Ty.sl (nat_lit 3) (Ty.int IntKind.i64))) y2 (Int.toNat y1)).1 (nat_lit 0) != (97 : Int)) (.br (true) (.br ((↑(ByteArray.size (at_ (Ty.pair Ty.str (Ty.sl (nat_lit 3) (Ty.int IntKind.i64))) y2 (Int.toNat y1)).1) : Int) != (2 : Int)) (.out (.inl false)) (.br (true) (.go (IntKind.wrap IntKind.i64 (y1 + (1 : Int)))) (.bad))) (.bad)) (.br (true) (.go (IntKind.wrap IntKind.i64 (y1 + (1 : Int)))) (.bad))) (.bad)))) (.bad))) (.bad)) (.br (true) (.br (y0 == (2 : Int)) (.br (true) (.br (decide (at_ (Ty.int IntKind.i64) (at_ (Ty.pair Ty.str (Ty.sl (nat_lit 3) (Ty.int IntKind.i64))) y2 (Int.toNat y1)).2 (nat_lit 0) ≤ (9 : Int))) (.br (true) (.br (byteAt (at_ (Ty.pair Ty.str (Ty.sl (nat_lit 3) (Ty.int IntKind.i64))) y2 (Int.toNat y1)).1 (nat_lit 0) == (99 : Int)) (.br (true) (.br ((↑(List.length (at_ (Ty.pair Ty.str (Ty.sl (nat_lit 3) (Ty.int IntKind.i64))) y2 (Int.toNat y1)).2) : Int) == (2 : Int)) (.br (false) (.out (.inl false)) (.br (true) (.br (byteAt (at_ (Ty.pair Ty.str (Ty.sl (nat_lit 3) (Ty.int IntKind.i64))) y2 (Int.toNat y1)).1 (nat_lit 0) != (97 : Int)) (.br (true) (.br ((↑(ByteArray.size (at_ (Ty.pair Ty.str (Ty.sl (nat_lit 3) (Ty.int IntKind.i64))) y2 (Int.toNat y1)).1) : Int) != (2 : Int)) (.out (.inl false)) (.br (true) (.go (IntKind.wrap IntKind.i64 (y1 + (1 : Int)))) (.bad))) (.bad)) (.br (true) (.go (IntKind.wrap IntKind.i64 (y1 + (1 : Int)))) (.bad))) (.bad))) (.br (true) (.br (byteAt (at_ (Ty.pair Ty.str (Ty.sl (nat_lit 3) (Ty.int IntKind.i64))) y2 (Int.toNat y1)).1 (nat_lit 0) == (102 : Int)) (.br (true) (.br ((↑(List.length (at_ (Ty.pair Ty.str (Ty.sl (nat_lit 3) (Ty.int IntKind.i64))) y2 (Int.toNat y1)).2) : Int) == (3 : Int)) (.br (decide ((0 : Int) ≤ (1 : Int) ∧ (1 : Int) < (↑(List.length (at_ (Ty.pair Ty.str (Ty.sl (nat_lit 3) (Ty.int IntKind.i64))) y2 (Int.toNat y1)).2) : Int))) (.br (g_As_l1In (at_ (Ty.int IntKind.i64) (at_ (Ty.pair Ty.str (Ty.sl (nat_lit 3) (Ty.int IntKind.i64))) y2 (Int.toNat y1)).2 (nat_lit 1)) (1 : Int) (99 : Int)) (.br (g_Vs_l1In_0 (at_ (Ty.int IntKind.i64) (at_ (Ty.pair Ty.str (Ty.sl (nat_lit 3) (Ty.int IntKind.i64))) y2 (Int.toNat y1)).2 (nat_lit 1)) (1 : Int) (99 : Int)) (.br (decide ((0 : Int) ≤ (2 : Int) ∧ (2 : Int) < (↑(List.length (at_ (Ty.pair Ty.str (Ty.sl (nat_lit 3) (Ty.int IntKind.i64))) y2 (Int.toNat y1)).2) : Int))) (.br (true) (.br (!decide (at_ (Ty.int IntKind.i64) (at_ (Ty.pair Ty.str (Ty.sl (nat_lit 3) (Ty.int IntKind.i64))) y2 (Int.toNat y1)).2 (nat_lit 2) ≤ (1 : Int))) (.out (.inl false)) (.br (true) (.br (byteAt (at_ (Ty.pair Ty.str (Ty.sl (nat_lit 3) (Ty.int IntKind.i64))) y2 (Int.toNat y1)).1 (nat_lit 0) != (97 : Int)) (.br (true) (.br ((↑(ByteArray.size (at_ (Ty.pair Ty.str (Ty.sl (nat_lit 3) (Ty.int IntKind.i64))) y2 (Int.toNat y1)).1) : Int) != (2 : Int)) (.out (.inl false)) (.br (true) (.go (IntKind.wrap IntKind.i64 (y1 + (1 : Int)))) (.bad))) (.bad)) (.br (true) (.go (IntKind.wrap IntKind.i64 (y1 + (1 : Int)))) (.bad))) (.bad))) (.bad)) (.bad)) (.br (true) (.out (.inl false)) (.br (true) (.br (byteAt (at_ (Ty.pair Ty.str (Ty.sl (nat_lit 3) (Ty.int IntKind.i64))) y2 (Int.toNat y1)).1 (nat_lit 0) != (97 : Int)) (.br (true) (.br ((↑(ByteArray.size (at_ (Ty.pair Ty.str (Ty.sl (nat_lit 3) (Ty.int IntKind.i64))) y2 (Int.toNat y1)).1) : Int) != (2 : Int)) (.out (.inl false)) (.br (true) (.go (IntKind.wrap IntKind.i64 (y1 + (1 : Int)))) (.bad))) (.bad)) (.br (true) (.go (IntKind.wrap IntKind.i64 (y1 + (1 : Int)))) (.bad))) (.bad)))) (.bad)) (.bad)) (.br (true) (.out (.inl false)) (.br (true) (.br (byteAt (at_ (Ty.pair Ty.str (Ty.sl (nat_lit 3) (Ty.int IntKind.i64))) y2 (Int.toNat y1)).1 (nat_lit 0) != (97 : Int)) (.br (true) (.br ((↑(ByteArray.size (at_ (Ty.pair Ty.str (Ty.sl (nat_lit 3) (Ty.int IntKind.i64))) y2 (Int.toNat y1)).1) : Int) != (2 : Int)) (.out (.inl false)) (.br (true) (.go (IntKind.wrap IntKind.i64 (y1 + (1 : Int)))) (.bad))) (.bad)) (.br (true) (.go (IntKind.wrap IntKind.i64 (y1 + (1 : Int)))) (.bad))) (.bad)))) (.bad)) (.br (true) (.out (.inl false)) (.br (true) (.br (byteAt (at_ (Ty.pair Ty.str (Ty.sl (nat_lit 3) (Ty.int IntKind.i64))) y2 (Int.toNat y1)).1 (nat_lit 0) != (97 : Int)) (.br (true) (.br ((↑(ByteArray.size (at_ (Ty.pair Ty.str (Ty.sl (nat_lit 3) (Ty.int IntKind.i64))) y2 (Int.toNat y1)).1) : Int) != (2 : Int)) (.out (.inl false)) (.br (true) (.go (IntKind.wrap IntKind.i64 (y1 + (1 : Int)))) (.bad))) (.bad)) (.br (true) (.go (IntKind.wrap IntKind.i64 (y1 + (1 : Int)))) (.bad))) (.bad)))) (.bad))) (.bad)) (.br (true) (.br (byteAt (at_ (Ty.pair Ty.str (Ty.sl (nat_lit 3) (Ty.int IntKind.i64))) y2 (Int.toNat y1)).1 (nat_lit 0) == (102 : Int)) (.br (true) (.br ((↑(List.length (at_ (Ty.pair Ty.str (Ty.sl (nat_lit 3) (Ty.int IntKind.i64))) y2 (Int.toNat y1)).2) : Int) == (3 : Int)) (.br (decide ((0 : Int) ≤ (1 : Int) ∧ (1 : Int) < (↑(List.length (at_ (Ty.pair Ty.str (Ty.sl (nat_lit 3) (Ty.int IntKind.i64))) y2 (Int.toNat y1)).2) : Int))) (.br (g_As_l1In (at_ (Ty.int IntKind.i64) (at_ (Ty.pair Ty.str (Ty.sl (nat_lit 3) (Ty.int IntKind.i64))) y2 (Int.toNat y1)).2 (nat_lit 1)) (1 : Int) (99 : Int)) (.br (g_Vs_l1In_0 (at_ (Ty.int IntKind.i64) (at_ (Ty.pair Ty.str (Ty.sl (nat_lit 3) (Ty.int IntKind.i64))) y2 (Int.toNat y1)).2 (nat_lit 1)) (1 : Int) (99 : Int)) (.br (decide ((0 : Int) ≤ (2 : Int) ∧ (2 : Int) < (↑(List.length (at_ (Ty.pair Ty.str (Ty.sl (nat_lit 3) (Ty.int IntKind.i64))) y2 (Int.toNat y1)).2) : Int))) (.br (true) (.br (!decide (at_ (Ty.int IntKind.i64) (at_ (Ty.pair Ty.str (Ty.sl (nat_lit 3) (Ty.int IntKind.i64))) y2 (Int.toNat y1)).2 (nat_lit 2) ≤ (1 : Int))) (.out (.inl false)) (.br (true) (.br (byteAt (at_ (Ty.pair Ty.str (Ty.sl (nat_lit 3) (Ty.int IntKind.i64))) y2 (Int.toNat y1)).1 (nat_lit 0) != (97 : Int)) (.br (true) (.br ((↑(ByteArray.size (at_ (Ty.pair Ty.str (Ty.sl (nat_lit 3) (Ty.int IntKind.i64))) y2 (Int.toNat y1)).1) : Int) != (2 : Int)) (.out (.inl false)) (.br (true) (.go (IntKind.wrap IntKind.i64 (y1 + (1 : Int)))) (.bad))) (.bad)) (.br (true) (.go (IntKind.wrap IntKind.i64 (y1 + (1 : Int)))) (.bad))) (.bad))) (.bad)) (.bad)) (.br (true) (.out (.inl false)) (.br (true) (.br (byteAt (at_ (Ty.pair Ty.str (Ty.sl (nat_lit 3) (Ty.int IntKind.i64))) y2 (Int.toNat y1)).1 (nat_lit 0) != (97 : Int)) (.br (true) (.br ((↑(ByteArray.size (at_ (Ty.pair Ty.str (Ty.sl (nat_lit 3) (Ty.int IntKind.i64))) y2 (Int.toNat y1)).1) : Int) != (2 : Int)) (.out (.inl false)) (.br (true) (.go (IntKind.wrap IntKind.i64 (y1 + (1 : Int)))) (.bad))) (.bad)) (.br (true) (.go (IntKind.wrap IntKind.i64 (y1 + (1 : Int)))) (.bad))) (.bad)))) (.bad)) (.bad)) (.br (true) (.out (.inl false)) (.br (true) (.br (byteAt (at_ (Ty.pair Ty.str (Ty.sl (nat_lit 3) (Ty.int IntKind.i64))) y2 (Int.toNat y1)).1 (nat_lit 0) != (97 : Int)) (.br (true) (.br ((↑(ByteArray.size (at_ (Ty.pair Ty.str (Ty.sl (nat_lit 3) (Ty.int IntKind.i64))) y2 (Int.toNat y1)).1) : Int) != (2 : Int)) (.out (.inl false)) (.br (true) (.go (IntKind.wrap IntKind.i64 (y1 + (1 : Int)))) (.bad))) (.bad)) (.br (true) (.go (IntKind.wrap IntKind.i64 (y1 + (1 : Int)))) (.bad))) (.bad)))) (.bad)) (.br (true) (.out (.inl false)) (.br (true) (.br (byteAt (at_ (Ty.pair Ty.str (Ty.sl (nat_lit 3) (Ty.int IntKind.i64))) y2 (Int.toNat y1)).1 (nat_lit 0) != (97 : Int)) (.br (true) (.br ((↑(ByteArray.size (at_ (Ty.pair Ty.str (Ty.sl (nat_lit 3) (Ty.int IntKind.i64))) y2 (Int.toNat y1)).1) : Int) != (2 : Int)) (.out (.inl false)) (.br (true) (.go (IntKind.wrap IntKind.i64 (y1 + (1 : Int)))) (.bad))) (.bad)) (.br (true) (.go (IntKind.wrap IntKind.i64 (y1 + (1 : Int)))) (.bad))) (.bad)))) (.bad))) (.bad)) (.br (true) (.out (.inl false)) (.br (true) (.br (byteAt (at_ (Ty.pair Ty.str (Ty.sl (nat_lit 3) (Ty.int IntKind.i64))) y2 (Int.toNat y1)).1 (nat_lit 0) != (97 : Int)) (.br (true) (.br ((↑(ByteArray.size (at_ (Ty.pair Ty.str (Ty.sl (nat_lit 3) (Ty.int IntKind.i64))) y2 (Int.toNat y1)).1) : Int) != (2 : Int)) (.out (.inl false)) (.br (true) (.go (IntKind.wrap IntKind.i64 (y1 + (1 : Int)))) (.bad))) (.bad)) (.br (true) (.go (IntKind.wrap IntKind.i64 (y1 + (1 : Int)))) (.bad))) (.bad)))) (.bad)) (.br (true) (.out (.inl false)) (.br (true) (.br (byteAt (at_ (Ty.pair Ty.str (Ty.sl (nat_lit 3) (Ty.int IntKind.i64))) y2 (Int.toNat y1)).1 (nat_lit 0) != (97 : Int)) (.br (true) (.br ((↑(ByteArray.size (at_ (Ty.pair Ty.str (Ty.sl (nat_lit 3) (Ty.int IntKind.i64))) y2 (Int.toNat y1)).1) : Int) != (2 : Int)) (.out (.inl false)) (.br (true) (.go (IntKind.wrap IntKind.i64 (y1 + (1 : Int)))) (.bad))) (.bad)) (.br (true) (.go (IntKind.wrap IntKind.i64 (y1 + (1 : Int)))) (.bad))) (.bad)))) (.bad))) (.bad))) (.bad)) (.bad)) (.bad)) (.bad)) (.out (.inr (())))) (.bad)
noncomputable def g_Ls_l3Form_0 (y0 : Int) (y2 : List ((ByteArray) × (List (Int)))) (x : (Int)) : Option (((Bool)) ⊕ (Unit)) := loopO (g_Ss_l3Form_0 y0 y2) x
noncomputable def xs_l3Form_0 (y0 : Int) (y2 : List ((ByteArray) × (List (Int)))) : (((Bool)) ⊕ (Unit)) → Ex × List (Pl × LV) := fun
  | .inl r => (.ret, [(.T 4, .t (.val false [.bool r]))])
  | .inr (r) => (.exit 0, [(.T 4, .t (.val false [.undef]))])
noncomputable def Os_l3Form_1 : Orc := fun b h => match b, h with
  | 0, [(.T 0, .t (.val false [.int .i64 y0])), (.T 3, .t (.val false [.ptr 3 0 0])), (.T 5, .t (.val false [.int .i64 y1])), (.B 3, .b 0 false [.sl .any 60 (.pair .str (.sl 3 (.int .i64))) y2])] => some (okO (g_Ls_l3Form_0 y0 y2 y1), (.br (isL (valO (g_Ls_l3Form_0 y0 y2 y1))) (.leaf .ret [(.T 4, .t (.val false [.bool (getL (valO (g_Ls_l3Form_0 y0 y2 y1)))]))]) (.leaf (.exit 0) [(.T 4, .t (.val false [.undef]))])))
  | b, h => Os_l3Form_0 b h
theorem bs_l3Form_0 (y0 : Int) (y1 : Int) (y2 : List ((ByteArray) × (List (Int)))) : Tr.bt Es_l3Form Os_l3Form_0 (exec Es_l3Form 0 cs_l3Form_0 (St.of (hs_l3Form_0 y0 y1 y2)) (leafRd Es_l3Form 0)) = (g_Ss_l3Form_0 y0 y2 y1).bt (fun (y1 : (Int)) => (hs_l3Form_0 y0 y1 y2)) (xs_l3Form_0 y0 y2) := by kernel_rfl
theorem ks_l3Form_1 : OrcOk Es_l3Form Os_l3Form_1 lss_l3Form 1 := orc_add ks_l3Form_0 (fun n p hp h ex h' ho => by
  obtain ⟨b, c⟩ := p
  obtain ⟨xt, h1, h2⟩ := ho
  have h1 : Os_l3Form_1 b h = some (true, xt) := h1
  unfold Os_l3Form_1 at h1
  split at h1
  · injection h1 with h1
    injection h1 with e1 e2
    subst e2
    have hc : c = cs_l3Form_0 := ms_l3Form_0 _ hp rfl
    subst hc
    right
    rename_i y0 y1 y2
    have key := LT_step ks_l3Form_0 hp (fun q hq => loopsAll_in _ _ _ _ hp hq) (fun (y1 : (Int)) => (hs_l3Form_0 y0 y1 y2)) (xs_l3Form_0 y0 y2) (g_Ss_l3Form_0 y0 y2) (fun x => by first | exact bs_l3Form_0 y0 x y2) n (x := y1) (okO_some e1)
    have hx : ∀ r, XT.sel (.br (isL r) (.leaf .ret [(.T 4, .t (.val false [.bool (getL r)]))]) (.leaf (.exit 0) [(.T 4, .t (.val false [.undef]))])) = xs_l3Form_0 y0 y2 r := fun r => by first | rfl | (rcases r with r | r <;> rfl) | (rcases r with r | r | r <;> rfl) | (rcases r with r | r | r | r <;> rfl)
    have h3 := (hx (valO (g_Ls_l3Form_0 y0 y2 y1))).symm.trans h2
    have e3 := congrArg Prod.fst h3
    have e4 := congrArg Prod.snd h3
    simp only at e3 e4
    rw [← e3, ← e4]
    exact key
  · exact .inl ⟨xt, h1, h2⟩)
noncomputable def g_As_l3Form (a0 : Int) (a1 : List ((ByteArray) × (List (Int)))) : Bool := okO (g_Ls_l3Form_0 a0 a1 (0 : Int))
noncomputable def g_Vs_l3Form_0 (a0 : Int) (a1 : List ((ByteArray) × (List (Int)))) : Bool := bif isL (valO (g_Ls_l3Form_0 a0 a1 (0 : Int))) then getL (valO (g_Ls_l3Form_0 a0 a1 (0 : Int))) else true
noncomputable def Fs_l3Form : FSem := fun ys => match ys with
  | [.val false [.int .i64 a0], .val true [.sl .any 60 (.pair .str (.sl 3 (.int .i64))) a1]] => some ((g_As_l3Form a0 a1), .val false [.bool (g_Vs_l3Form_0 a0 a1)], [])
  | _ => none
theorem vs_l3Form (a0 : Int) (a1 : List ((ByteArray) × (List (Int)))) : collapseH .std Es_l3Form Os_l3Form_1 (execFn Es_l3Form Go.Proofs.Tryz.f67 mss_l3Form [.val false [.int .i64 a0], .val true [.sl .any 60 (.pair .str (.sl 3 (.int .i64))) a1]]) = some ((g_As_l3Form a0 a1), .val false [.bool (g_Vs_l3Form_0 a0 a1)], []) := by kernel_rfl
theorem ss_l3Form : Sound Go.Proofs.Tryz.prog 67 mss_l3Form Fs_l3Form := by
  refine fn_gen goods_l3Form (by kernel_rfl) .std (fn := Go.Proofs.Tryz.f67) (c := (Go.Proofs.Tryz.f67.body.getD .skip)) (o := Os_l3Form_1) (k := 1) (by kernel_rfl) (by kernel_rfl) (by kernel_rfl) (by kernel_rfl) (by decide) ks_l3Form_1 ?_
  intro ys r outs h
  unfold Fs_l3Form at h
  split at h
  · exact (vs_l3Form _ _).trans h
  · cases h
end Go.Proofs.YtnbcdkbjmpadmaaGreatDoor.E
end
section
namespace Go.Proofs.YtnbcdkbjmpadmaaGreatDoor.E
open Go
set_option maxRecDepth 100000
set_option maxHeartbeats 0
set_option linter.all false
noncomputable def Es_PlcOk : Env where
  tt := mkTI Go.Proofs.Tryz.prog
  fn := fun f => match f with
    | 31 => some (mss_l1In, FSem.wk mss_l1In Fs_l1In)
    | 66 => some (mss_StoOk, FSem.wk mss_StoOk Fs_StoOk)
    | 67 => some (mss_l3Form, FSem.wk mss_l3Form Fs_l3Form)
    | _ => none
  bxf := fun _ => none
  mv := []
  keep := fun _ => []
  keepB := fun _ => []
  keepX := fun _ => []
  keepXB := fun _ => []
theorem goodFs_PlcOk : ∀ f ms F, Es_PlcOk.fn f = some (ms, F) → Sound Go.Proofs.Tryz.prog f ms F := fun f ms F h => by
  unfold Es_PlcOk at h
  dsimp only at h
  split at h
  · injection h with h; injection h with e1 e2; subst e1 e2; exact Sound.wk ss_l1In
  · injection h with h; injection h with e1 e2; subst e1 e2; exact Sound.wk ss_StoOk
  · injection h with h; injection h with e1 e2; subst e1 e2; exact Sound.wk ss_l3Form
  · cases h
theorem goodBs_PlcOk : ∀ f ms F, Es_PlcOk.bxf f = some (ms, F) → SoundB Go.Proofs.Tryz.prog f ms F := fun f ms F h => by cases h
theorem goods_PlcOk : Good Go.Proofs.Tryz.prog Es_PlcOk := ⟨rfl, goodFs_PlcOk, goodBs_PlcOk⟩
noncomputable def Os_PlcOk_0 : Orc := fun _ _ => none
noncomputable def mss_PlcOk : List PM := [.own, .rd]
noncomputable def lss_PlcOk : List (Nat × Code) := loopsAll 0 (Go.Proofs.Tryz.f29.body.getD .skip)

theorem ks_PlcOk_0 : OrcOk Es_PlcOk Os_PlcOk_0 lss_PlcOk 0 := orcOk_none
noncomputable def g_As_PlcOk (a0 : Int) (a1 : List ((ByteArray) × (List (Int)))) : Bool := g_As_l1In a0 (1 : Int) (3 : Int) && (!g_Vs_l1In_0 a0 (1 : Int) (3 : Int) || g_As_StoOk a1 && (!g_Vs_StoOk_0 a1 || g_As_l3Form a0 a1))
noncomputable def g_Vs_PlcOk_0 (a0 : Int) (a1 : List ((ByteArray) × (List (Int)))) : Bool := bif g_Vs_l1In_0 a0 (1 : Int) (3 : Int) then bif g_Vs_StoOk_0 a1 then g_Vs_l3Form_0 a0 a1 else false else false
noncomputable def Fs_PlcOk : FSem := fun ys => match ys with
  | [.val false [.int .i64 a0], .val true [.sl .any 60 (.pair .str (.sl 3 (.int .i64))) a1]] => some ((g_As_PlcOk a0 a1), .val false [.bool (g_Vs_PlcOk_0 a0 a1)], [])
  | _ => none
theorem vs_PlcOk (a0 : Int) (a1 : List ((ByteArray) × (List (Int)))) : collapseH .std Es_PlcOk Os_PlcOk_0 (execFn Es_PlcOk Go.Proofs.Tryz.f29 mss_PlcOk [.val false [.int .i64 a0], .val true [.sl .any 60 (.pair .str (.sl 3 (.int .i64))) a1]]) = some ((g_As_PlcOk a0 a1), .val false [.bool (g_Vs_PlcOk_0 a0 a1)], []) := by kernel_rfl
theorem ss_PlcOk : Sound Go.Proofs.Tryz.prog 29 mss_PlcOk Fs_PlcOk := by
  refine fn_gen goods_PlcOk (by kernel_rfl) .std (fn := Go.Proofs.Tryz.f29) (c := (Go.Proofs.Tryz.f29.body.getD .skip)) (o := Os_PlcOk_0) (k := 0) (by kernel_rfl) (by kernel_rfl) (by kernel_rfl) (by kernel_rfl) (by decide) ks_PlcOk_0 ?_
  intro ys r outs h
  unfold Fs_PlcOk at h
  split at h
  · exact (vs_PlcOk _ _).trans h
  · cases h
end Go.Proofs.YtnbcdkbjmpadmaaGreatDoor.E
end
section
namespace Go.Proofs.YtnbcdkbjmpadmaaGreatDoor.E
open Go
set_option maxRecDepth 100000
set_option maxHeartbeats 0
set_option linter.all false
noncomputable def Es_l3Has : Env where
  tt := mkTI Go.Proofs.Tryz.prog
  fn := fun _ => none
  bxf := fun _ => none
  mv := []
  keep := fun b => match b with
    | 0 => [(0, false), (1, false), (5, false)]
    | _ => []
  keepB := fun b => match b with
    | 0 => []
    | _ => []
  keepX := fun b => match b with
    | 0 => [(4, false)]
    | _ => []
  keepXB := fun b => match b with
    | 0 => []
    | _ => []
theorem goodFs_l3Has : ∀ f ms F, Es_l3Has.fn f = some (ms, F) → Sound Go.Proofs.Tryz.prog f ms F := fun f ms F h => by cases h
theorem goodBs_l3Has : ∀ f ms F, Es_l3Has.bxf f = some (ms, F) → SoundB Go.Proofs.Tryz.prog f ms F := fun f ms F h => by cases h
theorem goods_l3Has : Good Go.Proofs.Tryz.prog Es_l3Has := ⟨rfl, goodFs_l3Has, goodBs_l3Has⟩
noncomputable def Os_l3Has_0 : Orc := fun _ _ => none
noncomputable def mss_l3Has : List PM := [.rd, .own]
noncomputable def lss_l3Has : List (Nat × Code) := loopsAll 0 (Go.Proofs.Tryz.f32.body.getD .skip)
noncomputable def cs_l3Has_0 : Code := (loopOf 0 (Go.Proofs.Tryz.f32.body.getD .skip)).getD .skip
theorem lseqs_l3Has : lss_l3Has = [(0, cs_l3Has_0)] := by kernel_rfl
theorem ms_l3Has_0 : ∀ p, p ∈ lss_l3Has → p.1 = 0 → p.2 = cs_l3Has_0 := by
  intro p hp
  rw [lseqs_l3Has] at hp
  simp only [List.mem_cons, List.not_mem_nil, or_false] at hp
  subst hp; simp
theorem ks_l3Has_0 : OrcOk Es_l3Has Os_l3Has_0 lss_l3Has 0 := orcOk_none
noncomputable def hs_l3Has_0 (y0 : List (Int)) (y1 : Int) (y2 : Int) : List (Pl × LV) := [(.T 0, .t (.val false [.sl .any 3 (.int .i64) y0])), (.T 1, .t (.val false [.int .i64 y1])), (.T 5, .t (.val false [.int .i64 y2]))]
noncomputable def g_Ss_l3Has_0 (y0 : List (Int)) (y1 : Int) : ((Int)) → RT ((Int)) (((Bool)) ⊕ (Unit))
  | y2 => .br (true) (.br (decide (y2 < (↑(List.length y0) : Int))) (.br (decide ((0 : Int) ≤ y2 ∧ y2 < (↑(List.length y0) : Int))) (.br (true) (.br (at_ (Ty.int IntKind.i64) y0 (Int.toNat y2) == y1) (.out (.inl true)) (.br (true) (.go (IntKind.wrap IntKind.i64 (y2 + (1 : Int)))) (.bad))) (.bad)) (.bad)) (.out (.inr (())))) (.bad)
noncomputable def g_Ls_l3Has_0 (y0 : List (Int)) (y1 : Int) (x : (Int)) : Option (((Bool)) ⊕ (Unit)) := loopO (g_Ss_l3Has_0 y0 y1) x
noncomputable def xs_l3Has_0 (y0 : List (Int)) (y1 : Int) : (((Bool)) ⊕ (Unit)) → Ex × List (Pl × LV) := fun
  | .inl r => (.ret, [(.T 4, .t (.val false [.bool r]))])
  | .inr (r) => (.exit 0, [(.T 4, .t (.val false [.undef]))])
noncomputable def Os_l3Has_1 : Orc := fun b h => match b, h with
  | 0, [(.T 0, .t (.val false [.sl .any 3 (.int .i64) y0])), (.T 1, .t (.val false [.int .i64 y1])), (.T 5, .t (.val false [.int .i64 y2]))] => some (okO (g_Ls_l3Has_0 y0 y1 y2), (.br (isL (valO (g_Ls_l3Has_0 y0 y1 y2))) (.leaf .ret [(.T 4, .t (.val false [.bool (getL (valO (g_Ls_l3Has_0 y0 y1 y2)))]))]) (.leaf (.exit 0) [(.T 4, .t (.val false [.undef]))])))
  | b, h => Os_l3Has_0 b h
theorem bs_l3Has_0 (y0 : List (Int)) (y1 : Int) (y2 : Int) : Tr.bt Es_l3Has Os_l3Has_0 (exec Es_l3Has 0 cs_l3Has_0 (St.of (hs_l3Has_0 y0 y1 y2)) (leafRd Es_l3Has 0)) = (g_Ss_l3Has_0 y0 y1 y2).bt (fun (y2 : (Int)) => (hs_l3Has_0 y0 y1 y2)) (xs_l3Has_0 y0 y1) := by kernel_rfl
theorem ks_l3Has_1 : OrcOk Es_l3Has Os_l3Has_1 lss_l3Has 1 := orc_add ks_l3Has_0 (fun n p hp h ex h' ho => by
  obtain ⟨b, c⟩ := p
  obtain ⟨xt, h1, h2⟩ := ho
  have h1 : Os_l3Has_1 b h = some (true, xt) := h1
  unfold Os_l3Has_1 at h1
  split at h1
  · injection h1 with h1
    injection h1 with e1 e2
    subst e2
    have hc : c = cs_l3Has_0 := ms_l3Has_0 _ hp rfl
    subst hc
    right
    rename_i y0 y1 y2
    have key := LT_step ks_l3Has_0 hp (fun q hq => loopsAll_in _ _ _ _ hp hq) (fun (y2 : (Int)) => (hs_l3Has_0 y0 y1 y2)) (xs_l3Has_0 y0 y1) (g_Ss_l3Has_0 y0 y1) (fun x => by first | exact bs_l3Has_0 y0 y1 x) n (x := y2) (okO_some e1)
    have hx : ∀ r, XT.sel (.br (isL r) (.leaf .ret [(.T 4, .t (.val false [.bool (getL r)]))]) (.leaf (.exit 0) [(.T 4, .t (.val false [.undef]))])) = xs_l3Has_0 y0 y1 r := fun r => by first | rfl | (rcases r with r | r <;> rfl) | (rcases r with r | r | r <;> rfl) | (rcases r with r | r | r | r <;> rfl)
    have h3 := (hx (valO (g_Ls_l3Has_0 y0 y1 y2))).symm.trans h2
    have e3 := congrArg Prod.fst h3
    have e4 := congrArg Prod.snd h3
    simp only at e3 e4
    rw [← e3, ← e4]
    exact key
  · exact .inl ⟨xt, h1, h2⟩)
noncomputable def g_As_l3Has (a0 : List (Int)) (a1 : Int) : Bool := okO (g_Ls_l3Has_0 a0 a1 (0 : Int))
noncomputable def g_Vs_l3Has_0 (a0 : List (Int)) (a1 : Int) : Bool := bif isL (valO (g_Ls_l3Has_0 a0 a1 (0 : Int))) then getL (valO (g_Ls_l3Has_0 a0 a1 (0 : Int))) else false
noncomputable def Fs_l3Has : FSem := fun ys => match ys with
  | [.val false [.sl .any 3 (.int .i64) a0], .val false [.int .i64 a1]] => some ((g_As_l3Has a0 a1), .val false [.bool (g_Vs_l3Has_0 a0 a1)], [])
  | _ => none
theorem vs_l3Has (a0 : List (Int)) (a1 : Int) : collapseH .std Es_l3Has Os_l3Has_1 (execFn Es_l3Has Go.Proofs.Tryz.f32 mss_l3Has [.val false [.sl .any 3 (.int .i64) a0], .val false [.int .i64 a1]]) = some ((g_As_l3Has a0 a1), .val false [.bool (g_Vs_l3Has_0 a0 a1)], []) := by kernel_rfl
theorem ss_l3Has : Sound Go.Proofs.Tryz.prog 32 mss_l3Has Fs_l3Has := by
  refine fn_gen goods_l3Has (by kernel_rfl) .std (fn := Go.Proofs.Tryz.f32) (c := (Go.Proofs.Tryz.f32.body.getD .skip)) (o := Os_l3Has_1) (k := 1) (by kernel_rfl) (by kernel_rfl) (by kernel_rfl) (by kernel_rfl) (by decide) ks_l3Has_1 ?_
  intro ys r outs h
  unfold Fs_l3Has at h
  split at h
  · exact (vs_l3Has _ _).trans h
  · cases h
end Go.Proofs.YtnbcdkbjmpadmaaGreatDoor.E
end
section
namespace Go.Proofs.YtnbcdkbjmpadmaaGreatDoor.E
open Go
set_option maxRecDepth 100000
set_option maxHeartbeats 0
set_option linter.all false
noncomputable def Es_l1Get : Env where
  tt := mkTI Go.Proofs.Tryz.prog
  fn := fun _ => none
  bxf := fun _ => none
  mv := []
  keep := fun b => match b with
    | 0 => [(1, false), (2, false), (6, false)]
    | _ => []
  keepB := fun b => match b with
    | 0 => [(2, false)]
    | _ => []
  keepX := fun b => match b with
    | 0 => [(4, false), (5, false)]
    | _ => []
  keepXB := fun b => match b with
    | 0 => []
    | _ => []
theorem goodFs_l1Get : ∀ f ms F, Es_l1Get.fn f = some (ms, F) → Sound Go.Proofs.Tryz.prog f ms F := fun f ms F h => by cases h
theorem goodBs_l1Get : ∀ f ms F, Es_l1Get.bxf f = some (ms, F) → SoundB Go.Proofs.Tryz.prog f ms F := fun f ms F h => by cases h
theorem goods_l1Get : Good Go.Proofs.Tryz.prog Es_l1Get := ⟨rfl, goodFs_l1Get, goodBs_l1Get⟩
noncomputable def Os_l1Get_0 : Orc := fun _ _ => none
noncomputable def mss_l1Get : List PM := [.rd, .own]
noncomputable def lss_l1Get : List (Nat × Code) := loopsAll 0 (Go.Proofs.Tryz.f71.body.getD .skip)
noncomputable def cs_l1Get_0 : Code := (loopOf 0 (Go.Proofs.Tryz.f71.body.getD .skip)).getD .skip
theorem lseqs_l1Get : lss_l1Get = [(0, cs_l1Get_0)] := by kernel_rfl
theorem ms_l1Get_0 : ∀ p, p ∈ lss_l1Get → p.1 = 0 → p.2 = cs_l1Get_0 := by
  intro p hp
  rw [lseqs_l1Get] at hp
  simp only [List.mem_cons, List.not_mem_nil, or_false] at hp
  subst hp; simp
theorem ks_l1Get_0 : OrcOk Es_l1Get Os_l1Get_0 lss_l1Get 0 := orcOk_none
noncomputable def hs_l1Get_0 (y0 : ByteArray) (y1 : Int) (y2 : List ((ByteArray) × (List (Int)))) : List (Pl × LV) := [(.T 1, .t (.val false [.str y0])), (.T 2, .t (.val false [.ptr 2 0 0])), (.T 6, .t (.val false [.int .i64 y1])), (.B 2, .b 0 false [.sl .any 60 (.pair .str (.sl 3 (.int .i64))) y2])]
noncomputable def g_Ss_l1Get_0 (y0 : ByteArray) (y2 : List ((ByteArray) × (List (Int)))) : ((Int)) → RT ((Int)) (((List (Int)) × (Bool)) ⊕ (Unit))
  | y1 => .br (true) (.br (decide (y1 < (↑(List.length y2) : Int))) (.br (decide ((0 : Int) ≤ y1 ∧ y1 < (↑(List.length y2) : Int))) (.br (true) (.br (ByteArray.toList (at_ (Ty.pair Ty.str (Ty.sl (nat_lit 3) (Ty.int IntKind.i64))) y2 (Int.toNat y1)).1 == ByteArray.toList y0) (.br (decide ((0 : Int) ≤ y1 ∧ y1 < (↑(List.length y2) : Int))) (.br (decide ((nat_lit 0 + List.length (at_ (Ty.pair Ty.str (Ty.sl (nat_lit 3) (Ty.int IntKind.i64))) y2 (Int.toNat y1)).2) * nat_lit 8 ≤ nat_lit 140737488355328 ∧ nat_lit 0 + List.length (at_ (Ty.pair Ty.str (Ty.sl (nat_lit 3) (Ty.int IntKind.i64))) y2 (Int.toNat y1)).2 ≤ nat_lit 9223372036854775807)) (.out (.inl (([] ++ (at_ (Ty.pair Ty.str (Ty.sl (nat_lit 3) (Ty.int IntKind.i64))) y2 (Int.toNat y1)).2, true)))) (.bad)) (.bad)) (.br (true) (.go (IntKind.wrap IntKind.i64 (y1 + (1 : Int)))) (.bad))) (.bad)) (.bad)) (.out (.inr (())))) (.bad)
noncomputable def g_Ls_l1Get_0 (y0 : ByteArray) (y2 : List ((ByteArray) × (List (Int)))) (x : (Int)) : Option (((List (Int)) × (Bool)) ⊕ (Unit)) := loopO (g_Ss_l1Get_0 y0 y2) x
noncomputable def xs_l1Get_0 (y0 : ByteArray) (y2 : List ((ByteArray) × (List (Int)))) : (((List (Int)) × (Bool)) ⊕ (Unit)) → Ex × List (Pl × LV) := fun
  | .inl r => (.ret, [(.T 4, .t (.val false [.row 4 0 0])), (.R 4 0, .r 0 (some ⟨false, .non, true, 3, (.int .i64), r.1⟩)), (.T 5, .t (.val false [.bool r.2]))])
  | .inr (r) => (.exit 0, [(.T 4, .t (.val false [.undef])), (.T 5, .t (.val false [.undef]))])
noncomputable def Os_l1Get_1 : Orc := fun b h => match b, h with
  | 0, [(.T 1, .t (.val false [.str y0])), (.T 2, .t (.val false [.ptr 2 0 0])), (.T 6, .t (.val false [.int .i64 y1])), (.B 2, .b 0 false [.sl .any 60 (.pair .str (.sl 3 (.int .i64))) y2])] => some (okO (g_Ls_l1Get_0 y0 y2 y1), (.br (isL (valO (g_Ls_l1Get_0 y0 y2 y1))) (.leaf .ret [(.T 4, .t (.val false [.row 4 0 0])), (.R 4 0, .r 0 (some ⟨false, .non, true, 3, (.int .i64), (getL (valO (g_Ls_l1Get_0 y0 y2 y1))).1⟩)), (.T 5, .t (.val false [.bool (getL (valO (g_Ls_l1Get_0 y0 y2 y1))).2]))]) (.leaf (.exit 0) [(.T 4, .t (.val false [.undef])), (.T 5, .t (.val false [.undef]))])))
  | b, h => Os_l1Get_0 b h
theorem bs_l1Get_0 (y0 : ByteArray) (y1 : Int) (y2 : List ((ByteArray) × (List (Int)))) : Tr.bt Es_l1Get Os_l1Get_0 (exec Es_l1Get 0 cs_l1Get_0 (St.of (hs_l1Get_0 y0 y1 y2)) (leafRd Es_l1Get 0)) = (g_Ss_l1Get_0 y0 y2 y1).bt (fun (y1 : (Int)) => (hs_l1Get_0 y0 y1 y2)) (xs_l1Get_0 y0 y2) := by kernel_rfl
theorem ks_l1Get_1 : OrcOk Es_l1Get Os_l1Get_1 lss_l1Get 1 := orc_add ks_l1Get_0 (fun n p hp h ex h' ho => by
  obtain ⟨b, c⟩ := p
  obtain ⟨xt, h1, h2⟩ := ho
  have h1 : Os_l1Get_1 b h = some (true, xt) := h1
  unfold Os_l1Get_1 at h1
  split at h1
  · injection h1 with h1
    injection h1 with e1 e2
    subst e2
    have hc : c = cs_l1Get_0 := ms_l1Get_0 _ hp rfl
    subst hc
    right
    rename_i y0 y1 y2
    have key := LT_step ks_l1Get_0 hp (fun q hq => loopsAll_in _ _ _ _ hp hq) (fun (y1 : (Int)) => (hs_l1Get_0 y0 y1 y2)) (xs_l1Get_0 y0 y2) (g_Ss_l1Get_0 y0 y2) (fun x => by first | exact bs_l1Get_0 y0 x y2) n (x := y1) (okO_some e1)
    have hx : ∀ r, XT.sel (.br (isL r) (.leaf .ret [(.T 4, .t (.val false [.row 4 0 0])), (.R 4 0, .r 0 (some ⟨false, .non, true, 3, (.int .i64), (getL r).1⟩)), (.T 5, .t (.val false [.bool (getL r).2]))]) (.leaf (.exit 0) [(.T 4, .t (.val false [.undef])), (.T 5, .t (.val false [.undef]))])) = xs_l1Get_0 y0 y2 r := fun r => by first | rfl | (rcases r with r | r <;> rfl) | (rcases r with r | r | r <;> rfl) | (rcases r with r | r | r | r <;> rfl)
    have h3 := (hx (valO (g_Ls_l1Get_0 y0 y2 y1))).symm.trans h2
    have e3 := congrArg Prod.fst h3
    have e4 := congrArg Prod.snd h3
    simp only at e3 e4
    rw [← e3, ← e4]
    exact key
  · exact .inl ⟨xt, h1, h2⟩)
noncomputable def g_As_l1Get (a0 : List ((ByteArray) × (List (Int)))) (a1 : ByteArray) : Bool := okO (g_Ls_l1Get_0 a1 a0 (0 : Int))
noncomputable def g_Vs_l1Get_0 (a0 : List ((ByteArray) × (List (Int)))) (a1 : ByteArray) : List (Int) := bif isL (valO (g_Ls_l1Get_0 a1 a0 (0 : Int))) then (getL (valO (g_Ls_l1Get_0 a1 a0 (0 : Int)))).1 else []
noncomputable def g_Vs_l1Get_1 (a0 : List ((ByteArray) × (List (Int)))) (a1 : ByteArray) : Bool := bif isL (valO (g_Ls_l1Get_0 a1 a0 (0 : Int))) then (getL (valO (g_Ls_l1Get_0 a1 a0 (0 : Int)))).2 else false
noncomputable def Fs_l1Get : FSem := fun ys => match ys with
  | [.val true [.sl .any 60 (.pair .str (.sl 3 (.int .i64))) a0], .val false [.str a1]] => some ((g_As_l1Get a0 a1), .tup [(false, [.own .any true 3 (.int .i64) (g_Vs_l1Get_0 a0 a1)]), (false, [.bool (g_Vs_l1Get_1 a0 a1)])], [])
  | _ => none
theorem vs_l1Get (a0 : List ((ByteArray) × (List (Int)))) (a1 : ByteArray) : collapseH .std Es_l1Get Os_l1Get_1 (execFn Es_l1Get Go.Proofs.Tryz.f71 mss_l1Get [.val true [.sl .any 60 (.pair .str (.sl 3 (.int .i64))) a0], .val false [.str a1]]) = some ((g_As_l1Get a0 a1), .tup [(false, [.own .any true 3 (.int .i64) (g_Vs_l1Get_0 a0 a1)]), (false, [.bool (g_Vs_l1Get_1 a0 a1)])], []) := by kernel_rfl
theorem ss_l1Get : Sound Go.Proofs.Tryz.prog 71 mss_l1Get Fs_l1Get := by
  refine fn_gen goods_l1Get (by kernel_rfl) .std (fn := Go.Proofs.Tryz.f71) (c := (Go.Proofs.Tryz.f71.body.getD .skip)) (o := Os_l1Get_1) (k := 1) (by kernel_rfl) (by kernel_rfl) (by kernel_rfl) (by kernel_rfl) (by decide) ks_l1Get_1 ?_
  intro ys r outs h
  unfold Fs_l1Get at h
  split at h
  · exact (vs_l1Get _ _).trans h
  · cases h
end Go.Proofs.YtnbcdkbjmpadmaaGreatDoor.E
end
section
namespace Go.Proofs.YtnbcdkbjmpadmaaGreatDoor.E
open Go
set_option maxRecDepth 100000
set_option maxHeartbeats 0
set_option linter.all false
noncomputable def Es_l3Digit : Env where
  tt := mkTI Go.Proofs.Tryz.prog
  fn := fun _ => none
  bxf := fun _ => none
  mv := []
  keep := fun _ => []
  keepB := fun _ => []
  keepX := fun _ => []
  keepXB := fun _ => []
theorem goodFs_l3Digit : ∀ f ms F, Es_l3Digit.fn f = some (ms, F) → Sound Go.Proofs.Tryz.prog f ms F := fun f ms F h => by cases h
theorem goodBs_l3Digit : ∀ f ms F, Es_l3Digit.bxf f = some (ms, F) → SoundB Go.Proofs.Tryz.prog f ms F := fun f ms F h => by cases h
theorem goods_l3Digit : Good Go.Proofs.Tryz.prog Es_l3Digit := ⟨rfl, goodFs_l3Digit, goodBs_l3Digit⟩
noncomputable def Os_l3Digit_0 : Orc := fun _ _ => none
noncomputable def mss_l3Digit : List PM := [.own]
noncomputable def lss_l3Digit : List (Nat × Code) := loopsAll 0 (Go.Proofs.Tryz.f101.body.getD .skip)

theorem ks_l3Digit_0 : OrcOk Es_l3Digit Os_l3Digit_0 lss_l3Digit 0 := orcOk_none
noncomputable def g_Vs_l3Digit_0 (a0 : Int) : ByteArray := { data := List.toArray (List.map (fun n => UInt8.ofNat (Int.toNat n)) [IntKind.wrap IntKind.u8 (IntKind.wrap IntKind.i64 ((48 : Int) + a0))]) }
noncomputable def Fs_l3Digit : FSem := fun ys => match ys with
  | [.val false [.int .i64 a0]] => some (true, .val false [.str (g_Vs_l3Digit_0 a0)], [])
  | _ => none
theorem vs_l3Digit (a0 : Int) : collapseH .std Es_l3Digit Os_l3Digit_0 (execFn Es_l3Digit Go.Proofs.Tryz.f101 mss_l3Digit [.val false [.int .i64 a0]]) = some (true, .val false [.str (g_Vs_l3Digit_0 a0)], []) := by kernel_rfl
theorem ss_l3Digit : Sound Go.Proofs.Tryz.prog 101 mss_l3Digit Fs_l3Digit := by
  refine fn_gen goods_l3Digit (by kernel_rfl) .std (fn := Go.Proofs.Tryz.f101) (c := (Go.Proofs.Tryz.f101.body.getD .skip)) (o := Os_l3Digit_0) (k := 0) (by kernel_rfl) (by kernel_rfl) (by kernel_rfl) (by kernel_rfl) (by decide) ks_l3Digit_0 ?_
  intro ys r outs h
  unfold Fs_l3Digit at h
  split at h
  · exact (vs_l3Digit _).trans h
  · cases h
end Go.Proofs.YtnbcdkbjmpadmaaGreatDoor.E
end
section
namespace Go.Proofs.YtnbcdkbjmpadmaaGreatDoor.E
open Go
set_option maxRecDepth 100000
set_option maxHeartbeats 0
set_option linter.all false
noncomputable def Es_l3No : Env where
  tt := mkTI Go.Proofs.Tryz.prog
  fn := fun _ => none
  bxf := fun _ => none
  mv := []
  keep := fun _ => []
  keepB := fun _ => []
  keepX := fun _ => []
  keepXB := fun _ => []
theorem goodFs_l3No : ∀ f ms F, Es_l3No.fn f = some (ms, F) → Sound Go.Proofs.Tryz.prog f ms F := fun f ms F h => by cases h
theorem goodBs_l3No : ∀ f ms F, Es_l3No.bxf f = some (ms, F) → SoundB Go.Proofs.Tryz.prog f ms F := fun f ms F h => by cases h
theorem goods_l3No : Good Go.Proofs.Tryz.prog Es_l3No := ⟨rfl, goodFs_l3No, goodBs_l3No⟩
noncomputable def Os_l3No_0 : Orc := fun _ _ => none
noncomputable def mss_l3No : List PM := [.rd]
noncomputable def lss_l3No : List (Nat × Code) := loopsAll 0 (Go.Proofs.Tryz.f72.body.getD .skip)

theorem ks_l3No_0 : OrcOk Es_l3No Os_l3No_0 lss_l3No 0 := orcOk_none
noncomputable def g_As_l3No (a0 : List (ByteArray)) : Bool := decide ((nat_lit 0 + List.length a0) * nat_lit 16 ≤ nat_lit 140737488355328 ∧ nat_lit 0 + List.length a0 ≤ nat_lit 9223372036854775807)
noncomputable def g_Vs_l3No_0 (a0 : List (ByteArray)) : List (ByteArray) := [] ++ a0
noncomputable def g_Vs_l3No_1 (a0 : List (ByteArray)) : List ((ByteArray) × ((Bool) × (List (Int)))) := []
noncomputable def Fs_l3No : FSem := fun ys => match ys with
  | [.val false [.sl .any 9 .str a0]] => some ((g_As_l3No a0), .val true [.bool false, .own .any true 9 .str (g_Vs_l3No_0 a0), .own .any true 50 (.pair .str (.pair .bool (.sl 3 (.int .i64)))) (g_Vs_l3No_1 a0)], [])
  | _ => none
theorem vs_l3No (a0 : List (ByteArray)) : collapseH .std Es_l3No Os_l3No_0 (execFn Es_l3No Go.Proofs.Tryz.f72 mss_l3No [.val false [.sl .any 9 .str a0]]) = some ((g_As_l3No a0), .val true [.bool false, .own .any true 9 .str (g_Vs_l3No_0 a0), .own .any true 50 (.pair .str (.pair .bool (.sl 3 (.int .i64)))) (g_Vs_l3No_1 a0)], []) := by kernel_rfl
theorem ss_l3No : Sound Go.Proofs.Tryz.prog 72 mss_l3No Fs_l3No := by
  refine fn_gen goods_l3No (by kernel_rfl) .std (fn := Go.Proofs.Tryz.f72) (c := (Go.Proofs.Tryz.f72.body.getD .skip)) (o := Os_l3No_0) (k := 0) (by kernel_rfl) (by kernel_rfl) (by kernel_rfl) (by kernel_rfl) (by decide) ks_l3No_0 ?_
  intro ys r outs h
  unfold Fs_l3No at h
  split at h
  · exact (vs_l3No _).trans h
  · cases h
end Go.Proofs.YtnbcdkbjmpadmaaGreatDoor.E
end
section
namespace Go.Proofs.YtnbcdkbjmpadmaaGreatDoor.E
open Go
set_option maxRecDepth 100000
set_option maxHeartbeats 0
set_option linter.all false
noncomputable def Es_l3In : Env where
  tt := mkTI Go.Proofs.Tryz.prog
  fn := fun f => match f with
    | 71 => some (mss_l1Get, FSem.wk mss_l1Get Fs_l1Get)
    | 72 => some (mss_l3No, FSem.wk mss_l3No Fs_l3No)
    | 101 => some (mss_l3Digit, FSem.wk mss_l3Digit Fs_l3Digit)
    | _ => none
  bxf := fun _ => none
  mv := []
  keep := fun _ => []
  keepB := fun _ => []
  keepX := fun _ => []
  keepXB := fun _ => []
theorem goodFs_l3In : ∀ f ms F, Es_l3In.fn f = some (ms, F) → Sound Go.Proofs.Tryz.prog f ms F := fun f ms F h => by
  unfold Es_l3In at h
  dsimp only at h
  split at h
  · injection h with h; injection h with e1 e2; subst e1 e2; exact Sound.wk ss_l1Get
  · injection h with h; injection h with e1 e2; subst e1 e2; exact Sound.wk ss_l3No
  · injection h with h; injection h with e1 e2; subst e1 e2; exact Sound.wk ss_l3Digit
  · cases h
theorem goodBs_l3In : ∀ f ms F, Es_l3In.bxf f = some (ms, F) → SoundB Go.Proofs.Tryz.prog f ms F := fun f ms F h => by cases h
theorem goods_l3In : Good Go.Proofs.Tryz.prog Es_l3In := ⟨rfl, goodFs_l3In, goodBs_l3In⟩
noncomputable def Os_l3In_0 : Orc := fun _ _ => none
noncomputable def mss_l3In : List PM := [.rd, .own]
noncomputable def lss_l3In : List (Nat × Code) := loopsAll 0 (Go.Proofs.Tryz.f68.body.getD .skip)

theorem ks_l3In_0 : OrcOk Es_l3In Os_l3In_0 lss_l3In 0 := orcOk_none
noncomputable def g_As_l3In (a0 : List ((ByteArray) × (List (Int)))) (a1 : Int) (a2 : Int) (a3 : Int) (a4 : Int) (a5 : Int) (a6 : Int) (a7 : Int) : Bool := decide (nat_lit 1 + ByteArray.size (g_Vs_l3Digit_0 a3) ≤ nat_lit 9223372036854775807) && (g_As_l1Get a0 (lit [(115 : Nat)] ++ g_Vs_l3Digit_0 a3) && bif a1 == (1 : Int) then !g_Vs_l1Get_1 a0 (lit [(115 : Nat)] ++ g_Vs_l3Digit_0 a3) || g_As_l3No [lit [(115 : Nat)] ++ g_Vs_l3Digit_0 a3] else bif a1 == (5 : Int) then bif !g_Vs_l1Get_1 a0 (lit [(115 : Nat)] ++ g_Vs_l3Digit_0 a3) then g_As_l3No [lit [(115 : Nat)] ++ g_Vs_l3Digit_0 a3] else decide ((0 : Int) ≤ (0 : Int) ∧ (0 : Int) < (↑(List.length (g_Vs_l1Get_0 a0 (lit [(115 : Nat)] ++ g_Vs_l3Digit_0 a3))) : Int)) && (decide (nat_lit 0 < List.length (g_Vs_l1Get_0 a0 (lit [(115 : Nat)] ++ g_Vs_l3Digit_0 a3))) && (!at_ (Ty.int IntKind.i64) (g_Vs_l1Get_0 a0 (lit [(115 : Nat)] ++ g_Vs_l3Digit_0 a3)) (nat_lit 0) != a2 || g_As_l3No [lit [(115 : Nat)] ++ g_Vs_l3Digit_0 a3])) else bif !g_Vs_l1Get_1 a0 (lit [(115 : Nat)] ++ g_Vs_l3Digit_0 a3) then g_As_l3No [lit [(115 : Nat)] ++ g_Vs_l3Digit_0 a3] else decide ((0 : Int) ≤ (0 : Int) ∧ (0 : Int) < (↑(List.length (g_Vs_l1Get_0 a0 (lit [(115 : Nat)] ++ g_Vs_l3Digit_0 a3))) : Int)) && (decide (nat_lit 0 < List.length (g_Vs_l1Get_0 a0 (lit [(115 : Nat)] ++ g_Vs_l3Digit_0 a3))) && (!at_ (Ty.int IntKind.i64) (g_Vs_l1Get_0 a0 (lit [(115 : Nat)] ++ g_Vs_l3Digit_0 a3)) (nat_lit 0) != a2 || g_As_l3No [lit [(115 : Nat)] ++ g_Vs_l3Digit_0 a3])))
noncomputable def g_Vs_l3In_0 (a0 : List ((ByteArray) × (List (Int)))) (a1 : Int) (a2 : Int) (a3 : Int) (a4 : Int) (a5 : Int) (a6 : Int) (a7 : Int) : Bool := bif a1 == (1 : Int) then bif g_Vs_l1Get_1 a0 (lit [(115 : Nat)] ++ g_Vs_l3Digit_0 a3) then false else true else bif a1 == (5 : Int) then bif !g_Vs_l1Get_1 a0 (lit [(115 : Nat)] ++ g_Vs_l3Digit_0 a3) then false else bif at_ (Ty.int IntKind.i64) (g_Vs_l1Get_0 a0 (lit [(115 : Nat)] ++ g_Vs_l3Digit_0 a3)) (nat_lit 0) != a2 then false else true else bif !g_Vs_l1Get_1 a0 (lit [(115 : Nat)] ++ g_Vs_l3Digit_0 a3) then false else bif at_ (Ty.int IntKind.i64) (g_Vs_l1Get_0 a0 (lit [(115 : Nat)] ++ g_Vs_l3Digit_0 a3)) (nat_lit 0) != a2 then false else true
noncomputable def g_Vs_l3In_1 (a0 : List ((ByteArray) × (List (Int)))) (a1 : Int) (a2 : Int) (a3 : Int) (a4 : Int) (a5 : Int) (a6 : Int) (a7 : Int) : List (ByteArray) := bif a1 == (1 : Int) then bif g_Vs_l1Get_1 a0 (lit [(115 : Nat)] ++ g_Vs_l3Digit_0 a3) then g_Vs_l3No_0 [lit [(115 : Nat)] ++ g_Vs_l3Digit_0 a3] else [lit [(115 : Nat)] ++ g_Vs_l3Digit_0 a3] else bif a1 == (5 : Int) then bif !g_Vs_l1Get_1 a0 (lit [(115 : Nat)] ++ g_Vs_l3Digit_0 a3) then g_Vs_l3No_0 [lit [(115 : Nat)] ++ g_Vs_l3Digit_0 a3] else bif at_ (Ty.int IntKind.i64) (g_Vs_l1Get_0 a0 (lit [(115 : Nat)] ++ g_Vs_l3Digit_0 a3)) (nat_lit 0) != a2 then g_Vs_l3No_0 [lit [(115 : Nat)] ++ g_Vs_l3Digit_0 a3] else [lit [(115 : Nat)] ++ g_Vs_l3Digit_0 a3] else bif !g_Vs_l1Get_1 a0 (lit [(115 : Nat)] ++ g_Vs_l3Digit_0 a3) then g_Vs_l3No_0 [lit [(115 : Nat)] ++ g_Vs_l3Digit_0 a3] else bif at_ (Ty.int IntKind.i64) (g_Vs_l1Get_0 a0 (lit [(115 : Nat)] ++ g_Vs_l3Digit_0 a3)) (nat_lit 0) != a2 then g_Vs_l3No_0 [lit [(115 : Nat)] ++ g_Vs_l3Digit_0 a3] else [lit [(115 : Nat)] ++ g_Vs_l3Digit_0 a3]
noncomputable def g_Vs_l3In_2 (a0 : List ((ByteArray) × (List (Int)))) (a1 : Int) (a2 : Int) (a3 : Int) (a4 : Int) (a5 : Int) (a6 : Int) (a7 : Int) : List ((ByteArray) × ((Bool) × (List (Int)))) := bif a1 == (1 : Int) then bif g_Vs_l1Get_1 a0 (lit [(115 : Nat)] ++ g_Vs_l3Digit_0 a3) then g_Vs_l3No_1 [lit [(115 : Nat)] ++ g_Vs_l3Digit_0 a3] else [(lit [(115 : Nat)] ++ g_Vs_l3Digit_0 a3, false, [a2])] else bif a1 == (5 : Int) then bif !g_Vs_l1Get_1 a0 (lit [(115 : Nat)] ++ g_Vs_l3Digit_0 a3) then g_Vs_l3No_1 [lit [(115 : Nat)] ++ g_Vs_l3Digit_0 a3] else bif at_ (Ty.int IntKind.i64) (g_Vs_l1Get_0 a0 (lit [(115 : Nat)] ++ g_Vs_l3Digit_0 a3)) (nat_lit 0) != a2 then g_Vs_l3No_1 [lit [(115 : Nat)] ++ g_Vs_l3Digit_0 a3] else [(lit [(115 : Nat)] ++ g_Vs_l3Digit_0 a3, true, [])] else bif !g_Vs_l1Get_1 a0 (lit [(115 : Nat)] ++ g_Vs_l3Digit_0 a3) then g_Vs_l3No_1 [lit [(115 : Nat)] ++ g_Vs_l3Digit_0 a3] else bif at_ (Ty.int IntKind.i64) (g_Vs_l1Get_0 a0 (lit [(115 : Nat)] ++ g_Vs_l3Digit_0 a3)) (nat_lit 0) != a2 then g_Vs_l3No_1 [lit [(115 : Nat)] ++ g_Vs_l3Digit_0 a3] else []
noncomputable def Fs_l3In : FSem := fun ys => match ys with
  | [.val true [.sl .any 60 (.pair .str (.sl 3 (.int .i64))) a0], .val true [.int .i64 a1, .int .i64 a2, .int .i64 a3, .int .i64 a4, .int .i64 a5, .int .i64 a6, .int .i64 a7]] => some ((g_As_l3In a0 a1 a2 a3 a4 a5 a6 a7), .val true [.bool (g_Vs_l3In_0 a0 a1 a2 a3 a4 a5 a6 a7), .own .any true 9 .str (g_Vs_l3In_1 a0 a1 a2 a3 a4 a5 a6 a7), .own .any true 50 (.pair .str (.pair .bool (.sl 3 (.int .i64)))) (g_Vs_l3In_2 a0 a1 a2 a3 a4 a5 a6 a7)], [])
  | _ => none
theorem vs_l3In (a0 : List ((ByteArray) × (List (Int)))) (a1 : Int) (a2 : Int) (a3 : Int) (a4 : Int) (a5 : Int) (a6 : Int) (a7 : Int) : collapseH .std Es_l3In Os_l3In_0 (execFn Es_l3In Go.Proofs.Tryz.f68 mss_l3In [.val true [.sl .any 60 (.pair .str (.sl 3 (.int .i64))) a0], .val true [.int .i64 a1, .int .i64 a2, .int .i64 a3, .int .i64 a4, .int .i64 a5, .int .i64 a6, .int .i64 a7]]) = some ((g_As_l3In a0 a1 a2 a3 a4 a5 a6 a7), .val true [.bool (g_Vs_l3In_0 a0 a1 a2 a3 a4 a5 a6 a7), .own .any true 9 .str (g_Vs_l3In_1 a0 a1 a2 a3 a4 a5 a6 a7), .own .any true 50 (.pair .str (.pair .bool (.sl 3 (.int .i64)))) (g_Vs_l3In_2 a0 a1 a2 a3 a4 a5 a6 a7)], []) := by kernel_rfl
theorem ss_l3In : Sound Go.Proofs.Tryz.prog 68 mss_l3In Fs_l3In := by
  refine fn_gen goods_l3In (by kernel_rfl) .std (fn := Go.Proofs.Tryz.f68) (c := (Go.Proofs.Tryz.f68.body.getD .skip)) (o := Os_l3In_0) (k := 0) (by kernel_rfl) (by kernel_rfl) (by kernel_rfl) (by kernel_rfl) (by decide) ks_l3In_0 ?_
  intro ys r outs h
  unfold Fs_l3In at h
  split at h
  · exact (vs_l3In _ _ _ _ _ _ _ _).trans h
  · cases h
end Go.Proofs.YtnbcdkbjmpadmaaGreatDoor.E
end
section
namespace Go.Proofs.YtnbcdkbjmpadmaaGreatDoor.E
open Go
set_option maxRecDepth 100000
set_option maxHeartbeats 0
set_option linter.all false
noncomputable def Es_SecSum : Env where
  tt := mkTI Go.Proofs.Tryz.prog
  fn := fun f => match f with
    | 31 => some (mss_l1In, FSem.wk mss_l1In Fs_l1In)
    | _ => none
  bxf := fun _ => none
  mv := []
  keep := fun _ => []
  keepB := fun _ => []
  keepX := fun _ => []
  keepXB := fun _ => []
theorem goodFs_SecSum : ∀ f ms F, Es_SecSum.fn f = some (ms, F) → Sound Go.Proofs.Tryz.prog f ms F := fun f ms F h => by
  unfold Es_SecSum at h
  dsimp only at h
  split at h
  · injection h with h; injection h with e1 e2; subst e1 e2; exact Sound.wk ss_l1In
  · cases h
theorem goodBs_SecSum : ∀ f ms F, Es_SecSum.bxf f = some (ms, F) → SoundB Go.Proofs.Tryz.prog f ms F := fun f ms F h => by cases h
theorem goods_SecSum : Good Go.Proofs.Tryz.prog Es_SecSum := ⟨rfl, goodFs_SecSum, goodBs_SecSum⟩
noncomputable def Os_SecSum_0 : Orc := fun _ _ => none
noncomputable def mss_SecSum : List PM := [.own]
noncomputable def lss_SecSum : List (Nat × Code) := loopsAll 0 (Go.Proofs.Tryz.f102.body.getD .skip)

theorem ks_SecSum_0 : OrcOk Es_SecSum Os_SecSum_0 lss_SecSum 0 := orcOk_none
noncomputable def g_As_SecSum (a0 : Int) : Bool := g_As_l1In a0 (0 : Int) (99 : Int) && (!g_Vs_l1In_0 a0 (0 : Int) (99 : Int) || true)
noncomputable def g_Vs_SecSum_0 (a0 : Int) : Int := bif !g_Vs_l1In_0 a0 (0 : Int) (99 : Int) then (-1 : Int) else Int.tmod (IntKind.wrap IntKind.i64 (IntKind.wrap IntKind.i64 (a0 * (7919 : Int)) + (104 : Int))) (9973 : Int)
noncomputable def Fs_SecSum : FSem := fun ys => match ys with
  | [.val false [.int .i64 a0]] => some ((g_As_SecSum a0), .val false [.int .i64 (g_Vs_SecSum_0 a0)], [])
  | _ => none
theorem vs_SecSum (a0 : Int) : collapseH .std Es_SecSum Os_SecSum_0 (execFn Es_SecSum Go.Proofs.Tryz.f102 mss_SecSum [.val false [.int .i64 a0]]) = some ((g_As_SecSum a0), .val false [.int .i64 (g_Vs_SecSum_0 a0)], []) := by kernel_rfl
theorem ss_SecSum : Sound Go.Proofs.Tryz.prog 102 mss_SecSum Fs_SecSum := by
  refine fn_gen goods_SecSum (by kernel_rfl) .std (fn := Go.Proofs.Tryz.f102) (c := (Go.Proofs.Tryz.f102.body.getD .skip)) (o := Os_SecSum_0) (k := 0) (by kernel_rfl) (by kernel_rfl) (by kernel_rfl) (by kernel_rfl) (by decide) ks_SecSum_0 ?_
  intro ys r outs h
  unfold Fs_SecSum at h
  split at h
  · exact (vs_SecSum _).trans h
  · cases h
end Go.Proofs.YtnbcdkbjmpadmaaGreatDoor.E
end
section
namespace Go.Proofs.YtnbcdkbjmpadmaaGreatDoor.E
open Go
set_option maxRecDepth 100000
set_option maxHeartbeats 0
set_option linter.all false
noncomputable def Es_l3Next : Env where
  tt := mkTI Go.Proofs.Tryz.prog
  fn := fun f => match f with
    | 71 => some (mss_l1Get, FSem.wk mss_l1Get Fs_l1Get)
    | 72 => some (mss_l3No, FSem.wk mss_l3No Fs_l3No)
    | 101 => some (mss_l3Digit, FSem.wk mss_l3Digit Fs_l3Digit)
    | _ => none
  bxf := fun _ => none
  mv := []
  keep := fun _ => []
  keepB := fun _ => []
  keepX := fun _ => []
  keepXB := fun _ => []
theorem goodFs_l3Next : ∀ f ms F, Es_l3Next.fn f = some (ms, F) → Sound Go.Proofs.Tryz.prog f ms F := fun f ms F h => by
  unfold Es_l3Next at h
  dsimp only at h
  split at h
  · injection h with h; injection h with e1 e2; subst e1 e2; exact Sound.wk ss_l1Get
  · injection h with h; injection h with e1 e2; subst e1 e2; exact Sound.wk ss_l3No
  · injection h with h; injection h with e1 e2; subst e1 e2; exact Sound.wk ss_l3Digit
  · cases h
theorem goodBs_l3Next : ∀ f ms F, Es_l3Next.bxf f = some (ms, F) → SoundB Go.Proofs.Tryz.prog f ms F := fun f ms F h => by cases h
theorem goods_l3Next : Good Go.Proofs.Tryz.prog Es_l3Next := ⟨rfl, goodFs_l3Next, goodBs_l3Next⟩
noncomputable def Os_l3Next_0 : Orc := fun _ _ => none
noncomputable def mss_l3Next : List PM := [.rd, .own]
noncomputable def lss_l3Next : List (Nat × Code) := loopsAll 0 (Go.Proofs.Tryz.f104.body.getD .skip)

theorem ks_l3Next_0 : OrcOk Es_l3Next Os_l3Next_0 lss_l3Next 0 := orcOk_none
noncomputable def g_As_l3Next (a0 : List ((ByteArray) × (List (Int)))) (a1 : Int) (a2 : Int) (a3 : Int) (a4 : Int) (a5 : Int) (a6 : Int) (a7 : Int) : Bool := decide (nat_lit 1 + ByteArray.size (g_Vs_l3Digit_0 a6) ≤ nat_lit 9223372036854775807) && (g_As_l1Get a0 (lit [(102 : Nat)] ++ g_Vs_l3Digit_0 a6) && bif !g_Vs_l1Get_1 a0 (lit [(102 : Nat)] ++ g_Vs_l3Digit_0 a6) then g_As_l3No [lit [(102 : Nat)] ++ g_Vs_l3Digit_0 a6] else decide ((0 : Int) ≤ (2 : Int) ∧ (2 : Int) < (↑(List.length (g_Vs_l1Get_0 a0 (lit [(102 : Nat)] ++ g_Vs_l3Digit_0 a6))) : Int)) && (decide (nat_lit 2 < List.length (g_Vs_l1Get_0 a0 (lit [(102 : Nat)] ++ g_Vs_l3Digit_0 a6))) && bif at_ (Ty.int IntKind.i64) (g_Vs_l1Get_0 a0 (lit [(102 : Nat)] ++ g_Vs_l3Digit_0 a6)) (nat_lit 2) == (0 : Int) then g_As_l3No [lit [(102 : Nat)] ++ g_Vs_l3Digit_0 a6] else decide ((0 : Int) ≤ (1 : Int) ∧ (1 : Int) < (↑(List.length (g_Vs_l1Get_0 a0 (lit [(102 : Nat)] ++ g_Vs_l3Digit_0 a6))) : Int)) && (decide (nat_lit 1 < List.length (g_Vs_l1Get_0 a0 (lit [(102 : Nat)] ++ g_Vs_l3Digit_0 a6))) && bif decide (a7 > at_ (Ty.int IntKind.i64) (g_Vs_l1Get_0 a0 (lit [(102 : Nat)] ++ g_Vs_l3Digit_0 a6)) (nat_lit 1)) then g_As_l3No [lit [(102 : Nat)] ++ g_Vs_l3Digit_0 a6] else bif a7 == (0 : Int) then g_As_l3No [lit [(102 : Nat)] ++ g_Vs_l3Digit_0 a6] else decide ((0 : Int) ≤ (1 : Int) ∧ (1 : Int) < (↑(List.length (g_Vs_l1Get_0 a0 (lit [(102 : Nat)] ++ g_Vs_l3Digit_0 a6))) : Int)) && (decide (nat_lit 1 < List.length (g_Vs_l1Get_0 a0 (lit [(102 : Nat)] ++ g_Vs_l3Digit_0 a6))) && bif at_ (Ty.int IntKind.i64) (g_Vs_l1Get_0 a0 (lit [(102 : Nat)] ++ g_Vs_l3Digit_0 a6)) (nat_lit 1) == (99 : Int) then g_As_l3No [lit [(102 : Nat)] ++ g_Vs_l3Digit_0 a6] else decide ((0 : Int) ≤ (0 : Int) ∧ (0 : Int) < (↑(List.length (g_Vs_l1Get_0 a0 (lit [(102 : Nat)] ++ g_Vs_l3Digit_0 a6))) : Int)) && (decide (nat_lit 0 < List.length (g_Vs_l1Get_0 a0 (lit [(102 : Nat)] ++ g_Vs_l3Digit_0 a6))) && (decide ((0 : Int) ≤ (1 : Int) ∧ (1 : Int) < (↑(List.length (g_Vs_l1Get_0 a0 (lit [(102 : Nat)] ++ g_Vs_l3Digit_0 a6))) : Int)) && (decide (nat_lit 1 < List.length (g_Vs_l1Get_0 a0 (lit [(102 : Nat)] ++ g_Vs_l3Digit_0 a6))) && (decide ((0 : Int) ≤ (1 : Int) ∧ (1 : Int) < (↑(List.length (g_Vs_l1Get_0 a0 (lit [(102 : Nat)] ++ g_Vs_l3Digit_0 a6))) : Int)) && (decide (nat_lit 1 < List.length (g_Vs_l1Get_0 a0 (lit [(102 : Nat)] ++ g_Vs_l3Digit_0 a6))) && bif decide (a7 < at_ (Ty.int IntKind.i64) (g_Vs_l1Get_0 a0 (lit [(102 : Nat)] ++ g_Vs_l3Digit_0 a6)) (nat_lit 1)) then decide ((0 : Int) ≤ (0 : Int) ∧ (0 : Int) < (↑(List.length (g_Vs_l1Get_0 a0 (lit [(102 : Nat)] ++ g_Vs_l3Digit_0 a6))) : Int)) && (decide (nat_lit 0 < List.length (g_Vs_l1Get_0 a0 (lit [(102 : Nat)] ++ g_Vs_l3Digit_0 a6))) && (decide ((0 : Int) ≤ (1 : Int) ∧ (1 : Int) < (↑(List.length (g_Vs_l1Get_0 a0 (lit [(102 : Nat)] ++ g_Vs_l3Digit_0 a6))) : Int)) && (decide (nat_lit 1 < List.length (g_Vs_l1Get_0 a0 (lit [(102 : Nat)] ++ g_Vs_l3Digit_0 a6))) && (decide ((0 : Int) ≤ (0 : Int) ∧ (0 : Int) < (↑(List.length (g_Vs_l1Get_0 a0 (lit [(102 : Nat)] ++ g_Vs_l3Digit_0 a6))) : Int)) && (decide (nat_lit 0 < List.length (g_Vs_l1Get_0 a0 (lit [(102 : Nat)] ++ g_Vs_l3Digit_0 a6))) && decide (nat_lit 1 + ByteArray.size (g_Vs_l3Digit_0 (at_ (Ty.int IntKind.i64) (g_Vs_l1Get_0 a0 (lit [(102 : Nat)] ++ g_Vs_l3Digit_0 a6)) (nat_lit 0))) ≤ nat_lit 9223372036854775807)))))) else decide ((0 : Int) ≤ (0 : Int) ∧ (0 : Int) < (↑(List.length (g_Vs_l1Get_0 a0 (lit [(102 : Nat)] ++ g_Vs_l3Digit_0 a6))) : Int)) && (decide (nat_lit 0 < List.length (g_Vs_l1Get_0 a0 (lit [(102 : Nat)] ++ g_Vs_l3Digit_0 a6))) && decide (nat_lit 1 + ByteArray.size (g_Vs_l3Digit_0 (at_ (Ty.int IntKind.i64) (g_Vs_l1Get_0 a0 (lit [(102 : Nat)] ++ g_Vs_l3Digit_0 a6)) (nat_lit 0))) ≤ nat_lit 9223372036854775807)))))))))))
noncomputable def g_Vs_l3Next_0 (a0 : List ((ByteArray) × (List (Int)))) (a1 : Int) (a2 : Int) (a3 : Int) (a4 : Int) (a5 : Int) (a6 : Int) (a7 : Int) : Bool := bif !g_Vs_l1Get_1 a0 (lit [(102 : Nat)] ++ g_Vs_l3Digit_0 a6) then false else bif at_ (Ty.int IntKind.i64) (g_Vs_l1Get_0 a0 (lit [(102 : Nat)] ++ g_Vs_l3Digit_0 a6)) (nat_lit 2) == (0 : Int) then false else bif decide (a7 > at_ (Ty.int IntKind.i64) (g_Vs_l1Get_0 a0 (lit [(102 : Nat)] ++ g_Vs_l3Digit_0 a6)) (nat_lit 1)) then false else bif a7 == (0 : Int) then false else bif at_ (Ty.int IntKind.i64) (g_Vs_l1Get_0 a0 (lit [(102 : Nat)] ++ g_Vs_l3Digit_0 a6)) (nat_lit 1) == (99 : Int) then false else bif decide (a7 < at_ (Ty.int IntKind.i64) (g_Vs_l1Get_0 a0 (lit [(102 : Nat)] ++ g_Vs_l3Digit_0 a6)) (nat_lit 1)) then true else true
noncomputable def g_Vs_l3Next_1 (a0 : List ((ByteArray) × (List (Int)))) (a1 : Int) (a2 : Int) (a3 : Int) (a4 : Int) (a5 : Int) (a6 : Int) (a7 : Int) : List (ByteArray) := bif !g_Vs_l1Get_1 a0 (lit [(102 : Nat)] ++ g_Vs_l3Digit_0 a6) then g_Vs_l3No_0 [lit [(102 : Nat)] ++ g_Vs_l3Digit_0 a6] else bif at_ (Ty.int IntKind.i64) (g_Vs_l1Get_0 a0 (lit [(102 : Nat)] ++ g_Vs_l3Digit_0 a6)) (nat_lit 2) == (0 : Int) then g_Vs_l3No_0 [lit [(102 : Nat)] ++ g_Vs_l3Digit_0 a6] else bif decide (a7 > at_ (Ty.int IntKind.i64) (g_Vs_l1Get_0 a0 (lit [(102 : Nat)] ++ g_Vs_l3Digit_0 a6)) (nat_lit 1)) then g_Vs_l3No_0 [lit [(102 : Nat)] ++ g_Vs_l3Digit_0 a6] else bif a7 == (0 : Int) then g_Vs_l3No_0 [lit [(102 : Nat)] ++ g_Vs_l3Digit_0 a6] else bif at_ (Ty.int IntKind.i64) (g_Vs_l1Get_0 a0 (lit [(102 : Nat)] ++ g_Vs_l3Digit_0 a6)) (nat_lit 1) == (99 : Int) then g_Vs_l3No_0 [lit [(102 : Nat)] ++ g_Vs_l3Digit_0 a6] else bif decide (a7 < at_ (Ty.int IntKind.i64) (g_Vs_l1Get_0 a0 (lit [(102 : Nat)] ++ g_Vs_l3Digit_0 a6)) (nat_lit 1)) then [lit [(102 : Nat)] ++ g_Vs_l3Digit_0 a6, lit [(117 : Nat)] ++ g_Vs_l3Digit_0 (at_ (Ty.int IntKind.i64) (g_Vs_l1Get_0 a0 (lit [(102 : Nat)] ++ g_Vs_l3Digit_0 a6)) (nat_lit 0))] else [lit [(102 : Nat)] ++ g_Vs_l3Digit_0 a6, lit [(117 : Nat)] ++ g_Vs_l3Digit_0 (at_ (Ty.int IntKind.i64) (g_Vs_l1Get_0 a0 (lit [(102 : Nat)] ++ g_Vs_l3Digit_0 a6)) (nat_lit 0))]
noncomputable def g_Vs_l3Next_2 (a0 : List ((ByteArray) × (List (Int)))) (a1 : Int) (a2 : Int) (a3 : Int) (a4 : Int) (a5 : Int) (a6 : Int) (a7 : Int) : List ((ByteArray) × ((Bool) × (List (Int)))) := bif !g_Vs_l1Get_1 a0 (lit [(102 : Nat)] ++ g_Vs_l3Digit_0 a6) then g_Vs_l3No_1 [lit [(102 : Nat)] ++ g_Vs_l3Digit_0 a6] else bif at_ (Ty.int IntKind.i64) (g_Vs_l1Get_0 a0 (lit [(102 : Nat)] ++ g_Vs_l3Digit_0 a6)) (nat_lit 2) == (0 : Int) then g_Vs_l3No_1 [lit [(102 : Nat)] ++ g_Vs_l3Digit_0 a6] else bif decide (a7 > at_ (Ty.int IntKind.i64) (g_Vs_l1Get_0 a0 (lit [(102 : Nat)] ++ g_Vs_l3Digit_0 a6)) (nat_lit 1)) then g_Vs_l3No_1 [lit [(102 : Nat)] ++ g_Vs_l3Digit_0 a6] else bif a7 == (0 : Int) then g_Vs_l3No_1 [lit [(102 : Nat)] ++ g_Vs_l3Digit_0 a6] else bif at_ (Ty.int IntKind.i64) (g_Vs_l1Get_0 a0 (lit [(102 : Nat)] ++ g_Vs_l3Digit_0 a6)) (nat_lit 1) == (99 : Int) then g_Vs_l3No_1 [lit [(102 : Nat)] ++ g_Vs_l3Digit_0 a6] else bif decide (a7 < at_ (Ty.int IntKind.i64) (g_Vs_l1Get_0 a0 (lit [(102 : Nat)] ++ g_Vs_l3Digit_0 a6)) (nat_lit 1)) then [(lit [(102 : Nat)] ++ g_Vs_l3Digit_0 a6, false, [at_ (Ty.int IntKind.i64) (g_Vs_l1Get_0 a0 (lit [(102 : Nat)] ++ g_Vs_l3Digit_0 a6)) (nat_lit 0), at_ (Ty.int IntKind.i64) (g_Vs_l1Get_0 a0 (lit [(102 : Nat)] ++ g_Vs_l3Digit_0 a6)) (nat_lit 1), (0 : Int)])] else [(lit [(102 : Nat)] ++ g_Vs_l3Digit_0 a6, false, [at_ (Ty.int IntKind.i64) (g_Vs_l1Get_0 a0 (lit [(102 : Nat)] ++ g_Vs_l3Digit_0 a6)) (nat_lit 0), IntKind.wrap IntKind.i64 (at_ (Ty.int IntKind.i64) (g_Vs_l1Get_0 a0 (lit [(102 : Nat)] ++ g_Vs_l3Digit_0 a6)) (nat_lit 1) + (1 : Int)), (1 : Int)])]
noncomputable def Fs_l3Next : FSem := fun ys => match ys with
  | [.val true [.sl .any 60 (.pair .str (.sl 3 (.int .i64))) a0], .val true [.int .i64 a1, .int .i64 a2, .int .i64 a3, .int .i64 a4, .int .i64 a5, .int .i64 a6, .int .i64 a7]] => some ((g_As_l3Next a0 a1 a2 a3 a4 a5 a6 a7), .val true [.bool (g_Vs_l3Next_0 a0 a1 a2 a3 a4 a5 a6 a7), .own .any true 9 .str (g_Vs_l3Next_1 a0 a1 a2 a3 a4 a5 a6 a7), .own .any true 50 (.pair .str (.pair .bool (.sl 3 (.int .i64)))) (g_Vs_l3Next_2 a0 a1 a2 a3 a4 a5 a6 a7)], [])
  | _ => none
theorem vs_l3Next (a0 : List ((ByteArray) × (List (Int)))) (a1 : Int) (a2 : Int) (a3 : Int) (a4 : Int) (a5 : Int) (a6 : Int) (a7 : Int) : collapseH .std Es_l3Next Os_l3Next_0 (execFn Es_l3Next Go.Proofs.Tryz.f104 mss_l3Next [.val true [.sl .any 60 (.pair .str (.sl 3 (.int .i64))) a0], .val true [.int .i64 a1, .int .i64 a2, .int .i64 a3, .int .i64 a4, .int .i64 a5, .int .i64 a6, .int .i64 a7]]) = some ((g_As_l3Next a0 a1 a2 a3 a4 a5 a6 a7), .val true [.bool (g_Vs_l3Next_0 a0 a1 a2 a3 a4 a5 a6 a7), .own .any true 9 .str (g_Vs_l3Next_1 a0 a1 a2 a3 a4 a5 a6 a7), .own .any true 50 (.pair .str (.pair .bool (.sl 3 (.int .i64)))) (g_Vs_l3Next_2 a0 a1 a2 a3 a4 a5 a6 a7)], []) := by kernel_rfl
theorem ss_l3Next : Sound Go.Proofs.Tryz.prog 104 mss_l3Next Fs_l3Next := by
  refine fn_gen goods_l3Next (by kernel_rfl) .std (fn := Go.Proofs.Tryz.f104) (c := (Go.Proofs.Tryz.f104.body.getD .skip)) (o := Os_l3Next_0) (k := 0) (by kernel_rfl) (by kernel_rfl) (by kernel_rfl) (by kernel_rfl) (by decide) ks_l3Next_0 ?_
  intro ys r outs h
  unfold Fs_l3Next at h
  split at h
  · exact (vs_l3Next _ _ _ _ _ _ _ _).trans h
  · cases h
end Go.Proofs.YtnbcdkbjmpadmaaGreatDoor.E
end
section
namespace Go.Proofs.YtnbcdkbjmpadmaaGreatDoor.E
open Go
set_option maxRecDepth 100000
set_option maxHeartbeats 0
set_option linter.all false
noncomputable def Es_l3Out : Env where
  tt := mkTI Go.Proofs.Tryz.prog
  fn := fun f => match f with
    | 101 => some (mss_l3Digit, FSem.wk mss_l3Digit Fs_l3Digit)
    | _ => none
  bxf := fun _ => none
  mv := []
  keep := fun b => match b with
    | 0 => [(2, false), (3, false), (4, false), (5, false), (6, false)]
    | _ => []
  keepB := fun b => match b with
    | 0 => [(2, false), (3, false), (4, false), (5, false)]
    | _ => []
  keepX := fun b => match b with
    | 0 => [(4, false), (5, false)]
    | _ => []
  keepXB := fun b => match b with
    | 0 => [(4, false), (5, false)]
    | _ => []
theorem goodFs_l3Out : ∀ f ms F, Es_l3Out.fn f = some (ms, F) → Sound Go.Proofs.Tryz.prog f ms F := fun f ms F h => by
  unfold Es_l3Out at h
  dsimp only at h
  split at h
  · injection h with h; injection h with e1 e2; subst e1 e2; exact Sound.wk ss_l3Digit
  · cases h
theorem goodBs_l3Out : ∀ f ms F, Es_l3Out.bxf f = some (ms, F) → SoundB Go.Proofs.Tryz.prog f ms F := fun f ms F h => by cases h
theorem goods_l3Out : Good Go.Proofs.Tryz.prog Es_l3Out := ⟨rfl, goodFs_l3Out, goodBs_l3Out⟩
noncomputable def Os_l3Out_0 : Orc := fun _ _ => none
noncomputable def mss_l3Out : List PM := [.rd, .own]
noncomputable def lss_l3Out : List (Nat × Code) := loopsAll 0 (Go.Proofs.Tryz.f105.body.getD .skip)
noncomputable def cs_l3Out_0 : Code := (loopOf 0 (Go.Proofs.Tryz.f105.body.getD .skip)).getD .skip
theorem lseqs_l3Out : lss_l3Out = [(0, cs_l3Out_0)] := by kernel_rfl
theorem ms_l3Out_0 : ∀ p, p ∈ lss_l3Out → p.1 = 0 → p.2 = cs_l3Out_0 := by
  intro p hp
  rw [lseqs_l3Out] at hp
  simp only [List.mem_cons, List.not_mem_nil, or_false] at hp
  subst hp; simp
theorem ks_l3Out_0 : OrcOk Es_l3Out Os_l3Out_0 lss_l3Out 0 := orcOk_none
noncomputable def hs_l3Out_0 (y0 : Int) (y1 : List ((ByteArray) × (List (Int)))) (y2 : Int) (y3 : Int) (y4 : Int) (y5 : Int) (y6 : Int) (y7 : Int) (y8 : Int) (y9 : Bool) (y10 : List (ByteArray)) (y11 : List ((ByteArray) × ((Bool) × (List (Int))))) (y12 : Bool) (y13 : List (ByteArray)) (y14 : List ((ByteArray) × ((Bool) × (List (Int))))) : List (Pl × LV) := [(.T 2, .t (.val false [.ptr 2 0 0])), (.T 3, .t (.val false [.ptr 3 0 0])), (.T 4, .t (.val false [.ptr 4 0 0])), (.T 5, .t (.val false [.ptr 5 0 0])), (.T 6, .t (.val false [.int .i64 y0])), (.B 2, .b 0 false [.sl .any 60 (.pair .str (.sl 3 (.int .i64))) y1]), (.B 3, .b 0 false [.int .i64 y2, .int .i64 y3, .int .i64 y4, .int .i64 y5, .int .i64 y6, .int .i64 y7, .int .i64 y8]), (.B 4, .b 0 false [.bool y9, .row 4 3 0, .row 4 5 0]), (.R 4 3, .r 0 (some ⟨false, .any, true, 9, .str, y10⟩)), (.R 4 5, .r 0 (some ⟨false, .any, true, 50, (.pair .str (.pair .bool (.sl 3 (.int .i64)))), y11⟩)), (.B 5, .b 0 false [.bool y12, .row 5 3 0, .row 5 5 0]), (.R 5 3, .r 0 (some ⟨false, .non, true, 9, .str, y13⟩)), (.R 5 5, .r 0 (some ⟨false, .any, true, 50, (.pair .str (.pair .bool (.sl 3 (.int .i64)))), y14⟩))]
noncomputable def g_Ss_l3Out_0 (y1 : List ((ByteArray) × (List (Int)))) (y2 : Int) (y3 : Int) (y4 : Int) (y5 : Int) (y6 : Int) (y7 : Int) (y8 : Int) (y9 : Bool) (y10 : List (ByteArray)) (y11 : List ((ByteArray) × ((Bool) × (List (Int))))) (y12 : Bool) : ((Int) × (List (ByteArray)) × (List ((ByteArray) × ((Bool) × (List (Int)))))) → RT ((Int) × (List (ByteArray)) × (List ((ByteArray) × ((Bool) × (List (Int)))))) (((List (ByteArray)) × (List ((ByteArray) × ((Bool) × (List (Int)))))))
  | (y0, y13, y14) => .br (true) (.br (decide (y0 < (↑(List.length y1) : Int))) (.br (decide ((0 : Int) ≤ y0 ∧ y0 < (↑(List.length y1) : Int))) (.br (decide ((0 : Int) ≤ (0 : Int) ∧ (0 : Int) < (↑(ByteArray.size (at_ (Ty.pair Ty.str (Ty.sl (nat_lit 3) (Ty.int IntKind.i64))) y1 (Int.toNat y0)).1) : Int))) (.br (true) (.br (byteAt (at_ (Ty.pair Ty.str (Ty.sl (nat_lit 3) (Ty.int IntKind.i64))) y1 (Int.toNat y0)).1 (nat_lit 0) == (102 : Int)) (.br (decide ((0 : Int) ≤ (0 : Int) ∧ (0 : Int) < (↑(List.length (at_ (Ty.pair Ty.str (Ty.sl (nat_lit 3) (Ty.int IntKind.i64))) y1 (Int.toNat y0)).2) : Int))) (.br (true) (.br (at_ (Ty.int IntKind.i64) (at_ (Ty.pair Ty.str (Ty.sl (nat_lit 3) (Ty.int IntKind.i64))) y1 (Int.toNat y0)).2 (nat_lit 0) == y3) (.br (decide ((0 : Int) ≤ (2 : Int) ∧ (2 : Int) < (↑(List.length (at_ (Ty.pair Ty.str (Ty.sl (nat_lit 3) (Ty.int IntKind.i64))) y1 (Int.toNat y0)).2) : Int))) (.br (true) (.br (at_ (Ty.int IntKind.i64) (at_ (Ty.pair Ty.str (Ty.sl (nat_lit 3) (Ty.int IntKind.i64))) y1 (Int.toNat y0)).2 (nat_lit 2) == (1 : Int)) (.br (decide ((List.length y13 + List.length [(at_ (Ty.pair Ty.str (Ty.sl (nat_lit 3) (Ty.int IntKind.i64))) y1 (Int.toNat y0)).1]) * nat_lit 16 ≤ nat_lit 140737488355328 ∧ List.length y13 + List.length [(at_ (Ty.pair Ty.str (Ty.sl (nat_lit 3) (Ty.int IntKind.i64))) y1 (Int.toNat y0)).1] ≤ nat_lit 9223372036854775807)) (.br (decide ((0 : Int) ≤ (0 : Int) ∧ (0 : Int) < (↑(List.length (at_ (Ty.pair Ty.str (Ty.sl (nat_lit 3) (Ty.int IntKind.i64))) y1 (Int.toNat y0)).2) : Int))) (.br (decide ((0 : Int) ≤ (1 : Int) ∧ (1 : Int) < (↑(List.length (at_ (Ty.pair Ty.str (Ty.sl (nat_lit 3) (Ty.int IntKind.i64))) y1 (Int.toNat y0)).2) : Int))) (.br (decide ((List.length y14 + List.length [((at_ (Ty.pair Ty.str (Ty.sl (nat_lit 3) (Ty.int IntKind.i64))) y1 (Int.toNat y0)).1, false, [at_ (Ty.int IntKind.i64) (at_ (Ty.pair Ty.str (Ty.sl (nat_lit 3) (Ty.int IntKind.i64))) y1 (Int.toNat y0)).2 (nat_lit 0), at_ (Ty.int IntKind.i64) (at_ (Ty.pair Ty.str (Ty.sl (nat_lit 3) (Ty.int IntKind.i64))) y1 (Int.toNat y0)).2 (nat_lit 1), (0 : Int)])]) * nat_lit 48 ≤ nat_lit 140737488355328 ∧ List.length y14 + List.length [((at_ (Ty.pair Ty.str (Ty.sl (nat_lit 3) (Ty.int IntKind.i64))) y1 (Int.toNat y0)).1, false, [at_ (Ty.int IntKind.i64) (at_ (Ty.pair Ty.str (Ty.sl (nat_lit 3) (Ty.int IntKind.i64))) y1 (Int.toNat y0)).2 (nat_lit 0), at_ (Ty.int IntKind.i64) (at_ (Ty.pair Ty.str (Ty.sl (nat_lit 3) (Ty.int IntKind.i64))) y1 (Int.toNat y0)).2 (nat_lit 1), (0 : Int)])] ≤ nat_lit 9223372036854775807)) (.br (true) (.go ((IntKind.wrap IntKind.i64 (y0 + (1 : Int)), y13 ++ [(at_ (Ty.pair Ty.str (Ty.sl (nat_lit 3) (Ty.int IntKind.i64))) y1 (Int.toNat y0)).1], y14 ++ [((at_ (Ty.pair Ty.str (Ty.sl (nat_lit 3) (Ty.int IntKind.i64))) y1 (Int.toNat y0)).1, false, [at_ (Ty.int IntKind.i64) (at_ (Ty.pair Ty.str (Ty.sl (nat_lit 3) (Ty.int IntKind.i64))) y1 (Int.toNat y0)).2 (nat_lit 0), at_ (Ty.int IntKind.i64) (at_ (Ty.pair Ty.str (Ty.sl (nat_lit 3) (Ty.int IntKind.i64))) y1 (Int.toNat y0)).2 (nat_lit 1), (0 : Int)])]))) (.bad)) (.bad)) (.bad)) (.bad)) (.bad)) (.br (true) (.go ((IntKind.wrap IntKind.i64 (y0 + (1 : Int)), y13, y14))) (.bad))) (.bad)) (.bad)) (.br (true) (.go ((IntKind.wrap IntKind.i64 (y0 + (1 : Int)), y13, y14))) (.bad))) (.bad)) (.bad)) (.br (true) (.go ((IntKind.wrap IntKind.i64 (y0 + (1 : Int)), y13, y14))) (.bad))) (.bad)) (.bad)) (.bad)) (.out ((y13, y14)))) (.bad)
noncomputable def g_Ls_l3Out_0 (y1 : List ((ByteArray) × (List (Int)))) (y2 : Int) (y3 : Int) (y4 : Int) (y5 : Int) (y6 : Int) (y7 : Int) (y8 : Int) (y9 : Bool) (y10 : List (ByteArray)) (y11 : List ((ByteArray) × ((Bool) × (List (Int))))) (y12 : Bool) (x : (Int) × (List (ByteArray)) × (List ((ByteArray) × ((Bool) × (List (Int)))))) : Option (((List (ByteArray)) × (List ((ByteArray) × ((Bool) × (List (Int))))))) := loopO (g_Ss_l3Out_0 y1 y2 y3 y4 y5 y6 y7 y8 y9 y10 y11 y12) x
noncomputable def xs_l3Out_0 (y1 : List ((ByteArray) × (List (Int)))) (y2 : Int) (y3 : Int) (y4 : Int) (y5 : Int) (y6 : Int) (y7 : Int) (y8 : Int) (y9 : Bool) (y10 : List (ByteArray)) (y11 : List ((ByteArray) × ((Bool) × (List (Int))))) (y12 : Bool) : (((List (ByteArray)) × (List ((ByteArray) × ((Bool) × (List (Int))))))) → Ex × List (Pl × LV) := fun r => (.exit 0, [(.T 4, .t (.val false [.ptr 4 0 0])), (.T 5, .t (.val false [.ptr 5 0 0])), (.B 4, .b 0 false [.bool y9, .row 4 3 0, .row 4 5 0]), (.R 4 3, .r 0 (some ⟨false, .any, true, 9, .str, y10⟩)), (.R 4 5, .r 0 (some ⟨false, .any, true, 50, (.pair .str (.pair .bool (.sl 3 (.int .i64)))), y11⟩)), (.B 5, .b 0 false [.bool y12, .row 5 3 0, .row 5 5 0]), (.R 5 3, .r 0 (some ⟨false, .non, true, 9, .str, r.1⟩)), (.R 5 5, .r 0 (some ⟨false, .any, true, 50, (.pair .str (.pair .bool (.sl 3 (.int .i64)))), r.2⟩))])
noncomputable def Os_l3Out_1 : Orc := fun b h => match b, h with
  | 0, [(.T 2, .t (.val false [.ptr 2 0 0])), (.T 3, .t (.val false [.ptr 3 0 0])), (.T 4, .t (.val false [.ptr 4 0 0])), (.T 5, .t (.val false [.ptr 5 0 0])), (.T 6, .t (.val false [.int .i64 y0])), (.B 2, .b 0 false [.sl .any 60 (.pair .str (.sl 3 (.int .i64))) y1]), (.B 3, .b 0 false [.int .i64 y2, .int .i64 y3, .int .i64 y4, .int .i64 y5, .int .i64 y6, .int .i64 y7, .int .i64 y8]), (.B 4, .b 0 false [.bool y9, .row 4 3 0, .row 4 5 0]), (.R 4 3, .r 0 (some ⟨false, .any, true, 9, .str, y10⟩)), (.R 4 5, .r 0 (some ⟨false, .any, true, 50, (.pair .str (.pair .bool (.sl 3 (.int .i64)))), y11⟩)), (.B 5, .b 0 false [.bool y12, .row 5 3 0, .row 5 5 0]), (.R 5 3, .r 0 (some ⟨false, .non, true, 9, .str, y13⟩)), (.R 5 5, .r 0 (some ⟨false, .any, true, 50, (.pair .str (.pair .bool (.sl 3 (.int .i64)))), y14⟩))] => some (okO (g_Ls_l3Out_0 y1 y2 y3 y4 y5 y6 y7 y8 y9 y10 y11 y12 (y0, y13, y14)), (.leaf (.exit 0) [(.T 4, .t (.val false [.ptr 4 0 0])), (.T 5, .t (.val false [.ptr 5 0 0])), (.B 4, .b 0 false [.bool y9, .row 4 3 0, .row 4 5 0]), (.R 4 3, .r 0 (some ⟨false, .any, true, 9, .str, y10⟩)), (.R 4 5, .r 0 (some ⟨false, .any, true, 50, (.pair .str (.pair .bool (.sl 3 (.int .i64)))), y11⟩)), (.B 5, .b 0 false [.bool y12, .row 5 3 0, .row 5 5 0]), (.R 5 3, .r 0 (some ⟨false, .non, true, 9, .str, (valO (g_Ls_l3Out_0 y1 y2 y3 y4 y5 y6 y7 y8 y9 y10 y11 y12 (y0, y13, y14))).1⟩)), (.R 5 5, .r 0 (some ⟨false, .any, true, 50, (.pair .str (.pair .bool (.sl 3 (.int .i64)))), (valO (g_Ls_l3Out_0 y1 y2 y3 y4 y5 y6 y7 y8 y9 y10 y11 y12 (y0, y13, y14))).2⟩))]))
  | b, h => Os_l3Out_0 b h
theorem bs_l3Out_0 (y0 : Int) (y1 : List ((ByteArray) × (List (Int)))) (y2 : Int) (y3 : Int) (y4 : Int) (y5 : Int) (y6 : Int) (y7 : Int) (y8 : Int) (y9 : Bool) (y10 : List (ByteArray)) (y11 : List ((ByteArray) × ((Bool) × (List (Int))))) (y12 : Bool) (y13 : List (ByteArray)) (y14 : List ((ByteArray) × ((Bool) × (List (Int))))) : Tr.bt Es_l3Out Os_l3Out_0 (exec Es_l3Out 0 cs_l3Out_0 (St.of (hs_l3Out_0 y0 y1 y2 y3 y4 y5 y6 y7 y8 y9 y10 y11 y12 y13 y14)) (leafRd Es_l3Out 0)) = (g_Ss_l3Out_0 y1 y2 y3 y4 y5 y6 y7 y8 y9 y10 y11 y12 (y0, y13, y14)).bt (fun ((y0, y13, y14) : (Int) × (List (ByteArray)) × (List ((ByteArray) × ((Bool) × (List (Int)))))) => (hs_l3Out_0 y0 y1 y2 y3 y4 y5 y6 y7 y8 y9 y10 y11 y12 y13 y14)) (xs_l3Out_0 y1 y2 y3 y4 y5 y6 y7 y8 y9 y10 y11 y12) := by kernel_rfl
theorem ks_l3Out_1 : OrcOk Es_l3Out Os_l3Out_1 lss_l3Out 1 := orc_add ks_l3Out_0 (fun n p hp h ex h' ho => by
  obtain ⟨b, c⟩ := p
  obtain ⟨xt, h1, h2⟩ := ho
  have h1 : Os_l3Out_1 b h = some (true, xt) := h1
  unfold Os_l3Out_1 at h1
  split at h1
  · injection h1 with h1
    injection h1 with e1 e2
    subst e2
    have hc : c = cs_l3Out_0 := ms_l3Out_0 _ hp rfl
    subst hc
    right
    rename_i y0 y1 y2 y3 y4 y5 y6 y7 y8 y9 y10 y11 y12 y13 y14
    have key := LT_step ks_l3Out_0 hp (fun q hq => loopsAll_in _ _ _ _ hp hq) (fun ((y0, y13, y14) : (Int) × (List (ByteArray)) × (List ((ByteArray) × ((Bool) × (List (Int)))))) => (hs_l3Out_0 y0 y1 y2 y3 y4 y5 y6 y7 y8 y9 y10 y11 y12 y13 y14)) (xs_l3Out_0 y1 y2 y3 y4 y5 y6 y7 y8 y9 y10 y11 y12) (g_Ss_l3Out_0 y1 y2 y3 y4 y5 y6 y7 y8 y9 y10 y11 y12) (fun x => by first | exact bs_l3Out_0 x.1 y1 y2 y3 y4 y5 y6 y7 y8 y9 y10 y11 y12 x.2.1 x.2.2) n (x := (y0, y13, y14)) (okO_some e1)
    have hx : ∀ r, XT.sel (.leaf (.exit 0) [(.T 4, .t (.val false [.ptr 4 0 0])), (.T 5, .t (.val false [.ptr 5 0 0])), (.B 4, .b 0 false [.bool y9, .row 4 3 0, .row 4 5 0]), (.R 4 3, .r 0 (some ⟨false, .any, true, 9, .str, y10⟩)), (.R 4 5, .r 0 (some ⟨false, .any, true, 50, (.pair .str (.pair .bool (.sl 3 (.int .i64)))), y11⟩)), (.B 5, .b 0 false [.bool y12, .row 5 3 0, .row 5 5 0]), (.R 5 3, .r 0 (some ⟨false, .non, true, 9, .str, r.1⟩)), (.R 5 5, .r 0 (some ⟨false, .any, true, 50, (.pair .str (.pair .bool (.sl 3 (.int .i64)))), r.2⟩))]) = xs_l3Out_0 y1 y2 y3 y4 y5 y6 y7 y8 y9 y10 y11 y12 r := fun r => by first | rfl | (rcases r with r | r <;> rfl) | (rcases r with r | r | r <;> rfl) | (rcases r with r | r | r | r <;> rfl)
    have h3 := (hx (valO (g_Ls_l3Out_0 y1 y2 y3 y4 y5 y6 y7 y8 y9 y10 y11 y12 (y0, y13, y14)))).symm.trans h2
    have e3 := congrArg Prod.fst h3
    have e4 := congrArg Prod.snd h3
    simp only at e3 e4
    rw [← e3, ← e4]
    exact key
  · exact .inl ⟨xt, h1, h2⟩)
noncomputable def g_As_l3Out (a0 : List ((ByteArray) × (List (Int)))) (a1 : Int) (a2 : Int) (a3 : Int) (a4 : Int) (a5 : Int) (a6 : Int) (a7 : Int) : Bool := decide (nat_lit 1 + ByteArray.size (g_Vs_l3Digit_0 a2) ≤ nat_lit 9223372036854775807) && okO (g_Ls_l3Out_0 a0 a1 a2 a3 a4 a5 a6 a7 false [] [] true ((0 : Int), [lit [(117 : Nat)] ++ g_Vs_l3Digit_0 a2], []))
noncomputable def g_Vs_l3Out_0 (a0 : List ((ByteArray) × (List (Int)))) (a1 : Int) (a2 : Int) (a3 : Int) (a4 : Int) (a5 : Int) (a6 : Int) (a7 : Int) : List (ByteArray) := (valO (g_Ls_l3Out_0 a0 a1 a2 a3 a4 a5 a6 a7 false [] [] true ((0 : Int), [lit [(117 : Nat)] ++ g_Vs_l3Digit_0 a2], []))).1
noncomputable def g_Vs_l3Out_1 (a0 : List ((ByteArray) × (List (Int)))) (a1 : Int) (a2 : Int) (a3 : Int) (a4 : Int) (a5 : Int) (a6 : Int) (a7 : Int) : List ((ByteArray) × ((Bool) × (List (Int)))) := (valO (g_Ls_l3Out_0 a0 a1 a2 a3 a4 a5 a6 a7 false [] [] true ((0 : Int), [lit [(117 : Nat)] ++ g_Vs_l3Digit_0 a2], []))).2
noncomputable def Fs_l3Out : FSem := fun ys => match ys with
  | [.val true [.sl .any 60 (.pair .str (.sl 3 (.int .i64))) a0], .val true [.int .i64 a1, .int .i64 a2, .int .i64 a3, .int .i64 a4, .int .i64 a5, .int .i64 a6, .int .i64 a7]] => some ((g_As_l3Out a0 a1 a2 a3 a4 a5 a6 a7), .val true [.bool true, .own .any true 9 .str (g_Vs_l3Out_0 a0 a1 a2 a3 a4 a5 a6 a7), .own .any true 50 (.pair .str (.pair .bool (.sl 3 (.int .i64)))) (g_Vs_l3Out_1 a0 a1 a2 a3 a4 a5 a6 a7)], [])
  | _ => none
theorem vs_l3Out (a0 : List ((ByteArray) × (List (Int)))) (a1 : Int) (a2 : Int) (a3 : Int) (a4 : Int) (a5 : Int) (a6 : Int) (a7 : Int) : collapseH .std Es_l3Out Os_l3Out_1 (execFn Es_l3Out Go.Proofs.Tryz.f105 mss_l3Out [.val true [.sl .any 60 (.pair .str (.sl 3 (.int .i64))) a0], .val true [.int .i64 a1, .int .i64 a2, .int .i64 a3, .int .i64 a4, .int .i64 a5, .int .i64 a6, .int .i64 a7]]) = some ((g_As_l3Out a0 a1 a2 a3 a4 a5 a6 a7), .val true [.bool true, .own .any true 9 .str (g_Vs_l3Out_0 a0 a1 a2 a3 a4 a5 a6 a7), .own .any true 50 (.pair .str (.pair .bool (.sl 3 (.int .i64)))) (g_Vs_l3Out_1 a0 a1 a2 a3 a4 a5 a6 a7)], []) := by kernel_rfl
theorem ss_l3Out : Sound Go.Proofs.Tryz.prog 105 mss_l3Out Fs_l3Out := by
  refine fn_gen goods_l3Out (by kernel_rfl) .std (fn := Go.Proofs.Tryz.f105) (c := (Go.Proofs.Tryz.f105.body.getD .skip)) (o := Os_l3Out_1) (k := 1) (by kernel_rfl) (by kernel_rfl) (by kernel_rfl) (by kernel_rfl) (by decide) ks_l3Out_1 ?_
  intro ys r outs h
  unfold Fs_l3Out at h
  split at h
  · exact (vs_l3Out _ _ _ _ _ _ _ _).trans h
  · cases h
end Go.Proofs.YtnbcdkbjmpadmaaGreatDoor.E
end
section
namespace Go.Proofs.YtnbcdkbjmpadmaaGreatDoor.E
open Go
set_option maxRecDepth 100000
set_option maxHeartbeats 0
set_option linter.all false
noncomputable def Es_l3Trade : Env where
  tt := mkTI Go.Proofs.Tryz.prog
  fn := fun f => match f with
    | 71 => some (mss_l1Get, FSem.wk mss_l1Get Fs_l1Get)
    | 72 => some (mss_l3No, FSem.wk mss_l3No Fs_l3No)
    | 101 => some (mss_l3Digit, FSem.wk mss_l3Digit Fs_l3Digit)
    | 102 => some (mss_SecSum, FSem.wk mss_SecSum Fs_SecSum)
    | _ => none
  bxf := fun _ => none
  mv := []
  keep := fun _ => []
  keepB := fun _ => []
  keepX := fun _ => []
  keepXB := fun _ => []
theorem goodFs_l3Trade : ∀ f ms F, Es_l3Trade.fn f = some (ms, F) → Sound Go.Proofs.Tryz.prog f ms F := fun f ms F h => by
  unfold Es_l3Trade at h
  dsimp only at h
  split at h
  · injection h with h; injection h with e1 e2; subst e1 e2; exact Sound.wk ss_l1Get
  · injection h with h; injection h with e1 e2; subst e1 e2; exact Sound.wk ss_l3No
  · injection h with h; injection h with e1 e2; subst e1 e2; exact Sound.wk ss_l3Digit
  · injection h with h; injection h with e1 e2; subst e1 e2; exact Sound.wk ss_SecSum
  · cases h
theorem goodBs_l3Trade : ∀ f ms F, Es_l3Trade.bxf f = some (ms, F) → SoundB Go.Proofs.Tryz.prog f ms F := fun f ms F h => by cases h
theorem goods_l3Trade : Good Go.Proofs.Tryz.prog Es_l3Trade := ⟨rfl, goodFs_l3Trade, goodBs_l3Trade⟩
noncomputable def Os_l3Trade_0 : Orc := fun _ _ => none
noncomputable def mss_l3Trade : List PM := [.rd, .own]
noncomputable def lss_l3Trade : List (Nat × Code) := loopsAll 0 (Go.Proofs.Tryz.f103.body.getD .skip)

theorem ks_l3Trade_0 : OrcOk Es_l3Trade Os_l3Trade_0 lss_l3Trade 0 := orcOk_none
noncomputable def g_As_l3Trade (a0 : List ((ByteArray) × (List (Int)))) (a1 : Int) (a2 : Int) (a3 : Int) (a4 : Int) (a5 : Int) (a6 : Int) (a7 : Int) : Bool := decide (nat_lit 1 + ByteArray.size (g_Vs_l3Digit_0 a4) ≤ nat_lit 9223372036854775807) && (decide (nat_lit 1 + ByteArray.size (g_Vs_l3Digit_0 a6) ≤ nat_lit 9223372036854775807) && (g_As_l1Get a0 (lit [(99 : Nat)] ++ g_Vs_l3Digit_0 a4) && (g_As_l1Get a0 (lit [(102 : Nat)] ++ g_Vs_l3Digit_0 a6) && bif !g_Vs_l1Get_1 a0 (lit [(99 : Nat)] ++ g_Vs_l3Digit_0 a4) then g_As_l3No [lit [(99 : Nat)] ++ g_Vs_l3Digit_0 a4, lit [(102 : Nat)] ++ g_Vs_l3Digit_0 a6] else bif g_Vs_l1Get_1 a0 (lit [(102 : Nat)] ++ g_Vs_l3Digit_0 a6) then g_As_l3No [lit [(99 : Nat)] ++ g_Vs_l3Digit_0 a4, lit [(102 : Nat)] ++ g_Vs_l3Digit_0 a6] else decide ((0 : Int) ≤ (1 : Int) ∧ (1 : Int) < (↑(List.length (g_Vs_l1Get_0 a0 (lit [(99 : Nat)] ++ g_Vs_l3Digit_0 a4))) : Int)) && (decide (nat_lit 1 < List.length (g_Vs_l1Get_0 a0 (lit [(99 : Nat)] ++ g_Vs_l3Digit_0 a4))) && (g_As_SecSum a5 && bif at_ (Ty.int IntKind.i64) (g_Vs_l1Get_0 a0 (lit [(99 : Nat)] ++ g_Vs_l3Digit_0 a4)) (nat_lit 1) != g_Vs_SecSum_0 a5 then g_As_l3No [lit [(99 : Nat)] ++ g_Vs_l3Digit_0 a4, lit [(102 : Nat)] ++ g_Vs_l3Digit_0 a6] else decide ((0 : Int) ≤ (0 : Int) ∧ (0 : Int) < (↑(List.length (g_Vs_l1Get_0 a0 (lit [(99 : Nat)] ++ g_Vs_l3Digit_0 a4))) : Int)) && (decide (nat_lit 0 < List.length (g_Vs_l1Get_0 a0 (lit [(99 : Nat)] ++ g_Vs_l3Digit_0 a4))) && (decide (nat_lit 1 + ByteArray.size (g_Vs_l3Digit_0 (at_ (Ty.int IntKind.i64) (g_Vs_l1Get_0 a0 (lit [(99 : Nat)] ++ g_Vs_l3Digit_0 a4)) (nat_lit 0))) ≤ nat_lit 9223372036854775807) && (decide ((0 : Int) ≤ (0 : Int) ∧ (0 : Int) < (↑(List.length (g_Vs_l1Get_0 a0 (lit [(99 : Nat)] ++ g_Vs_l3Digit_0 a4))) : Int)) && decide (nat_lit 0 < List.length (g_Vs_l1Get_0 a0 (lit [(99 : Nat)] ++ g_Vs_l3Digit_0 a4)))))))))))
noncomputable def g_Vs_l3Trade_0 (a0 : List ((ByteArray) × (List (Int)))) (a1 : Int) (a2 : Int) (a3 : Int) (a4 : Int) (a5 : Int) (a6 : Int) (a7 : Int) : Bool := bif !g_Vs_l1Get_1 a0 (lit [(99 : Nat)] ++ g_Vs_l3Digit_0 a4) then false else bif g_Vs_l1Get_1 a0 (lit [(102 : Nat)] ++ g_Vs_l3Digit_0 a6) then false else bif at_ (Ty.int IntKind.i64) (g_Vs_l1Get_0 a0 (lit [(99 : Nat)] ++ g_Vs_l3Digit_0 a4)) (nat_lit 1) != g_Vs_SecSum_0 a5 then false else true
noncomputable def g_Vs_l3Trade_1 (a0 : List ((ByteArray) × (List (Int)))) (a1 : Int) (a2 : Int) (a3 : Int) (a4 : Int) (a5 : Int) (a6 : Int) (a7 : Int) : List (ByteArray) := bif !g_Vs_l1Get_1 a0 (lit [(99 : Nat)] ++ g_Vs_l3Digit_0 a4) then g_Vs_l3No_0 [lit [(99 : Nat)] ++ g_Vs_l3Digit_0 a4, lit [(102 : Nat)] ++ g_Vs_l3Digit_0 a6] else bif g_Vs_l1Get_1 a0 (lit [(102 : Nat)] ++ g_Vs_l3Digit_0 a6) then g_Vs_l3No_0 [lit [(99 : Nat)] ++ g_Vs_l3Digit_0 a4, lit [(102 : Nat)] ++ g_Vs_l3Digit_0 a6] else bif at_ (Ty.int IntKind.i64) (g_Vs_l1Get_0 a0 (lit [(99 : Nat)] ++ g_Vs_l3Digit_0 a4)) (nat_lit 1) != g_Vs_SecSum_0 a5 then g_Vs_l3No_0 [lit [(99 : Nat)] ++ g_Vs_l3Digit_0 a4, lit [(102 : Nat)] ++ g_Vs_l3Digit_0 a6] else [lit [(99 : Nat)] ++ g_Vs_l3Digit_0 a4, lit [(102 : Nat)] ++ g_Vs_l3Digit_0 a6, lit [(117 : Nat)] ++ g_Vs_l3Digit_0 (at_ (Ty.int IntKind.i64) (g_Vs_l1Get_0 a0 (lit [(99 : Nat)] ++ g_Vs_l3Digit_0 a4)) (nat_lit 0))]
noncomputable def g_Vs_l3Trade_2 (a0 : List ((ByteArray) × (List (Int)))) (a1 : Int) (a2 : Int) (a3 : Int) (a4 : Int) (a5 : Int) (a6 : Int) (a7 : Int) : List ((ByteArray) × ((Bool) × (List (Int)))) := bif !g_Vs_l1Get_1 a0 (lit [(99 : Nat)] ++ g_Vs_l3Digit_0 a4) then g_Vs_l3No_1 [lit [(99 : Nat)] ++ g_Vs_l3Digit_0 a4, lit [(102 : Nat)] ++ g_Vs_l3Digit_0 a6] else bif g_Vs_l1Get_1 a0 (lit [(102 : Nat)] ++ g_Vs_l3Digit_0 a6) then g_Vs_l3No_1 [lit [(99 : Nat)] ++ g_Vs_l3Digit_0 a4, lit [(102 : Nat)] ++ g_Vs_l3Digit_0 a6] else bif at_ (Ty.int IntKind.i64) (g_Vs_l1Get_0 a0 (lit [(99 : Nat)] ++ g_Vs_l3Digit_0 a4)) (nat_lit 1) != g_Vs_SecSum_0 a5 then g_Vs_l3No_1 [lit [(99 : Nat)] ++ g_Vs_l3Digit_0 a4, lit [(102 : Nat)] ++ g_Vs_l3Digit_0 a6] else [(lit [(99 : Nat)] ++ g_Vs_l3Digit_0 a4, true, []), (lit [(102 : Nat)] ++ g_Vs_l3Digit_0 a6, false, [at_ (Ty.int IntKind.i64) (g_Vs_l1Get_0 a0 (lit [(99 : Nat)] ++ g_Vs_l3Digit_0 a4)) (nat_lit 0), (1 : Int), (1 : Int)])]
noncomputable def Fs_l3Trade : FSem := fun ys => match ys with
  | [.val true [.sl .any 60 (.pair .str (.sl 3 (.int .i64))) a0], .val true [.int .i64 a1, .int .i64 a2, .int .i64 a3, .int .i64 a4, .int .i64 a5, .int .i64 a6, .int .i64 a7]] => some ((g_As_l3Trade a0 a1 a2 a3 a4 a5 a6 a7), .val true [.bool (g_Vs_l3Trade_0 a0 a1 a2 a3 a4 a5 a6 a7), .own .any true 9 .str (g_Vs_l3Trade_1 a0 a1 a2 a3 a4 a5 a6 a7), .own .any true 50 (.pair .str (.pair .bool (.sl 3 (.int .i64)))) (g_Vs_l3Trade_2 a0 a1 a2 a3 a4 a5 a6 a7)], [])
  | _ => none
theorem vs_l3Trade (a0 : List ((ByteArray) × (List (Int)))) (a1 : Int) (a2 : Int) (a3 : Int) (a4 : Int) (a5 : Int) (a6 : Int) (a7 : Int) : collapseH .std Es_l3Trade Os_l3Trade_0 (execFn Es_l3Trade Go.Proofs.Tryz.f103 mss_l3Trade [.val true [.sl .any 60 (.pair .str (.sl 3 (.int .i64))) a0], .val true [.int .i64 a1, .int .i64 a2, .int .i64 a3, .int .i64 a4, .int .i64 a5, .int .i64 a6, .int .i64 a7]]) = some ((g_As_l3Trade a0 a1 a2 a3 a4 a5 a6 a7), .val true [.bool (g_Vs_l3Trade_0 a0 a1 a2 a3 a4 a5 a6 a7), .own .any true 9 .str (g_Vs_l3Trade_1 a0 a1 a2 a3 a4 a5 a6 a7), .own .any true 50 (.pair .str (.pair .bool (.sl 3 (.int .i64)))) (g_Vs_l3Trade_2 a0 a1 a2 a3 a4 a5 a6 a7)], []) := by kernel_rfl
theorem ss_l3Trade : Sound Go.Proofs.Tryz.prog 103 mss_l3Trade Fs_l3Trade := by
  refine fn_gen goods_l3Trade (by kernel_rfl) .std (fn := Go.Proofs.Tryz.f103) (c := (Go.Proofs.Tryz.f103.body.getD .skip)) (o := Os_l3Trade_0) (k := 0) (by kernel_rfl) (by kernel_rfl) (by kernel_rfl) (by kernel_rfl) (by decide) ks_l3Trade_0 ?_
  intro ys r outs h
  unfold Fs_l3Trade at h
  split at h
  · exact (vs_l3Trade _ _ _ _ _ _ _ _).trans h
  · cases h
end Go.Proofs.YtnbcdkbjmpadmaaGreatDoor.E
end
section
namespace Go.Proofs.YtnbcdkbjmpadmaaGreatDoor.E
open Go
set_option maxRecDepth 100000
set_option maxHeartbeats 0
set_option linter.all false
noncomputable def Es_l3May : Env where
  tt := mkTI Go.Proofs.Tryz.prog
  fn := fun f => match f with
    | 71 => some (mss_l1Get, FSem.wk mss_l1Get Fs_l1Get)
    | 72 => some (mss_l3No, FSem.wk mss_l3No Fs_l3No)
    | 101 => some (mss_l3Digit, FSem.wk mss_l3Digit Fs_l3Digit)
    | 102 => some (mss_SecSum, FSem.wk mss_SecSum Fs_SecSum)
    | 103 => some (mss_l3Trade, FSem.wk mss_l3Trade Fs_l3Trade)
    | 104 => some (mss_l3Next, FSem.wk mss_l3Next Fs_l3Next)
    | 105 => some (mss_l3Out, FSem.wk mss_l3Out Fs_l3Out)
    | _ => none
  bxf := fun _ => none
  mv := []
  keep := fun _ => []
  keepB := fun _ => []
  keepX := fun _ => []
  keepXB := fun _ => []
theorem goodFs_l3May : ∀ f ms F, Es_l3May.fn f = some (ms, F) → Sound Go.Proofs.Tryz.prog f ms F := fun f ms F h => by
  unfold Es_l3May at h
  dsimp only at h
  split at h
  · injection h with h; injection h with e1 e2; subst e1 e2; exact Sound.wk ss_l1Get
  · injection h with h; injection h with e1 e2; subst e1 e2; exact Sound.wk ss_l3No
  · injection h with h; injection h with e1 e2; subst e1 e2; exact Sound.wk ss_l3Digit
  · injection h with h; injection h with e1 e2; subst e1 e2; exact Sound.wk ss_SecSum
  · injection h with h; injection h with e1 e2; subst e1 e2; exact Sound.wk ss_l3Trade
  · injection h with h; injection h with e1 e2; subst e1 e2; exact Sound.wk ss_l3Next
  · injection h with h; injection h with e1 e2; subst e1 e2; exact Sound.wk ss_l3Out
  · cases h
theorem goodBs_l3May : ∀ f ms F, Es_l3May.bxf f = some (ms, F) → SoundB Go.Proofs.Tryz.prog f ms F := fun f ms F h => by cases h
theorem goods_l3May : Good Go.Proofs.Tryz.prog Es_l3May := ⟨rfl, goodFs_l3May, goodBs_l3May⟩
noncomputable def Os_l3May_0 : Orc := fun _ _ => none
noncomputable def mss_l3May : List PM := [.rd, .own]
noncomputable def lss_l3May : List (Nat × Code) := loopsAll 0 (Go.Proofs.Tryz.f69.body.getD .skip)

theorem ks_l3May_0 : OrcOk Es_l3May Os_l3May_0 lss_l3May 0 := orcOk_none
noncomputable def g_As_l3May (a0 : List ((ByteArray) × (List (Int)))) (a1 : Int) (a2 : Int) (a3 : Int) (a4 : Int) (a5 : Int) (a6 : Int) (a7 : Int) : Bool := bif a1 == (2 : Int) then decide (nat_lit 1 + ByteArray.size (g_Vs_l3Digit_0 a4) ≤ nat_lit 9223372036854775807) && (g_As_l1Get a0 (lit [(99 : Nat)] ++ g_Vs_l3Digit_0 a4) && bif g_Vs_l1Get_1 a0 (lit [(99 : Nat)] ++ g_Vs_l3Digit_0 a4) then g_As_l3No [lit [(99 : Nat)] ++ g_Vs_l3Digit_0 a4] else g_As_SecSum a5) else bif a1 == (3 : Int) then g_As_l3Trade a0 a1 a2 a3 a4 a5 a6 a7 else bif a1 == (4 : Int) then g_As_l3Next a0 a1 a2 a3 a4 a5 a6 a7 else g_As_l3Out a0 a1 a2 a3 a4 a5 a6 a7
noncomputable def g_Vs_l3May_0 (a0 : List ((ByteArray) × (List (Int)))) (a1 : Int) (a2 : Int) (a3 : Int) (a4 : Int) (a5 : Int) (a6 : Int) (a7 : Int) : Bool := bif a1 == (2 : Int) then bif g_Vs_l1Get_1 a0 (lit [(99 : Nat)] ++ g_Vs_l3Digit_0 a4) then false else true else bif a1 == (3 : Int) then g_Vs_l3Trade_0 a0 a1 a2 a3 a4 a5 a6 a7 else bif a1 == (4 : Int) then g_Vs_l3Next_0 a0 a1 a2 a3 a4 a5 a6 a7 else true
noncomputable def g_Vs_l3May_1 (a0 : List ((ByteArray) × (List (Int)))) (a1 : Int) (a2 : Int) (a3 : Int) (a4 : Int) (a5 : Int) (a6 : Int) (a7 : Int) : List (ByteArray) := bif a1 == (2 : Int) then bif g_Vs_l1Get_1 a0 (lit [(99 : Nat)] ++ g_Vs_l3Digit_0 a4) then g_Vs_l3No_0 [lit [(99 : Nat)] ++ g_Vs_l3Digit_0 a4] else [lit [(99 : Nat)] ++ g_Vs_l3Digit_0 a4] else bif a1 == (3 : Int) then g_Vs_l3Trade_1 a0 a1 a2 a3 a4 a5 a6 a7 else bif a1 == (4 : Int) then g_Vs_l3Next_1 a0 a1 a2 a3 a4 a5 a6 a7 else g_Vs_l3Out_0 a0 a1 a2 a3 a4 a5 a6 a7
noncomputable def g_Vs_l3May_2 (a0 : List ((ByteArray) × (List (Int)))) (a1 : Int) (a2 : Int) (a3 : Int) (a4 : Int) (a5 : Int) (a6 : Int) (a7 : Int) : List ((ByteArray) × ((Bool) × (List (Int)))) := bif a1 == (2 : Int) then bif g_Vs_l1Get_1 a0 (lit [(99 : Nat)] ++ g_Vs_l3Digit_0 a4) then g_Vs_l3No_1 [lit [(99 : Nat)] ++ g_Vs_l3Digit_0 a4] else [(lit [(99 : Nat)] ++ g_Vs_l3Digit_0 a4, false, [a2, g_Vs_SecSum_0 a5])] else bif a1 == (3 : Int) then g_Vs_l3Trade_2 a0 a1 a2 a3 a4 a5 a6 a7 else bif a1 == (4 : Int) then g_Vs_l3Next_2 a0 a1 a2 a3 a4 a5 a6 a7 else g_Vs_l3Out_1 a0 a1 a2 a3 a4 a5 a6 a7
noncomputable def Fs_l3May : FSem := fun ys => match ys with
  | [.val true [.sl .any 60 (.pair .str (.sl 3 (.int .i64))) a0], .val true [.int .i64 a1, .int .i64 a2, .int .i64 a3, .int .i64 a4, .int .i64 a5, .int .i64 a6, .int .i64 a7]] => some ((g_As_l3May a0 a1 a2 a3 a4 a5 a6 a7), .val true [.bool (g_Vs_l3May_0 a0 a1 a2 a3 a4 a5 a6 a7), .own .any true 9 .str (g_Vs_l3May_1 a0 a1 a2 a3 a4 a5 a6 a7), .own .any true 50 (.pair .str (.pair .bool (.sl 3 (.int .i64)))) (g_Vs_l3May_2 a0 a1 a2 a3 a4 a5 a6 a7)], [])
  | _ => none
theorem vs_l3May (a0 : List ((ByteArray) × (List (Int)))) (a1 : Int) (a2 : Int) (a3 : Int) (a4 : Int) (a5 : Int) (a6 : Int) (a7 : Int) : collapseH .std Es_l3May Os_l3May_0 (execFn Es_l3May Go.Proofs.Tryz.f69 mss_l3May [.val true [.sl .any 60 (.pair .str (.sl 3 (.int .i64))) a0], .val true [.int .i64 a1, .int .i64 a2, .int .i64 a3, .int .i64 a4, .int .i64 a5, .int .i64 a6, .int .i64 a7]]) = some ((g_As_l3May a0 a1 a2 a3 a4 a5 a6 a7), .val true [.bool (g_Vs_l3May_0 a0 a1 a2 a3 a4 a5 a6 a7), .own .any true 9 .str (g_Vs_l3May_1 a0 a1 a2 a3 a4 a5 a6 a7), .own .any true 50 (.pair .str (.pair .bool (.sl 3 (.int .i64)))) (g_Vs_l3May_2 a0 a1 a2 a3 a4 a5 a6 a7)], []) := by kernel_rfl
theorem ss_l3May : Sound Go.Proofs.Tryz.prog 69 mss_l3May Fs_l3May := by
  refine fn_gen goods_l3May (by kernel_rfl) .std (fn := Go.Proofs.Tryz.f69) (c := (Go.Proofs.Tryz.f69.body.getD .skip)) (o := Os_l3May_0) (k := 0) (by kernel_rfl) (by kernel_rfl) (by kernel_rfl) (by kernel_rfl) (by decide) ks_l3May_0 ?_
  intro ys r outs h
  unfold Fs_l3May at h
  split at h
  · exact (vs_l3May _ _ _ _ _ _ _ _).trans h
  · cases h
end Go.Proofs.YtnbcdkbjmpadmaaGreatDoor.E
end
section
namespace Go.Proofs.YtnbcdkbjmpadmaaGreatDoor.E
open Go
set_option maxRecDepth 100000
set_option maxHeartbeats 0
set_option linter.all false
noncomputable def Es_l3Plain : Env where
  tt := mkTI Go.Proofs.Tryz.prog
  fn := fun f => match f with
    | 101 => some (mss_l3Digit, FSem.wk mss_l3Digit Fs_l3Digit)
    | _ => none
  bxf := fun _ => none
  mv := []
  keep := fun b => match b with
    | 0 => [(0, false), (3, false)]
    | _ => []
  keepB := fun b => match b with
    | 0 => []
    | _ => []
  keepX := fun b => match b with
    | 0 => [(0, false), (3, false)]
    | _ => []
  keepXB := fun b => match b with
    | 0 => []
    | _ => []
theorem goodFs_l3Plain : ∀ f ms F, Es_l3Plain.fn f = some (ms, F) → Sound Go.Proofs.Tryz.prog f ms F := fun f ms F h => by
  unfold Es_l3Plain at h
  dsimp only at h
  split at h
  · injection h with h; injection h with e1 e2; subst e1 e2; exact Sound.wk ss_l3Digit
  · cases h
theorem goodBs_l3Plain : ∀ f ms F, Es_l3Plain.bxf f = some (ms, F) → SoundB Go.Proofs.Tryz.prog f ms F := fun f ms F h => by cases h
theorem goods_l3Plain : Good Go.Proofs.Tryz.prog Es_l3Plain := ⟨rfl, goodFs_l3Plain, goodBs_l3Plain⟩
noncomputable def Os_l3Plain_0 : Orc := fun _ _ => none
noncomputable def mss_l3Plain : List PM := [.own]
noncomputable def lss_l3Plain : List (Nat × Code) := loopsAll 0 (Go.Proofs.Tryz.f70.body.getD .skip)
noncomputable def cs_l3Plain_0 : Code := (loopOf 0 (Go.Proofs.Tryz.f70.body.getD .skip)).getD .skip
theorem lseqs_l3Plain : lss_l3Plain = [(0, cs_l3Plain_0)] := by kernel_rfl
theorem ms_l3Plain_0 : ∀ p, p ∈ lss_l3Plain → p.1 = 0 → p.2 = cs_l3Plain_0 := by
  intro p hp
  rw [lseqs_l3Plain] at hp
  simp only [List.mem_cons, List.not_mem_nil, or_false] at hp
  subst hp; simp
theorem ks_l3Plain_0 : OrcOk Es_l3Plain Os_l3Plain_0 lss_l3Plain 0 := orcOk_none
noncomputable def hs_l3Plain_0 (y0 : Int) (y1 : ByteArray) : List (Pl × LV) := [(.T 0, .t (.val false [.int .i64 y0])), (.T 3, .t (.val false [.str y1]))]
noncomputable def g_Ss_l3Plain_0 : ((Int) × (ByteArray)) → RT ((Int) × (ByteArray)) (((Int) × (ByteArray)))
  | (y0, y1) => .br (true) (.br (decide (y0 > (9 : Int))) (.br (true) (.br (true) (.br (decide (ByteArray.size (g_Vs_l3Digit_0 (Int.tmod y0 (10 : Int))) + ByteArray.size y1 ≤ nat_lit 9223372036854775807)) (.br (true) (.go ((IntKind.wrap IntKind.i64 (Int.tdiv y0 (10 : Int)), g_Vs_l3Digit_0 (Int.tmod y0 (10 : Int)) ++ y1))) (.bad)) (.bad)) (.bad)) (.bad)) (.out ((y0, y1)))) (.bad)
noncomputable def g_Ls_l3Plain_0 (x : (Int) × (ByteArray)) : Option (((Int) × (ByteArray))) := loopO (g_Ss_l3Plain_0) x
noncomputable def xs_l3Plain_0 : (((Int) × (ByteArray))) → Ex × List (Pl × LV) := fun r => (.exit 0, [(.T 0, .t (.val false [.int .i64 r.1])), (.T 3, .t (.val false [.str r.2]))])
noncomputable def Os_l3Plain_1 : Orc := fun b h => match b, h with
  | 0, [(.T 0, .t (.val false [.int .i64 y0])), (.T 3, .t (.val false [.str y1]))] => some (okO (g_Ls_l3Plain_0 (y0, y1)), (.leaf (.exit 0) [(.T 0, .t (.val false [.int .i64 (valO (g_Ls_l3Plain_0 (y0, y1))).1])), (.T 3, .t (.val false [.str (valO (g_Ls_l3Plain_0 (y0, y1))).2]))]))
  | b, h => Os_l3Plain_0 b h
theorem bs_l3Plain_0 (y0 : Int) (y1 : ByteArray) : Tr.bt Es_l3Plain Os_l3Plain_0 (exec Es_l3Plain 0 cs_l3Plain_0 (St.of (hs_l3Plain_0 y0 y1)) (leafRd Es_l3Plain 0)) = (g_Ss_l3Plain_0 (y0, y1)).bt (fun ((y0, y1) : (Int) × (ByteArray)) => (hs_l3Plain_0 y0 y1)) (xs_l3Plain_0) := by kernel_rfl
theorem ks_l3Plain_1 : OrcOk Es_l3Plain Os_l3Plain_1 lss_l3Plain 1 := orc_add ks_l3Plain_0 (fun n p hp h ex h' ho => by
  obtain ⟨b, c⟩ := p
  obtain ⟨xt, h1, h2⟩ := ho
  have h1 : Os_l3Plain_1 b h = some (true, xt) := h1
  unfold Os_l3Plain_1 at h1
  split at h1
  · injection h1 with h1
    injection h1 with e1 e2
    subst e2
    have hc : c = cs_l3Plain_0 := ms_l3Plain_0 _ hp rfl
    subst hc
    right
    rename_i y0 y1
    have key := LT_step ks_l3Plain_0 hp (fun q hq => loopsAll_in _ _ _ _ hp hq) (fun ((y0, y1) : (Int) × (ByteArray)) => (hs_l3Plain_0 y0 y1)) (xs_l3Plain_0) (g_Ss_l3Plain_0) (fun x => by first | exact bs_l3Plain_0 x.1 x.2) n (x := (y0, y1)) (okO_some e1)
    have hx : ∀ r, XT.sel (.leaf (.exit 0) [(.T 0, .t (.val false [.int .i64 r.1])), (.T 3, .t (.val false [.str r.2]))]) = xs_l3Plain_0 r := fun r => by first | rfl | (rcases r with r | r <;> rfl) | (rcases r with r | r | r <;> rfl) | (rcases r with r | r | r | r <;> rfl)
    have h3 := (hx (valO (g_Ls_l3Plain_0 (y0, y1)))).symm.trans h2
    have e3 := congrArg Prod.fst h3
    have e4 := congrArg Prod.snd h3
    simp only at e3 e4
    rw [← e3, ← e4]
    exact key
  · exact .inl ⟨xt, h1, h2⟩)
noncomputable def g_As_l3Plain (a0 : Int) : Bool := okO (g_Ls_l3Plain_0 (a0, lit [])) && decide (ByteArray.size (g_Vs_l3Digit_0 (valO (g_Ls_l3Plain_0 (a0, lit []))).1) + ByteArray.size (valO (g_Ls_l3Plain_0 (a0, lit []))).2 ≤ nat_lit 9223372036854775807)
noncomputable def g_Vs_l3Plain_0 (a0 : Int) : ByteArray := g_Vs_l3Digit_0 (valO (g_Ls_l3Plain_0 (a0, lit []))).1 ++ (valO (g_Ls_l3Plain_0 (a0, lit []))).2
noncomputable def Fs_l3Plain : FSem := fun ys => match ys with
  | [.val false [.int .i64 a0]] => some ((g_As_l3Plain a0), .val false [.str (g_Vs_l3Plain_0 a0)], [])
  | _ => none
theorem vs_l3Plain (a0 : Int) : collapseH .std Es_l3Plain Os_l3Plain_1 (execFn Es_l3Plain Go.Proofs.Tryz.f70 mss_l3Plain [.val false [.int .i64 a0]]) = some ((g_As_l3Plain a0), .val false [.str (g_Vs_l3Plain_0 a0)], []) := by kernel_rfl
theorem ss_l3Plain : Sound Go.Proofs.Tryz.prog 70 mss_l3Plain Fs_l3Plain := by
  refine fn_gen goods_l3Plain (by kernel_rfl) .std (fn := Go.Proofs.Tryz.f70) (c := (Go.Proofs.Tryz.f70.body.getD .skip)) (o := Os_l3Plain_1) (k := 1) (by kernel_rfl) (by kernel_rfl) (by kernel_rfl) (by kernel_rfl) (by decide) ks_l3Plain_1 ?_
  intro ys r outs h
  unfold Fs_l3Plain at h
  split at h
  · exact (vs_l3Plain _).trans h
  · cases h
end Go.Proofs.YtnbcdkbjmpadmaaGreatDoor.E
end
section
namespace Go.Proofs.YtnbcdkbjmpadmaaGreatDoor.E
open Go
set_option maxRecDepth 100000
set_option maxHeartbeats 0
set_option linter.all false
noncomputable def Es_l3Plan : Env where
  tt := mkTI Go.Proofs.Tryz.prog
  fn := fun f => match f with
    | 68 => some (mss_l3In, FSem.wk mss_l3In Fs_l3In)
    | 69 => some (mss_l3May, FSem.wk mss_l3May Fs_l3May)
    | 70 => some (mss_l3Plain, FSem.wk mss_l3Plain Fs_l3Plain)
    | 71 => some (mss_l1Get, FSem.wk mss_l1Get Fs_l1Get)
    | 72 => some (mss_l3No, FSem.wk mss_l3No Fs_l3No)
    | _ => none
  bxf := fun _ => none
  mv := []
  keep := fun _ => []
  keepB := fun _ => []
  keepX := fun _ => []
  keepXB := fun _ => []
theorem goodFs_l3Plan : ∀ f ms F, Es_l3Plan.fn f = some (ms, F) → Sound Go.Proofs.Tryz.prog f ms F := fun f ms F h => by
  unfold Es_l3Plan at h
  dsimp only at h
  split at h
  · injection h with h; injection h with e1 e2; subst e1 e2; exact Sound.wk ss_l3In
  · injection h with h; injection h with e1 e2; subst e1 e2; exact Sound.wk ss_l3May
  · injection h with h; injection h with e1 e2; subst e1 e2; exact Sound.wk ss_l3Plain
  · injection h with h; injection h with e1 e2; subst e1 e2; exact Sound.wk ss_l1Get
  · injection h with h; injection h with e1 e2; subst e1 e2; exact Sound.wk ss_l3No
  · cases h
theorem goodBs_l3Plan : ∀ f ms F, Es_l3Plan.bxf f = some (ms, F) → SoundB Go.Proofs.Tryz.prog f ms F := fun f ms F h => by cases h
theorem goods_l3Plan : Good Go.Proofs.Tryz.prog Es_l3Plan := ⟨rfl, goodFs_l3Plan, goodBs_l3Plan⟩
noncomputable def Os_l3Plan_0 : Orc := fun _ _ => none
noncomputable def mss_l3Plan : List PM := [.own, .rd, .own, .own]
noncomputable def lss_l3Plan : List (Nat × Code) := loopsAll 0 (Go.Proofs.Tryz.f34.body.getD .skip)

theorem ks_l3Plan_0 : OrcOk Es_l3Plan Os_l3Plan_0 lss_l3Plan 0 := orcOk_none
noncomputable def g_As_l3Plan (a0 : Int) (a1 : List ((ByteArray) × (List (Int)))) (a2 : Int) (a3 : Int) (a4 : Int) (a5 : Int) (a6 : Int) (a7 : Int) (a8 : Int) (a9 : Int) : Bool := bif a0 == (1 : Int) then g_As_l3In a1 a3 a4 a5 a6 a7 a8 a9 else bif a0 == (2 : Int) then g_As_l3May a1 a3 a4 a5 a6 a7 a8 a9 else g_As_l3Plain a2 && (decide (nat_lit 1 + ByteArray.size (g_Vs_l3Plain_0 a2) ≤ nat_lit 9223372036854775807) && (g_As_l1Get a1 (lit [(97 : Nat)] ++ g_Vs_l3Plain_0 a2) && (!g_Vs_l1Get_1 a1 (lit [(97 : Nat)] ++ g_Vs_l3Plain_0 a2) || g_As_l3No [lit [(97 : Nat)] ++ g_Vs_l3Plain_0 a2])))
noncomputable def g_Vs_l3Plan_0 (a0 : Int) (a1 : List ((ByteArray) × (List (Int)))) (a2 : Int) (a3 : Int) (a4 : Int) (a5 : Int) (a6 : Int) (a7 : Int) (a8 : Int) (a9 : Int) : Bool := bif a0 == (1 : Int) then g_Vs_l3In_0 a1 a3 a4 a5 a6 a7 a8 a9 else bif a0 == (2 : Int) then g_Vs_l3May_0 a1 a3 a4 a5 a6 a7 a8 a9 else bif g_Vs_l1Get_1 a1 (lit [(97 : Nat)] ++ g_Vs_l3Plain_0 a2) then false else true
noncomputable def g_Vs_l3Plan_1 (a0 : Int) (a1 : List ((ByteArray) × (List (Int)))) (a2 : Int) (a3 : Int) (a4 : Int) (a5 : Int) (a6 : Int) (a7 : Int) (a8 : Int) (a9 : Int) : List (ByteArray) := bif a0 == (1 : Int) then g_Vs_l3In_1 a1 a3 a4 a5 a6 a7 a8 a9 else bif a0 == (2 : Int) then g_Vs_l3May_1 a1 a3 a4 a5 a6 a7 a8 a9 else bif g_Vs_l1Get_1 a1 (lit [(97 : Nat)] ++ g_Vs_l3Plain_0 a2) then g_Vs_l3No_0 [lit [(97 : Nat)] ++ g_Vs_l3Plain_0 a2] else [lit [(97 : Nat)] ++ g_Vs_l3Plain_0 a2]
noncomputable def g_Vs_l3Plan_2 (a0 : Int) (a1 : List ((ByteArray) × (List (Int)))) (a2 : Int) (a3 : Int) (a4 : Int) (a5 : Int) (a6 : Int) (a7 : Int) (a8 : Int) (a9 : Int) : List ((ByteArray) × ((Bool) × (List (Int)))) := bif a0 == (1 : Int) then g_Vs_l3In_2 a1 a3 a4 a5 a6 a7 a8 a9 else bif a0 == (2 : Int) then g_Vs_l3May_2 a1 a3 a4 a5 a6 a7 a8 a9 else bif g_Vs_l1Get_1 a1 (lit [(97 : Nat)] ++ g_Vs_l3Plain_0 a2) then g_Vs_l3No_1 [lit [(97 : Nat)] ++ g_Vs_l3Plain_0 a2] else [(lit [(97 : Nat)] ++ g_Vs_l3Plain_0 a2, false, [a3])]
noncomputable def Fs_l3Plan : FSem := fun ys => match ys with
  | [.val false [.int .i64 a0], .val true [.sl .any 60 (.pair .str (.sl 3 (.int .i64))) a1], .val false [.int .i64 a2], .val true [.int .i64 a3, .int .i64 a4, .int .i64 a5, .int .i64 a6, .int .i64 a7, .int .i64 a8, .int .i64 a9]] => some ((g_As_l3Plan a0 a1 a2 a3 a4 a5 a6 a7 a8 a9), .val true [.bool (g_Vs_l3Plan_0 a0 a1 a2 a3 a4 a5 a6 a7 a8 a9), .own .any true 9 .str (g_Vs_l3Plan_1 a0 a1 a2 a3 a4 a5 a6 a7 a8 a9), .own .any true 50 (.pair .str (.pair .bool (.sl 3 (.int .i64)))) (g_Vs_l3Plan_2 a0 a1 a2 a3 a4 a5 a6 a7 a8 a9)], [])
  | _ => none
theorem vs_l3Plan (a0 : Int) (a1 : List ((ByteArray) × (List (Int)))) (a2 : Int) (a3 : Int) (a4 : Int) (a5 : Int) (a6 : Int) (a7 : Int) (a8 : Int) (a9 : Int) : collapseH .std Es_l3Plan Os_l3Plan_0 (execFn Es_l3Plan Go.Proofs.Tryz.f34 mss_l3Plan [.val false [.int .i64 a0], .val true [.sl .any 60 (.pair .str (.sl 3 (.int .i64))) a1], .val false [.int .i64 a2], .val true [.int .i64 a3, .int .i64 a4, .int .i64 a5, .int .i64 a6, .int .i64 a7, .int .i64 a8, .int .i64 a9]]) = some ((g_As_l3Plan a0 a1 a2 a3 a4 a5 a6 a7 a8 a9), .val true [.bool (g_Vs_l3Plan_0 a0 a1 a2 a3 a4 a5 a6 a7 a8 a9), .own .any true 9 .str (g_Vs_l3Plan_1 a0 a1 a2 a3 a4 a5 a6 a7 a8 a9), .own .any true 50 (.pair .str (.pair .bool (.sl 3 (.int .i64)))) (g_Vs_l3Plan_2 a0 a1 a2 a3 a4 a5 a6 a7 a8 a9)], []) := by kernel_rfl
theorem ss_l3Plan : Sound Go.Proofs.Tryz.prog 34 mss_l3Plan Fs_l3Plan := by
  refine fn_gen goods_l3Plan (by kernel_rfl) .std (fn := Go.Proofs.Tryz.f34) (c := (Go.Proofs.Tryz.f34.body.getD .skip)) (o := Os_l3Plan_0) (k := 0) (by kernel_rfl) (by kernel_rfl) (by kernel_rfl) (by kernel_rfl) (by decide) ks_l3Plan_0 ?_
  intro ys r outs h
  unfold Fs_l3Plan at h
  split at h
  · exact (vs_l3Plan _ _ _ _ _ _ _ _ _ _).trans h
  · cases h
end Go.Proofs.YtnbcdkbjmpadmaaGreatDoor.E
end
section
namespace Go.Proofs.YtnbcdkbjmpadmaaGreatDoor.E
open Go
set_option maxRecDepth 100000
set_option maxHeartbeats 0
set_option linter.all false
noncomputable def Es_PlcPlan : Env where
  tt := mkTI Go.Proofs.Tryz.prog
  fn := fun f => match f with
    | 29 => some (mss_PlcOk, FSem.wk mss_PlcOk Fs_PlcOk)
    | 30 => some (mss_OpOk, FSem.wk mss_OpOk Fs_OpOk)
    | 31 => some (mss_l1In, FSem.wk mss_l1In Fs_l1In)
    | 32 => some (mss_l3Has, FSem.wk mss_l3Has Fs_l3Has)
    | 33 => some (mss_OpPlaces, FSem.wk mss_OpPlaces Fs_OpPlaces)
    | 34 => some (mss_l3Plan, FSem.wk mss_l3Plan Fs_l3Plan)
    | _ => none
  bxf := fun _ => none
  mv := []
  keep := fun _ => []
  keepB := fun _ => []
  keepX := fun _ => []
  keepXB := fun _ => []
theorem goodFs_PlcPlan : ∀ f ms F, Es_PlcPlan.fn f = some (ms, F) → Sound Go.Proofs.Tryz.prog f ms F := fun f ms F h => by
  unfold Es_PlcPlan at h
  dsimp only at h
  split at h
  · injection h with h; injection h with e1 e2; subst e1 e2; exact Sound.wk ss_PlcOk
  · injection h with h; injection h with e1 e2; subst e1 e2; exact Sound.wk ss_OpOk
  · injection h with h; injection h with e1 e2; subst e1 e2; exact Sound.wk ss_l1In
  · injection h with h; injection h with e1 e2; subst e1 e2; exact Sound.wk ss_l3Has
  · injection h with h; injection h with e1 e2; subst e1 e2; exact Sound.wk ss_OpPlaces
  · injection h with h; injection h with e1 e2; subst e1 e2; exact Sound.wk ss_l3Plan
  · cases h
theorem goodBs_PlcPlan : ∀ f ms F, Es_PlcPlan.bxf f = some (ms, F) → SoundB Go.Proofs.Tryz.prog f ms F := fun f ms F h => by cases h
theorem goods_PlcPlan : Good Go.Proofs.Tryz.prog Es_PlcPlan := ⟨rfl, goodFs_PlcPlan, goodBs_PlcPlan⟩
noncomputable def Os_PlcPlan_0 : Orc := fun _ _ => none
noncomputable def mss_PlcPlan : List PM := [.own, .rd, .own, .own]
noncomputable def lss_PlcPlan : List (Nat × Code) := loopsAll 0 (Go.Proofs.Tryz.f9.body.getD .skip)

theorem ks_PlcPlan_0 : OrcOk Es_PlcPlan Os_PlcPlan_0 lss_PlcPlan 0 := orcOk_none
noncomputable def g_As_PlcPlan (a0 : Int) (a1 : List ((ByteArray) × (List (Int)))) (a2 : Int) (a3 : Int) (a4 : Int) (a5 : Int) (a6 : Int) (a7 : Int) (a8 : Int) (a9 : Int) : Bool := g_As_PlcOk a0 a1 && (!g_Vs_PlcOk_0 a0 a1 || g_As_OpOk a3 a4 a5 a6 a7 a8 a9 && (!g_Vs_OpOk_0 a3 a4 a5 a6 a7 a8 a9 || g_As_l1In a2 (0 : Int) (29 : Int) && (!g_Vs_l1In_0 a2 (0 : Int) (29 : Int) || g_As_OpPlaces a3 a4 a5 a6 a7 a8 a9 && (g_As_l3Has (g_Vs_OpPlaces_0 a3 a4 a5 a6 a7 a8 a9) a0 && (!g_Vs_l3Has_0 (g_Vs_OpPlaces_0 a3 a4 a5 a6 a7 a8 a9) a0 || g_As_l3Plan a0 a1 a2 a3 a4 a5 a6 a7 a8 a9)))))
noncomputable def g_Vs_PlcPlan_0 (a0 : Int) (a1 : List ((ByteArray) × (List (Int)))) (a2 : Int) (a3 : Int) (a4 : Int) (a5 : Int) (a6 : Int) (a7 : Int) (a8 : Int) (a9 : Int) : Bool := bif !g_Vs_PlcOk_0 a0 a1 then false else bif !g_Vs_OpOk_0 a3 a4 a5 a6 a7 a8 a9 then false else bif !g_Vs_l1In_0 a2 (0 : Int) (29 : Int) then false else bif !g_Vs_l3Has_0 (g_Vs_OpPlaces_0 a3 a4 a5 a6 a7 a8 a9) a0 then false else g_Vs_l3Plan_0 a0 a1 a2 a3 a4 a5 a6 a7 a8 a9
noncomputable def g_Vs_PlcPlan_1 (a0 : Int) (a1 : List ((ByteArray) × (List (Int)))) (a2 : Int) (a3 : Int) (a4 : Int) (a5 : Int) (a6 : Int) (a7 : Int) (a8 : Int) (a9 : Int) : List (ByteArray) := bif !g_Vs_PlcOk_0 a0 a1 then [] else bif !g_Vs_OpOk_0 a3 a4 a5 a6 a7 a8 a9 then [] else bif !g_Vs_l1In_0 a2 (0 : Int) (29 : Int) then [] else bif !g_Vs_l3Has_0 (g_Vs_OpPlaces_0 a3 a4 a5 a6 a7 a8 a9) a0 then [] else g_Vs_l3Plan_1 a0 a1 a2 a3 a4 a5 a6 a7 a8 a9
noncomputable def g_Vs_PlcPlan_2 (a0 : Int) (a1 : List ((ByteArray) × (List (Int)))) (a2 : Int) (a3 : Int) (a4 : Int) (a5 : Int) (a6 : Int) (a7 : Int) (a8 : Int) (a9 : Int) : List ((ByteArray) × ((Bool) × (List (Int)))) := bif !g_Vs_PlcOk_0 a0 a1 then [] else bif !g_Vs_OpOk_0 a3 a4 a5 a6 a7 a8 a9 then [] else bif !g_Vs_l1In_0 a2 (0 : Int) (29 : Int) then [] else bif !g_Vs_l3Has_0 (g_Vs_OpPlaces_0 a3 a4 a5 a6 a7 a8 a9) a0 then [] else g_Vs_l3Plan_2 a0 a1 a2 a3 a4 a5 a6 a7 a8 a9
noncomputable def Fs_PlcPlan : FSem := fun ys => match ys with
  | [.val false [.int .i64 a0], .val true [.sl .any 60 (.pair .str (.sl 3 (.int .i64))) a1], .val false [.int .i64 a2], .val true [.int .i64 a3, .int .i64 a4, .int .i64 a5, .int .i64 a6, .int .i64 a7, .int .i64 a8, .int .i64 a9]] => some ((g_As_PlcPlan a0 a1 a2 a3 a4 a5 a6 a7 a8 a9), .val true [.bool (g_Vs_PlcPlan_0 a0 a1 a2 a3 a4 a5 a6 a7 a8 a9), .own .any true 9 .str (g_Vs_PlcPlan_1 a0 a1 a2 a3 a4 a5 a6 a7 a8 a9), .own .any true 50 (.pair .str (.pair .bool (.sl 3 (.int .i64)))) (g_Vs_PlcPlan_2 a0 a1 a2 a3 a4 a5 a6 a7 a8 a9)], [])
  | _ => none
theorem vs_PlcPlan (a0 : Int) (a1 : List ((ByteArray) × (List (Int)))) (a2 : Int) (a3 : Int) (a4 : Int) (a5 : Int) (a6 : Int) (a7 : Int) (a8 : Int) (a9 : Int) : collapseH .std Es_PlcPlan Os_PlcPlan_0 (execFn Es_PlcPlan Go.Proofs.Tryz.f9 mss_PlcPlan [.val false [.int .i64 a0], .val true [.sl .any 60 (.pair .str (.sl 3 (.int .i64))) a1], .val false [.int .i64 a2], .val true [.int .i64 a3, .int .i64 a4, .int .i64 a5, .int .i64 a6, .int .i64 a7, .int .i64 a8, .int .i64 a9]]) = some ((g_As_PlcPlan a0 a1 a2 a3 a4 a5 a6 a7 a8 a9), .val true [.bool (g_Vs_PlcPlan_0 a0 a1 a2 a3 a4 a5 a6 a7 a8 a9), .own .any true 9 .str (g_Vs_PlcPlan_1 a0 a1 a2 a3 a4 a5 a6 a7 a8 a9), .own .any true 50 (.pair .str (.pair .bool (.sl 3 (.int .i64)))) (g_Vs_PlcPlan_2 a0 a1 a2 a3 a4 a5 a6 a7 a8 a9)], []) := by kernel_rfl
theorem ss_PlcPlan : Sound Go.Proofs.Tryz.prog 9 mss_PlcPlan Fs_PlcPlan := by
  refine fn_gen goods_PlcPlan (by kernel_rfl) .std (fn := Go.Proofs.Tryz.f9) (c := (Go.Proofs.Tryz.f9.body.getD .skip)) (o := Os_PlcPlan_0) (k := 0) (by kernel_rfl) (by kernel_rfl) (by kernel_rfl) (by kernel_rfl) (by decide) ks_PlcPlan_0 ?_
  intro ys r outs h
  unfold Fs_PlcPlan at h
  split at h
  · exact (vs_PlcPlan _ _ _ _ _ _ _ _ _ _).trans h
  · cases h
end Go.Proofs.YtnbcdkbjmpadmaaGreatDoor.E
end
section
namespace Go.Proofs.YtnbcdkbjmpadmaaGreatDoor.E
open Go
set_option maxRecDepth 100000
set_option maxHeartbeats 0
set_option linter.all false
noncomputable def Ew_eqIntS : Env where
  tt := mkTI Go.Proofs.Tryz.prog
  fn := fun _ => none
  bxf := fun _ => none
  mv := []
  keep := fun b => match b with
    | 0 => [(0, false), (1, false), (5, false)]
    | _ => []
  keepB := fun b => match b with
    | 0 => []
    | _ => []
  keepX := fun b => match b with
    | 0 => [(4, false)]
    | _ => []
  keepXB := fun b => match b with
    | 0 => []
    | _ => []
theorem goodFw_eqIntS : ∀ f ms F, Ew_eqIntS.fn f = some (ms, F) → Sound Go.Proofs.Tryz.prog f ms F := fun f ms F h => by cases h
theorem goodBw_eqIntS : ∀ f ms F, Ew_eqIntS.bxf f = some (ms, F) → SoundB Go.Proofs.Tryz.prog f ms F := fun f ms F h => by cases h
theorem goodw_eqIntS : Good Go.Proofs.Tryz.prog Ew_eqIntS := ⟨rfl, goodFw_eqIntS, goodBw_eqIntS⟩
noncomputable def Ow_eqIntS_0 : Orc := fun _ _ => none
noncomputable def msw_eqIntS : List PM := [.rd, .rd]
noncomputable def lsw_eqIntS : List (Nat × Code) := loopsAll 0 (Go.Proofs.Tryz.f114.body.getD .skip)
noncomputable def cw_eqIntS_0 : Code := (loopOf 0 (Go.Proofs.Tryz.f114.body.getD .skip)).getD .skip
theorem lseqw_eqIntS : lsw_eqIntS = [(0, cw_eqIntS_0)] := by kernel_rfl
theorem mw_eqIntS_0 : ∀ p, p ∈ lsw_eqIntS → p.1 = 0 → p.2 = cw_eqIntS_0 := by
  intro p hp
  rw [lseqw_eqIntS] at hp
  simp only [List.mem_cons, List.not_mem_nil, or_false] at hp
  subst hp; simp
theorem kw_eqIntS_0 : OrcOk Ew_eqIntS Ow_eqIntS_0 lsw_eqIntS 0 := orcOk_none
noncomputable def hw_eqIntS_0 (y0 : List (Int)) (y1 : List (Int)) (y2 : Int) : List (Pl × LV) := [(.T 0, .t (.val false [.sl .any 3 (.int .i64) y0])), (.T 1, .t (.val false [.sl .any 3 (.int .i64) y1])), (.T 5, .t (.val false [.int .i64 y2]))]
noncomputable def g_Sw_eqIntS_0 (y0 : List (Int)) (y1 : List (Int)) : ((Int)) → RT ((Int)) (((Bool)) ⊕ (Unit))
  | y2 => .br (true) (.br (decide (y2 < (↑(List.length y0) : Int))) (.br (decide ((0 : Int) ≤ y2 ∧ y2 < (↑(List.length y0) : Int))) (.br (decide ((0 : Int) ≤ y2 ∧ y2 < (↑(List.length y1) : Int))) (.br (true) (.br (at_ (Ty.int IntKind.i64) y0 (Int.toNat y2) != at_ (Ty.int IntKind.i64) y1 (Int.toNat y2)) (.out (.inl false)) (.br (true) (.go (IntKind.wrap IntKind.i64 (y2 + (1 : Int)))) (.bad))) (.bad)) (.bad)) (.bad)) (.out (.inr (())))) (.bad)
noncomputable def g_Lw_eqIntS_0 (y0 : List (Int)) (y1 : List (Int)) (x : (Int)) : Option (((Bool)) ⊕ (Unit)) := loopO (g_Sw_eqIntS_0 y0 y1) x
noncomputable def xw_eqIntS_0 (y0 : List (Int)) (y1 : List (Int)) : (((Bool)) ⊕ (Unit)) → Ex × List (Pl × LV) := fun
  | .inl r => (.ret, [(.T 4, .t (.val false [.bool r]))])
  | .inr (r) => (.exit 0, [(.T 4, .t (.val false [.undef]))])
noncomputable def Ow_eqIntS_1 : Orc := fun b h => match b, h with
  | 0, [(.T 0, .t (.val false [.sl .any 3 (.int .i64) y0])), (.T 1, .t (.val false [.sl .any 3 (.int .i64) y1])), (.T 5, .t (.val false [.int .i64 y2]))] => some (okO (g_Lw_eqIntS_0 y0 y1 y2), (.br (isL (valO (g_Lw_eqIntS_0 y0 y1 y2))) (.leaf .ret [(.T 4, .t (.val false [.bool (getL (valO (g_Lw_eqIntS_0 y0 y1 y2)))]))]) (.leaf (.exit 0) [(.T 4, .t (.val false [.undef]))])))
  | b, h => Ow_eqIntS_0 b h
theorem bw_eqIntS_0 (y0 : List (Int)) (y1 : List (Int)) (y2 : Int) : Tr.bt Ew_eqIntS Ow_eqIntS_0 (exec Ew_eqIntS 0 cw_eqIntS_0 (St.of (hw_eqIntS_0 y0 y1 y2)) (leafRd Ew_eqIntS 0)) = (g_Sw_eqIntS_0 y0 y1 y2).bt (fun (y2 : (Int)) => (hw_eqIntS_0 y0 y1 y2)) (xw_eqIntS_0 y0 y1) := by kernel_rfl
theorem kw_eqIntS_1 : OrcOk Ew_eqIntS Ow_eqIntS_1 lsw_eqIntS 1 := orc_add kw_eqIntS_0 (fun n p hp h ex h' ho => by
  obtain ⟨b, c⟩ := p
  obtain ⟨xt, h1, h2⟩ := ho
  have h1 : Ow_eqIntS_1 b h = some (true, xt) := h1
  unfold Ow_eqIntS_1 at h1
  split at h1
  · injection h1 with h1
    injection h1 with e1 e2
    subst e2
    have hc : c = cw_eqIntS_0 := mw_eqIntS_0 _ hp rfl
    subst hc
    right
    rename_i y0 y1 y2
    have key := LT_step kw_eqIntS_0 hp (fun q hq => loopsAll_in _ _ _ _ hp hq) (fun (y2 : (Int)) => (hw_eqIntS_0 y0 y1 y2)) (xw_eqIntS_0 y0 y1) (g_Sw_eqIntS_0 y0 y1) (fun x => by first | exact bw_eqIntS_0 y0 y1 x) n (x := y2) (okO_some e1)
    have hx : ∀ r, XT.sel (.br (isL r) (.leaf .ret [(.T 4, .t (.val false [.bool (getL r)]))]) (.leaf (.exit 0) [(.T 4, .t (.val false [.undef]))])) = xw_eqIntS_0 y0 y1 r := fun r => by first | rfl | (rcases r with r | r <;> rfl) | (rcases r with r | r | r <;> rfl) | (rcases r with r | r | r | r <;> rfl)
    have h3 := (hx (valO (g_Lw_eqIntS_0 y0 y1 y2))).symm.trans h2
    have e3 := congrArg Prod.fst h3
    have e4 := congrArg Prod.snd h3
    simp only at e3 e4
    rw [← e3, ← e4]
    exact key
  · exact .inl ⟨xt, h1, h2⟩)
noncomputable def g_Aw_eqIntS (a0 : List (Int)) (a1 : List (Int)) : Bool := (↑(List.length a0) : Int) != (↑(List.length a1) : Int) || okO (g_Lw_eqIntS_0 a0 a1 (0 : Int))
noncomputable def g_Vw_eqIntS_0 (a0 : List (Int)) (a1 : List (Int)) : Bool := bif (↑(List.length a0) : Int) != (↑(List.length a1) : Int) then false else bif isL (valO (g_Lw_eqIntS_0 a0 a1 (0 : Int))) then getL (valO (g_Lw_eqIntS_0 a0 a1 (0 : Int))) else true
noncomputable def Fw_eqIntS : FSem := fun ys => match ys with
  | [.val false [.sl .any 3 (.int .i64) a0], .val false [.sl .any 3 (.int .i64) a1]] => some ((g_Aw_eqIntS a0 a1), .val false [.bool (g_Vw_eqIntS_0 a0 a1)], [])
  | _ => none
theorem vw_eqIntS (a0 : List (Int)) (a1 : List (Int)) : collapseH .std Ew_eqIntS Ow_eqIntS_1 (execFn Ew_eqIntS Go.Proofs.Tryz.f114 msw_eqIntS [.val false [.sl .any 3 (.int .i64) a0], .val false [.sl .any 3 (.int .i64) a1]]) = some ((g_Aw_eqIntS a0 a1), .val false [.bool (g_Vw_eqIntS_0 a0 a1)], []) := by kernel_rfl
theorem sw_eqIntS : Sound Go.Proofs.Tryz.prog 114 msw_eqIntS Fw_eqIntS := by
  refine fn_gen goodw_eqIntS (by kernel_rfl) .std (fn := Go.Proofs.Tryz.f114) (c := (Go.Proofs.Tryz.f114.body.getD .skip)) (o := Ow_eqIntS_1) (k := 1) (by kernel_rfl) (by kernel_rfl) (by kernel_rfl) (by kernel_rfl) (by decide) kw_eqIntS_1 ?_
  intro ys r outs h
  unfold Fw_eqIntS at h
  split at h
  · exact (vw_eqIntS _ _).trans h
  · cases h
end Go.Proofs.YtnbcdkbjmpadmaaGreatDoor.E
end
section
namespace Go.Proofs.YtnbcdkbjmpadmaaGreatDoor.E
open Go
set_option maxRecDepth 100000
set_option maxHeartbeats 0
set_option linter.all false
noncomputable def Ew_eqStoWrite : Env where
  tt := mkTI Go.Proofs.Tryz.prog
  fn := fun f => match f with
    | 114 => some (msw_eqIntS, FSem.wk msw_eqIntS Fw_eqIntS)
    | _ => none
  bxf := fun _ => none
  mv := []
  keep := fun _ => []
  keepB := fun _ => []
  keepX := fun _ => []
  keepXB := fun _ => []
theorem goodFw_eqStoWrite : ∀ f ms F, Ew_eqStoWrite.fn f = some (ms, F) → Sound Go.Proofs.Tryz.prog f ms F := fun f ms F h => by
  unfold Ew_eqStoWrite at h
  dsimp only at h
  split at h
  · injection h with h; injection h with e1 e2; subst e1 e2; exact Sound.wk sw_eqIntS
  · cases h
theorem goodBw_eqStoWrite : ∀ f ms F, Ew_eqStoWrite.bxf f = some (ms, F) → SoundB Go.Proofs.Tryz.prog f ms F := fun f ms F h => by cases h
theorem goodw_eqStoWrite : Good Go.Proofs.Tryz.prog Ew_eqStoWrite := ⟨rfl, goodFw_eqStoWrite, goodBw_eqStoWrite⟩
noncomputable def Ow_eqStoWrite_0 : Orc := fun _ _ => none
noncomputable def msw_eqStoWrite : List PM := [.rd, .rd]
noncomputable def lsw_eqStoWrite : List (Nat × Code) := loopsAll 0 (Go.Proofs.Tryz.f86.body.getD .skip)

theorem kw_eqStoWrite_0 : OrcOk Ew_eqStoWrite Ow_eqStoWrite_0 lsw_eqStoWrite 0 := orcOk_none
noncomputable def g_Aw_eqStoWrite (a0 : ByteArray) (a1 : Bool) (a2 : List (Int)) (a3 : ByteArray) (a4 : Bool) (a5 : List (Int)) : Bool := !ByteArray.toList a0 == ByteArray.toList a3 || (!a1 == a4 || g_Aw_eqIntS a2 a5)
noncomputable def g_Vw_eqStoWrite_0 (a0 : ByteArray) (a1 : Bool) (a2 : List (Int)) (a3 : ByteArray) (a4 : Bool) (a5 : List (Int)) : Bool := bif !ByteArray.toList a0 == ByteArray.toList a3 then false else bif !a1 == a4 then false else bif !g_Vw_eqIntS_0 a2 a5 then false else true
noncomputable def Fw_eqStoWrite : FSem := fun ys => match ys with
  | [.val true [.str a0, .bool a1, .sl .any 3 (.int .i64) a2], .val true [.str a3, .bool a4, .sl .any 3 (.int .i64) a5]] => some ((g_Aw_eqStoWrite a0 a1 a2 a3 a4 a5), .val false [.bool (g_Vw_eqStoWrite_0 a0 a1 a2 a3 a4 a5)], [])
  | _ => none
theorem vw_eqStoWrite (a0 : ByteArray) (a1 : Bool) (a2 : List (Int)) (a3 : ByteArray) (a4 : Bool) (a5 : List (Int)) : collapseH .std Ew_eqStoWrite Ow_eqStoWrite_0 (execFn Ew_eqStoWrite Go.Proofs.Tryz.f86 msw_eqStoWrite [.val true [.str a0, .bool a1, .sl .any 3 (.int .i64) a2], .val true [.str a3, .bool a4, .sl .any 3 (.int .i64) a5]]) = some ((g_Aw_eqStoWrite a0 a1 a2 a3 a4 a5), .val false [.bool (g_Vw_eqStoWrite_0 a0 a1 a2 a3 a4 a5)], []) := by kernel_rfl
theorem sw_eqStoWrite : Sound Go.Proofs.Tryz.prog 86 msw_eqStoWrite Fw_eqStoWrite := by
  refine fn_gen goodw_eqStoWrite (by kernel_rfl) .std (fn := Go.Proofs.Tryz.f86) (c := (Go.Proofs.Tryz.f86.body.getD .skip)) (o := Ow_eqStoWrite_0) (k := 0) (by kernel_rfl) (by kernel_rfl) (by kernel_rfl) (by kernel_rfl) (by decide) kw_eqStoWrite_0 ?_
  intro ys r outs h
  unfold Fw_eqStoWrite at h
  split at h
  · exact (vw_eqStoWrite _ _ _ _ _ _).trans h
  · cases h
end Go.Proofs.YtnbcdkbjmpadmaaGreatDoor.E
end
section
namespace Go.Proofs.YtnbcdkbjmpadmaaGreatDoor.E
open Go
set_option maxRecDepth 100000
set_option maxHeartbeats 0
set_option linter.all false
noncomputable def Ew_eqStoWriteS : Env where
  tt := mkTI Go.Proofs.Tryz.prog
  fn := fun f => match f with
    | 86 => some (msw_eqStoWrite, FSem.wk msw_eqStoWrite Fw_eqStoWrite)
    | _ => none
  bxf := fun _ => none
  mv := []
  keep := fun b => match b with
    | 0 => [(0, false), (1, false), (5, false)]
    | _ => []
  keepB := fun b => match b with
    | 0 => []
    | _ => []
  keepX := fun b => match b with
    | 0 => [(4, false)]
    | _ => []
  keepXB := fun b => match b with
    | 0 => []
    | _ => []
theorem goodFw_eqStoWriteS : ∀ f ms F, Ew_eqStoWriteS.fn f = some (ms, F) → Sound Go.Proofs.Tryz.prog f ms F := fun f ms F h => by
  unfold Ew_eqStoWriteS at h
  dsimp only at h
  split at h
  · injection h with h; injection h with e1 e2; subst e1 e2; exact Sound.wk sw_eqStoWrite
  · cases h
theorem goodBw_eqStoWriteS : ∀ f ms F, Ew_eqStoWriteS.bxf f = some (ms, F) → SoundB Go.Proofs.Tryz.prog f ms F := fun f ms F h => by cases h
theorem goodw_eqStoWriteS : Good Go.Proofs.Tryz.prog Ew_eqStoWriteS := ⟨rfl, goodFw_eqStoWriteS, goodBw_eqStoWriteS⟩
noncomputable def Ow_eqStoWriteS_0 : Orc := fun _ _ => none
noncomputable def msw_eqStoWriteS : List PM := [.rd, .rd]
noncomputable def lsw_eqStoWriteS : List (Nat × Code) := loopsAll 0 (Go.Proofs.Tryz.f48.body.getD .skip)
noncomputable def cw_eqStoWriteS_0 : Code := (loopOf 0 (Go.Proofs.Tryz.f48.body.getD .skip)).getD .skip
theorem lseqw_eqStoWriteS : lsw_eqStoWriteS = [(0, cw_eqStoWriteS_0)] := by kernel_rfl
theorem mw_eqStoWriteS_0 : ∀ p, p ∈ lsw_eqStoWriteS → p.1 = 0 → p.2 = cw_eqStoWriteS_0 := by
  intro p hp
  rw [lseqw_eqStoWriteS] at hp
  simp only [List.mem_cons, List.not_mem_nil, or_false] at hp
  subst hp; simp
theorem kw_eqStoWriteS_0 : OrcOk Ew_eqStoWriteS Ow_eqStoWriteS_0 lsw_eqStoWriteS 0 := orcOk_none
noncomputable def hw_eqStoWriteS_0 (y0 : List ((ByteArray) × ((Bool) × (List (Int))))) (y1 : List ((ByteArray) × ((Bool) × (List (Int))))) (y2 : Int) : List (Pl × LV) := [(.T 0, .t (.val false [.sl .any 50 (.pair .str (.pair .bool (.sl 3 (.int .i64)))) y0])), (.T 1, .t (.val false [.sl .any 50 (.pair .str (.pair .bool (.sl 3 (.int .i64)))) y1])), (.T 5, .t (.val false [.int .i64 y2]))]
noncomputable def g_Sw_eqStoWriteS_0 (y0 : List ((ByteArray) × ((Bool) × (List (Int))))) (y1 : List ((ByteArray) × ((Bool) × (List (Int))))) : ((Int)) → RT ((Int)) (((Bool)) ⊕ (Unit))
  | y2 => .br (true) (.br (decide (y2 < (↑(List.length y0) : Int))) (.br (decide ((0 : Int) ≤ y2 ∧ y2 < (↑(List.length y0) : Int))) (.br (decide ((0 : Int) ≤ y2 ∧ y2 < (↑(List.length y1) : Int))) (.br (g_Aw_eqStoWrite (at_ (Ty.pair Ty.str (Ty.pair Ty.bool (Ty.sl (nat_lit 3) (Ty.int IntKind.i64)))) y0 (Int.toNat y2)).1 (at_ (Ty.pair Ty.str (Ty.pair Ty.bool (Ty.sl (nat_lit 3) (Ty.int IntKind.i64)))) y0 (Int.toNat y2)).2.1 (at_ (Ty.pair Ty.str (Ty.pair Ty.bool (Ty.sl (nat_lit 3) (Ty.int IntKind.i64)))) y0 (Int.toNat y2)).2.2 (at_ (Ty.pair Ty.str (Ty.pair Ty.bool (Ty.sl (nat_lit 3) (Ty.int IntKind.i64)))) y1 (Int.toNat y2)).1 (at_ (Ty.pair Ty.str (Ty.pair Ty.bool (Ty.sl (nat_lit 3) (Ty.int IntKind.i64)))) y1 (Int.toNat y2)).2.1 (at_ (Ty.pair Ty.str (Ty.pair Ty.bool (Ty.sl (nat_lit 3) (Ty.int IntKind.i64)))) y1 (Int.toNat y2)).2.2) (.br (!g_Vw_eqStoWrite_0 (at_ (Ty.pair Ty.str (Ty.pair Ty.bool (Ty.sl (nat_lit 3) (Ty.int IntKind.i64)))) y0 (Int.toNat y2)).1 (at_ (Ty.pair Ty.str (Ty.pair Ty.bool (Ty.sl (nat_lit 3) (Ty.int IntKind.i64)))) y0 (Int.toNat y2)).2.1 (at_ (Ty.pair Ty.str (Ty.pair Ty.bool (Ty.sl (nat_lit 3) (Ty.int IntKind.i64)))) y0 (Int.toNat y2)).2.2 (at_ (Ty.pair Ty.str (Ty.pair Ty.bool (Ty.sl (nat_lit 3) (Ty.int IntKind.i64)))) y1 (Int.toNat y2)).1 (at_ (Ty.pair Ty.str (Ty.pair Ty.bool (Ty.sl (nat_lit 3) (Ty.int IntKind.i64)))) y1 (Int.toNat y2)).2.1 (at_ (Ty.pair Ty.str (Ty.pair Ty.bool (Ty.sl (nat_lit 3) (Ty.int IntKind.i64)))) y1 (Int.toNat y2)).2.2) (.out (.inl false)) (.br (true) (.go (IntKind.wrap IntKind.i64 (y2 + (1 : Int)))) (.bad))) (.bad)) (.bad)) (.bad)) (.out (.inr (())))) (.bad)
noncomputable def g_Lw_eqStoWriteS_0 (y0 : List ((ByteArray) × ((Bool) × (List (Int))))) (y1 : List ((ByteArray) × ((Bool) × (List (Int))))) (x : (Int)) : Option (((Bool)) ⊕ (Unit)) := loopO (g_Sw_eqStoWriteS_0 y0 y1) x
noncomputable def xw_eqStoWriteS_0 (y0 : List ((ByteArray) × ((Bool) × (List (Int))))) (y1 : List ((ByteArray) × ((Bool) × (List (Int))))) : (((Bool)) ⊕ (Unit)) → Ex × List (Pl × LV) := fun
  | .inl r => (.ret, [(.T 4, .t (.val false [.bool r]))])
  | .inr (r) => (.exit 0, [(.T 4, .t (.val false [.undef]))])
noncomputable def Ow_eqStoWriteS_1 : Orc := fun b h => match b, h with
  | 0, [(.T 0, .t (.val false [.sl .any 50 (.pair .str (.pair .bool (.sl 3 (.int .i64)))) y0])), (.T 1, .t (.val false [.sl .any 50 (.pair .str (.pair .bool (.sl 3 (.int .i64)))) y1])), (.T 5, .t (.val false [.int .i64 y2]))] => some (okO (g_Lw_eqStoWriteS_0 y0 y1 y2), (.br (isL (valO (g_Lw_eqStoWriteS_0 y0 y1 y2))) (.leaf .ret [(.T 4, .t (.val false [.bool (getL (valO (g_Lw_eqStoWriteS_0 y0 y1 y2)))]))]) (.leaf (.exit 0) [(.T 4, .t (.val false [.undef]))])))
  | b, h => Ow_eqStoWriteS_0 b h
theorem bw_eqStoWriteS_0 (y0 : List ((ByteArray) × ((Bool) × (List (Int))))) (y1 : List ((ByteArray) × ((Bool) × (List (Int))))) (y2 : Int) : Tr.bt Ew_eqStoWriteS Ow_eqStoWriteS_0 (exec Ew_eqStoWriteS 0 cw_eqStoWriteS_0 (St.of (hw_eqStoWriteS_0 y0 y1 y2)) (leafRd Ew_eqStoWriteS 0)) = (g_Sw_eqStoWriteS_0 y0 y1 y2).bt (fun (y2 : (Int)) => (hw_eqStoWriteS_0 y0 y1 y2)) (xw_eqStoWriteS_0 y0 y1) := by kernel_rfl
theorem kw_eqStoWriteS_1 : OrcOk Ew_eqStoWriteS Ow_eqStoWriteS_1 lsw_eqStoWriteS 1 := orc_add kw_eqStoWriteS_0 (fun n p hp h ex h' ho => by
  obtain ⟨b, c⟩ := p
  obtain ⟨xt, h1, h2⟩ := ho
  have h1 : Ow_eqStoWriteS_1 b h = some (true, xt) := h1
  unfold Ow_eqStoWriteS_1 at h1
  split at h1
  · injection h1 with h1
    injection h1 with e1 e2
    subst e2
    have hc : c = cw_eqStoWriteS_0 := mw_eqStoWriteS_0 _ hp rfl
    subst hc
    right
    rename_i y0 y1 y2
    have key := LT_step kw_eqStoWriteS_0 hp (fun q hq => loopsAll_in _ _ _ _ hp hq) (fun (y2 : (Int)) => (hw_eqStoWriteS_0 y0 y1 y2)) (xw_eqStoWriteS_0 y0 y1) (g_Sw_eqStoWriteS_0 y0 y1) (fun x => by first | exact bw_eqStoWriteS_0 y0 y1 x) n (x := y2) (okO_some e1)
    have hx : ∀ r, XT.sel (.br (isL r) (.leaf .ret [(.T 4, .t (.val false [.bool (getL r)]))]) (.leaf (.exit 0) [(.T 4, .t (.val false [.undef]))])) = xw_eqStoWriteS_0 y0 y1 r := fun r => by first | rfl | (rcases r with r | r <;> rfl) | (rcases r with r | r | r <;> rfl) | (rcases r with r | r | r | r <;> rfl)
    have h3 := (hx (valO (g_Lw_eqStoWriteS_0 y0 y1 y2))).symm.trans h2
    have e3 := congrArg Prod.fst h3
    have e4 := congrArg Prod.snd h3
    simp only at e3 e4
    rw [← e3, ← e4]
    exact key
  · exact .inl ⟨xt, h1, h2⟩)
noncomputable def g_Aw_eqStoWriteS (a0 : List ((ByteArray) × ((Bool) × (List (Int))))) (a1 : List ((ByteArray) × ((Bool) × (List (Int))))) : Bool := (↑(List.length a0) : Int) != (↑(List.length a1) : Int) || okO (g_Lw_eqStoWriteS_0 a0 a1 (0 : Int))
noncomputable def g_Vw_eqStoWriteS_0 (a0 : List ((ByteArray) × ((Bool) × (List (Int))))) (a1 : List ((ByteArray) × ((Bool) × (List (Int))))) : Bool := bif (↑(List.length a0) : Int) != (↑(List.length a1) : Int) then false else bif isL (valO (g_Lw_eqStoWriteS_0 a0 a1 (0 : Int))) then getL (valO (g_Lw_eqStoWriteS_0 a0 a1 (0 : Int))) else true
noncomputable def Fw_eqStoWriteS : FSem := fun ys => match ys with
  | [.val false [.sl .any 50 (.pair .str (.pair .bool (.sl 3 (.int .i64)))) a0], .val false [.sl .any 50 (.pair .str (.pair .bool (.sl 3 (.int .i64)))) a1]] => some ((g_Aw_eqStoWriteS a0 a1), .val false [.bool (g_Vw_eqStoWriteS_0 a0 a1)], [])
  | _ => none
theorem vw_eqStoWriteS (a0 : List ((ByteArray) × ((Bool) × (List (Int))))) (a1 : List ((ByteArray) × ((Bool) × (List (Int))))) : collapseH .std Ew_eqStoWriteS Ow_eqStoWriteS_1 (execFn Ew_eqStoWriteS Go.Proofs.Tryz.f48 msw_eqStoWriteS [.val false [.sl .any 50 (.pair .str (.pair .bool (.sl 3 (.int .i64)))) a0], .val false [.sl .any 50 (.pair .str (.pair .bool (.sl 3 (.int .i64)))) a1]]) = some ((g_Aw_eqStoWriteS a0 a1), .val false [.bool (g_Vw_eqStoWriteS_0 a0 a1)], []) := by kernel_rfl
theorem sw_eqStoWriteS : Sound Go.Proofs.Tryz.prog 48 msw_eqStoWriteS Fw_eqStoWriteS := by
  refine fn_gen goodw_eqStoWriteS (by kernel_rfl) .std (fn := Go.Proofs.Tryz.f48) (c := (Go.Proofs.Tryz.f48.body.getD .skip)) (o := Ow_eqStoWriteS_1) (k := 1) (by kernel_rfl) (by kernel_rfl) (by kernel_rfl) (by kernel_rfl) (by decide) kw_eqStoWriteS_1 ?_
  intro ys r outs h
  unfold Fw_eqStoWriteS at h
  split at h
  · exact (vw_eqStoWriteS _ _).trans h
  · cases h
end Go.Proofs.YtnbcdkbjmpadmaaGreatDoor.E
end
section
namespace Go.Proofs.YtnbcdkbjmpadmaaGreatDoor.E
open Go
set_option maxRecDepth 100000
set_option maxHeartbeats 0
set_option linter.all false
noncomputable def Ew_eqStringS : Env where
  tt := mkTI Go.Proofs.Tryz.prog
  fn := fun _ => none
  bxf := fun _ => none
  mv := []
  keep := fun b => match b with
    | 0 => [(0, false), (1, false), (5, false)]
    | _ => []
  keepB := fun b => match b with
    | 0 => []
    | _ => []
  keepX := fun b => match b with
    | 0 => [(4, false)]
    | _ => []
  keepXB := fun b => match b with
    | 0 => []
    | _ => []
theorem goodFw_eqStringS : ∀ f ms F, Ew_eqStringS.fn f = some (ms, F) → Sound Go.Proofs.Tryz.prog f ms F := fun f ms F h => by cases h
theorem goodBw_eqStringS : ∀ f ms F, Ew_eqStringS.bxf f = some (ms, F) → SoundB Go.Proofs.Tryz.prog f ms F := fun f ms F h => by cases h
theorem goodw_eqStringS : Good Go.Proofs.Tryz.prog Ew_eqStringS := ⟨rfl, goodFw_eqStringS, goodBw_eqStringS⟩
noncomputable def Ow_eqStringS_0 : Orc := fun _ _ => none
noncomputable def msw_eqStringS : List PM := [.rd, .rd]
noncomputable def lsw_eqStringS : List (Nat × Code) := loopsAll 0 (Go.Proofs.Tryz.f47.body.getD .skip)
noncomputable def cw_eqStringS_0 : Code := (loopOf 0 (Go.Proofs.Tryz.f47.body.getD .skip)).getD .skip
theorem lseqw_eqStringS : lsw_eqStringS = [(0, cw_eqStringS_0)] := by kernel_rfl
theorem mw_eqStringS_0 : ∀ p, p ∈ lsw_eqStringS → p.1 = 0 → p.2 = cw_eqStringS_0 := by
  intro p hp
  rw [lseqw_eqStringS] at hp
  simp only [List.mem_cons, List.not_mem_nil, or_false] at hp
  subst hp; simp
theorem kw_eqStringS_0 : OrcOk Ew_eqStringS Ow_eqStringS_0 lsw_eqStringS 0 := orcOk_none
noncomputable def hw_eqStringS_0 (y0 : List (ByteArray)) (y1 : List (ByteArray)) (y2 : Int) : List (Pl × LV) := [(.T 0, .t (.val false [.sl .any 9 .str y0])), (.T 1, .t (.val false [.sl .any 9 .str y1])), (.T 5, .t (.val false [.int .i64 y2]))]
noncomputable def g_Sw_eqStringS_0 (y0 : List (ByteArray)) (y1 : List (ByteArray)) : ((Int)) → RT ((Int)) (((Bool)) ⊕ (Unit))
  | y2 => .br (true) (.br (decide (y2 < (↑(List.length y0) : Int))) (.br (decide ((0 : Int) ≤ y2 ∧ y2 < (↑(List.length y0) : Int))) (.br (decide ((0 : Int) ≤ y2 ∧ y2 < (↑(List.length y1) : Int))) (.br (true) (.br (!ByteArray.toList (at_ Ty.str y0 (Int.toNat y2)) == ByteArray.toList (at_ Ty.str y1 (Int.toNat y2))) (.out (.inl false)) (.br (true) (.go (IntKind.wrap IntKind.i64 (y2 + (1 : Int)))) (.bad))) (.bad)) (.bad)) (.bad)) (.out (.inr (())))) (.bad)
noncomputable def g_Lw_eqStringS_0 (y0 : List (ByteArray)) (y1 : List (ByteArray)) (x : (Int)) : Option (((Bool)) ⊕ (Unit)) := loopO (g_Sw_eqStringS_0 y0 y1) x
noncomputable def xw_eqStringS_0 (y0 : List (ByteArray)) (y1 : List (ByteArray)) : (((Bool)) ⊕ (Unit)) → Ex × List (Pl × LV) := fun
  | .inl r => (.ret, [(.T 4, .t (.val false [.bool r]))])
  | .inr (r) => (.exit 0, [(.T 4, .t (.val false [.undef]))])
noncomputable def Ow_eqStringS_1 : Orc := fun b h => match b, h with
  | 0, [(.T 0, .t (.val false [.sl .any 9 .str y0])), (.T 1, .t (.val false [.sl .any 9 .str y1])), (.T 5, .t (.val false [.int .i64 y2]))] => some (okO (g_Lw_eqStringS_0 y0 y1 y2), (.br (isL (valO (g_Lw_eqStringS_0 y0 y1 y2))) (.leaf .ret [(.T 4, .t (.val false [.bool (getL (valO (g_Lw_eqStringS_0 y0 y1 y2)))]))]) (.leaf (.exit 0) [(.T 4, .t (.val false [.undef]))])))
  | b, h => Ow_eqStringS_0 b h
theorem bw_eqStringS_0 (y0 : List (ByteArray)) (y1 : List (ByteArray)) (y2 : Int) : Tr.bt Ew_eqStringS Ow_eqStringS_0 (exec Ew_eqStringS 0 cw_eqStringS_0 (St.of (hw_eqStringS_0 y0 y1 y2)) (leafRd Ew_eqStringS 0)) = (g_Sw_eqStringS_0 y0 y1 y2).bt (fun (y2 : (Int)) => (hw_eqStringS_0 y0 y1 y2)) (xw_eqStringS_0 y0 y1) := by kernel_rfl
theorem kw_eqStringS_1 : OrcOk Ew_eqStringS Ow_eqStringS_1 lsw_eqStringS 1 := orc_add kw_eqStringS_0 (fun n p hp h ex h' ho => by
  obtain ⟨b, c⟩ := p
  obtain ⟨xt, h1, h2⟩ := ho
  have h1 : Ow_eqStringS_1 b h = some (true, xt) := h1
  unfold Ow_eqStringS_1 at h1
  split at h1
  · injection h1 with h1
    injection h1 with e1 e2
    subst e2
    have hc : c = cw_eqStringS_0 := mw_eqStringS_0 _ hp rfl
    subst hc
    right
    rename_i y0 y1 y2
    have key := LT_step kw_eqStringS_0 hp (fun q hq => loopsAll_in _ _ _ _ hp hq) (fun (y2 : (Int)) => (hw_eqStringS_0 y0 y1 y2)) (xw_eqStringS_0 y0 y1) (g_Sw_eqStringS_0 y0 y1) (fun x => by first | exact bw_eqStringS_0 y0 y1 x) n (x := y2) (okO_some e1)
    have hx : ∀ r, XT.sel (.br (isL r) (.leaf .ret [(.T 4, .t (.val false [.bool (getL r)]))]) (.leaf (.exit 0) [(.T 4, .t (.val false [.undef]))])) = xw_eqStringS_0 y0 y1 r := fun r => by first | rfl | (rcases r with r | r <;> rfl) | (rcases r with r | r | r <;> rfl) | (rcases r with r | r | r | r <;> rfl)
    have h3 := (hx (valO (g_Lw_eqStringS_0 y0 y1 y2))).symm.trans h2
    have e3 := congrArg Prod.fst h3
    have e4 := congrArg Prod.snd h3
    simp only at e3 e4
    rw [← e3, ← e4]
    exact key
  · exact .inl ⟨xt, h1, h2⟩)
noncomputable def g_Aw_eqStringS (a0 : List (ByteArray)) (a1 : List (ByteArray)) : Bool := (↑(List.length a0) : Int) != (↑(List.length a1) : Int) || okO (g_Lw_eqStringS_0 a0 a1 (0 : Int))
noncomputable def g_Vw_eqStringS_0 (a0 : List (ByteArray)) (a1 : List (ByteArray)) : Bool := bif (↑(List.length a0) : Int) != (↑(List.length a1) : Int) then false else bif isL (valO (g_Lw_eqStringS_0 a0 a1 (0 : Int))) then getL (valO (g_Lw_eqStringS_0 a0 a1 (0 : Int))) else true
noncomputable def Fw_eqStringS : FSem := fun ys => match ys with
  | [.val false [.sl .any 9 .str a0], .val false [.sl .any 9 .str a1]] => some ((g_Aw_eqStringS a0 a1), .val false [.bool (g_Vw_eqStringS_0 a0 a1)], [])
  | _ => none
theorem vw_eqStringS (a0 : List (ByteArray)) (a1 : List (ByteArray)) : collapseH .std Ew_eqStringS Ow_eqStringS_1 (execFn Ew_eqStringS Go.Proofs.Tryz.f47 msw_eqStringS [.val false [.sl .any 9 .str a0], .val false [.sl .any 9 .str a1]]) = some ((g_Aw_eqStringS a0 a1), .val false [.bool (g_Vw_eqStringS_0 a0 a1)], []) := by kernel_rfl
theorem sw_eqStringS : Sound Go.Proofs.Tryz.prog 47 msw_eqStringS Fw_eqStringS := by
  refine fn_gen goodw_eqStringS (by kernel_rfl) .std (fn := Go.Proofs.Tryz.f47) (c := (Go.Proofs.Tryz.f47.body.getD .skip)) (o := Ow_eqStringS_1) (k := 1) (by kernel_rfl) (by kernel_rfl) (by kernel_rfl) (by kernel_rfl) (by decide) kw_eqStringS_1 ?_
  intro ys r outs h
  unfold Fw_eqStringS at h
  split at h
  · exact (vw_eqStringS _ _).trans h
  · cases h
end Go.Proofs.YtnbcdkbjmpadmaaGreatDoor.E
end
section
namespace Go.Proofs.YtnbcdkbjmpadmaaGreatDoor.E
open Go
set_option maxRecDepth 100000
set_option maxHeartbeats 0
set_option linter.all false
noncomputable def Ew_eqOpPlan : Env where
  tt := mkTI Go.Proofs.Tryz.prog
  fn := fun f => match f with
    | 47 => some (msw_eqStringS, FSem.wk msw_eqStringS Fw_eqStringS)
    | 48 => some (msw_eqStoWriteS, FSem.wk msw_eqStoWriteS Fw_eqStoWriteS)
    | _ => none
  bxf := fun _ => none
  mv := []
  keep := fun _ => []
  keepB := fun _ => []
  keepX := fun _ => []
  keepXB := fun _ => []
theorem goodFw_eqOpPlan : ∀ f ms F, Ew_eqOpPlan.fn f = some (ms, F) → Sound Go.Proofs.Tryz.prog f ms F := fun f ms F h => by
  unfold Ew_eqOpPlan at h
  dsimp only at h
  split at h
  · injection h with h; injection h with e1 e2; subst e1 e2; exact Sound.wk sw_eqStringS
  · injection h with h; injection h with e1 e2; subst e1 e2; exact Sound.wk sw_eqStoWriteS
  · cases h
theorem goodBw_eqOpPlan : ∀ f ms F, Ew_eqOpPlan.bxf f = some (ms, F) → SoundB Go.Proofs.Tryz.prog f ms F := fun f ms F h => by cases h
theorem goodw_eqOpPlan : Good Go.Proofs.Tryz.prog Ew_eqOpPlan := ⟨rfl, goodFw_eqOpPlan, goodBw_eqOpPlan⟩
noncomputable def Ow_eqOpPlan_0 : Orc := fun _ _ => none
noncomputable def msw_eqOpPlan : List PM := [.rd, .rd]
noncomputable def lsw_eqOpPlan : List (Nat × Code) := loopsAll 0 (Go.Proofs.Tryz.f13.body.getD .skip)

theorem kw_eqOpPlan_0 : OrcOk Ew_eqOpPlan Ow_eqOpPlan_0 lsw_eqOpPlan 0 := orcOk_none
noncomputable def g_Aw_eqOpPlan (a0 : Bool) (a1 : List (ByteArray)) (a2 : List ((ByteArray) × ((Bool) × (List (Int))))) (a3 : Bool) (a4 : List (ByteArray)) (a5 : List ((ByteArray) × ((Bool) × (List (Int))))) : Bool := !a0 == a3 || g_Aw_eqStringS a1 a4 && (!g_Vw_eqStringS_0 a1 a4 || g_Aw_eqStoWriteS a2 a5)
noncomputable def g_Vw_eqOpPlan_0 (a0 : Bool) (a1 : List (ByteArray)) (a2 : List ((ByteArray) × ((Bool) × (List (Int))))) (a3 : Bool) (a4 : List (ByteArray)) (a5 : List ((ByteArray) × ((Bool) × (List (Int))))) : Bool := bif !a0 == a3 then false else bif !g_Vw_eqStringS_0 a1 a4 then false else bif !g_Vw_eqStoWriteS_0 a2 a5 then false else true
noncomputable def Fw_eqOpPlan : FSem := fun ys => match ys with
  | [.val true [.bool a0, .sl .any 9 .str a1, .sl .any 50 (.pair .str (.pair .bool (.sl 3 (.int .i64)))) a2], .val true [.bool a3, .sl .any 9 .str a4, .sl .any 50 (.pair .str (.pair .bool (.sl 3 (.int .i64)))) a5]] => some ((g_Aw_eqOpPlan a0 a1 a2 a3 a4 a5), .val false [.bool (g_Vw_eqOpPlan_0 a0 a1 a2 a3 a4 a5)], [])
  | _ => none
theorem vw_eqOpPlan (a0 : Bool) (a1 : List (ByteArray)) (a2 : List ((ByteArray) × ((Bool) × (List (Int))))) (a3 : Bool) (a4 : List (ByteArray)) (a5 : List ((ByteArray) × ((Bool) × (List (Int))))) : collapseH .std Ew_eqOpPlan Ow_eqOpPlan_0 (execFn Ew_eqOpPlan Go.Proofs.Tryz.f13 msw_eqOpPlan [.val true [.bool a0, .sl .any 9 .str a1, .sl .any 50 (.pair .str (.pair .bool (.sl 3 (.int .i64)))) a2], .val true [.bool a3, .sl .any 9 .str a4, .sl .any 50 (.pair .str (.pair .bool (.sl 3 (.int .i64)))) a5]]) = some ((g_Aw_eqOpPlan a0 a1 a2 a3 a4 a5), .val false [.bool (g_Vw_eqOpPlan_0 a0 a1 a2 a3 a4 a5)], []) := by kernel_rfl
theorem sw_eqOpPlan : Sound Go.Proofs.Tryz.prog 13 msw_eqOpPlan Fw_eqOpPlan := by
  refine fn_gen goodw_eqOpPlan (by kernel_rfl) .std (fn := Go.Proofs.Tryz.f13) (c := (Go.Proofs.Tryz.f13.body.getD .skip)) (o := Ow_eqOpPlan_0) (k := 0) (by kernel_rfl) (by kernel_rfl) (by kernel_rfl) (by kernel_rfl) (by decide) kw_eqOpPlan_0 ?_
  intro ys r outs h
  unfold Fw_eqOpPlan at h
  split at h
  · exact (vw_eqOpPlan _ _ _ _ _ _).trans h
  · cases h
end Go.Proofs.YtnbcdkbjmpadmaaGreatDoor.E
end
section
namespace Go.Proofs.YtnbcdkbjmpadmaaGreatDoor.E
open Go
set_option maxRecDepth 100000
set_option maxHeartbeats 0
set_option linter.all false
noncomputable def Ew_eqStoItem : Env where
  tt := mkTI Go.Proofs.Tryz.prog
  fn := fun f => match f with
    | 114 => some (msw_eqIntS, FSem.wk msw_eqIntS Fw_eqIntS)
    | _ => none
  bxf := fun _ => none
  mv := []
  keep := fun _ => []
  keepB := fun _ => []
  keepX := fun _ => []
  keepXB := fun _ => []
theorem goodFw_eqStoItem : ∀ f ms F, Ew_eqStoItem.fn f = some (ms, F) → Sound Go.Proofs.Tryz.prog f ms F := fun f ms F h => by
  unfold Ew_eqStoItem at h
  dsimp only at h
  split at h
  · injection h with h; injection h with e1 e2; subst e1 e2; exact Sound.wk sw_eqIntS
  · cases h
theorem goodBw_eqStoItem : ∀ f ms F, Ew_eqStoItem.bxf f = some (ms, F) → SoundB Go.Proofs.Tryz.prog f ms F := fun f ms F h => by cases h
theorem goodw_eqStoItem : Good Go.Proofs.Tryz.prog Ew_eqStoItem := ⟨rfl, goodFw_eqStoItem, goodBw_eqStoItem⟩
noncomputable def Ow_eqStoItem_0 : Orc := fun _ _ => none
noncomputable def msw_eqStoItem : List PM := [.rd, .rd]
noncomputable def lsw_eqStoItem : List (Nat × Code) := loopsAll 0 (Go.Proofs.Tryz.f87.body.getD .skip)

theorem kw_eqStoItem_0 : OrcOk Ew_eqStoItem Ow_eqStoItem_0 lsw_eqStoItem 0 := orcOk_none
noncomputable def g_Aw_eqStoItem (a0 : ByteArray) (a1 : List (Int)) (a2 : ByteArray) (a3 : List (Int)) : Bool := !ByteArray.toList a0 == ByteArray.toList a2 || g_Aw_eqIntS a1 a3
noncomputable def g_Vw_eqStoItem_0 (a0 : ByteArray) (a1 : List (Int)) (a2 : ByteArray) (a3 : List (Int)) : Bool := bif !ByteArray.toList a0 == ByteArray.toList a2 then false else bif !g_Vw_eqIntS_0 a1 a3 then false else true
noncomputable def Fw_eqStoItem : FSem := fun ys => match ys with
  | [.val true [.str a0, .sl .any 3 (.int .i64) a1], .val true [.str a2, .sl .any 3 (.int .i64) a3]] => some ((g_Aw_eqStoItem a0 a1 a2 a3), .val false [.bool (g_Vw_eqStoItem_0 a0 a1 a2 a3)], [])
  | _ => none
theorem vw_eqStoItem (a0 : ByteArray) (a1 : List (Int)) (a2 : ByteArray) (a3 : List (Int)) : collapseH .std Ew_eqStoItem Ow_eqStoItem_0 (execFn Ew_eqStoItem Go.Proofs.Tryz.f87 msw_eqStoItem [.val true [.str a0, .sl .any 3 (.int .i64) a1], .val true [.str a2, .sl .any 3 (.int .i64) a3]]) = some ((g_Aw_eqStoItem a0 a1 a2 a3), .val false [.bool (g_Vw_eqStoItem_0 a0 a1 a2 a3)], []) := by kernel_rfl
theorem sw_eqStoItem : Sound Go.Proofs.Tryz.prog 87 msw_eqStoItem Fw_eqStoItem := by
  refine fn_gen goodw_eqStoItem (by kernel_rfl) .std (fn := Go.Proofs.Tryz.f87) (c := (Go.Proofs.Tryz.f87.body.getD .skip)) (o := Ow_eqStoItem_0) (k := 0) (by kernel_rfl) (by kernel_rfl) (by kernel_rfl) (by kernel_rfl) (by decide) kw_eqStoItem_0 ?_
  intro ys r outs h
  unfold Fw_eqStoItem at h
  split at h
  · exact (vw_eqStoItem _ _ _ _).trans h
  · cases h
end Go.Proofs.YtnbcdkbjmpadmaaGreatDoor.E
end
section
namespace Go.Proofs.YtnbcdkbjmpadmaaGreatDoor.E
open Go
set_option maxRecDepth 100000
set_option maxHeartbeats 0
set_option linter.all false
noncomputable def Ew_eqStoItemS : Env where
  tt := mkTI Go.Proofs.Tryz.prog
  fn := fun f => match f with
    | 87 => some (msw_eqStoItem, FSem.wk msw_eqStoItem Fw_eqStoItem)
    | _ => none
  bxf := fun _ => none
  mv := []
  keep := fun b => match b with
    | 0 => [(0, false), (1, false), (5, false)]
    | _ => []
  keepB := fun b => match b with
    | 0 => []
    | _ => []
  keepX := fun b => match b with
    | 0 => [(4, false)]
    | _ => []
  keepXB := fun b => match b with
    | 0 => []
    | _ => []
theorem goodFw_eqStoItemS : ∀ f ms F, Ew_eqStoItemS.fn f = some (ms, F) → Sound Go.Proofs.Tryz.prog f ms F := fun f ms F h => by
  unfold Ew_eqStoItemS at h
  dsimp only at h
  split at h
  · injection h with h; injection h with e1 e2; subst e1 e2; exact Sound.wk sw_eqStoItem
  · cases h
theorem goodBw_eqStoItemS : ∀ f ms F, Ew_eqStoItemS.bxf f = some (ms, F) → SoundB Go.Proofs.Tryz.prog f ms F := fun f ms F h => by cases h
theorem goodw_eqStoItemS : Good Go.Proofs.Tryz.prog Ew_eqStoItemS := ⟨rfl, goodFw_eqStoItemS, goodBw_eqStoItemS⟩
noncomputable def Ow_eqStoItemS_0 : Orc := fun _ _ => none
noncomputable def msw_eqStoItemS : List PM := [.rd, .rd]
noncomputable def lsw_eqStoItemS : List (Nat × Code) := loopsAll 0 (Go.Proofs.Tryz.f49.body.getD .skip)
noncomputable def cw_eqStoItemS_0 : Code := (loopOf 0 (Go.Proofs.Tryz.f49.body.getD .skip)).getD .skip
theorem lseqw_eqStoItemS : lsw_eqStoItemS = [(0, cw_eqStoItemS_0)] := by kernel_rfl
theorem mw_eqStoItemS_0 : ∀ p, p ∈ lsw_eqStoItemS → p.1 = 0 → p.2 = cw_eqStoItemS_0 := by
  intro p hp
  rw [lseqw_eqStoItemS] at hp
  simp only [List.mem_cons, List.not_mem_nil, or_false] at hp
  subst hp; simp
theorem kw_eqStoItemS_0 : OrcOk Ew_eqStoItemS Ow_eqStoItemS_0 lsw_eqStoItemS 0 := orcOk_none
noncomputable def hw_eqStoItemS_0 (y0 : List ((ByteArray) × (List (Int)))) (y1 : List ((ByteArray) × (List (Int)))) (y2 : Int) : List (Pl × LV) := [(.T 0, .t (.val false [.sl .any 60 (.pair .str (.sl 3 (.int .i64))) y0])), (.T 1, .t (.val false [.sl .any 60 (.pair .str (.sl 3 (.int .i64))) y1])), (.T 5, .t (.val false [.int .i64 y2]))]
noncomputable def g_Sw_eqStoItemS_0 (y0 : List ((ByteArray) × (List (Int)))) (y1 : List ((ByteArray) × (List (Int)))) : ((Int)) → RT ((Int)) (((Bool)) ⊕ (Unit))
  | y2 => .br (true) (.br (decide (y2 < (↑(List.length y0) : Int))) (.br (decide ((0 : Int) ≤ y2 ∧ y2 < (↑(List.length y0) : Int))) (.br (decide ((0 : Int) ≤ y2 ∧ y2 < (↑(List.length y1) : Int))) (.br (g_Aw_eqStoItem (at_ (Ty.pair Ty.str (Ty.sl (nat_lit 3) (Ty.int IntKind.i64))) y0 (Int.toNat y2)).1 (at_ (Ty.pair Ty.str (Ty.sl (nat_lit 3) (Ty.int IntKind.i64))) y0 (Int.toNat y2)).2 (at_ (Ty.pair Ty.str (Ty.sl (nat_lit 3) (Ty.int IntKind.i64))) y1 (Int.toNat y2)).1 (at_ (Ty.pair Ty.str (Ty.sl (nat_lit 3) (Ty.int IntKind.i64))) y1 (Int.toNat y2)).2) (.br (!g_Vw_eqStoItem_0 (at_ (Ty.pair Ty.str (Ty.sl (nat_lit 3) (Ty.int IntKind.i64))) y0 (Int.toNat y2)).1 (at_ (Ty.pair Ty.str (Ty.sl (nat_lit 3) (Ty.int IntKind.i64))) y0 (Int.toNat y2)).2 (at_ (Ty.pair Ty.str (Ty.sl (nat_lit 3) (Ty.int IntKind.i64))) y1 (Int.toNat y2)).1 (at_ (Ty.pair Ty.str (Ty.sl (nat_lit 3) (Ty.int IntKind.i64))) y1 (Int.toNat y2)).2) (.out (.inl false)) (.br (true) (.go (IntKind.wrap IntKind.i64 (y2 + (1 : Int)))) (.bad))) (.bad)) (.bad)) (.bad)) (.out (.inr (())))) (.bad)
noncomputable def g_Lw_eqStoItemS_0 (y0 : List ((ByteArray) × (List (Int)))) (y1 : List ((ByteArray) × (List (Int)))) (x : (Int)) : Option (((Bool)) ⊕ (Unit)) := loopO (g_Sw_eqStoItemS_0 y0 y1) x
noncomputable def xw_eqStoItemS_0 (y0 : List ((ByteArray) × (List (Int)))) (y1 : List ((ByteArray) × (List (Int)))) : (((Bool)) ⊕ (Unit)) → Ex × List (Pl × LV) := fun
  | .inl r => (.ret, [(.T 4, .t (.val false [.bool r]))])
  | .inr (r) => (.exit 0, [(.T 4, .t (.val false [.undef]))])
noncomputable def Ow_eqStoItemS_1 : Orc := fun b h => match b, h with
  | 0, [(.T 0, .t (.val false [.sl .any 60 (.pair .str (.sl 3 (.int .i64))) y0])), (.T 1, .t (.val false [.sl .any 60 (.pair .str (.sl 3 (.int .i64))) y1])), (.T 5, .t (.val false [.int .i64 y2]))] => some (okO (g_Lw_eqStoItemS_0 y0 y1 y2), (.br (isL (valO (g_Lw_eqStoItemS_0 y0 y1 y2))) (.leaf .ret [(.T 4, .t (.val false [.bool (getL (valO (g_Lw_eqStoItemS_0 y0 y1 y2)))]))]) (.leaf (.exit 0) [(.T 4, .t (.val false [.undef]))])))
  | b, h => Ow_eqStoItemS_0 b h
theorem bw_eqStoItemS_0 (y0 : List ((ByteArray) × (List (Int)))) (y1 : List ((ByteArray) × (List (Int)))) (y2 : Int) : Tr.bt Ew_eqStoItemS Ow_eqStoItemS_0 (exec Ew_eqStoItemS 0 cw_eqStoItemS_0 (St.of (hw_eqStoItemS_0 y0 y1 y2)) (leafRd Ew_eqStoItemS 0)) = (g_Sw_eqStoItemS_0 y0 y1 y2).bt (fun (y2 : (Int)) => (hw_eqStoItemS_0 y0 y1 y2)) (xw_eqStoItemS_0 y0 y1) := by kernel_rfl
theorem kw_eqStoItemS_1 : OrcOk Ew_eqStoItemS Ow_eqStoItemS_1 lsw_eqStoItemS 1 := orc_add kw_eqStoItemS_0 (fun n p hp h ex h' ho => by
  obtain ⟨b, c⟩ := p
  obtain ⟨xt, h1, h2⟩ := ho
  have h1 : Ow_eqStoItemS_1 b h = some (true, xt) := h1
  unfold Ow_eqStoItemS_1 at h1
  split at h1
  · injection h1 with h1
    injection h1 with e1 e2
    subst e2
    have hc : c = cw_eqStoItemS_0 := mw_eqStoItemS_0 _ hp rfl
    subst hc
    right
    rename_i y0 y1 y2
    have key := LT_step kw_eqStoItemS_0 hp (fun q hq => loopsAll_in _ _ _ _ hp hq) (fun (y2 : (Int)) => (hw_eqStoItemS_0 y0 y1 y2)) (xw_eqStoItemS_0 y0 y1) (g_Sw_eqStoItemS_0 y0 y1) (fun x => by first | exact bw_eqStoItemS_0 y0 y1 x) n (x := y2) (okO_some e1)
    have hx : ∀ r, XT.sel (.br (isL r) (.leaf .ret [(.T 4, .t (.val false [.bool (getL r)]))]) (.leaf (.exit 0) [(.T 4, .t (.val false [.undef]))])) = xw_eqStoItemS_0 y0 y1 r := fun r => by first | rfl | (rcases r with r | r <;> rfl) | (rcases r with r | r | r <;> rfl) | (rcases r with r | r | r | r <;> rfl)
    have h3 := (hx (valO (g_Lw_eqStoItemS_0 y0 y1 y2))).symm.trans h2
    have e3 := congrArg Prod.fst h3
    have e4 := congrArg Prod.snd h3
    simp only at e3 e4
    rw [← e3, ← e4]
    exact key
  · exact .inl ⟨xt, h1, h2⟩)
noncomputable def g_Aw_eqStoItemS (a0 : List ((ByteArray) × (List (Int)))) (a1 : List ((ByteArray) × (List (Int)))) : Bool := (↑(List.length a0) : Int) != (↑(List.length a1) : Int) || okO (g_Lw_eqStoItemS_0 a0 a1 (0 : Int))
noncomputable def g_Vw_eqStoItemS_0 (a0 : List ((ByteArray) × (List (Int)))) (a1 : List ((ByteArray) × (List (Int)))) : Bool := bif (↑(List.length a0) : Int) != (↑(List.length a1) : Int) then false else bif isL (valO (g_Lw_eqStoItemS_0 a0 a1 (0 : Int))) then getL (valO (g_Lw_eqStoItemS_0 a0 a1 (0 : Int))) else true
noncomputable def Fw_eqStoItemS : FSem := fun ys => match ys with
  | [.val false [.sl .any 60 (.pair .str (.sl 3 (.int .i64))) a0], .val false [.sl .any 60 (.pair .str (.sl 3 (.int .i64))) a1]] => some ((g_Aw_eqStoItemS a0 a1), .val false [.bool (g_Vw_eqStoItemS_0 a0 a1)], [])
  | _ => none
theorem vw_eqStoItemS (a0 : List ((ByteArray) × (List (Int)))) (a1 : List ((ByteArray) × (List (Int)))) : collapseH .std Ew_eqStoItemS Ow_eqStoItemS_1 (execFn Ew_eqStoItemS Go.Proofs.Tryz.f49 msw_eqStoItemS [.val false [.sl .any 60 (.pair .str (.sl 3 (.int .i64))) a0], .val false [.sl .any 60 (.pair .str (.sl 3 (.int .i64))) a1]]) = some ((g_Aw_eqStoItemS a0 a1), .val false [.bool (g_Vw_eqStoItemS_0 a0 a1)], []) := by kernel_rfl
theorem sw_eqStoItemS : Sound Go.Proofs.Tryz.prog 49 msw_eqStoItemS Fw_eqStoItemS := by
  refine fn_gen goodw_eqStoItemS (by kernel_rfl) .std (fn := Go.Proofs.Tryz.f49) (c := (Go.Proofs.Tryz.f49.body.getD .skip)) (o := Ow_eqStoItemS_1) (k := 1) (by kernel_rfl) (by kernel_rfl) (by kernel_rfl) (by kernel_rfl) (by decide) kw_eqStoItemS_1 ?_
  intro ys r outs h
  unfold Fw_eqStoItemS at h
  split at h
  · exact (vw_eqStoItemS _ _).trans h
  · cases h
end Go.Proofs.YtnbcdkbjmpadmaaGreatDoor.E
end
section
namespace Go.Proofs.YtnbcdkbjmpadmaaGreatDoor.E
open Go
set_option maxRecDepth 100000
set_option maxHeartbeats 0
set_option linter.all false
noncomputable def Ew_eqStoStore : Env where
  tt := mkTI Go.Proofs.Tryz.prog
  fn := fun f => match f with
    | 49 => some (msw_eqStoItemS, FSem.wk msw_eqStoItemS Fw_eqStoItemS)
    | _ => none
  bxf := fun _ => none
  mv := []
  keep := fun _ => []
  keepB := fun _ => []
  keepX := fun _ => []
  keepXB := fun _ => []
theorem goodFw_eqStoStore : ∀ f ms F, Ew_eqStoStore.fn f = some (ms, F) → Sound Go.Proofs.Tryz.prog f ms F := fun f ms F h => by
  unfold Ew_eqStoStore at h
  dsimp only at h
  split at h
  · injection h with h; injection h with e1 e2; subst e1 e2; exact Sound.wk sw_eqStoItemS
  · cases h
theorem goodBw_eqStoStore : ∀ f ms F, Ew_eqStoStore.bxf f = some (ms, F) → SoundB Go.Proofs.Tryz.prog f ms F := fun f ms F h => by cases h
theorem goodw_eqStoStore : Good Go.Proofs.Tryz.prog Ew_eqStoStore := ⟨rfl, goodFw_eqStoStore, goodBw_eqStoStore⟩
noncomputable def Ow_eqStoStore_0 : Orc := fun _ _ => none
noncomputable def msw_eqStoStore : List PM := [.rd, .rd]
noncomputable def lsw_eqStoStore : List (Nat × Code) := loopsAll 0 (Go.Proofs.Tryz.f14.body.getD .skip)

theorem kw_eqStoStore_0 : OrcOk Ew_eqStoStore Ow_eqStoStore_0 lsw_eqStoStore 0 := orcOk_none
noncomputable def g_Aw_eqStoStore (a0 : List ((ByteArray) × (List (Int)))) (a1 : List ((ByteArray) × (List (Int)))) : Bool := g_Aw_eqStoItemS a0 a1
noncomputable def g_Vw_eqStoStore_0 (a0 : List ((ByteArray) × (List (Int)))) (a1 : List ((ByteArray) × (List (Int)))) : Bool := bif !g_Vw_eqStoItemS_0 a0 a1 then false else true
noncomputable def Fw_eqStoStore : FSem := fun ys => match ys with
  | [.val true [.sl .any 60 (.pair .str (.sl 3 (.int .i64))) a0], .val true [.sl .any 60 (.pair .str (.sl 3 (.int .i64))) a1]] => some ((g_Aw_eqStoStore a0 a1), .val false [.bool (g_Vw_eqStoStore_0 a0 a1)], [])
  | _ => none
theorem vw_eqStoStore (a0 : List ((ByteArray) × (List (Int)))) (a1 : List ((ByteArray) × (List (Int)))) : collapseH .std Ew_eqStoStore Ow_eqStoStore_0 (execFn Ew_eqStoStore Go.Proofs.Tryz.f14 msw_eqStoStore [.val true [.sl .any 60 (.pair .str (.sl 3 (.int .i64))) a0], .val true [.sl .any 60 (.pair .str (.sl 3 (.int .i64))) a1]]) = some ((g_Aw_eqStoStore a0 a1), .val false [.bool (g_Vw_eqStoStore_0 a0 a1)], []) := by kernel_rfl
theorem sw_eqStoStore : Sound Go.Proofs.Tryz.prog 14 msw_eqStoStore Fw_eqStoStore := by
  refine fn_gen goodw_eqStoStore (by kernel_rfl) .std (fn := Go.Proofs.Tryz.f14) (c := (Go.Proofs.Tryz.f14.body.getD .skip)) (o := Ow_eqStoStore_0) (k := 0) (by kernel_rfl) (by kernel_rfl) (by kernel_rfl) (by kernel_rfl) (by decide) kw_eqStoStore_0 ?_
  intro ys r outs h
  unfold Fw_eqStoStore at h
  split at h
  · exact (vw_eqStoStore _ _).trans h
  · cases h
end Go.Proofs.YtnbcdkbjmpadmaaGreatDoor.E
end
section
namespace Go.Proofs.YtnbcdkbjmpadmaaGreatDoor.E
open Go
set_option maxRecDepth 100000
set_option maxHeartbeats 0
set_option linter.all false
noncomputable def Ew_heldIntS : Env where
  tt := mkTI Go.Proofs.Tryz.prog
  fn := fun _ => none
  bxf := fun _ => none
  mv := []
  keep := fun b => match b with
    | 0 => [(0, false), (1, false), (5, false)]
    | _ => []
  keepB := fun b => match b with
    | 0 => []
    | _ => []
  keepX := fun b => match b with
    | 0 => [(1, false), (4, false)]
    | _ => []
  keepXB := fun b => match b with
    | 0 => []
    | _ => []
theorem goodFw_heldIntS : ∀ f ms F, Ew_heldIntS.fn f = some (ms, F) → Sound Go.Proofs.Tryz.prog f ms F := fun f ms F h => by cases h
theorem goodBw_heldIntS : ∀ f ms F, Ew_heldIntS.bxf f = some (ms, F) → SoundB Go.Proofs.Tryz.prog f ms F := fun f ms F h => by cases h
theorem goodw_heldIntS : Good Go.Proofs.Tryz.prog Ew_heldIntS := ⟨rfl, goodFw_heldIntS, goodBw_heldIntS⟩
noncomputable def Ow_heldIntS_0 : Orc := fun _ _ => none
noncomputable def msw_heldIntS : List PM := [.rd, .own]
noncomputable def lsw_heldIntS : List (Nat × Code) := loopsAll 0 (Go.Proofs.Tryz.f90.body.getD .skip)
noncomputable def cw_heldIntS_0 : Code := (loopOf 0 (Go.Proofs.Tryz.f90.body.getD .skip)).getD .skip
theorem lseqw_heldIntS : lsw_heldIntS = [(0, cw_heldIntS_0)] := by kernel_rfl
theorem mw_heldIntS_0 : ∀ p, p ∈ lsw_heldIntS → p.1 = 0 → p.2 = cw_heldIntS_0 := by
  intro p hp
  rw [lseqw_heldIntS] at hp
  simp only [List.mem_cons, List.not_mem_nil, or_false] at hp
  subst hp; simp
theorem kw_heldIntS_0 : OrcOk Ew_heldIntS Ow_heldIntS_0 lsw_heldIntS 0 := orcOk_none
noncomputable def hw_heldIntS_0 (y0 : List (Int)) (y1 : Int) (y2 : Int) : List (Pl × LV) := [(.T 0, .t (.val false [.sl .any 3 (.int .i64) y0])), (.T 1, .t (.val false [.int .i64 y1])), (.T 5, .t (.val false [.int .i64 y2]))]
noncomputable def g_Sw_heldIntS_0 (y0 : List (Int)) : ((Int) × (Int)) → RT ((Int) × (Int)) (((Int) × (Int)) ⊕ ((Int)))
  | (y1, y2) => .br (true) (.br (decide (y2 < (↑(List.length y0) : Int))) (.br (decide ((0 : Int) ≤ y2 ∧ y2 < (↑(List.length y0) : Int))) (.br (true) (.br (at_ (Ty.int IntKind.i64) y0 (Int.toNat y2) != y1) (.out (.inl ((y1, (-1 : Int))))) (.br (true) (.br (true) (.go ((IntKind.wrap IntKind.i64 (y1 + (1 : Int)), IntKind.wrap IntKind.i64 (y2 + (1 : Int))))) (.bad)) (.bad))) (.bad)) (.bad)) (.out (.inr (y1)))) (.bad)
noncomputable def g_Lw_heldIntS_0 (y0 : List (Int)) (x : (Int) × (Int)) : Option (((Int) × (Int)) ⊕ ((Int))) := loopO (g_Sw_heldIntS_0 y0) x
noncomputable def xw_heldIntS_0 (y0 : List (Int)) : (((Int) × (Int)) ⊕ ((Int))) → Ex × List (Pl × LV) := fun
  | .inl r => (.ret, [(.T 1, .t (.val false [.int .i64 r.1])), (.T 4, .t (.val false [.int .i64 r.2]))])
  | .inr (r) => (.exit 0, [(.T 1, .t (.val false [.int .i64 r])), (.T 4, .t (.val false [.undef]))])
noncomputable def Ow_heldIntS_1 : Orc := fun b h => match b, h with
  | 0, [(.T 0, .t (.val false [.sl .any 3 (.int .i64) y0])), (.T 1, .t (.val false [.int .i64 y1])), (.T 5, .t (.val false [.int .i64 y2]))] => some (okO (g_Lw_heldIntS_0 y0 (y1, y2)), (.br (isL (valO (g_Lw_heldIntS_0 y0 (y1, y2)))) (.leaf .ret [(.T 1, .t (.val false [.int .i64 (getL (valO (g_Lw_heldIntS_0 y0 (y1, y2)))).1])), (.T 4, .t (.val false [.int .i64 (getL (valO (g_Lw_heldIntS_0 y0 (y1, y2)))).2]))]) (.leaf (.exit 0) [(.T 1, .t (.val false [.int .i64 (getR (valO (g_Lw_heldIntS_0 y0 (y1, y2))))])), (.T 4, .t (.val false [.undef]))])))
  | b, h => Ow_heldIntS_0 b h
theorem bw_heldIntS_0 (y0 : List (Int)) (y1 : Int) (y2 : Int) : Tr.bt Ew_heldIntS Ow_heldIntS_0 (exec Ew_heldIntS 0 cw_heldIntS_0 (St.of (hw_heldIntS_0 y0 y1 y2)) (leafRd Ew_heldIntS 0)) = (g_Sw_heldIntS_0 y0 (y1, y2)).bt (fun ((y1, y2) : (Int) × (Int)) => (hw_heldIntS_0 y0 y1 y2)) (xw_heldIntS_0 y0) := by kernel_rfl
theorem kw_heldIntS_1 : OrcOk Ew_heldIntS Ow_heldIntS_1 lsw_heldIntS 1 := orc_add kw_heldIntS_0 (fun n p hp h ex h' ho => by
  obtain ⟨b, c⟩ := p
  obtain ⟨xt, h1, h2⟩ := ho
  have h1 : Ow_heldIntS_1 b h = some (true, xt) := h1
  unfold Ow_heldIntS_1 at h1
  split at h1
  · injection h1 with h1
    injection h1 with e1 e2
    subst e2
    have hc : c = cw_heldIntS_0 := mw_heldIntS_0 _ hp rfl
    subst hc
    right
    rename_i y0 y1 y2
    have key := LT_step kw_heldIntS_0 hp (fun q hq => loopsAll_in _ _ _ _ hp hq) (fun ((y1, y2) : (Int) × (Int)) => (hw_heldIntS_0 y0 y1 y2)) (xw_heldIntS_0 y0) (g_Sw_heldIntS_0 y0) (fun x => by first | exact bw_heldIntS_0 y0 x.1 x.2) n (x := (y1, y2)) (okO_some e1)
    have hx : ∀ r, XT.sel (.br (isL r) (.leaf .ret [(.T 1, .t (.val false [.int .i64 (getL r).1])), (.T 4, .t (.val false [.int .i64 (getL r).2]))]) (.leaf (.exit 0) [(.T 1, .t (.val false [.int .i64 (getR r)])), (.T 4, .t (.val false [.undef]))])) = xw_heldIntS_0 y0 r := fun r => by first | rfl | (rcases r with r | r <;> rfl) | (rcases r with r | r | r <;> rfl) | (rcases r with r | r | r | r <;> rfl)
    have h3 := (hx (valO (g_Lw_heldIntS_0 y0 (y1, y2)))).symm.trans h2
    have e3 := congrArg Prod.fst h3
    have e4 := congrArg Prod.snd h3
    simp only at e3 e4
    rw [← e3, ← e4]
    exact key
  · exact .inl ⟨xt, h1, h2⟩)
noncomputable def g_Aw_heldIntS (a0 : List (Int)) (a1 : Int) : Bool := okO (g_Lw_heldIntS_0 a0 (a1, (0 : Int)))
noncomputable def g_Vw_heldIntS_0 (a0 : List (Int)) (a1 : Int) : Int := bif isL (valO (g_Lw_heldIntS_0 a0 (a1, (0 : Int)))) then (getL (valO (g_Lw_heldIntS_0 a0 (a1, (0 : Int))))).2 else getR (valO (g_Lw_heldIntS_0 a0 (a1, (0 : Int))))
noncomputable def Fw_heldIntS : FSem := fun ys => match ys with
  | [.val false [.sl .any 3 (.int .i64) a0], .val false [.int .i64 a1]] => some ((g_Aw_heldIntS a0 a1), .val false [.int .i64 (g_Vw_heldIntS_0 a0 a1)], [])
  | _ => none
theorem vw_heldIntS (a0 : List (Int)) (a1 : Int) : collapseH .std Ew_heldIntS Ow_heldIntS_1 (execFn Ew_heldIntS Go.Proofs.Tryz.f90 msw_heldIntS [.val false [.sl .any 3 (.int .i64) a0], .val false [.int .i64 a1]]) = some ((g_Aw_heldIntS a0 a1), .val false [.int .i64 (g_Vw_heldIntS_0 a0 a1)], []) := by kernel_rfl
theorem sw_heldIntS : Sound Go.Proofs.Tryz.prog 90 msw_heldIntS Fw_heldIntS := by
  refine fn_gen goodw_heldIntS (by kernel_rfl) .std (fn := Go.Proofs.Tryz.f90) (c := (Go.Proofs.Tryz.f90.body.getD .skip)) (o := Ow_heldIntS_1) (k := 1) (by kernel_rfl) (by kernel_rfl) (by kernel_rfl) (by kernel_rfl) (by decide) kw_heldIntS_1 ?_
  intro ys r outs h
  unfold Fw_heldIntS at h
  split at h
  · exact (vw_heldIntS _ _).trans h
  · cases h
end Go.Proofs.YtnbcdkbjmpadmaaGreatDoor.E
end
section
namespace Go.Proofs.YtnbcdkbjmpadmaaGreatDoor.E
open Go
set_option maxRecDepth 100000
set_option maxHeartbeats 0
set_option linter.all false
noncomputable def Ew_markText : Env where
  tt := mkTI Go.Proofs.Tryz.prog
  fn := fun _ => none
  bxf := fun _ => none
  mv := []
  keep := fun b => match b with
    | 0 => [(0, false), (3, false)]
    | _ => []
  keepB := fun b => match b with
    | 0 => []
    | _ => []
  keepX := fun b => match b with
    | 0 => [(3, false)]
    | _ => []
  keepXB := fun b => match b with
    | 0 => []
    | _ => []
theorem goodFw_markText : ∀ f ms F, Ew_markText.fn f = some (ms, F) → Sound Go.Proofs.Tryz.prog f ms F := fun f ms F h => by cases h
theorem goodBw_markText : ∀ f ms F, Ew_markText.bxf f = some (ms, F) → SoundB Go.Proofs.Tryz.prog f ms F := fun f ms F h => by cases h
theorem goodw_markText : Good Go.Proofs.Tryz.prog Ew_markText := ⟨rfl, goodFw_markText, goodBw_markText⟩
noncomputable def Ow_markText_0 : Orc := fun _ _ => none
noncomputable def msw_markText : List PM := [.own]
noncomputable def lsw_markText : List (Nat × Code) := loopsAll 0 (Go.Proofs.Tryz.f88.body.getD .skip)
noncomputable def cw_markText_0 : Code := (loopOf 0 (Go.Proofs.Tryz.f88.body.getD .skip)).getD .skip
theorem lseqw_markText : lsw_markText = [(0, cw_markText_0)] := by kernel_rfl
theorem mw_markText_0 : ∀ p, p ∈ lsw_markText → p.1 = 0 → p.2 = cw_markText_0 := by
  intro p hp
  rw [lseqw_markText] at hp
  simp only [List.mem_cons, List.not_mem_nil, or_false] at hp
  subst hp; simp
theorem kw_markText_0 : OrcOk Ew_markText Ow_markText_0 lsw_markText 0 := orcOk_none
noncomputable def hw_markText_0 (y0 : Int) (y1 : ByteArray) : List (Pl × LV) := [(.T 0, .t (.val false [.int .i64 y0])), (.T 3, .t (.val false [.str y1]))]
noncomputable def g_Sw_markText_0 : ((Int) × (ByteArray)) → RT ((Int) × (ByteArray)) (((ByteArray)))
  | (y0, y1) => .br (true) (.br (decide (y0 > (0 : Int))) (.br (true) (.br (true) (.br (decide (ByteArray.size { data := List.toArray (List.map (fun n => UInt8.ofNat (Int.toNat n)) [IntKind.wrap IntKind.u8 (IntKind.wrap IntKind.i64 ((48 : Int) + Int.tmod y0 (10 : Int)))]) } + ByteArray.size y1 ≤ nat_lit 9223372036854775807)) (.br (true) (.go ((IntKind.wrap IntKind.i64 (Int.tdiv y0 (10 : Int)), { data := List.toArray (List.map (fun n => UInt8.ofNat (Int.toNat n)) [IntKind.wrap IntKind.u8 (IntKind.wrap IntKind.i64 ((48 : Int) + Int.tmod y0 (10 : Int)))]) } ++ y1))) (.bad)) (.bad)) (.bad)) (.bad)) (.out (y1))) (.bad)
noncomputable def g_Lw_markText_0 (x : (Int) × (ByteArray)) : Option (((ByteArray))) := loopO (g_Sw_markText_0) x
noncomputable def xw_markText_0 : (((ByteArray))) → Ex × List (Pl × LV) := fun r => (.exit 0, [(.T 3, .t (.val false [.str r]))])
noncomputable def Ow_markText_1 : Orc := fun b h => match b, h with
  | 0, [(.T 0, .t (.val false [.int .i64 y0])), (.T 3, .t (.val false [.str y1]))] => some (okO (g_Lw_markText_0 (y0, y1)), (.leaf (.exit 0) [(.T 3, .t (.val false [.str (valO (g_Lw_markText_0 (y0, y1)))]))]))
  | b, h => Ow_markText_0 b h
theorem bw_markText_0 (y0 : Int) (y1 : ByteArray) : Tr.bt Ew_markText Ow_markText_0 (exec Ew_markText 0 cw_markText_0 (St.of (hw_markText_0 y0 y1)) (leafRd Ew_markText 0)) = (g_Sw_markText_0 (y0, y1)).bt (fun ((y0, y1) : (Int) × (ByteArray)) => (hw_markText_0 y0 y1)) (xw_markText_0) := by kernel_rfl
theorem kw_markText_1 : OrcOk Ew_markText Ow_markText_1 lsw_markText 1 := orc_add kw_markText_0 (fun n p hp h ex h' ho => by
  obtain ⟨b, c⟩ := p
  obtain ⟨xt, h1, h2⟩ := ho
  have h1 : Ow_markText_1 b h = some (true, xt) := h1
  unfold Ow_markText_1 at h1
  split at h1
  · injection h1 with h1
    injection h1 with e1 e2
    subst e2
    have hc : c = cw_markText_0 := mw_markText_0 _ hp rfl
    subst hc
    right
    rename_i y0 y1
    have key := LT_step kw_markText_0 hp (fun q hq => loopsAll_in _ _ _ _ hp hq) (fun ((y0, y1) : (Int) × (ByteArray)) => (hw_markText_0 y0 y1)) (xw_markText_0) (g_Sw_markText_0) (fun x => by first | exact bw_markText_0 x.1 x.2) n (x := (y0, y1)) (okO_some e1)
    have hx : ∀ r, XT.sel (.leaf (.exit 0) [(.T 3, .t (.val false [.str r]))]) = xw_markText_0 r := fun r => by first | rfl | (rcases r with r | r <;> rfl) | (rcases r with r | r | r <;> rfl) | (rcases r with r | r | r | r <;> rfl)
    have h3 := (hx (valO (g_Lw_markText_0 (y0, y1)))).symm.trans h2
    have e3 := congrArg Prod.fst h3
    have e4 := congrArg Prod.snd h3
    simp only at e3 e4
    rw [← e3, ← e4]
    exact key
  · exact .inl ⟨xt, h1, h2⟩)
noncomputable def g_Aw_markText (a0 : Int) : Bool := decide (a0 ≤ (0 : Int)) || okO (g_Lw_markText_0 (a0, lit [])) && decide (nat_lit 1 + ByteArray.size (valO (g_Lw_markText_0 (a0, lit []))) ≤ nat_lit 9223372036854775807)
noncomputable def g_Vw_markText_0 (a0 : Int) : ByteArray := bif decide (a0 ≤ (0 : Int)) then lit [(109 : Nat), (48 : Nat)] else lit [(109 : Nat)] ++ valO (g_Lw_markText_0 (a0, lit []))
noncomputable def Fw_markText : FSem := fun ys => match ys with
  | [.val false [.int .i64 a0]] => some ((g_Aw_markText a0), .val false [.str (g_Vw_markText_0 a0)], [])
  | _ => none
theorem vw_markText (a0 : Int) : collapseH .std Ew_markText Ow_markText_1 (execFn Ew_markText Go.Proofs.Tryz.f88 msw_markText [.val false [.int .i64 a0]]) = some ((g_Aw_markText a0), .val false [.str (g_Vw_markText_0 a0)], []) := by kernel_rfl
theorem sw_markText : Sound Go.Proofs.Tryz.prog 88 msw_markText Fw_markText := by
  refine fn_gen goodw_markText (by kernel_rfl) .std (fn := Go.Proofs.Tryz.f88) (c := (Go.Proofs.Tryz.f88.body.getD .skip)) (o := Ow_markText_1) (k := 1) (by kernel_rfl) (by kernel_rfl) (by kernel_rfl) (by kernel_rfl) (by decide) kw_markText_1 ?_
  intro ys r outs h
  unfold Fw_markText at h
  split at h
  · exact (vw_markText _).trans h
  · cases h
end Go.Proofs.YtnbcdkbjmpadmaaGreatDoor.E
end
section
namespace Go.Proofs.YtnbcdkbjmpadmaaGreatDoor.E
open Go
set_option maxRecDepth 100000
set_option maxHeartbeats 0
set_option linter.all false
noncomputable def Ew_heldStoWriteS : Env where
  tt := mkTI Go.Proofs.Tryz.prog
  fn := fun f => match f with
    | 88 => some (msw_markText, FSem.wk msw_markText Fw_markText)
    | 90 => some (msw_heldIntS, FSem.wk msw_heldIntS Fw_heldIntS)
    | _ => none
  bxf := fun _ => none
  mv := []
  keep := fun b => match b with
    | 0 => [(0, false), (1, false), (5, false)]
    | _ => []
  keepB := fun b => match b with
    | 0 => []
    | _ => []
  keepX := fun b => match b with
    | 0 => [(1, false), (4, false)]
    | _ => []
  keepXB := fun b => match b with
    | 0 => []
    | _ => []
theorem goodFw_heldStoWriteS : ∀ f ms F, Ew_heldStoWriteS.fn f = some (ms, F) → Sound Go.Proofs.Tryz.prog f ms F := fun f ms F h => by
  unfold Ew_heldStoWriteS at h
  dsimp only at h
  split at h
  · injection h with h; injection h with e1 e2; subst e1 e2; exact Sound.wk sw_markText
  · injection h with h; injection h with e1 e2; subst e1 e2; exact Sound.wk sw_heldIntS
  · cases h
theorem goodBw_heldStoWriteS : ∀ f ms F, Ew_heldStoWriteS.bxf f = some (ms, F) → SoundB Go.Proofs.Tryz.prog f ms F := fun f ms F h => by cases h
theorem goodw_heldStoWriteS : Good Go.Proofs.Tryz.prog Ew_heldStoWriteS := ⟨rfl, goodFw_heldStoWriteS, goodBw_heldStoWriteS⟩
noncomputable def Ow_heldStoWriteS_0 : Orc := fun _ _ => none
noncomputable def msw_heldStoWriteS : List PM := [.rd, .own]
noncomputable def lsw_heldStoWriteS : List (Nat × Code) := loopsAll 0 (Go.Proofs.Tryz.f54.body.getD .skip)
noncomputable def cw_heldStoWriteS_0 : Code := (loopOf 0 (Go.Proofs.Tryz.f54.body.getD .skip)).getD .skip
theorem lseqw_heldStoWriteS : lsw_heldStoWriteS = [(0, cw_heldStoWriteS_0)] := by kernel_rfl
theorem mw_heldStoWriteS_0 : ∀ p, p ∈ lsw_heldStoWriteS → p.1 = 0 → p.2 = cw_heldStoWriteS_0 := by
  intro p hp
  rw [lseqw_heldStoWriteS] at hp
  simp only [List.mem_cons, List.not_mem_nil, or_false] at hp
  subst hp; simp
theorem kw_heldStoWriteS_0 : OrcOk Ew_heldStoWriteS Ow_heldStoWriteS_0 lsw_heldStoWriteS 0 := orcOk_none
noncomputable def hw_heldStoWriteS_0 (y0 : List ((ByteArray) × ((Bool) × (List (Int))))) (y1 : Int) (y2 : Int) : List (Pl × LV) := [(.T 0, .t (.val false [.sl .any 50 (.pair .str (.pair .bool (.sl 3 (.int .i64)))) y0])), (.T 1, .t (.val false [.int .i64 y1])), (.T 5, .t (.val false [.int .i64 y2]))]
noncomputable def g_Sw_heldStoWriteS_0 (y0 : List ((ByteArray) × ((Bool) × (List (Int))))) : ((Int) × (Int)) → RT ((Int) × (Int)) (((Int) × (Int)) ⊕ ((Int)))
  | (y1, y2) => .br (true) (.br (decide (y2 < (↑(List.length y0) : Int))) (.br (decide ((0 : Int) ≤ y2 ∧ y2 < (↑(List.length y0) : Int))) (.br (g_Aw_markText y1) (.br (true) (.br (!ByteArray.toList (at_ (Ty.pair Ty.str (Ty.pair Ty.bool (Ty.sl (nat_lit 3) (Ty.int IntKind.i64)))) y0 (Int.toNat y2)).1 == ByteArray.toList (g_Vw_markText_0 y1)) (.out (.inl ((y1, (-1 : Int))))) (.br (true) (.br (decide ((0 : Int) ≤ y2 ∧ y2 < (↑(List.length y0) : Int))) (.br (true) (.br (true) (.br (!(at_ (Ty.pair Ty.str (Ty.pair Ty.bool (Ty.sl (nat_lit 3) (Ty.int IntKind.i64)))) y0 (Int.toNat y2)).2.1 == (Int.tmod (IntKind.wrap IntKind.i64 (y1 + (1 : Int))) (3 : Int) == (0 : Int))) (.out (.inl ((IntKind.wrap IntKind.i64 (y1 + (1 : Int)), (-1 : Int))))) (.br (true) (.br (decide ((0 : Int) ≤ y2 ∧ y2 < (↑(List.length y0) : Int))) (.br (g_Aw_heldIntS (at_ (Ty.pair Ty.str (Ty.pair Ty.bool (Ty.sl (nat_lit 3) (Ty.int IntKind.i64)))) y0 (Int.toNat y2)).2.2 (IntKind.wrap IntKind.i64 (IntKind.wrap IntKind.i64 (y1 + (1 : Int)) + (1 : Int)))) (.br (true) (.br (decide (g_Vw_heldIntS_0 (at_ (Ty.pair Ty.str (Ty.pair Ty.bool (Ty.sl (nat_lit 3) (Ty.int IntKind.i64)))) y0 (Int.toNat y2)).2.2 (IntKind.wrap IntKind.i64 (IntKind.wrap IntKind.i64 (y1 + (1 : Int)) + (1 : Int))) < (0 : Int))) (.out (.inl ((g_Vw_heldIntS_0 (at_ (Ty.pair Ty.str (Ty.pair Ty.bool (Ty.sl (nat_lit 3) (Ty.int IntKind.i64)))) y0 (Int.toNat y2)).2.2 (IntKind.wrap IntKind.i64 (IntKind.wrap IntKind.i64 (y1 + (1 : Int)) + (1 : Int))), (-1 : Int))))) (.br (true) (.go ((g_Vw_heldIntS_0 (at_ (Ty.pair Ty.str (Ty.pair Ty.bool (Ty.sl (nat_lit 3) (Ty.int IntKind.i64)))) y0 (Int.toNat y2)).2.2 (IntKind.wrap IntKind.i64 (IntKind.wrap IntKind.i64 (y1 + (1 : Int)) + (1 : Int))), IntKind.wrap IntKind.i64 (y2 + (1 : Int))))) (.bad))) (.bad)) (.bad)) (.bad)) (.bad))) (.bad)) (.bad)) (.bad)) (.bad))) (.bad)) (.bad)) (.bad)) (.out (.inr (y1)))) (.bad)
noncomputable def g_Lw_heldStoWriteS_0 (y0 : List ((ByteArray) × ((Bool) × (List (Int))))) (x : (Int) × (Int)) : Option (((Int) × (Int)) ⊕ ((Int))) := loopO (g_Sw_heldStoWriteS_0 y0) x
noncomputable def xw_heldStoWriteS_0 (y0 : List ((ByteArray) × ((Bool) × (List (Int))))) : (((Int) × (Int)) ⊕ ((Int))) → Ex × List (Pl × LV) := fun
  | .inl r => (.ret, [(.T 1, .t (.val false [.int .i64 r.1])), (.T 4, .t (.val false [.int .i64 r.2]))])
  | .inr (r) => (.exit 0, [(.T 1, .t (.val false [.int .i64 r])), (.T 4, .t (.val false [.undef]))])
noncomputable def Ow_heldStoWriteS_1 : Orc := fun b h => match b, h with
  | 0, [(.T 0, .t (.val false [.sl .any 50 (.pair .str (.pair .bool (.sl 3 (.int .i64)))) y0])), (.T 1, .t (.val false [.int .i64 y1])), (.T 5, .t (.val false [.int .i64 y2]))] => some (okO (g_Lw_heldStoWriteS_0 y0 (y1, y2)), (.br (isL (valO (g_Lw_heldStoWriteS_0 y0 (y1, y2)))) (.leaf .ret [(.T 1, .t (.val false [.int .i64 (getL (valO (g_Lw_heldStoWriteS_0 y0 (y1, y2)))).1])), (.T 4, .t (.val false [.int .i64 (getL (valO (g_Lw_heldStoWriteS_0 y0 (y1, y2)))).2]))]) (.leaf (.exit 0) [(.T 1, .t (.val false [.int .i64 (getR (valO (g_Lw_heldStoWriteS_0 y0 (y1, y2))))])), (.T 4, .t (.val false [.undef]))])))
  | b, h => Ow_heldStoWriteS_0 b h
theorem bw_heldStoWriteS_0 (y0 : List ((ByteArray) × ((Bool) × (List (Int))))) (y1 : Int) (y2 : Int) : Tr.bt Ew_heldStoWriteS Ow_heldStoWriteS_0 (exec Ew_heldStoWriteS 0 cw_heldStoWriteS_0 (St.of (hw_heldStoWriteS_0 y0 y1 y2)) (leafRd Ew_heldStoWriteS 0)) = (g_Sw_heldStoWriteS_0 y0 (y1, y2)).bt (fun ((y1, y2) : (Int) × (Int)) => (hw_heldStoWriteS_0 y0 y1 y2)) (xw_heldStoWriteS_0 y0) := by kernel_rfl
theorem kw_heldStoWriteS_1 : OrcOk Ew_heldStoWriteS Ow_heldStoWriteS_1 lsw_heldStoWriteS 1 := orc_add kw_heldStoWriteS_0 (fun n p hp h ex h' ho => by
  obtain ⟨b, c⟩ := p
  obtain ⟨xt, h1, h2⟩ := ho
  have h1 : Ow_heldStoWriteS_1 b h = some (true, xt) := h1
  unfold Ow_heldStoWriteS_1 at h1
  split at h1
  · injection h1 with h1
    injection h1 with e1 e2
    subst e2
    have hc : c = cw_heldStoWriteS_0 := mw_heldStoWriteS_0 _ hp rfl
    subst hc
    right
    rename_i y0 y1 y2
    have key := LT_step kw_heldStoWriteS_0 hp (fun q hq => loopsAll_in _ _ _ _ hp hq) (fun ((y1, y2) : (Int) × (Int)) => (hw_heldStoWriteS_0 y0 y1 y2)) (xw_heldStoWriteS_0 y0) (g_Sw_heldStoWriteS_0 y0) (fun x => by first | exact bw_heldStoWriteS_0 y0 x.1 x.2) n (x := (y1, y2)) (okO_some e1)
    have hx : ∀ r, XT.sel (.br (isL r) (.leaf .ret [(.T 1, .t (.val false [.int .i64 (getL r).1])), (.T 4, .t (.val false [.int .i64 (getL r).2]))]) (.leaf (.exit 0) [(.T 1, .t (.val false [.int .i64 (getR r)])), (.T 4, .t (.val false [.undef]))])) = xw_heldStoWriteS_0 y0 r := fun r => by first | rfl | (rcases r with r | r <;> rfl) | (rcases r with r | r | r <;> rfl) | (rcases r with r | r | r | r <;> rfl)
    have h3 := (hx (valO (g_Lw_heldStoWriteS_0 y0 (y1, y2)))).symm.trans h2
    have e3 := congrArg Prod.fst h3
    have e4 := congrArg Prod.snd h3
    simp only at e3 e4
    rw [← e3, ← e4]
    exact key
  · exact .inl ⟨xt, h1, h2⟩)
noncomputable def g_Aw_heldStoWriteS (a0 : List ((ByteArray) × ((Bool) × (List (Int))))) (a1 : Int) : Bool := okO (g_Lw_heldStoWriteS_0 a0 (a1, (0 : Int)))
noncomputable def g_Vw_heldStoWriteS_0 (a0 : List ((ByteArray) × ((Bool) × (List (Int))))) (a1 : Int) : Int := bif isL (valO (g_Lw_heldStoWriteS_0 a0 (a1, (0 : Int)))) then (getL (valO (g_Lw_heldStoWriteS_0 a0 (a1, (0 : Int))))).2 else getR (valO (g_Lw_heldStoWriteS_0 a0 (a1, (0 : Int))))
noncomputable def Fw_heldStoWriteS : FSem := fun ys => match ys with
  | [.val false [.sl .any 50 (.pair .str (.pair .bool (.sl 3 (.int .i64)))) a0], .val false [.int .i64 a1]] => some ((g_Aw_heldStoWriteS a0 a1), .val false [.int .i64 (g_Vw_heldStoWriteS_0 a0 a1)], [])
  | _ => none
theorem vw_heldStoWriteS (a0 : List ((ByteArray) × ((Bool) × (List (Int))))) (a1 : Int) : collapseH .std Ew_heldStoWriteS Ow_heldStoWriteS_1 (execFn Ew_heldStoWriteS Go.Proofs.Tryz.f54 msw_heldStoWriteS [.val false [.sl .any 50 (.pair .str (.pair .bool (.sl 3 (.int .i64)))) a0], .val false [.int .i64 a1]]) = some ((g_Aw_heldStoWriteS a0 a1), .val false [.int .i64 (g_Vw_heldStoWriteS_0 a0 a1)], []) := by kernel_rfl
theorem sw_heldStoWriteS : Sound Go.Proofs.Tryz.prog 54 msw_heldStoWriteS Fw_heldStoWriteS := by
  refine fn_gen goodw_heldStoWriteS (by kernel_rfl) .std (fn := Go.Proofs.Tryz.f54) (c := (Go.Proofs.Tryz.f54.body.getD .skip)) (o := Ow_heldStoWriteS_1) (k := 1) (by kernel_rfl) (by kernel_rfl) (by kernel_rfl) (by kernel_rfl) (by decide) kw_heldStoWriteS_1 ?_
  intro ys r outs h
  unfold Fw_heldStoWriteS at h
  split at h
  · exact (vw_heldStoWriteS _ _).trans h
  · cases h
end Go.Proofs.YtnbcdkbjmpadmaaGreatDoor.E
end
section
namespace Go.Proofs.YtnbcdkbjmpadmaaGreatDoor.E
open Go
set_option maxRecDepth 100000
set_option maxHeartbeats 0
set_option linter.all false
noncomputable def Ew_heldStringS : Env where
  tt := mkTI Go.Proofs.Tryz.prog
  fn := fun f => match f with
    | 88 => some (msw_markText, FSem.wk msw_markText Fw_markText)
    | _ => none
  bxf := fun _ => none
  mv := []
  keep := fun b => match b with
    | 0 => [(0, false), (1, false), (5, false)]
    | _ => []
  keepB := fun b => match b with
    | 0 => []
    | _ => []
  keepX := fun b => match b with
    | 0 => [(1, false), (4, false)]
    | _ => []
  keepXB := fun b => match b with
    | 0 => []
    | _ => []
theorem goodFw_heldStringS : ∀ f ms F, Ew_heldStringS.fn f = some (ms, F) → Sound Go.Proofs.Tryz.prog f ms F := fun f ms F h => by
  unfold Ew_heldStringS at h
  dsimp only at h
  split at h
  · injection h with h; injection h with e1 e2; subst e1 e2; exact Sound.wk sw_markText
  · cases h
theorem goodBw_heldStringS : ∀ f ms F, Ew_heldStringS.bxf f = some (ms, F) → SoundB Go.Proofs.Tryz.prog f ms F := fun f ms F h => by cases h
theorem goodw_heldStringS : Good Go.Proofs.Tryz.prog Ew_heldStringS := ⟨rfl, goodFw_heldStringS, goodBw_heldStringS⟩
noncomputable def Ow_heldStringS_0 : Orc := fun _ _ => none
noncomputable def msw_heldStringS : List PM := [.rd, .own]
noncomputable def lsw_heldStringS : List (Nat × Code) := loopsAll 0 (Go.Proofs.Tryz.f53.body.getD .skip)
noncomputable def cw_heldStringS_0 : Code := (loopOf 0 (Go.Proofs.Tryz.f53.body.getD .skip)).getD .skip
theorem lseqw_heldStringS : lsw_heldStringS = [(0, cw_heldStringS_0)] := by kernel_rfl
theorem mw_heldStringS_0 : ∀ p, p ∈ lsw_heldStringS → p.1 = 0 → p.2 = cw_heldStringS_0 := by
  intro p hp
  rw [lseqw_heldStringS] at hp
  simp only [List.mem_cons, List.not_mem_nil, or_false] at hp
  subst hp; simp
theorem kw_heldStringS_0 : OrcOk Ew_heldStringS Ow_heldStringS_0 lsw_heldStringS 0 := orcOk_none
noncomputable def hw_heldStringS_0 (y0 : List (ByteArray)) (y1 : Int) (y2 : Int) : List (Pl × LV) := [(.T 0, .t (.val false [.sl .any 9 .str y0])), (.T 1, .t (.val false [.int .i64 y1])), (.T 5, .t (.val false [.int .i64 y2]))]
noncomputable def g_Sw_heldStringS_0 (y0 : List (ByteArray)) : ((Int) × (Int)) → RT ((Int) × (Int)) (((Int) × (Int)) ⊕ ((Int)))
  | (y1, y2) => .br (true) (.br (decide (y2 < (↑(List.length y0) : Int))) (.br (decide ((0 : Int) ≤ y2 ∧ y2 < (↑(List.length y0) : Int))) (.br (g_Aw_markText y1) (.br (true) (.br (!ByteArray.toList (at_ Ty.str y0 (Int.toNat y2)) == ByteArray.toList (g_Vw_markText_0 y1)) (.out (.inl ((y1, (-1 : Int))))) (.br (true) (.br (true) (.go ((IntKind.wrap IntKind.i64 (y1 + (1 : Int)), IntKind.wrap IntKind.i64 (y2 + (1 : Int))))) (.bad)) (.bad))) (.bad)) (.bad)) (.bad)) (.out (.inr (y1)))) (.bad)
noncomputable def g_Lw_heldStringS_0 (y0 : List (ByteArray)) (x : (Int) × (Int)) : Option (((Int) × (Int)) ⊕ ((Int))) := loopO (g_Sw_heldStringS_0 y0) x
noncomputable def xw_heldStringS_0 (y0 : List (ByteArray)) : (((Int) × (Int)) ⊕ ((Int))) → Ex × List (Pl × LV) := fun
  | .inl r => (.ret, [(.T 1, .t (.val false [.int .i64 r.1])), (.T 4, .t (.val false [.int .i64 r.2]))])
  | .inr (r) => (.exit 0, [(.T 1, .t (.val false [.int .i64 r])), (.T 4, .t (.val false [.undef]))])
noncomputable def Ow_heldStringS_1 : Orc := fun b h => match b, h with
  | 0, [(.T 0, .t (.val false [.sl .any 9 .str y0])), (.T 1, .t (.val false [.int .i64 y1])), (.T 5, .t (.val false [.int .i64 y2]))] => some (okO (g_Lw_heldStringS_0 y0 (y1, y2)), (.br (isL (valO (g_Lw_heldStringS_0 y0 (y1, y2)))) (.leaf .ret [(.T 1, .t (.val false [.int .i64 (getL (valO (g_Lw_heldStringS_0 y0 (y1, y2)))).1])), (.T 4, .t (.val false [.int .i64 (getL (valO (g_Lw_heldStringS_0 y0 (y1, y2)))).2]))]) (.leaf (.exit 0) [(.T 1, .t (.val false [.int .i64 (getR (valO (g_Lw_heldStringS_0 y0 (y1, y2))))])), (.T 4, .t (.val false [.undef]))])))
  | b, h => Ow_heldStringS_0 b h
theorem bw_heldStringS_0 (y0 : List (ByteArray)) (y1 : Int) (y2 : Int) : Tr.bt Ew_heldStringS Ow_heldStringS_0 (exec Ew_heldStringS 0 cw_heldStringS_0 (St.of (hw_heldStringS_0 y0 y1 y2)) (leafRd Ew_heldStringS 0)) = (g_Sw_heldStringS_0 y0 (y1, y2)).bt (fun ((y1, y2) : (Int) × (Int)) => (hw_heldStringS_0 y0 y1 y2)) (xw_heldStringS_0 y0) := by kernel_rfl
theorem kw_heldStringS_1 : OrcOk Ew_heldStringS Ow_heldStringS_1 lsw_heldStringS 1 := orc_add kw_heldStringS_0 (fun n p hp h ex h' ho => by
  obtain ⟨b, c⟩ := p
  obtain ⟨xt, h1, h2⟩ := ho
  have h1 : Ow_heldStringS_1 b h = some (true, xt) := h1
  unfold Ow_heldStringS_1 at h1
  split at h1
  · injection h1 with h1
    injection h1 with e1 e2
    subst e2
    have hc : c = cw_heldStringS_0 := mw_heldStringS_0 _ hp rfl
    subst hc
    right
    rename_i y0 y1 y2
    have key := LT_step kw_heldStringS_0 hp (fun q hq => loopsAll_in _ _ _ _ hp hq) (fun ((y1, y2) : (Int) × (Int)) => (hw_heldStringS_0 y0 y1 y2)) (xw_heldStringS_0 y0) (g_Sw_heldStringS_0 y0) (fun x => by first | exact bw_heldStringS_0 y0 x.1 x.2) n (x := (y1, y2)) (okO_some e1)
    have hx : ∀ r, XT.sel (.br (isL r) (.leaf .ret [(.T 1, .t (.val false [.int .i64 (getL r).1])), (.T 4, .t (.val false [.int .i64 (getL r).2]))]) (.leaf (.exit 0) [(.T 1, .t (.val false [.int .i64 (getR r)])), (.T 4, .t (.val false [.undef]))])) = xw_heldStringS_0 y0 r := fun r => by first | rfl | (rcases r with r | r <;> rfl) | (rcases r with r | r | r <;> rfl) | (rcases r with r | r | r | r <;> rfl)
    have h3 := (hx (valO (g_Lw_heldStringS_0 y0 (y1, y2)))).symm.trans h2
    have e3 := congrArg Prod.fst h3
    have e4 := congrArg Prod.snd h3
    simp only at e3 e4
    rw [← e3, ← e4]
    exact key
  · exact .inl ⟨xt, h1, h2⟩)
noncomputable def g_Aw_heldStringS (a0 : List (ByteArray)) (a1 : Int) : Bool := okO (g_Lw_heldStringS_0 a0 (a1, (0 : Int)))
noncomputable def g_Vw_heldStringS_0 (a0 : List (ByteArray)) (a1 : Int) : Int := bif isL (valO (g_Lw_heldStringS_0 a0 (a1, (0 : Int)))) then (getL (valO (g_Lw_heldStringS_0 a0 (a1, (0 : Int))))).2 else getR (valO (g_Lw_heldStringS_0 a0 (a1, (0 : Int))))
noncomputable def Fw_heldStringS : FSem := fun ys => match ys with
  | [.val false [.sl .any 9 .str a0], .val false [.int .i64 a1]] => some ((g_Aw_heldStringS a0 a1), .val false [.int .i64 (g_Vw_heldStringS_0 a0 a1)], [])
  | _ => none
theorem vw_heldStringS (a0 : List (ByteArray)) (a1 : Int) : collapseH .std Ew_heldStringS Ow_heldStringS_1 (execFn Ew_heldStringS Go.Proofs.Tryz.f53 msw_heldStringS [.val false [.sl .any 9 .str a0], .val false [.int .i64 a1]]) = some ((g_Aw_heldStringS a0 a1), .val false [.int .i64 (g_Vw_heldStringS_0 a0 a1)], []) := by kernel_rfl
theorem sw_heldStringS : Sound Go.Proofs.Tryz.prog 53 msw_heldStringS Fw_heldStringS := by
  refine fn_gen goodw_heldStringS (by kernel_rfl) .std (fn := Go.Proofs.Tryz.f53) (c := (Go.Proofs.Tryz.f53.body.getD .skip)) (o := Ow_heldStringS_1) (k := 1) (by kernel_rfl) (by kernel_rfl) (by kernel_rfl) (by kernel_rfl) (by decide) kw_heldStringS_1 ?_
  intro ys r outs h
  unfold Fw_heldStringS at h
  split at h
  · exact (vw_heldStringS _ _).trans h
  · cases h
end Go.Proofs.YtnbcdkbjmpadmaaGreatDoor.E
end
section
namespace Go.Proofs.YtnbcdkbjmpadmaaGreatDoor.E
open Go
set_option maxRecDepth 100000
set_option maxHeartbeats 0
set_option linter.all false
noncomputable def Ew_heldOpPlan : Env where
  tt := mkTI Go.Proofs.Tryz.prog
  fn := fun f => match f with
    | 53 => some (msw_heldStringS, FSem.wk msw_heldStringS Fw_heldStringS)
    | 54 => some (msw_heldStoWriteS, FSem.wk msw_heldStoWriteS Fw_heldStoWriteS)
    | _ => none
  bxf := fun _ => none
  mv := []
  keep := fun _ => []
  keepB := fun _ => []
  keepX := fun _ => []
  keepXB := fun _ => []
theorem goodFw_heldOpPlan : ∀ f ms F, Ew_heldOpPlan.fn f = some (ms, F) → Sound Go.Proofs.Tryz.prog f ms F := fun f ms F h => by
  unfold Ew_heldOpPlan at h
  dsimp only at h
  split at h
  · injection h with h; injection h with e1 e2; subst e1 e2; exact Sound.wk sw_heldStringS
  · injection h with h; injection h with e1 e2; subst e1 e2; exact Sound.wk sw_heldStoWriteS
  · cases h
theorem goodBw_heldOpPlan : ∀ f ms F, Ew_heldOpPlan.bxf f = some (ms, F) → SoundB Go.Proofs.Tryz.prog f ms F := fun f ms F h => by cases h
theorem goodw_heldOpPlan : Good Go.Proofs.Tryz.prog Ew_heldOpPlan := ⟨rfl, goodFw_heldOpPlan, goodBw_heldOpPlan⟩
noncomputable def Ow_heldOpPlan_0 : Orc := fun _ _ => none
noncomputable def msw_heldOpPlan : List PM := [.rd, .own]
noncomputable def lsw_heldOpPlan : List (Nat × Code) := loopsAll 0 (Go.Proofs.Tryz.f17.body.getD .skip)

theorem kw_heldOpPlan_0 : OrcOk Ew_heldOpPlan Ow_heldOpPlan_0 lsw_heldOpPlan 0 := orcOk_none
noncomputable def g_Aw_heldOpPlan (a0 : Bool) (a1 : List (ByteArray)) (a2 : List ((ByteArray) × ((Bool) × (List (Int))))) (a3 : Int) : Bool := g_Aw_heldStringS a1 a3 && (decide (g_Vw_heldStringS_0 a1 a3 < (0 : Int)) || g_Aw_heldStoWriteS a2 (g_Vw_heldStringS_0 a1 a3) && true)
noncomputable def g_Vw_heldOpPlan_0 (a0 : Bool) (a1 : List (ByteArray)) (a2 : List ((ByteArray) × ((Bool) × (List (Int))))) (a3 : Int) : Int := bif decide (g_Vw_heldStringS_0 a1 a3 < (0 : Int)) then (-1 : Int) else bif decide (g_Vw_heldStoWriteS_0 a2 (g_Vw_heldStringS_0 a1 a3) < (0 : Int)) then (-1 : Int) else g_Vw_heldStoWriteS_0 a2 (g_Vw_heldStringS_0 a1 a3)
noncomputable def Fw_heldOpPlan : FSem := fun ys => match ys with
  | [.val true [.bool a0, .sl .any 9 .str a1, .sl .any 50 (.pair .str (.pair .bool (.sl 3 (.int .i64)))) a2], .val false [.int .i64 a3]] => some ((g_Aw_heldOpPlan a0 a1 a2 a3), .val false [.int .i64 (g_Vw_heldOpPlan_0 a0 a1 a2 a3)], [])
  | _ => none
theorem vw_heldOpPlan (a0 : Bool) (a1 : List (ByteArray)) (a2 : List ((ByteArray) × ((Bool) × (List (Int))))) (a3 : Int) : collapseH .std Ew_heldOpPlan Ow_heldOpPlan_0 (execFn Ew_heldOpPlan Go.Proofs.Tryz.f17 msw_heldOpPlan [.val true [.bool a0, .sl .any 9 .str a1, .sl .any 50 (.pair .str (.pair .bool (.sl 3 (.int .i64)))) a2], .val false [.int .i64 a3]]) = some ((g_Aw_heldOpPlan a0 a1 a2 a3), .val false [.int .i64 (g_Vw_heldOpPlan_0 a0 a1 a2 a3)], []) := by kernel_rfl
theorem sw_heldOpPlan : Sound Go.Proofs.Tryz.prog 17 msw_heldOpPlan Fw_heldOpPlan := by
  refine fn_gen goodw_heldOpPlan (by kernel_rfl) .std (fn := Go.Proofs.Tryz.f17) (c := (Go.Proofs.Tryz.f17.body.getD .skip)) (o := Ow_heldOpPlan_0) (k := 0) (by kernel_rfl) (by kernel_rfl) (by kernel_rfl) (by kernel_rfl) (by decide) kw_heldOpPlan_0 ?_
  intro ys r outs h
  unfold Fw_heldOpPlan at h
  split at h
  · exact (vw_heldOpPlan _ _ _ _).trans h
  · cases h
end Go.Proofs.YtnbcdkbjmpadmaaGreatDoor.E
end
section
namespace Go.Proofs.YtnbcdkbjmpadmaaGreatDoor.E
open Go
set_option maxRecDepth 100000
set_option maxHeartbeats 0
set_option linter.all false
noncomputable def Ew_markIntS : Env where
  tt := mkTI Go.Proofs.Tryz.prog
  fn := fun _ => none
  bxf := fun _ => none
  mv := []
  keep := fun b => match b with
    | 0 => [(0, false), (1, false), (5, false)]
    | _ => []
  keepB := fun b => match b with
    | 0 => []
    | _ => []
  keepX := fun b => match b with
    | 0 => [(0, false), (1, false)]
    | _ => []
  keepXB := fun b => match b with
    | 0 => []
    | _ => []
theorem goodFw_markIntS : ∀ f ms F, Ew_markIntS.fn f = some (ms, F) → Sound Go.Proofs.Tryz.prog f ms F := fun f ms F h => by cases h
theorem goodBw_markIntS : ∀ f ms F, Ew_markIntS.bxf f = some (ms, F) → SoundB Go.Proofs.Tryz.prog f ms F := fun f ms F h => by cases h
theorem goodw_markIntS : Good Go.Proofs.Tryz.prog Ew_markIntS := ⟨rfl, goodFw_markIntS, goodBw_markIntS⟩
noncomputable def Ow_markIntS_0 : Orc := fun _ _ => none
noncomputable def msw_markIntS : List PM := [.«mut», .own]
noncomputable def lsw_markIntS : List (Nat × Code) := loopsAll 0 (Go.Proofs.Tryz.f89.body.getD .skip)
noncomputable def cw_markIntS_0 : Code := (loopOf 0 (Go.Proofs.Tryz.f89.body.getD .skip)).getD .skip
theorem lseqw_markIntS : lsw_markIntS = [(0, cw_markIntS_0)] := by kernel_rfl
theorem mw_markIntS_0 : ∀ p, p ∈ lsw_markIntS → p.1 = 0 → p.2 = cw_markIntS_0 := by
  intro p hp
  rw [lseqw_markIntS] at hp
  simp only [List.mem_cons, List.not_mem_nil, or_false] at hp
  subst hp; simp
theorem kw_markIntS_0 : OrcOk Ew_markIntS Ow_markIntS_0 lsw_markIntS 0 := orcOk_none
noncomputable def hw_markIntS_0 (y0 : List (Int)) (y1 : Int) (y2 : Int) : List (Pl × LV) := [(.T 0, .t (.val false [.row 0 0 0])), (.R 0 0, .r 0 (some ⟨false, .any, true, 3, (.int .i64), y0⟩)), (.T 1, .t (.val false [.int .i64 y1])), (.T 5, .t (.val false [.int .i64 y2]))]
noncomputable def g_Sw_markIntS_0 : ((List (Int)) × (Int) × (Int)) → RT ((List (Int)) × (Int) × (Int)) (((List (Int)) × (Int)))
  | (y0, y1, y2) => .br (true) (.br (decide (y2 < (↑(List.length y0) : Int))) (.br (decide ((0 : Int) ≤ y2 ∧ y2 < (↑(List.length y0) : Int))) (.br (decide (Int.toNat y2 < List.length y0)) (.br (true) (.br (true) (.go ((List.set y0 (Int.toNat y2) y1, IntKind.wrap IntKind.i64 (y1 + (1 : Int)), IntKind.wrap IntKind.i64 (y2 + (1 : Int))))) (.bad)) (.bad)) (.bad)) (.bad)) (.out ((y0, y1)))) (.bad)
noncomputable def g_Lw_markIntS_0 (x : (List (Int)) × (Int) × (Int)) : Option (((List (Int)) × (Int))) := loopO (g_Sw_markIntS_0) x
noncomputable def xw_markIntS_0 : (((List (Int)) × (Int))) → Ex × List (Pl × LV) := fun r => (.exit 0, [(.T 0, .t (.val false [.row 0 0 0])), (.R 0 0, .r 0 (some ⟨false, .any, true, 3, (.int .i64), r.1⟩)), (.T 1, .t (.val false [.int .i64 r.2]))])
noncomputable def Ow_markIntS_1 : Orc := fun b h => match b, h with
  | 0, [(.T 0, .t (.val false [.row 0 0 0])), (.R 0 0, .r 0 (some ⟨false, .any, true, 3, (.int .i64), y0⟩)), (.T 1, .t (.val false [.int .i64 y1])), (.T 5, .t (.val false [.int .i64 y2]))] => some (okO (g_Lw_markIntS_0 (y0, y1, y2)), (.leaf (.exit 0) [(.T 0, .t (.val false [.row 0 0 0])), (.R 0 0, .r 0 (some ⟨false, .any, true, 3, (.int .i64), (valO (g_Lw_markIntS_0 (y0, y1, y2))).1⟩)), (.T 1, .t (.val false [.int .i64 (valO (g_Lw_markIntS_0 (y0, y1, y2))).2]))]))
  | b, h => Ow_markIntS_0 b h
theorem bw_markIntS_0 (y0 : List (Int)) (y1 : Int) (y2 : Int) : Tr.bt Ew_markIntS Ow_markIntS_0 (exec Ew_markIntS 0 cw_markIntS_0 (St.of (hw_markIntS_0 y0 y1 y2)) (leafRd Ew_markIntS 0)) = (g_Sw_markIntS_0 (y0, y1, y2)).bt (fun ((y0, y1, y2) : (List (Int)) × (Int) × (Int)) => (hw_markIntS_0 y0 y1 y2)) (xw_markIntS_0) := by kernel_rfl
theorem kw_markIntS_1 : OrcOk Ew_markIntS Ow_markIntS_1 lsw_markIntS 1 := orc_add kw_markIntS_0 (fun n p hp h ex h' ho => by
  obtain ⟨b, c⟩ := p
  obtain ⟨xt, h1, h2⟩ := ho
  have h1 : Ow_markIntS_1 b h = some (true, xt) := h1
  unfold Ow_markIntS_1 at h1
  split at h1
  · injection h1 with h1
    injection h1 with e1 e2
    subst e2
    have hc : c = cw_markIntS_0 := mw_markIntS_0 _ hp rfl
    subst hc
    right
    rename_i y0 y1 y2
    have key := LT_step kw_markIntS_0 hp (fun q hq => loopsAll_in _ _ _ _ hp hq) (fun ((y0, y1, y2) : (List (Int)) × (Int) × (Int)) => (hw_markIntS_0 y0 y1 y2)) (xw_markIntS_0) (g_Sw_markIntS_0) (fun x => by first | exact bw_markIntS_0 x.1 x.2.1 x.2.2) n (x := (y0, y1, y2)) (okO_some e1)
    have hx : ∀ r, XT.sel (.leaf (.exit 0) [(.T 0, .t (.val false [.row 0 0 0])), (.R 0 0, .r 0 (some ⟨false, .any, true, 3, (.int .i64), r.1⟩)), (.T 1, .t (.val false [.int .i64 r.2]))]) = xw_markIntS_0 r := fun r => by first | rfl | (rcases r with r | r <;> rfl) | (rcases r with r | r | r <;> rfl) | (rcases r with r | r | r | r <;> rfl)
    have h3 := (hx (valO (g_Lw_markIntS_0 (y0, y1, y2)))).symm.trans h2
    have e3 := congrArg Prod.fst h3
    have e4 := congrArg Prod.snd h3
    simp only at e3 e4
    rw [← e3, ← e4]
    exact key
  · exact .inl ⟨xt, h1, h2⟩)
noncomputable def g_Aw_markIntS (a0 : List (Int)) (a1 : Int) : Bool := okO (g_Lw_markIntS_0 (a0, a1, (0 : Int)))
noncomputable def g_Vw_markIntS_0 (a0 : List (Int)) (a1 : Int) : Int := (valO (g_Lw_markIntS_0 (a0, a1, (0 : Int)))).2
noncomputable def g_Vw_markIntS_1 (a0 : List (Int)) (a1 : Int) : List (Int) := (valO (g_Lw_markIntS_0 (a0, a1, (0 : Int)))).1
noncomputable def Fw_markIntS : FSem := fun ys => match ys with
  | [.val false [.own .any true 3 (.int .i64) a0], .val false [.int .i64 a1]] => some ((g_Aw_markIntS a0 a1), .val false [.int .i64 (g_Vw_markIntS_0 a0 a1)], [[.own .any true 3 (.int .i64) (g_Vw_markIntS_1 a0 a1)]])
  | _ => none
theorem vw_markIntS (a0 : List (Int)) (a1 : Int) : collapseH .std Ew_markIntS Ow_markIntS_1 (execFn Ew_markIntS Go.Proofs.Tryz.f89 msw_markIntS [.val false [.own .any true 3 (.int .i64) a0], .val false [.int .i64 a1]]) = some ((g_Aw_markIntS a0 a1), .val false [.int .i64 (g_Vw_markIntS_0 a0 a1)], [[.own .any true 3 (.int .i64) (g_Vw_markIntS_1 a0 a1)]]) := by kernel_rfl
theorem sw_markIntS : Sound Go.Proofs.Tryz.prog 89 msw_markIntS Fw_markIntS := by
  refine fn_gen goodw_markIntS (by kernel_rfl) .std (fn := Go.Proofs.Tryz.f89) (c := (Go.Proofs.Tryz.f89.body.getD .skip)) (o := Ow_markIntS_1) (k := 1) (by kernel_rfl) (by kernel_rfl) (by kernel_rfl) (by kernel_rfl) (by decide) kw_markIntS_1 ?_
  intro ys r outs h
  unfold Fw_markIntS at h
  split at h
  · exact (vw_markIntS _ _).trans h
  · cases h
end Go.Proofs.YtnbcdkbjmpadmaaGreatDoor.E
end
