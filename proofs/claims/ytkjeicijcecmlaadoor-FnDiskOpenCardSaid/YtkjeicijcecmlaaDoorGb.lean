/- What the functions that are reached do, by the engine: for the proof (laws.FnDiskOpen): part 2. No conditions. -/
import Derived.Test.YtkjeicijcecmlaaDoorGa
import Derived.Test.YtkjeicijcecmlaaDoorProg
import Derived.Test.YtkjeicijcecmlaaDoorShelf
set_option linter.all false
section
namespace Go.Proofs.YtkjeicijcecmlaaDoor.E
open Go
set_option maxRecDepth 100000
set_option maxHeartbeats 0
set_option linter.all false
noncomputable def Es_l2Copy : Env where
  tt := mkTI Go.Proofs.Tryd.prog
  fn := fun f => match f with
    | 111 => some (mss_l2Note, FSem.wk mss_l2Note Fs_l2Note)
    | _ => none
  bxf := fun _ => none
  mv := []
  keep := fun b => match b with
    | 0 => [(1, false), (2, false), (3, false), (4, false)]
    | _ => []
  keepB := fun b => match b with
    | 0 => [(1, false), (2, false), (3, false)]
    | _ => []
  keepX := fun b => match b with
    | 0 => [(2, false), (3, false)]
    | _ => []
  keepXB := fun b => match b with
    | 0 => [(2, false), (3, false)]
    | _ => []
theorem goodFs_l2Copy : ∀ f ms F, Es_l2Copy.fn f = some (ms, F) → Sound Go.Proofs.Tryd.prog f ms F := fun f ms F h => by
  unfold Es_l2Copy at h
  dsimp only at h
  split at h
  · injection h with h; injection h with e1 e2; subst e1 e2; exact Sound.wk ss_l2Note
  · cases h
theorem goodBs_l2Copy : ∀ f ms F, Es_l2Copy.bxf f = some (ms, F) → SoundB Go.Proofs.Tryd.prog f ms F := fun f ms F h => by cases h
theorem goods_l2Copy : Good Go.Proofs.Tryd.prog Es_l2Copy := ⟨rfl, goodFs_l2Copy, goodBs_l2Copy⟩
noncomputable def Os_l2Copy_0 : Orc := fun _ _ => none
noncomputable def mss_l2Copy : List PM := [.rd]
noncomputable def lss_l2Copy : List (Nat × Code) := loopsAll 0 (Go.Proofs.Tryd.f110.body.getD .skip)
noncomputable def cs_l2Copy_0 : Code := (loopOf 0 (Go.Proofs.Tryd.f110.body.getD .skip)).getD .skip
theorem lseqs_l2Copy : lss_l2Copy = [(0, cs_l2Copy_0)] := by kernel_rfl
theorem ms_l2Copy_0 : ∀ p, p ∈ lss_l2Copy → p.1 = 0 → p.2 = cs_l2Copy_0 := by
  intro p hp
  rw [lseqs_l2Copy] at hp
  simp only [List.mem_cons, List.not_mem_nil, or_false] at hp
  subst hp; simp
theorem ks_l2Copy_0 : OrcOk Es_l2Copy Os_l2Copy_0 lss_l2Copy 0 := orcOk_none
noncomputable def hs_l2Copy_0 (y0 : Int) (y1 : List ((Int) × ((Int) × ((List (ByteArray)) × (List ((ByteArray) × ((Bool) × (List (Int))))))))) (y2 : Int) (y3 : Int) (y4 : List ((Int) × ((Int) × ((List (ByteArray)) × (List ((ByteArray) × ((Bool) × (List (Int))))))))) (y5 : Int) (y6 : List ((Int) × ((Int) × ((List (ByteArray)) × (List ((ByteArray) × ((Bool) × (List (Int))))))))) : List (Pl × LV) := [(.T 1, .t (.val false [.ptr 1 0 0])), (.T 2, .t (.val false [.ptr 2 0 0])), (.T 3, .t (.val false [.ptr 3 0 0])), (.T 4, .t (.val false [.int .i64 y0])), (.B 1, .b 0 false [.sl .any 79 (.pair (.int .i64) (.pair (.int .i64) (.pair (.sl 9 .str) (.sl 38 (.pair .str (.pair .bool (.sl 3 (.int .i64)))))))) y1, .int .i64 y2]), (.B 2, .b 0 false [.row 2 1 0, .int .i64 y3]), (.R 2 1, .r 0 (some ⟨false, .any, true, 79, (.pair (.int .i64) (.pair (.int .i64) (.pair (.sl 9 .str) (.sl 38 (.pair .str (.pair .bool (.sl 3 (.int .i64)))))))), y4⟩)), (.B 3, .b 0 false [.row 3 1 0, .int .i64 y5]), (.R 3 1, .r 0 (some ⟨false, .any, true, 79, (.pair (.int .i64) (.pair (.int .i64) (.pair (.sl 9 .str) (.sl 38 (.pair .str (.pair .bool (.sl 3 (.int .i64)))))))), y6⟩))]
noncomputable def g_Ss_l2Copy_0 (y1 : List ((Int) × ((Int) × ((List (ByteArray)) × (List ((ByteArray) × ((Bool) × (List (Int))))))))) (y2 : Int) (y3 : Int) (y4 : List ((Int) × ((Int) × ((List (ByteArray)) × (List ((ByteArray) × ((Bool) × (List (Int))))))))) (y5 : Int) : ((Int) × (List ((Int) × ((Int) × ((List (ByteArray)) × (List ((ByteArray) × ((Bool) × (List (Int)))))))))) → RT ((Int) × (List ((Int) × ((Int) × ((List (ByteArray)) × (List ((ByteArray) × ((Bool) × (List (Int)))))))))) (((List ((Int) × ((Int) × ((List (ByteArray)) × (List ((ByteArray) × ((Bool) × (List (Int)))))))))))
  | (y0, y6) => .br (true) (.br (decide (y0 < (↑(List.length y1) : Int))) (.br (decide ((0 : Int) ≤ y0 ∧ y0 < (↑(List.length y1) : Int))) (.br (g_As_l2Note (at_ (Ty.pair (Ty.int IntKind.i64) (Ty.pair (Ty.int IntKind.i64) (Ty.pair (Ty.sl (nat_lit 9) Ty.str) (Ty.sl (nat_lit 38) (Ty.pair Ty.str (Ty.pair Ty.bool (Ty.sl (nat_lit 3) (Ty.int IntKind.i64)))))))) y1 (Int.toNat y0)).1 (at_ (Ty.pair (Ty.int IntKind.i64) (Ty.pair (Ty.int IntKind.i64) (Ty.pair (Ty.sl (nat_lit 9) Ty.str) (Ty.sl (nat_lit 38) (Ty.pair Ty.str (Ty.pair Ty.bool (Ty.sl (nat_lit 3) (Ty.int IntKind.i64)))))))) y1 (Int.toNat y0)).2.1 (at_ (Ty.pair (Ty.int IntKind.i64) (Ty.pair (Ty.int IntKind.i64) (Ty.pair (Ty.sl (nat_lit 9) Ty.str) (Ty.sl (nat_lit 38) (Ty.pair Ty.str (Ty.pair Ty.bool (Ty.sl (nat_lit 3) (Ty.int IntKind.i64)))))))) y1 (Int.toNat y0)).2.2.1 (at_ (Ty.pair (Ty.int IntKind.i64) (Ty.pair (Ty.int IntKind.i64) (Ty.pair (Ty.sl (nat_lit 9) Ty.str) (Ty.sl (nat_lit 38) (Ty.pair Ty.str (Ty.pair Ty.bool (Ty.sl (nat_lit 3) (Ty.int IntKind.i64)))))))) y1 (Int.toNat y0)).2.2.2) (.br (decide ((List.length y6 + List.length [((at_ (Ty.pair (Ty.int IntKind.i64) (Ty.pair (Ty.int IntKind.i64) (Ty.pair (Ty.sl (nat_lit 9) Ty.str) (Ty.sl (nat_lit 38) (Ty.pair Ty.str (Ty.pair Ty.bool (Ty.sl (nat_lit 3) (Ty.int IntKind.i64)))))))) y1 (Int.toNat y0)).1, (at_ (Ty.pair (Ty.int IntKind.i64) (Ty.pair (Ty.int IntKind.i64) (Ty.pair (Ty.sl (nat_lit 9) Ty.str) (Ty.sl (nat_lit 38) (Ty.pair Ty.str (Ty.pair Ty.bool (Ty.sl (nat_lit 3) (Ty.int IntKind.i64)))))))) y1 (Int.toNat y0)).2.1, g_Vs_l2Note_0 (at_ (Ty.pair (Ty.int IntKind.i64) (Ty.pair (Ty.int IntKind.i64) (Ty.pair (Ty.sl (nat_lit 9) Ty.str) (Ty.sl (nat_lit 38) (Ty.pair Ty.str (Ty.pair Ty.bool (Ty.sl (nat_lit 3) (Ty.int IntKind.i64)))))))) y1 (Int.toNat y0)).1 (at_ (Ty.pair (Ty.int IntKind.i64) (Ty.pair (Ty.int IntKind.i64) (Ty.pair (Ty.sl (nat_lit 9) Ty.str) (Ty.sl (nat_lit 38) (Ty.pair Ty.str (Ty.pair Ty.bool (Ty.sl (nat_lit 3) (Ty.int IntKind.i64)))))))) y1 (Int.toNat y0)).2.1 (at_ (Ty.pair (Ty.int IntKind.i64) (Ty.pair (Ty.int IntKind.i64) (Ty.pair (Ty.sl (nat_lit 9) Ty.str) (Ty.sl (nat_lit 38) (Ty.pair Ty.str (Ty.pair Ty.bool (Ty.sl (nat_lit 3) (Ty.int IntKind.i64)))))))) y1 (Int.toNat y0)).2.2.1 (at_ (Ty.pair (Ty.int IntKind.i64) (Ty.pair (Ty.int IntKind.i64) (Ty.pair (Ty.sl (nat_lit 9) Ty.str) (Ty.sl (nat_lit 38) (Ty.pair Ty.str (Ty.pair Ty.bool (Ty.sl (nat_lit 3) (Ty.int IntKind.i64)))))))) y1 (Int.toNat y0)).2.2.2, g_Vs_l2Note_1 (at_ (Ty.pair (Ty.int IntKind.i64) (Ty.pair (Ty.int IntKind.i64) (Ty.pair (Ty.sl (nat_lit 9) Ty.str) (Ty.sl (nat_lit 38) (Ty.pair Ty.str (Ty.pair Ty.bool (Ty.sl (nat_lit 3) (Ty.int IntKind.i64)))))))) y1 (Int.toNat y0)).1 (at_ (Ty.pair (Ty.int IntKind.i64) (Ty.pair (Ty.int IntKind.i64) (Ty.pair (Ty.sl (nat_lit 9) Ty.str) (Ty.sl (nat_lit 38) (Ty.pair Ty.str (Ty.pair Ty.bool (Ty.sl (nat_lit 3) (Ty.int IntKind.i64)))))))) y1 (Int.toNat y0)).2.1 (at_ (Ty.pair (Ty.int IntKind.i64) (Ty.pair (Ty.int IntKind.i64) (Ty.pair (Ty.sl (nat_lit 9) Ty.str) (Ty.sl (nat_lit 38) (Ty.pair Ty.str (Ty.pair Ty.bool (Ty.sl (nat_lit 3) (Ty.int IntKind.i64)))))))) y1 (Int.toNat y0)).2.2.1 (at_ (Ty.pair (Ty.int IntKind.i64) (Ty.pair (Ty.int IntKind.i64) (Ty.pair (Ty.sl (nat_lit 9) Ty.str) (Ty.sl (nat_lit 38) (Ty.pair Ty.str (Ty.pair Ty.bool (Ty.sl (nat_lit 3) (Ty.int IntKind.i64)))))))) y1 (Int.toNat y0)).2.2.2)]) * nat_lit 64 ≤ nat_lit 140737488355328 ∧ List.length y6 + List.length [((at_ (Ty.pair (Ty.int IntKind.i64) (Ty.pair (Ty.int IntKind.i64) (Ty.pair (Ty.sl (nat_lit 9) Ty.str) (Ty.sl (nat_lit 38) (Ty.pair Ty.str (Ty.pair Ty.bool (Ty.sl (nat_lit 3) (Ty.int IntKind.i64)))))))) y1 (Int.toNat y0)).1, (at_ (Ty.pair (Ty.int IntKind.i64) (Ty.pair (Ty.int IntKind.i64) (Ty.pair (Ty.sl (nat_lit 9) Ty.str) (Ty.sl (nat_lit 38) (Ty.pair Ty.str (Ty.pair Ty.bool (Ty.sl (nat_lit 3) (Ty.int IntKind.i64)))))))) y1 (Int.toNat y0)).2.1, g_Vs_l2Note_0 (at_ (Ty.pair (Ty.int IntKind.i64) (Ty.pair (Ty.int IntKind.i64) (Ty.pair (Ty.sl (nat_lit 9) Ty.str) (Ty.sl (nat_lit 38) (Ty.pair Ty.str (Ty.pair Ty.bool (Ty.sl (nat_lit 3) (Ty.int IntKind.i64)))))))) y1 (Int.toNat y0)).1 (at_ (Ty.pair (Ty.int IntKind.i64) (Ty.pair (Ty.int IntKind.i64) (Ty.pair (Ty.sl (nat_lit 9) Ty.str) (Ty.sl (nat_lit 38) (Ty.pair Ty.str (Ty.pair Ty.bool (Ty.sl (nat_lit 3) (Ty.int IntKind.i64)))))))) y1 (Int.toNat y0)).2.1 (at_ (Ty.pair (Ty.int IntKind.i64) (Ty.pair (Ty.int IntKind.i64) (Ty.pair (Ty.sl (nat_lit 9) Ty.str) (Ty.sl (nat_lit 38) (Ty.pair Ty.str (Ty.pair Ty.bool (Ty.sl (nat_lit 3) (Ty.int IntKind.i64)))))))) y1 (Int.toNat y0)).2.2.1 (at_ (Ty.pair (Ty.int IntKind.i64) (Ty.pair (Ty.int IntKind.i64) (Ty.pair (Ty.sl (nat_lit 9) Ty.str) (Ty.sl (nat_lit 38) (Ty.pair Ty.str (Ty.pair Ty.bool (Ty.sl (nat_lit 3) (Ty.int IntKind.i64)))))))) y1 (Int.toNat y0)).2.2.2, g_Vs_l2Note_1 (at_ (Ty.pair (Ty.int IntKind.i64) (Ty.pair (Ty.int IntKind.i64) (Ty.pair (Ty.sl (nat_lit 9) Ty.str) (Ty.sl (nat_lit 38) (Ty.pair Ty.str (Ty.pair Ty.bool (Ty.sl (nat_lit 3) (Ty.int IntKind.i64)))))))) y1 (Int.toNat y0)).1 (at_ (Ty.pair (Ty.int IntKind.i64) (Ty.pair (Ty.int IntKind.i64) (Ty.pair (Ty.sl (nat_lit 9) Ty.str) (Ty.sl (nat_lit 38) (Ty.pair Ty.str (Ty.pair Ty.bool (Ty.sl (nat_lit 3) (Ty.int IntKind.i64)))))))) y1 (Int.toNat y0)).2.1 (at_ (Ty.pair (Ty.int IntKind.i64) (Ty.pair (Ty.int IntKind.i64) (Ty.pair (Ty.sl (nat_lit 9) Ty.str) (Ty.sl (nat_lit 38) (Ty.pair Ty.str (Ty.pair Ty.bool (Ty.sl (nat_lit 3) (Ty.int IntKind.i64)))))))) y1 (Int.toNat y0)).2.2.1 (at_ (Ty.pair (Ty.int IntKind.i64) (Ty.pair (Ty.int IntKind.i64) (Ty.pair (Ty.sl (nat_lit 9) Ty.str) (Ty.sl (nat_lit 38) (Ty.pair Ty.str (Ty.pair Ty.bool (Ty.sl (nat_lit 3) (Ty.int IntKind.i64)))))))) y1 (Int.toNat y0)).2.2.2)] ≤ nat_lit 9223372036854775807)) (.br (true) (.go ((IntKind.wrap IntKind.i64 (y0 + (1 : Int)), y6 ++ [((at_ (Ty.pair (Ty.int IntKind.i64) (Ty.pair (Ty.int IntKind.i64) (Ty.pair (Ty.sl (nat_lit 9) Ty.str) (Ty.sl (nat_lit 38) (Ty.pair Ty.str (Ty.pair Ty.bool (Ty.sl (nat_lit 3) (Ty.int IntKind.i64)))))))) y1 (Int.toNat y0)).1, (at_ (Ty.pair (Ty.int IntKind.i64) (Ty.pair (Ty.int IntKind.i64) (Ty.pair (Ty.sl (nat_lit 9) Ty.str) (Ty.sl (nat_lit 38) (Ty.pair Ty.str (Ty.pair Ty.bool (Ty.sl (nat_lit 3) (Ty.int IntKind.i64)))))))) y1 (Int.toNat y0)).2.1, g_Vs_l2Note_0 (at_ (Ty.pair (Ty.int IntKind.i64) (Ty.pair (Ty.int IntKind.i64) (Ty.pair (Ty.sl (nat_lit 9) Ty.str) (Ty.sl (nat_lit 38) (Ty.pair Ty.str (Ty.pair Ty.bool (Ty.sl (nat_lit 3) (Ty.int IntKind.i64)))))))) y1 (Int.toNat y0)).1 (at_ (Ty.pair (Ty.int IntKind.i64) (Ty.pair (Ty.int IntKind.i64) (Ty.pair (Ty.sl (nat_lit 9) Ty.str) (Ty.sl (nat_lit 38) (Ty.pair Ty.str (Ty.pair Ty.bool (Ty.sl (nat_lit 3) (Ty.int IntKind.i64)))))))) y1 (Int.toNat y0)).2.1 (at_ (Ty.pair (Ty.int IntKind.i64) (Ty.pair (Ty.int IntKind.i64) (Ty.pair (Ty.sl (nat_lit 9) Ty.str) (Ty.sl (nat_lit 38) (Ty.pair Ty.str (Ty.pair Ty.bool (Ty.sl (nat_lit 3) (Ty.int IntKind.i64)))))))) y1 (Int.toNat y0)).2.2.1 (at_ (Ty.pair (Ty.int IntKind.i64) (Ty.pair (Ty.int IntKind.i64) (Ty.pair (Ty.sl (nat_lit 9) Ty.str) (Ty.sl (nat_lit 38) (Ty.pair Ty.str (Ty.pair Ty.bool (Ty.sl (nat_lit 3) (Ty.int IntKind.i64)))))))) y1 (Int.toNat y0)).2.2.2, g_Vs_l2Note_1 (at_ (Ty.pair (Ty.int IntKind.i64) (Ty.pair (Ty.int IntKind.i64) (Ty.pair (Ty.sl (nat_lit 9) Ty.str) (Ty.sl (nat_lit 38) (Ty.pair Ty.str (Ty.pair Ty.bool (Ty.sl (nat_lit 3) (Ty.int IntKind.i64)))))))) y1 (Int.toNat y0)).1 (at_ (Ty.pair (Ty.int IntKind.i64) (Ty.pair (Ty.int IntKind.i64) (Ty.pair (Ty.sl (nat_lit 9) Ty.str) (Ty.sl (nat_lit 38) (Ty.pair Ty.str (Ty.pair Ty.bool (Ty.sl (nat_lit 3) (Ty.int IntKind.i64)))))))) y1 (Int.toNat y0)).2.1 (at_ (Ty.pair (Ty.int IntKind.i64) (Ty.pair (Ty.int IntKind.i64) (Ty.pair (Ty.sl (nat_lit 9) Ty.str) (Ty.sl (nat_lit 38) (Ty.pair Ty.str (Ty.pair Ty.bool (Ty.sl (nat_lit 3) (Ty.int IntKind.i64)))))))) y1 (Int.toNat y0)).2.2.1 (at_ (Ty.pair (Ty.int IntKind.i64) (Ty.pair (Ty.int IntKind.i64) (Ty.pair (Ty.sl (nat_lit 9) Ty.str) (Ty.sl (nat_lit 38) (Ty.pair Ty.str (Ty.pair Ty.bool (Ty.sl (nat_lit 3) (Ty.int IntKind.i64)))))))) y1 (Int.toNat y0)).2.2.2)]))) (.bad)) (.bad)) (.bad)) (.bad)) (.out (y6))) (.bad)
noncomputable def g_Ls_l2Copy_0 (y1 : List ((Int) × ((Int) × ((List (ByteArray)) × (List ((ByteArray) × ((Bool) × (List (Int))))))))) (y2 : Int) (y3 : Int) (y4 : List ((Int) × ((Int) × ((List (ByteArray)) × (List ((ByteArray) × ((Bool) × (List (Int))))))))) (y5 : Int) (x : (Int) × (List ((Int) × ((Int) × ((List (ByteArray)) × (List ((ByteArray) × ((Bool) × (List (Int)))))))))) : Option (((List ((Int) × ((Int) × ((List (ByteArray)) × (List ((ByteArray) × ((Bool) × (List (Int))))))))))) := loopO (g_Ss_l2Copy_0 y1 y2 y3 y4 y5) x
noncomputable def xs_l2Copy_0 (y1 : List ((Int) × ((Int) × ((List (ByteArray)) × (List ((ByteArray) × ((Bool) × (List (Int))))))))) (y2 : Int) (y3 : Int) (y4 : List ((Int) × ((Int) × ((List (ByteArray)) × (List ((ByteArray) × ((Bool) × (List (Int))))))))) (y5 : Int) : (((List ((Int) × ((Int) × ((List (ByteArray)) × (List ((ByteArray) × ((Bool) × (List (Int))))))))))) → Ex × List (Pl × LV) := fun r => (.exit 0, [(.T 2, .t (.val false [.ptr 2 0 0])), (.T 3, .t (.val false [.ptr 3 0 0])), (.B 2, .b 0 false [.row 2 1 0, .int .i64 y3]), (.R 2 1, .r 0 (some ⟨false, .any, true, 79, (.pair (.int .i64) (.pair (.int .i64) (.pair (.sl 9 .str) (.sl 38 (.pair .str (.pair .bool (.sl 3 (.int .i64)))))))), y4⟩)), (.B 3, .b 0 false [.row 3 1 0, .int .i64 y5]), (.R 3 1, .r 0 (some ⟨false, .any, true, 79, (.pair (.int .i64) (.pair (.int .i64) (.pair (.sl 9 .str) (.sl 38 (.pair .str (.pair .bool (.sl 3 (.int .i64)))))))), r⟩))])
noncomputable def Os_l2Copy_1 : Orc := fun b h => match b, h with
  | 0, [(.T 1, .t (.val false [.ptr 1 0 0])), (.T 2, .t (.val false [.ptr 2 0 0])), (.T 3, .t (.val false [.ptr 3 0 0])), (.T 4, .t (.val false [.int .i64 y0])), (.B 1, .b 0 false [.sl .any 79 (.pair (.int .i64) (.pair (.int .i64) (.pair (.sl 9 .str) (.sl 38 (.pair .str (.pair .bool (.sl 3 (.int .i64)))))))) y1, .int .i64 y2]), (.B 2, .b 0 false [.row 2 1 0, .int .i64 y3]), (.R 2 1, .r 0 (some ⟨false, .any, true, 79, (.pair (.int .i64) (.pair (.int .i64) (.pair (.sl 9 .str) (.sl 38 (.pair .str (.pair .bool (.sl 3 (.int .i64)))))))), y4⟩)), (.B 3, .b 0 false [.row 3 1 0, .int .i64 y5]), (.R 3 1, .r 0 (some ⟨false, .any, true, 79, (.pair (.int .i64) (.pair (.int .i64) (.pair (.sl 9 .str) (.sl 38 (.pair .str (.pair .bool (.sl 3 (.int .i64)))))))), y6⟩))] => some (okO (g_Ls_l2Copy_0 y1 y2 y3 y4 y5 (y0, y6)), (.leaf (.exit 0) [(.T 2, .t (.val false [.ptr 2 0 0])), (.T 3, .t (.val false [.ptr 3 0 0])), (.B 2, .b 0 false [.row 2 1 0, .int .i64 y3]), (.R 2 1, .r 0 (some ⟨false, .any, true, 79, (.pair (.int .i64) (.pair (.int .i64) (.pair (.sl 9 .str) (.sl 38 (.pair .str (.pair .bool (.sl 3 (.int .i64)))))))), y4⟩)), (.B 3, .b 0 false [.row 3 1 0, .int .i64 y5]), (.R 3 1, .r 0 (some ⟨false, .any, true, 79, (.pair (.int .i64) (.pair (.int .i64) (.pair (.sl 9 .str) (.sl 38 (.pair .str (.pair .bool (.sl 3 (.int .i64)))))))), (valO (g_Ls_l2Copy_0 y1 y2 y3 y4 y5 (y0, y6)))⟩))]))
  | b, h => Os_l2Copy_0 b h
theorem bs_l2Copy_0 (y0 : Int) (y1 : List ((Int) × ((Int) × ((List (ByteArray)) × (List ((ByteArray) × ((Bool) × (List (Int))))))))) (y2 : Int) (y3 : Int) (y4 : List ((Int) × ((Int) × ((List (ByteArray)) × (List ((ByteArray) × ((Bool) × (List (Int))))))))) (y5 : Int) (y6 : List ((Int) × ((Int) × ((List (ByteArray)) × (List ((ByteArray) × ((Bool) × (List (Int))))))))) : Tr.bt Es_l2Copy Os_l2Copy_0 (exec Es_l2Copy 0 cs_l2Copy_0 (St.of (hs_l2Copy_0 y0 y1 y2 y3 y4 y5 y6)) (leafRd Es_l2Copy 0)) = (g_Ss_l2Copy_0 y1 y2 y3 y4 y5 (y0, y6)).bt (fun ((y0, y6) : (Int) × (List ((Int) × ((Int) × ((List (ByteArray)) × (List ((ByteArray) × ((Bool) × (List (Int)))))))))) => (hs_l2Copy_0 y0 y1 y2 y3 y4 y5 y6)) (xs_l2Copy_0 y1 y2 y3 y4 y5) := by kernel_rfl
theorem ks_l2Copy_1 : OrcOk Es_l2Copy Os_l2Copy_1 lss_l2Copy 1 := orc_add ks_l2Copy_0 (fun n p hp h ex h' ho => by
  obtain ⟨b, c⟩ := p
  obtain ⟨xt, h1, h2⟩ := ho
  have h1 : Os_l2Copy_1 b h = some (true, xt) := h1
  unfold Os_l2Copy_1 at h1
  split at h1
  · injection h1 with h1
    injection h1 with e1 e2
    subst e2
    have hc : c = cs_l2Copy_0 := ms_l2Copy_0 _ hp rfl
    subst hc
    right
    rename_i y0 y1 y2 y3 y4 y5 y6
    have key := LT_step ks_l2Copy_0 hp (fun q hq => loopsAll_in _ _ _ _ hp hq) (fun ((y0, y6) : (Int) × (List ((Int) × ((Int) × ((List (ByteArray)) × (List ((ByteArray) × ((Bool) × (List (Int)))))))))) => (hs_l2Copy_0 y0 y1 y2 y3 y4 y5 y6)) (xs_l2Copy_0 y1 y2 y3 y4 y5) (g_Ss_l2Copy_0 y1 y2 y3 y4 y5) (fun x => by first | exact bs_l2Copy_0 x.1 y1 y2 y3 y4 y5 x.2) n (x := (y0, y6)) (okO_some e1)
    have hx : ∀ r, XT.sel (.leaf (.exit 0) [(.T 2, .t (.val false [.ptr 2 0 0])), (.T 3, .t (.val false [.ptr 3 0 0])), (.B 2, .b 0 false [.row 2 1 0, .int .i64 y3]), (.R 2 1, .r 0 (some ⟨false, .any, true, 79, (.pair (.int .i64) (.pair (.int .i64) (.pair (.sl 9 .str) (.sl 38 (.pair .str (.pair .bool (.sl 3 (.int .i64)))))))), y4⟩)), (.B 3, .b 0 false [.row 3 1 0, .int .i64 y5]), (.R 3 1, .r 0 (some ⟨false, .any, true, 79, (.pair (.int .i64) (.pair (.int .i64) (.pair (.sl 9 .str) (.sl 38 (.pair .str (.pair .bool (.sl 3 (.int .i64)))))))), r⟩))]) = xs_l2Copy_0 y1 y2 y3 y4 y5 r := fun r => by first | rfl | (rcases r with r | r <;> rfl) | (rcases r with r | r | r <;> rfl) | (rcases r with r | r | r | r <;> rfl)
    have h3 := (hx (valO (g_Ls_l2Copy_0 y1 y2 y3 y4 y5 (y0, y6)))).symm.trans h2
    have e3 := congrArg Prod.fst h3
    have e4 := congrArg Prod.snd h3
    simp only at e3 e4
    rw [← e3, ← e4]
    exact key
  · exact .inl ⟨xt, h1, h2⟩)
noncomputable def g_As_l2Copy (a0 : List ((Int) × ((Int) × ((List (ByteArray)) × (List ((ByteArray) × ((Bool) × (List (Int))))))))) (a1 : Int) : Bool := okO (g_Ls_l2Copy_0 a0 a1 (0 : Int) [] a1 ((0 : Int), []))
noncomputable def g_Vs_l2Copy_0 (a0 : List ((Int) × ((Int) × ((List (ByteArray)) × (List ((ByteArray) × ((Bool) × (List (Int))))))))) (a1 : Int) : List ((Int) × ((Int) × ((List (ByteArray)) × (List ((ByteArray) × ((Bool) × (List (Int)))))))) := valO (g_Ls_l2Copy_0 a0 a1 (0 : Int) [] a1 ((0 : Int), []))
noncomputable def Fs_l2Copy : FSem := fun ys => match ys with
  | [.val true [.sl .any 79 (.pair (.int .i64) (.pair (.int .i64) (.pair (.sl 9 .str) (.sl 38 (.pair .str (.pair .bool (.sl 3 (.int .i64)))))))) a0, .int .i64 a1]] => some ((g_As_l2Copy a0 a1), .val true [.own .any true 79 (.pair (.int .i64) (.pair (.int .i64) (.pair (.sl 9 .str) (.sl 38 (.pair .str (.pair .bool (.sl 3 (.int .i64)))))))) (g_Vs_l2Copy_0 a0 a1), .int .i64 a1], [])
  | _ => none
theorem vs_l2Copy (a0 : List ((Int) × ((Int) × ((List (ByteArray)) × (List ((ByteArray) × ((Bool) × (List (Int))))))))) (a1 : Int) : collapseH .std Es_l2Copy Os_l2Copy_1 (execFn Es_l2Copy Go.Proofs.Tryd.f110 mss_l2Copy [.val true [.sl .any 79 (.pair (.int .i64) (.pair (.int .i64) (.pair (.sl 9 .str) (.sl 38 (.pair .str (.pair .bool (.sl 3 (.int .i64)))))))) a0, .int .i64 a1]]) = some ((g_As_l2Copy a0 a1), .val true [.own .any true 79 (.pair (.int .i64) (.pair (.int .i64) (.pair (.sl 9 .str) (.sl 38 (.pair .str (.pair .bool (.sl 3 (.int .i64)))))))) (g_Vs_l2Copy_0 a0 a1), .int .i64 a1], []) := by kernel_rfl
theorem ss_l2Copy : Sound Go.Proofs.Tryd.prog 110 mss_l2Copy Fs_l2Copy := by
  refine fn_gen goods_l2Copy (by kernel_rfl) .std (fn := Go.Proofs.Tryd.f110) (c := (Go.Proofs.Tryd.f110.body.getD .skip)) (o := Os_l2Copy_1) (k := 1) (by kernel_rfl) (by kernel_rfl) (by kernel_rfl) (by kernel_rfl) (by decide) ks_l2Copy_1 ?_
  intro ys r outs h
  unfold Fs_l2Copy at h
  split at h
  · exact (vs_l2Copy _ _).trans h
  · cases h
end Go.Proofs.YtkjeicijcecmlaaDoor.E
end
section
namespace Go.Proofs.YtkjeicijcecmlaaDoor.E
open Go
set_option maxRecDepth 100000
set_option maxHeartbeats 0
set_option linter.all false
noncomputable def Es_DiskAdd : Env where
  tt := mkTI Go.Proofs.Tryd.prog
  fn := fun f => match f with
    | 59 => some (mss_DiskOk, FSem.wk mss_DiskOk Fs_DiskOk)
    | 109 => some (mss_NoteOk, FSem.wk mss_NoteOk Fs_NoteOk)
    | 110 => some (mss_l2Copy, FSem.wk mss_l2Copy Fs_l2Copy)
    | 111 => some (mss_l2Note, FSem.wk mss_l2Note Fs_l2Note)
    | _ => none
  bxf := fun _ => none
  mv := []
  keep := fun _ => []
  keepB := fun _ => []
  keepX := fun _ => []
  keepXB := fun _ => []
theorem goodFs_DiskAdd : ∀ f ms F, Es_DiskAdd.fn f = some (ms, F) → Sound Go.Proofs.Tryd.prog f ms F := fun f ms F h => by
  unfold Es_DiskAdd at h
  dsimp only at h
  split at h
  · injection h with h; injection h with e1 e2; subst e1 e2; exact Sound.wk ss_DiskOk
  · injection h with h; injection h with e1 e2; subst e1 e2; exact Sound.wk ss_NoteOk
  · injection h with h; injection h with e1 e2; subst e1 e2; exact Sound.wk ss_l2Copy
  · injection h with h; injection h with e1 e2; subst e1 e2; exact Sound.wk ss_l2Note
  · cases h
theorem goodBs_DiskAdd : ∀ f ms F, Es_DiskAdd.bxf f = some (ms, F) → SoundB Go.Proofs.Tryd.prog f ms F := fun f ms F h => by cases h
theorem goods_DiskAdd : Good Go.Proofs.Tryd.prog Es_DiskAdd := ⟨rfl, goodFs_DiskAdd, goodBs_DiskAdd⟩
noncomputable def Os_DiskAdd_0 : Orc := fun _ _ => none
noncomputable def mss_DiskAdd : List PM := [.rd, .rd, .own]
noncomputable def lss_DiskAdd : List (Nat × Code) := loopsAll 0 (Go.Proofs.Tryd.f48.body.getD .skip)

theorem ks_DiskAdd_0 : OrcOk Es_DiskAdd Os_DiskAdd_0 lss_DiskAdd 0 := orcOk_none
noncomputable def g_As_DiskAdd (a0 : List ((Int) × ((Int) × ((List (ByteArray)) × (List ((ByteArray) × ((Bool) × (List (Int))))))))) (a1 : Int) (a2 : Int) (a3 : Int) (a4 : List (ByteArray)) (a5 : List ((ByteArray) × ((Bool) × (List (Int))))) (a6 : Bool) : Bool := g_As_DiskOk a0 a1 && (!g_Vs_DiskOk_0 a0 a1 || g_As_NoteOk a2 a3 a4 a5 && (!g_Vs_NoteOk_0 a2 a3 a4 a5 || g_As_l2Copy a0 a1 && ((↑(List.length (g_Vs_l2Copy_0 a0 a1)) : Int) == (120 : Int) || g_As_l2Note a2 a3 a4 a5 && decide ((List.length (g_Vs_l2Copy_0 a0 a1) + List.length [(a2, a3, g_Vs_l2Note_0 a2 a3 a4 a5, g_Vs_l2Note_1 a2 a3 a4 a5)]) * nat_lit 64 ≤ nat_lit 140737488355328 ∧ List.length (g_Vs_l2Copy_0 a0 a1) + List.length [(a2, a3, g_Vs_l2Note_0 a2 a3 a4 a5, g_Vs_l2Note_1 a2 a3 a4 a5)] ≤ nat_lit 9223372036854775807))))
noncomputable def g_Vs_DiskAdd_0 (a0 : List ((Int) × ((Int) × ((List (ByteArray)) × (List ((ByteArray) × ((Bool) × (List (Int))))))))) (a1 : Int) (a2 : Int) (a3 : Int) (a4 : List (ByteArray)) (a5 : List ((ByteArray) × ((Bool) × (List (Int))))) (a6 : Bool) : List ((Int) × ((Int) × ((List (ByteArray)) × (List ((ByteArray) × ((Bool) × (List (Int)))))))) := bif !g_Vs_DiskOk_0 a0 a1 then [] else bif !g_Vs_NoteOk_0 a2 a3 a4 a5 then [] else bif (↑(List.length (g_Vs_l2Copy_0 a0 a1)) : Int) == (120 : Int) then g_Vs_l2Copy_0 a0 a1 else bif a6 then g_Vs_l2Copy_0 a0 a1 ++ [(a2, a3, g_Vs_l2Note_0 a2 a3 a4 a5, g_Vs_l2Note_1 a2 a3 a4 a5)] else g_Vs_l2Copy_0 a0 a1 ++ [(a2, a3, g_Vs_l2Note_0 a2 a3 a4 a5, g_Vs_l2Note_1 a2 a3 a4 a5)]
noncomputable def g_Vs_DiskAdd_1 (a0 : List ((Int) × ((Int) × ((List (ByteArray)) × (List ((ByteArray) × ((Bool) × (List (Int))))))))) (a1 : Int) (a2 : Int) (a3 : Int) (a4 : List (ByteArray)) (a5 : List ((ByteArray) × ((Bool) × (List (Int))))) (a6 : Bool) : Int := bif !g_Vs_DiskOk_0 a0 a1 then (0 : Int) else bif !g_Vs_NoteOk_0 a2 a3 a4 a5 then (0 : Int) else bif (↑(List.length (g_Vs_l2Copy_0 a0 a1)) : Int) == (120 : Int) then a1 else bif a6 then (↑(List.length (g_Vs_l2Copy_0 a0 a1 ++ [(a2, a3, g_Vs_l2Note_0 a2 a3 a4 a5, g_Vs_l2Note_1 a2 a3 a4 a5)])) : Int) else a1
noncomputable def g_Vs_DiskAdd_2 (a0 : List ((Int) × ((Int) × ((List (ByteArray)) × (List ((ByteArray) × ((Bool) × (List (Int))))))))) (a1 : Int) (a2 : Int) (a3 : Int) (a4 : List (ByteArray)) (a5 : List ((ByteArray) × ((Bool) × (List (Int))))) (a6 : Bool) : Bool := bif !g_Vs_DiskOk_0 a0 a1 then false else bif !g_Vs_NoteOk_0 a2 a3 a4 a5 then false else bif (↑(List.length (g_Vs_l2Copy_0 a0 a1)) : Int) == (120 : Int) then false else bif a6 then true else true
noncomputable def Fs_DiskAdd : FSem := fun ys => match ys with
  | [.val true [.sl .any 79 (.pair (.int .i64) (.pair (.int .i64) (.pair (.sl 9 .str) (.sl 38 (.pair .str (.pair .bool (.sl 3 (.int .i64)))))))) a0, .int .i64 a1], .val true [.int .i64 a2, .int .i64 a3, .sl .any 9 .str a4, .sl .any 38 (.pair .str (.pair .bool (.sl 3 (.int .i64)))) a5], .val false [.bool a6]] => some ((g_As_DiskAdd a0 a1 a2 a3 a4 a5 a6), .tup [(true, [.own .any true 79 (.pair (.int .i64) (.pair (.int .i64) (.pair (.sl 9 .str) (.sl 38 (.pair .str (.pair .bool (.sl 3 (.int .i64)))))))) (g_Vs_DiskAdd_0 a0 a1 a2 a3 a4 a5 a6), .int .i64 (g_Vs_DiskAdd_1 a0 a1 a2 a3 a4 a5 a6)]), (false, [.bool (g_Vs_DiskAdd_2 a0 a1 a2 a3 a4 a5 a6)])], [])
  | _ => none
theorem vs_DiskAdd (a0 : List ((Int) × ((Int) × ((List (ByteArray)) × (List ((ByteArray) × ((Bool) × (List (Int))))))))) (a1 : Int) (a2 : Int) (a3 : Int) (a4 : List (ByteArray)) (a5 : List ((ByteArray) × ((Bool) × (List (Int))))) (a6 : Bool) : collapseH .std Es_DiskAdd Os_DiskAdd_0 (execFn Es_DiskAdd Go.Proofs.Tryd.f48 mss_DiskAdd [.val true [.sl .any 79 (.pair (.int .i64) (.pair (.int .i64) (.pair (.sl 9 .str) (.sl 38 (.pair .str (.pair .bool (.sl 3 (.int .i64)))))))) a0, .int .i64 a1], .val true [.int .i64 a2, .int .i64 a3, .sl .any 9 .str a4, .sl .any 38 (.pair .str (.pair .bool (.sl 3 (.int .i64)))) a5], .val false [.bool a6]]) = some ((g_As_DiskAdd a0 a1 a2 a3 a4 a5 a6), .tup [(true, [.own .any true 79 (.pair (.int .i64) (.pair (.int .i64) (.pair (.sl 9 .str) (.sl 38 (.pair .str (.pair .bool (.sl 3 (.int .i64)))))))) (g_Vs_DiskAdd_0 a0 a1 a2 a3 a4 a5 a6), .int .i64 (g_Vs_DiskAdd_1 a0 a1 a2 a3 a4 a5 a6)]), (false, [.bool (g_Vs_DiskAdd_2 a0 a1 a2 a3 a4 a5 a6)])], []) := by kernel_rfl
theorem ss_DiskAdd : Sound Go.Proofs.Tryd.prog 48 mss_DiskAdd Fs_DiskAdd := by
  refine fn_gen goods_DiskAdd (by kernel_rfl) .std (fn := Go.Proofs.Tryd.f48) (c := (Go.Proofs.Tryd.f48.body.getD .skip)) (o := Os_DiskAdd_0) (k := 0) (by kernel_rfl) (by kernel_rfl) (by kernel_rfl) (by kernel_rfl) (by decide) ks_DiskAdd_0 ?_
  intro ys r outs h
  unfold Fs_DiskAdd at h
  split at h
  · exact (vs_DiskAdd _ _ _ _ _ _ _).trans h
  · cases h
end Go.Proofs.YtkjeicijcecmlaaDoor.E
end
section
namespace Go.Proofs.YtkjeicijcecmlaaDoor.E
open Go
set_option maxRecDepth 100000
set_option maxHeartbeats 0
set_option linter.all false
noncomputable def Es_l20Rd_pick0 : Env where
  tt := mkTI Go.Proofs.Tryd.prog
  fn := fun _ => none
  bxf := fun _ => none
  mv := []
  keep := fun _ => []
  keepB := fun _ => []
  keepX := fun _ => []
  keepXB := fun _ => []
theorem goodFs_l20Rd_pick0 : ∀ f ms F, Es_l20Rd_pick0.fn f = some (ms, F) → Sound Go.Proofs.Tryd.prog f ms F := fun f ms F h => by cases h
theorem goodBs_l20Rd_pick0 : ∀ f ms F, Es_l20Rd_pick0.bxf f = some (ms, F) → SoundB Go.Proofs.Tryd.prog f ms F := fun f ms F h => by cases h
theorem goods_l20Rd_pick0 : Good Go.Proofs.Tryd.prog Es_l20Rd_pick0 := ⟨rfl, goodFs_l20Rd_pick0, goodBs_l20Rd_pick0⟩
noncomputable def Os_l20Rd_pick0_0 : Orc := fun _ _ => none
noncomputable def mss_l20Rd_pick0 : List PM := [.bx, .own]
noncomputable def lss_l20Rd_pick0 : List (Nat × Code) := loopsAll 0 (Go.Proofs.Tryd.f127.body.getD .skip)

theorem ks_l20Rd_pick0_0 : OrcOk Es_l20Rd_pick0 Os_l20Rd_pick0_0 lss_l20Rd_pick0 0 := orcOk_none
noncomputable def g_As_l20Rd_pick0 (r0 : List Int) (r1 : Int) (a2 : Int) : Bool := decide (a2 < (1 : Int)) || ((↑(List.length r0) : Int) == (0 : Int) || bif decide (IntKind.wrap IntKind.i64 (IntKind.wrap IntKind.i64 (r1 + (1 : Int)) - (1 : Int)) < (↑(List.length r0) : Int)) then decide ((0 : Int) ≤ IntKind.wrap IntKind.i64 (IntKind.wrap IntKind.i64 (r1 + (1 : Int)) - (1 : Int)) ∧ IntKind.wrap IntKind.i64 (IntKind.wrap IntKind.i64 (r1 + (1 : Int)) - (1 : Int)) < (↑(List.length r0) : Int)) && !a2 == (0 : Int) else !(↑(List.length r0) : Int) == (0 : Int) && (decide ((0 : Int) ≤ Int.tmod (IntKind.wrap IntKind.i64 (IntKind.wrap IntKind.i64 (r1 + (1 : Int)) - (1 : Int))) (↑(List.length r0) : Int) ∧ Int.tmod (IntKind.wrap IntKind.i64 (IntKind.wrap IntKind.i64 (r1 + (1 : Int)) - (1 : Int))) (↑(List.length r0) : Int) < (↑(List.length r0) : Int)) && (!(↑(List.length r0) : Int) == (0 : Int) && (decide ((0 : Int) ≤ Int.tmod (IntKind.wrap IntKind.i64 (IntKind.wrap IntKind.i64 (IntKind.wrap IntKind.i64 (IntKind.wrap IntKind.i64 (r1 + (1 : Int)) - (1 : Int)) * (7 : Int)) + (3 : Int))) (↑(List.length r0) : Int) ∧ Int.tmod (IntKind.wrap IntKind.i64 (IntKind.wrap IntKind.i64 (IntKind.wrap IntKind.i64 (IntKind.wrap IntKind.i64 (r1 + (1 : Int)) - (1 : Int)) * (7 : Int)) + (3 : Int))) (↑(List.length r0) : Int) < (↑(List.length r0) : Int)) && (!(↑(List.length r0) : Int) == (0 : Int) && !a2 == (0 : Int))))))
noncomputable def g_Vs_l20Rd_pick0_0 (r0 : List Int) (r1 : Int) (a2 : Int) : Int := bif decide (a2 < (1 : Int)) then (0 : Int) else bif (↑(List.length r0) : Int) == (0 : Int) then (0 : Int) else bif decide (IntKind.wrap IntKind.i64 (IntKind.wrap IntKind.i64 (r1 + (1 : Int)) - (1 : Int)) < (↑(List.length r0) : Int)) then Int.tmod (IntKind.wrap IntKind.i64 (at_ (Ty.int IntKind.u8) r0 (Int.toNat (IntKind.wrap IntKind.i64 (IntKind.wrap IntKind.i64 (r1 + (1 : Int)) - (1 : Int)))))) a2 else Int.tmod (IntKind.wrap IntKind.i64 (↑(BitVec.toNat (BitVec.ofInt (nat_lit 64) (IntKind.wrap IntKind.i64 (IntKind.wrap IntKind.i64 (IntKind.wrap IntKind.i64 (IntKind.wrap IntKind.i64 (IntKind.wrap IntKind.i64 (at_ (Ty.int IntKind.u8) r0 (Int.toNat (Int.tmod (IntKind.wrap IntKind.i64 (IntKind.wrap IntKind.i64 (r1 + (1 : Int)) - (1 : Int))) (↑(List.length r0) : Int)))) * (131 : Int)) + IntKind.wrap IntKind.i64 (IntKind.wrap IntKind.i64 (at_ (Ty.int IntKind.u8) r0 (Int.toNat (Int.tmod (IntKind.wrap IntKind.i64 (IntKind.wrap IntKind.i64 (IntKind.wrap IntKind.i64 (IntKind.wrap IntKind.i64 (r1 + (1 : Int)) - (1 : Int)) * (7 : Int)) + (3 : Int))) (↑(List.length r0) : Int)))) * (1117 : Int))) + IntKind.wrap IntKind.i64 (IntKind.wrap IntKind.i64 (IntKind.wrap IntKind.i64 (r1 + (1 : Int)) - (1 : Int)) * (29 : Int))) + IntKind.wrap IntKind.i64 (IntKind.wrap IntKind.i64 (Int.tdiv (IntKind.wrap IntKind.i64 (IntKind.wrap IntKind.i64 (r1 + (1 : Int)) - (1 : Int))) (↑(List.length r0) : Int)) * (53 : Int)))) ^^^ BitVec.ofInt (nat_lit 64) (IntKind.wrap IntKind.i64 (Int.tdiv (IntKind.wrap IntKind.i64 (IntKind.wrap IntKind.i64 (IntKind.wrap IntKind.i64 (IntKind.wrap IntKind.i64 (IntKind.wrap IntKind.i64 (at_ (Ty.int IntKind.u8) r0 (Int.toNat (Int.tmod (IntKind.wrap IntKind.i64 (IntKind.wrap IntKind.i64 (r1 + (1 : Int)) - (1 : Int))) (↑(List.length r0) : Int)))) * (131 : Int)) + IntKind.wrap IntKind.i64 (IntKind.wrap IntKind.i64 (at_ (Ty.int IntKind.u8) r0 (Int.toNat (Int.tmod (IntKind.wrap IntKind.i64 (IntKind.wrap IntKind.i64 (IntKind.wrap IntKind.i64 (IntKind.wrap IntKind.i64 (r1 + (1 : Int)) - (1 : Int)) * (7 : Int)) + (3 : Int))) (↑(List.length r0) : Int)))) * (1117 : Int))) + IntKind.wrap IntKind.i64 (IntKind.wrap IntKind.i64 (IntKind.wrap IntKind.i64 (r1 + (1 : Int)) - (1 : Int)) * (29 : Int))) + IntKind.wrap IntKind.i64 (IntKind.wrap IntKind.i64 (Int.tdiv (IntKind.wrap IntKind.i64 (IntKind.wrap IntKind.i64 (r1 + (1 : Int)) - (1 : Int))) (↑(List.length r0) : Int)) * (53 : Int)))) (64 : Int))))) : Int)) a2
noncomputable def g_Vs_l20Rd_pick0_1 (r0 : List Int) (r1 : Int) (a2 : Int) : List (Int) := bif decide (a2 < (1 : Int)) then r0 else bif (↑(List.length r0) : Int) == (0 : Int) then r0 else bif decide (IntKind.wrap IntKind.i64 (IntKind.wrap IntKind.i64 (r1 + (1 : Int)) - (1 : Int)) < (↑(List.length r0) : Int)) then r0 else r0
noncomputable def g_Vs_l20Rd_pick0_2 (r0 : List Int) (r1 : Int) (a2 : Int) : Int := bif decide (a2 < (1 : Int)) then IntKind.wrap IntKind.i64 (r1 + (1 : Int)) else bif (↑(List.length r0) : Int) == (0 : Int) then IntKind.wrap IntKind.i64 (r1 + (1 : Int)) else bif decide (IntKind.wrap IntKind.i64 (IntKind.wrap IntKind.i64 (r1 + (1 : Int)) - (1 : Int)) < (↑(List.length r0) : Int)) then IntKind.wrap IntKind.i64 (r1 + (1 : Int)) else IntKind.wrap IntKind.i64 (r1 + (1 : Int))
noncomputable def Fs_l20Rd_pick0 : FSem := fun ys => match ys with
  | [.val true [.sl .any 5 (.int .u8) r0, .int .i64 r1], .val false [.int .i64 a2]] => some ((g_As_l20Rd_pick0 r0 r1 a2), .val false [.int .i64 (g_Vs_l20Rd_pick0_0 r0 r1 a2)], [[.sl .any 5 (.int .u8) (g_Vs_l20Rd_pick0_1 r0 r1 a2), .int .i64 (g_Vs_l20Rd_pick0_2 r0 r1 a2)]])
  | _ => none
theorem vs_l20Rd_pick0 (r0 : List Int) (r1 : Int) (a2 : Int) : collapseH .std Es_l20Rd_pick0 Os_l20Rd_pick0_0 (execFn Es_l20Rd_pick0 Go.Proofs.Tryd.f127 mss_l20Rd_pick0 [.val true [.sl .any 5 (.int .u8) r0, .int .i64 r1], .val false [.int .i64 a2]]) = some ((g_As_l20Rd_pick0 r0 r1 a2), .val false [.int .i64 (g_Vs_l20Rd_pick0_0 r0 r1 a2)], [[.sl .any 5 (.int .u8) (g_Vs_l20Rd_pick0_1 r0 r1 a2), .int .i64 (g_Vs_l20Rd_pick0_2 r0 r1 a2)]]) := by kernel_rfl
theorem ss_l20Rd_pick0 : Sound Go.Proofs.Tryd.prog 127 mss_l20Rd_pick0 Fs_l20Rd_pick0 := by
  refine fn_gen goods_l20Rd_pick0 (by kernel_rfl) .std (fn := Go.Proofs.Tryd.f127) (c := (Go.Proofs.Tryd.f127.body.getD .skip)) (o := Os_l20Rd_pick0_0) (k := 0) (by kernel_rfl) (by kernel_rfl) (by kernel_rfl) (by kernel_rfl) (by decide) ks_l20Rd_pick0_0 ?_
  intro ys r outs h
  unfold Fs_l20Rd_pick0 at h
  split at h
  · exact (vs_l20Rd_pick0 _ _ _).trans h
  · cases h
end Go.Proofs.YtkjeicijcecmlaaDoor.E
end
section
namespace Go.Proofs.YtkjeicijcecmlaaDoor.E
open Go
set_option maxRecDepth 100000
set_option linter.all false
noncomputable def mss_l20Rd_pick : List PM := mss_l20Rd_pick0
/-- A number from 0 on, below n. -/
noncomputable def g_pick (r0 : List Int) (r1 : Int) (n : Int) : Int := g_Vs_l20Rd_pick0_0 r0 r1 n
noncomputable def g_pickA (r0 : List Int) (r1 : Int) (n : Int) : Bool := g_As_l20Rd_pick0 r0 r1 n
noncomputable def Fs_l20Rd_pick : FSem := fun ys => match ys with
  | [.val true [.sl .any 5 (.int .u8) r0, .int .i64 r1], .val false [.int .i64 a2]] => some (g_pickA r0 r1 a2, .val false [.int .i64 (g_pick r0 r1 a2)], [[.sl .any 5 (.int .u8) r0, .int .i64 (IntKind.wrap .i64 (r1 + 1))]])
  | _ => none
theorem ss_l20Rd_pick : Sound Go.Proofs.Tryd.prog 127 mss_l20Rd_pick Fs_l20Rd_pick := by
  refine ⟨ss_l20Rd_pick0.fn, fun w S ψ ys vs r outs hF hh hg => ss_l20Rd_pick0.calls w S ψ ys vs r outs (Eq.trans ?_ hF) hh hg⟩
  unfold Fs_l20Rd_pick at hF ⊢
  split at hF
  · rename_i r0 r1 a2
    have e1 : g_Vs_l20Rd_pick0_1 r0 r1 a2 = r0 := by unfold g_Vs_l20Rd_pick0_1; generalize decide (a2 < (1 : Int)) = p; generalize ((r0.length : Int) == (0 : Int)) = q; cases p <;> cases q <;> simp
    have e2 : g_Vs_l20Rd_pick0_2 r0 r1 a2 = IntKind.wrap .i64 (r1 + 1) := by unfold g_Vs_l20Rd_pick0_2; generalize decide (a2 < (1 : Int)) = p; generalize ((r0.length : Int) == (0 : Int)) = q; cases p <;> cases q <;> simp
    show some (g_As_l20Rd_pick0 r0 r1 a2, RV.val false [Cell.int .i64 (g_Vs_l20Rd_pick0_0 r0 r1 a2)], [[Cell.sl .any 5 (.int .u8) (g_Vs_l20Rd_pick0_1 r0 r1 a2), Cell.int .i64 (g_Vs_l20Rd_pick0_2 r0 r1 a2)]]) = _
    rw [e1, e2]
    rfl
  · cases hF
end Go.Proofs.YtkjeicijcecmlaaDoor.E
end
section
namespace Go.Proofs.YtkjeicijcecmlaaDoor.E
open Go
set_option maxRecDepth 100000
set_option maxHeartbeats 0
set_option linter.all false
noncomputable def Es_l20Rd_odd : Env where
  tt := mkTI Go.Proofs.Tryd.prog
  fn := fun f => match f with
    | 127 => some (mss_l20Rd_pick, FSem.wk mss_l20Rd_pick Fs_l20Rd_pick)
    | _ => none
  bxf := fun _ => none
  mv := []
  keep := fun _ => []
  keepB := fun _ => []
  keepX := fun _ => []
  keepXB := fun _ => []
theorem goodFs_l20Rd_odd : ∀ f ms F, Es_l20Rd_odd.fn f = some (ms, F) → Sound Go.Proofs.Tryd.prog f ms F := fun f ms F h => by
  unfold Es_l20Rd_odd at h
  dsimp only at h
  split at h
  · injection h with h; injection h with e1 e2; subst e1 e2; exact Sound.wk ss_l20Rd_pick
  · cases h
theorem goodBs_l20Rd_odd : ∀ f ms F, Es_l20Rd_odd.bxf f = some (ms, F) → SoundB Go.Proofs.Tryd.prog f ms F := fun f ms F h => by cases h
theorem goods_l20Rd_odd : Good Go.Proofs.Tryd.prog Es_l20Rd_odd := ⟨rfl, goodFs_l20Rd_odd, goodBs_l20Rd_odd⟩
noncomputable def Os_l20Rd_odd_0 : Orc := fun _ _ => none
noncomputable def mss_l20Rd_odd : List PM := [.bx, .own]
noncomputable def lss_l20Rd_odd : List (Nat × Code) := loopsAll 0 (Go.Proofs.Tryd.f79.body.getD .skip)

theorem ks_l20Rd_odd_0 : OrcOk Es_l20Rd_odd Os_l20Rd_odd_0 lss_l20Rd_odd 0 := orcOk_none
noncomputable def g_As_l20Rd_odd (r0 : List Int) (r1 : Int) (a2 : Int) : Bool := !decide (a2 > (0 : Int)) || g_pickA r0 r1 a2 && true
noncomputable def g_Vs_l20Rd_odd_0 (r0 : List Int) (r1 : Int) (a2 : Int) : Bool := bif decide (a2 > (0 : Int)) then g_pick r0 r1 a2 == IntKind.wrap IntKind.i64 (a2 - (1 : Int)) else false
noncomputable def g_Vs_l20Rd_odd_1 (r0 : List Int) (r1 : Int) (a2 : Int) : List (Int) := bif decide (a2 > (0 : Int)) then r0 else r0
noncomputable def g_Vs_l20Rd_odd_2 (r0 : List Int) (r1 : Int) (a2 : Int) : Int := bif decide (a2 > (0 : Int)) then IntKind.wrap IntKind.i64 (r1 + (1 : Int)) else r1
noncomputable def Fs_l20Rd_odd : FSem := fun ys => match ys with
  | [.val true [.sl .any 5 (.int .u8) r0, .int .i64 r1], .val false [.int .i64 a2]] => some ((g_As_l20Rd_odd r0 r1 a2), .val false [.bool (g_Vs_l20Rd_odd_0 r0 r1 a2)], [[.sl .any 5 (.int .u8) (g_Vs_l20Rd_odd_1 r0 r1 a2), .int .i64 (g_Vs_l20Rd_odd_2 r0 r1 a2)]])
  | _ => none
theorem vs_l20Rd_odd (r0 : List Int) (r1 : Int) (a2 : Int) : collapseH .std Es_l20Rd_odd Os_l20Rd_odd_0 (execFn Es_l20Rd_odd Go.Proofs.Tryd.f79 mss_l20Rd_odd [.val true [.sl .any 5 (.int .u8) r0, .int .i64 r1], .val false [.int .i64 a2]]) = some ((g_As_l20Rd_odd r0 r1 a2), .val false [.bool (g_Vs_l20Rd_odd_0 r0 r1 a2)], [[.sl .any 5 (.int .u8) (g_Vs_l20Rd_odd_1 r0 r1 a2), .int .i64 (g_Vs_l20Rd_odd_2 r0 r1 a2)]]) := by kernel_rfl
theorem ss_l20Rd_odd : Sound Go.Proofs.Tryd.prog 79 mss_l20Rd_odd Fs_l20Rd_odd := by
  refine fn_gen goods_l20Rd_odd (by kernel_rfl) .std (fn := Go.Proofs.Tryd.f79) (c := (Go.Proofs.Tryd.f79.body.getD .skip)) (o := Os_l20Rd_odd_0) (k := 0) (by kernel_rfl) (by kernel_rfl) (by kernel_rfl) (by kernel_rfl) (by decide) ks_l20Rd_odd_0 ?_
  intro ys r outs h
  unfold Fs_l20Rd_odd at h
  split at h
  · exact (vs_l20Rd_odd _ _ _).trans h
  · cases h
end Go.Proofs.YtkjeicijcecmlaaDoor.E
end
section
namespace Go.Proofs.YtkjeicijcecmlaaDoor.E
open Go
set_option maxRecDepth 100000
set_option linter.all false
noncomputable def mss_l20Rd_oddR : List PM := mss_l20Rd_odd
theorem sames_l20Rd_odd (r0 : List Int) (r1 : Int) (a2 : Int) : g_Vs_l20Rd_odd_1 r0 r1 a2 = r0 := by
  unfold g_Vs_l20Rd_odd_1
  simp only [Bool.cond_self]
noncomputable def Fs_l20Rd_oddR : FSem := fun ys => match ys with
  | [.val true [.sl .any 5 (.int .u8) r0, .int .i64 r1], .val false [.int .i64 a2]] => some ((g_As_l20Rd_odd r0 r1 a2), .val false [.bool (g_Vs_l20Rd_odd_0 r0 r1 a2)], [[.sl .any 5 (.int .u8) r0, .int .i64 (g_Vs_l20Rd_odd_2 r0 r1 a2)]])
  | _ => none
theorem ss_l20Rd_oddR : Sound Go.Proofs.Tryd.prog 79 mss_l20Rd_oddR Fs_l20Rd_oddR := by
  refine ⟨ss_l20Rd_odd.fn, fun w S ψ ys vs r outs hF hh hg => ss_l20Rd_odd.calls w S ψ ys vs r outs (Eq.trans ?_ hF) hh hg⟩
  unfold Fs_l20Rd_oddR at hF ⊢
  split at hF
  · rename_i  r0 r1 a2
    show (some ((g_As_l20Rd_odd r0 r1 a2), .val false [.bool (g_Vs_l20Rd_odd_0 r0 r1 a2)], [[.sl .any 5 (.int .u8) (g_Vs_l20Rd_odd_1 r0 r1 a2), .int .i64 (g_Vs_l20Rd_odd_2 r0 r1 a2)]]) : Option (Bool × RV × List (List Cell))) = _
    rw [sames_l20Rd_odd]
  · cases hF
end Go.Proofs.YtkjeicijcecmlaaDoor.E
end
section
namespace Go.Proofs.YtkjeicijcecmlaaDoor.E
open Go
set_option maxRecDepth 100000
set_option maxHeartbeats 0
set_option linter.all false
noncomputable def Es_l3Digit : Env where
  tt := mkTI Go.Proofs.Tryd.prog
  fn := fun _ => none
  bxf := fun _ => none
  mv := []
  keep := fun _ => []
  keepB := fun _ => []
  keepX := fun _ => []
  keepXB := fun _ => []
theorem goodFs_l3Digit : ∀ f ms F, Es_l3Digit.fn f = some (ms, F) → Sound Go.Proofs.Tryd.prog f ms F := fun f ms F h => by cases h
theorem goodBs_l3Digit : ∀ f ms F, Es_l3Digit.bxf f = some (ms, F) → SoundB Go.Proofs.Tryd.prog f ms F := fun f ms F h => by cases h
theorem goods_l3Digit : Good Go.Proofs.Tryd.prog Es_l3Digit := ⟨rfl, goodFs_l3Digit, goodBs_l3Digit⟩
noncomputable def Os_l3Digit_0 : Orc := fun _ _ => none
noncomputable def mss_l3Digit : List PM := [.own]
noncomputable def lss_l3Digit : List (Nat × Code) := loopsAll 0 (Go.Proofs.Tryd.f134.body.getD .skip)

theorem ks_l3Digit_0 : OrcOk Es_l3Digit Os_l3Digit_0 lss_l3Digit 0 := orcOk_none
noncomputable def g_Vs_l3Digit_0 (a0 : Int) : ByteArray := { data := List.toArray (List.map (fun n => UInt8.ofNat (Int.toNat n)) [IntKind.wrap IntKind.u8 (IntKind.wrap IntKind.i64 ((48 : Int) + a0))]) }
noncomputable def Fs_l3Digit : FSem := fun ys => match ys with
  | [.val false [.int .i64 a0]] => some (true, .val false [.str (g_Vs_l3Digit_0 a0)], [])
  | _ => none
theorem vs_l3Digit (a0 : Int) : collapseH .std Es_l3Digit Os_l3Digit_0 (execFn Es_l3Digit Go.Proofs.Tryd.f134 mss_l3Digit [.val false [.int .i64 a0]]) = some (true, .val false [.str (g_Vs_l3Digit_0 a0)], []) := by kernel_rfl
theorem ss_l3Digit : Sound Go.Proofs.Tryd.prog 134 mss_l3Digit Fs_l3Digit := by
  refine fn_gen goods_l3Digit (by kernel_rfl) .std (fn := Go.Proofs.Tryd.f134) (c := (Go.Proofs.Tryd.f134.body.getD .skip)) (o := Os_l3Digit_0) (k := 0) (by kernel_rfl) (by kernel_rfl) (by kernel_rfl) (by kernel_rfl) (by decide) ks_l3Digit_0 ?_
  intro ys r outs h
  unfold Fs_l3Digit at h
  split at h
  · exact (vs_l3Digit _).trans h
  · cases h
end Go.Proofs.YtkjeicijcecmlaaDoor.E
end
section
namespace Go.Proofs.YtkjeicijcecmlaaDoor.E
open Go
set_option maxRecDepth 100000
set_option maxHeartbeats 0
set_option linter.all false
noncomputable def Es_l3Plain : Env where
  tt := mkTI Go.Proofs.Tryd.prog
  fn := fun f => match f with
    | 134 => some (mss_l3Digit, FSem.wk mss_l3Digit Fs_l3Digit)
    | _ => none
  bxf := fun _ => none
  mv := []
  keep := fun b => match b with
    | 0 => [(0, false), (3, false)]
    | _ => []
  keepB := fun b => match b with
    | 0 => []
    | _ => []
  keepX := fun b => match b with
    | 0 => [(0, false), (3, false)]
    | _ => []
  keepXB := fun b => match b with
    | 0 => []
    | _ => []
theorem goodFs_l3Plain : ∀ f ms F, Es_l3Plain.fn f = some (ms, F) → Sound Go.Proofs.Tryd.prog f ms F := fun f ms F h => by
  unfold Es_l3Plain at h
  dsimp only at h
  split at h
  · injection h with h; injection h with e1 e2; subst e1 e2; exact Sound.wk ss_l3Digit
  · cases h
theorem goodBs_l3Plain : ∀ f ms F, Es_l3Plain.bxf f = some (ms, F) → SoundB Go.Proofs.Tryd.prog f ms F := fun f ms F h => by cases h
theorem goods_l3Plain : Good Go.Proofs.Tryd.prog Es_l3Plain := ⟨rfl, goodFs_l3Plain, goodBs_l3Plain⟩
noncomputable def Os_l3Plain_0 : Orc := fun _ _ => none
noncomputable def mss_l3Plain : List PM := [.own]
noncomputable def lss_l3Plain : List (Nat × Code) := loopsAll 0 (Go.Proofs.Tryd.f80.body.getD .skip)
noncomputable def cs_l3Plain_0 : Code := (loopOf 0 (Go.Proofs.Tryd.f80.body.getD .skip)).getD .skip
theorem lseqs_l3Plain : lss_l3Plain = [(0, cs_l3Plain_0)] := by kernel_rfl
theorem ms_l3Plain_0 : ∀ p, p ∈ lss_l3Plain → p.1 = 0 → p.2 = cs_l3Plain_0 := by
  intro p hp
  rw [lseqs_l3Plain] at hp
  simp only [List.mem_cons, List.not_mem_nil, or_false] at hp
  subst hp; simp
theorem ks_l3Plain_0 : OrcOk Es_l3Plain Os_l3Plain_0 lss_l3Plain 0 := orcOk_none
noncomputable def hs_l3Plain_0 (y0 : Int) (y1 : ByteArray) : List (Pl × LV) := [(.T 0, .t (.val false [.int .i64 y0])), (.T 3, .t (.val false [.str y1]))]
noncomputable def g_Ss_l3Plain_0 : ((Int) × (ByteArray)) → RT ((Int) × (ByteArray)) (((Int) × (ByteArray)))
  | (y0, y1) => .br (true) (.br (decide (y0 > (9 : Int))) (.br (true) (.br (true) (.br (decide (ByteArray.size (g_Vs_l3Digit_0 (Int.tmod y0 (10 : Int))) + ByteArray.size y1 ≤ nat_lit 9223372036854775807)) (.br (true) (.go ((IntKind.wrap IntKind.i64 (Int.tdiv y0 (10 : Int)), g_Vs_l3Digit_0 (Int.tmod y0 (10 : Int)) ++ y1))) (.bad)) (.bad)) (.bad)) (.bad)) (.out ((y0, y1)))) (.bad)
noncomputable def g_Ls_l3Plain_0 (x : (Int) × (ByteArray)) : Option (((Int) × (ByteArray))) := loopO (g_Ss_l3Plain_0) x
noncomputable def xs_l3Plain_0 : (((Int) × (ByteArray))) → Ex × List (Pl × LV) := fun r => (.exit 0, [(.T 0, .t (.val false [.int .i64 r.1])), (.T 3, .t (.val false [.str r.2]))])
noncomputable def Os_l3Plain_1 : Orc := fun b h => match b, h with
  | 0, [(.T 0, .t (.val false [.int .i64 y0])), (.T 3, .t (.val false [.str y1]))] => some (okO (g_Ls_l3Plain_0 (y0, y1)), (.leaf (.exit 0) [(.T 0, .t (.val false [.int .i64 (valO (g_Ls_l3Plain_0 (y0, y1))).1])), (.T 3, .t (.val false [.str (valO (g_Ls_l3Plain_0 (y0, y1))).2]))]))
  | b, h => Os_l3Plain_0 b h
theorem bs_l3Plain_0 (y0 : Int) (y1 : ByteArray) : Tr.bt Es_l3Plain Os_l3Plain_0 (exec Es_l3Plain 0 cs_l3Plain_0 (St.of (hs_l3Plain_0 y0 y1)) (leafRd Es_l3Plain 0)) = (g_Ss_l3Plain_0 (y0, y1)).bt (fun ((y0, y1) : (Int) × (ByteArray)) => (hs_l3Plain_0 y0 y1)) (xs_l3Plain_0) := by kernel_rfl
theorem ks_l3Plain_1 : OrcOk Es_l3Plain Os_l3Plain_1 lss_l3Plain 1 := orc_add ks_l3Plain_0 (fun n p hp h ex h' ho => by
  obtain ⟨b, c⟩ := p
  obtain ⟨xt, h1, h2⟩ := ho
  have h1 : Os_l3Plain_1 b h = some (true, xt) := h1
  unfold Os_l3Plain_1 at h1
  split at h1
  · injection h1 with h1
    injection h1 with e1 e2
    subst e2
    have hc : c = cs_l3Plain_0 := ms_l3Plain_0 _ hp rfl
    subst hc
    right
    rename_i y0 y1
    have key := LT_step ks_l3Plain_0 hp (fun q hq => loopsAll_in _ _ _ _ hp hq) (fun ((y0, y1) : (Int) × (ByteArray)) => (hs_l3Plain_0 y0 y1)) (xs_l3Plain_0) (g_Ss_l3Plain_0) (fun x => by first | exact bs_l3Plain_0 x.1 x.2) n (x := (y0, y1)) (okO_some e1)
    have hx : ∀ r, XT.sel (.leaf (.exit 0) [(.T 0, .t (.val false [.int .i64 r.1])), (.T 3, .t (.val false [.str r.2]))]) = xs_l3Plain_0 r := fun r => by first | rfl | (rcases r with r | r <;> rfl) | (rcases r with r | r | r <;> rfl) | (rcases r with r | r | r | r <;> rfl)
    have h3 := (hx (valO (g_Ls_l3Plain_0 (y0, y1)))).symm.trans h2
    have e3 := congrArg Prod.fst h3
    have e4 := congrArg Prod.snd h3
    simp only at e3 e4
    rw [← e3, ← e4]
    exact key
  · exact .inl ⟨xt, h1, h2⟩)
noncomputable def g_As_l3Plain (a0 : Int) : Bool := okO (g_Ls_l3Plain_0 (a0, lit [])) && decide (ByteArray.size (g_Vs_l3Digit_0 (valO (g_Ls_l3Plain_0 (a0, lit []))).1) + ByteArray.size (valO (g_Ls_l3Plain_0 (a0, lit []))).2 ≤ nat_lit 9223372036854775807)
noncomputable def g_Vs_l3Plain_0 (a0 : Int) : ByteArray := g_Vs_l3Digit_0 (valO (g_Ls_l3Plain_0 (a0, lit []))).1 ++ (valO (g_Ls_l3Plain_0 (a0, lit []))).2
noncomputable def Fs_l3Plain : FSem := fun ys => match ys with
  | [.val false [.int .i64 a0]] => some ((g_As_l3Plain a0), .val false [.str (g_Vs_l3Plain_0 a0)], [])
  | _ => none
theorem vs_l3Plain (a0 : Int) : collapseH .std Es_l3Plain Os_l3Plain_1 (execFn Es_l3Plain Go.Proofs.Tryd.f80 mss_l3Plain [.val false [.int .i64 a0]]) = some ((g_As_l3Plain a0), .val false [.str (g_Vs_l3Plain_0 a0)], []) := by kernel_rfl
theorem ss_l3Plain : Sound Go.Proofs.Tryd.prog 80 mss_l3Plain Fs_l3Plain := by
  refine fn_gen goods_l3Plain (by kernel_rfl) .std (fn := Go.Proofs.Tryd.f80) (c := (Go.Proofs.Tryd.f80.body.getD .skip)) (o := Os_l3Plain_1) (k := 1) (by kernel_rfl) (by kernel_rfl) (by kernel_rfl) (by kernel_rfl) (by decide) ks_l3Plain_1 ?_
  intro ys r outs h
  unfold Fs_l3Plain at h
  split at h
  · exact (vs_l3Plain _).trans h
  · cases h
end Go.Proofs.YtkjeicijcecmlaaDoor.E
end
section
namespace Go.Proofs.YtkjeicijcecmlaaDoor.E
open Go
set_option maxRecDepth 100000
set_option maxHeartbeats 0
set_option linter.all false
noncomputable def Es_l20Key : Env where
  tt := mkTI Go.Proofs.Tryd.prog
  fn := fun f => match f with
    | 79 => some (mss_l20Rd_oddR, FSem.wk mss_l20Rd_oddR Fs_l20Rd_oddR)
    | 80 => some (mss_l3Plain, FSem.wk mss_l3Plain Fs_l3Plain)
    | 127 => some (mss_l20Rd_pick, FSem.wk mss_l20Rd_pick Fs_l20Rd_pick)
    | _ => none
  bxf := fun _ => none
  mv := []
  keep := fun _ => []
  keepB := fun _ => []
  keepX := fun _ => []
  keepXB := fun _ => []
theorem goodFs_l20Key : ∀ f ms F, Es_l20Key.fn f = some (ms, F) → Sound Go.Proofs.Tryd.prog f ms F := fun f ms F h => by
  unfold Es_l20Key at h
  dsimp only at h
  split at h
  · injection h with h; injection h with e1 e2; subst e1 e2; exact Sound.wk ss_l20Rd_oddR
  · injection h with h; injection h with e1 e2; subst e1 e2; exact Sound.wk ss_l3Plain
  · injection h with h; injection h with e1 e2; subst e1 e2; exact Sound.wk ss_l20Rd_pick
  · cases h
theorem goodBs_l20Key : ∀ f ms F, Es_l20Key.bxf f = some (ms, F) → SoundB Go.Proofs.Tryd.prog f ms F := fun f ms F h => by cases h
theorem goods_l20Key : Good Go.Proofs.Tryd.prog Es_l20Key := ⟨rfl, goodFs_l20Key, goodBs_l20Key⟩
noncomputable def Os_l20Key_0 : Orc := fun _ _ => none
noncomputable def mss_l20Key : List PM := [.bx, .own]
noncomputable def lss_l20Key : List (Nat × Code) := loopsAll 0 (Go.Proofs.Tryd.f166.body.getD .skip)

theorem ks_l20Key_0 : OrcOk Es_l20Key Os_l20Key_0 lss_l20Key 0 := orcOk_none
noncomputable def g_As_l20Key (r0 : List Int) (r1 : Int) (a2 : Int) : Bool := g_pickA r0 r1 (5 : Int) && (decide ((0 : Int) ≤ g_pick r0 r1 (5 : Int) ∧ g_pick r0 r1 (5 : Int) < (5 : Int)) && (decide (Int.toNat (g_pick r0 r1 (5 : Int)) < nat_lit 5) && (g_pickA r0 (IntKind.wrap IntKind.i64 (r1 + (1 : Int))) (4 : Int) && (g_pickA r0 (IntKind.wrap IntKind.i64 (IntKind.wrap IntKind.i64 (r1 + (1 : Int)) + (1 : Int))) (30 : Int) && (g_pickA r0 (IntKind.wrap IntKind.i64 (IntKind.wrap IntKind.i64 (IntKind.wrap IntKind.i64 (r1 + (1 : Int)) + (1 : Int)) + (1 : Int))) (2 : Int) && (decide ((0 : Int) ≤ g_pick r0 (IntKind.wrap IntKind.i64 (IntKind.wrap IntKind.i64 (IntKind.wrap IntKind.i64 (r1 + (1 : Int)) + (1 : Int)) + (1 : Int))) (2 : Int) ∧ g_pick r0 (IntKind.wrap IntKind.i64 (IntKind.wrap IntKind.i64 (IntKind.wrap IntKind.i64 (r1 + (1 : Int)) + (1 : Int)) + (1 : Int))) (2 : Int) < (↑(List.length [g_pick r0 (IntKind.wrap IntKind.i64 (r1 + (1 : Int))) (4 : Int), g_pick r0 (IntKind.wrap IntKind.i64 (IntKind.wrap IntKind.i64 (r1 + (1 : Int)) + (1 : Int))) (30 : Int)]) : Int)) && (decide (Int.toNat (g_pick r0 (IntKind.wrap IntKind.i64 (IntKind.wrap IntKind.i64 (IntKind.wrap IntKind.i64 (r1 + (1 : Int)) + (1 : Int)) + (1 : Int))) (2 : Int)) < List.length [g_pick r0 (IntKind.wrap IntKind.i64 (r1 + (1 : Int))) (4 : Int), g_pick r0 (IntKind.wrap IntKind.i64 (IntKind.wrap IntKind.i64 (r1 + (1 : Int)) + (1 : Int))) (30 : Int)]) && (g_As_l3Plain (at_ (Ty.int IntKind.i64) [g_pick r0 (IntKind.wrap IntKind.i64 (r1 + (1 : Int))) (4 : Int), g_pick r0 (IntKind.wrap IntKind.i64 (IntKind.wrap IntKind.i64 (r1 + (1 : Int)) + (1 : Int))) (30 : Int)] (Int.toNat (g_pick r0 (IntKind.wrap IntKind.i64 (IntKind.wrap IntKind.i64 (IntKind.wrap IntKind.i64 (r1 + (1 : Int)) + (1 : Int)) + (1 : Int))) (2 : Int)))) && (decide (ByteArray.size (at_ Ty.str [lit [(115 : Nat)], lit [(99 : Nat)], lit [(102 : Nat)], lit [(117 : Nat)], lit [(97 : Nat)]] (Int.toNat (g_pick r0 r1 (5 : Int)))) + ByteArray.size (g_Vs_l3Plain_0 (at_ (Ty.int IntKind.i64) [g_pick r0 (IntKind.wrap IntKind.i64 (r1 + (1 : Int))) (4 : Int), g_pick r0 (IntKind.wrap IntKind.i64 (IntKind.wrap IntKind.i64 (r1 + (1 : Int)) + (1 : Int))) (30 : Int)] (Int.toNat (g_pick r0 (IntKind.wrap IntKind.i64 (IntKind.wrap IntKind.i64 (IntKind.wrap IntKind.i64 (r1 + (1 : Int)) + (1 : Int)) + (1 : Int))) (2 : Int))))) ≤ nat_lit 9223372036854775807) && (g_As_l20Rd_odd r0 (IntKind.wrap IntKind.i64 (IntKind.wrap IntKind.i64 (IntKind.wrap IntKind.i64 (IntKind.wrap IntKind.i64 (r1 + (1 : Int)) + (1 : Int)) + (1 : Int)) + (1 : Int))) a2 && (!g_Vs_l20Rd_odd_0 r0 (IntKind.wrap IntKind.i64 (IntKind.wrap IntKind.i64 (IntKind.wrap IntKind.i64 (IntKind.wrap IntKind.i64 (r1 + (1 : Int)) + (1 : Int)) + (1 : Int)) + (1 : Int))) a2 || g_pickA r0 (g_Vs_l20Rd_odd_2 r0 (IntKind.wrap IntKind.i64 (IntKind.wrap IntKind.i64 (IntKind.wrap IntKind.i64 (IntKind.wrap IntKind.i64 (r1 + (1 : Int)) + (1 : Int)) + (1 : Int)) + (1 : Int))) a2) (6 : Int) && (decide ((0 : Int) ≤ g_pick r0 (g_Vs_l20Rd_odd_2 r0 (IntKind.wrap IntKind.i64 (IntKind.wrap IntKind.i64 (IntKind.wrap IntKind.i64 (IntKind.wrap IntKind.i64 (r1 + (1 : Int)) + (1 : Int)) + (1 : Int)) + (1 : Int))) a2) (6 : Int) ∧ g_pick r0 (g_Vs_l20Rd_odd_2 r0 (IntKind.wrap IntKind.i64 (IntKind.wrap IntKind.i64 (IntKind.wrap IntKind.i64 (IntKind.wrap IntKind.i64 (r1 + (1 : Int)) + (1 : Int)) + (1 : Int)) + (1 : Int))) a2) (6 : Int) < (6 : Int)) && decide (Int.toNat (g_pick r0 (g_Vs_l20Rd_odd_2 r0 (IntKind.wrap IntKind.i64 (IntKind.wrap IntKind.i64 (IntKind.wrap IntKind.i64 (IntKind.wrap IntKind.i64 (r1 + (1 : Int)) + (1 : Int)) + (1 : Int)) + (1 : Int))) a2) (6 : Int)) < nat_lit 6)))))))))))))
noncomputable def g_Vs_l20Key_0 (r0 : List Int) (r1 : Int) (a2 : Int) : ByteArray := bif g_Vs_l20Rd_odd_0 r0 (IntKind.wrap IntKind.i64 (IntKind.wrap IntKind.i64 (IntKind.wrap IntKind.i64 (IntKind.wrap IntKind.i64 (r1 + (1 : Int)) + (1 : Int)) + (1 : Int)) + (1 : Int))) a2 then at_ Ty.str [lit [], lit [(115 : Nat)], lit [(83 : Nat), (49 : Nat)], lit [(115 : Nat), (49 : Nat), (50 : Nat), (51 : Nat)], lit [(49 : Nat), (115 : Nat)], lit [(115 : Nat), (97 : Nat)]] (Int.toNat (g_pick r0 (g_Vs_l20Rd_odd_2 r0 (IntKind.wrap IntKind.i64 (IntKind.wrap IntKind.i64 (IntKind.wrap IntKind.i64 (IntKind.wrap IntKind.i64 (r1 + (1 : Int)) + (1 : Int)) + (1 : Int)) + (1 : Int))) a2) (6 : Int))) else at_ Ty.str [lit [(115 : Nat)], lit [(99 : Nat)], lit [(102 : Nat)], lit [(117 : Nat)], lit [(97 : Nat)]] (Int.toNat (g_pick r0 r1 (5 : Int))) ++ g_Vs_l3Plain_0 (at_ (Ty.int IntKind.i64) [g_pick r0 (IntKind.wrap IntKind.i64 (r1 + (1 : Int))) (4 : Int), g_pick r0 (IntKind.wrap IntKind.i64 (IntKind.wrap IntKind.i64 (r1 + (1 : Int)) + (1 : Int))) (30 : Int)] (Int.toNat (g_pick r0 (IntKind.wrap IntKind.i64 (IntKind.wrap IntKind.i64 (IntKind.wrap IntKind.i64 (r1 + (1 : Int)) + (1 : Int)) + (1 : Int))) (2 : Int))))
noncomputable def g_Vs_l20Key_1 (r0 : List Int) (r1 : Int) (a2 : Int) : List (Int) := bif g_Vs_l20Rd_odd_0 r0 (IntKind.wrap IntKind.i64 (IntKind.wrap IntKind.i64 (IntKind.wrap IntKind.i64 (IntKind.wrap IntKind.i64 (r1 + (1 : Int)) + (1 : Int)) + (1 : Int)) + (1 : Int))) a2 then r0 else r0
noncomputable def g_Vs_l20Key_2 (r0 : List Int) (r1 : Int) (a2 : Int) : Int := bif g_Vs_l20Rd_odd_0 r0 (IntKind.wrap IntKind.i64 (IntKind.wrap IntKind.i64 (IntKind.wrap IntKind.i64 (IntKind.wrap IntKind.i64 (r1 + (1 : Int)) + (1 : Int)) + (1 : Int)) + (1 : Int))) a2 then IntKind.wrap IntKind.i64 (g_Vs_l20Rd_odd_2 r0 (IntKind.wrap IntKind.i64 (IntKind.wrap IntKind.i64 (IntKind.wrap IntKind.i64 (IntKind.wrap IntKind.i64 (r1 + (1 : Int)) + (1 : Int)) + (1 : Int)) + (1 : Int))) a2 + (1 : Int)) else g_Vs_l20Rd_odd_2 r0 (IntKind.wrap IntKind.i64 (IntKind.wrap IntKind.i64 (IntKind.wrap IntKind.i64 (IntKind.wrap IntKind.i64 (r1 + (1 : Int)) + (1 : Int)) + (1 : Int)) + (1 : Int))) a2
noncomputable def Fs_l20Key : FSem := fun ys => match ys with
  | [.val true [.sl .any 5 (.int .u8) r0, .int .i64 r1], .val false [.int .i64 a2]] => some ((g_As_l20Key r0 r1 a2), .val false [.str (g_Vs_l20Key_0 r0 r1 a2)], [[.sl .any 5 (.int .u8) (g_Vs_l20Key_1 r0 r1 a2), .int .i64 (g_Vs_l20Key_2 r0 r1 a2)]])
  | _ => none
theorem vs_l20Key (r0 : List Int) (r1 : Int) (a2 : Int) : collapseH .std Es_l20Key Os_l20Key_0 (execFn Es_l20Key Go.Proofs.Tryd.f166 mss_l20Key [.val true [.sl .any 5 (.int .u8) r0, .int .i64 r1], .val false [.int .i64 a2]]) = some ((g_As_l20Key r0 r1 a2), .val false [.str (g_Vs_l20Key_0 r0 r1 a2)], [[.sl .any 5 (.int .u8) (g_Vs_l20Key_1 r0 r1 a2), .int .i64 (g_Vs_l20Key_2 r0 r1 a2)]]) := by kernel_rfl
theorem ss_l20Key : Sound Go.Proofs.Tryd.prog 166 mss_l20Key Fs_l20Key := by
  refine fn_gen goods_l20Key (by kernel_rfl) .std (fn := Go.Proofs.Tryd.f166) (c := (Go.Proofs.Tryd.f166.body.getD .skip)) (o := Os_l20Key_0) (k := 0) (by kernel_rfl) (by kernel_rfl) (by kernel_rfl) (by kernel_rfl) (by decide) ks_l20Key_0 ?_
  intro ys r outs h
  unfold Fs_l20Key at h
  split at h
  · exact (vs_l20Key _ _ _).trans h
  · cases h
end Go.Proofs.YtkjeicijcecmlaaDoor.E
end
section
namespace Go.Proofs.YtkjeicijcecmlaaDoor.E
open Go
set_option maxRecDepth 100000
set_option linter.all false
noncomputable def mss_l20KeyR : List PM := mss_l20Key
theorem sames_l20Key (r0 : List Int) (r1 : Int) (a2 : Int) : g_Vs_l20Key_1 r0 r1 a2 = r0 := by
  unfold g_Vs_l20Key_1
  simp only [Bool.cond_self]
noncomputable def Fs_l20KeyR : FSem := fun ys => match ys with
  | [.val true [.sl .any 5 (.int .u8) r0, .int .i64 r1], .val false [.int .i64 a2]] => some ((g_As_l20Key r0 r1 a2), .val false [.str (g_Vs_l20Key_0 r0 r1 a2)], [[.sl .any 5 (.int .u8) r0, .int .i64 (g_Vs_l20Key_2 r0 r1 a2)]])
  | _ => none
theorem ss_l20KeyR : Sound Go.Proofs.Tryd.prog 166 mss_l20KeyR Fs_l20KeyR := by
  refine ⟨ss_l20Key.fn, fun w S ψ ys vs r outs hF hh hg => ss_l20Key.calls w S ψ ys vs r outs (Eq.trans ?_ hF) hh hg⟩
  unfold Fs_l20KeyR at hF ⊢
  split at hF
  · rename_i  r0 r1 a2
    show (some ((g_As_l20Key r0 r1 a2), .val false [.str (g_Vs_l20Key_0 r0 r1 a2)], [[.sl .any 5 (.int .u8) (g_Vs_l20Key_1 r0 r1 a2), .int .i64 (g_Vs_l20Key_2 r0 r1 a2)]]) : Option (Bool × RV × List (List Cell))) = _
    rw [sames_l20Key]
  · cases hF
end Go.Proofs.YtkjeicijcecmlaaDoor.E
end
section
namespace Go.Proofs.YtkjeicijcecmlaaDoor.E
open Go
set_option maxRecDepth 100000
set_option maxHeartbeats 0
set_option linter.all false
noncomputable def Es_l20Val : Env where
  tt := mkTI Go.Proofs.Tryd.prog
  fn := fun f => match f with
    | 79 => some (mss_l20Rd_oddR, FSem.wk mss_l20Rd_oddR Fs_l20Rd_oddR)
    | 127 => some (mss_l20Rd_pick, FSem.wk mss_l20Rd_pick Fs_l20Rd_pick)
    | _ => none
  bxf := fun _ => none
  mv := []
  keep := fun b => match b with
    | 0 => [(0, false), (1, false), (5, false), (6, false)]
    | _ => []
  keepB := fun b => match b with
    | 0 => [(0, false)]
    | _ => []
  keepX := fun b => match b with
    | 0 => [(0, false), (1, false), (5, false)]
    | _ => []
  keepXB := fun b => match b with
    | 0 => [(0, false)]
    | _ => []
theorem goodFs_l20Val : ∀ f ms F, Es_l20Val.fn f = some (ms, F) → Sound Go.Proofs.Tryd.prog f ms F := fun f ms F h => by
  unfold Es_l20Val at h
  dsimp only at h
  split at h
  · injection h with h; injection h with e1 e2; subst e1 e2; exact Sound.wk ss_l20Rd_oddR
  · injection h with h; injection h with e1 e2; subst e1 e2; exact Sound.wk ss_l20Rd_pick
  · cases h
theorem goodBs_l20Val : ∀ f ms F, Es_l20Val.bxf f = some (ms, F) → SoundB Go.Proofs.Tryd.prog f ms F := fun f ms F h => by cases h
theorem goods_l20Val : Good Go.Proofs.Tryd.prog Es_l20Val := ⟨rfl, goodFs_l20Val, goodBs_l20Val⟩
noncomputable def Os_l20Val_0 : Orc := fun _ _ => none
noncomputable def mss_l20Val : List PM := [.bx, .own]
noncomputable def lss_l20Val : List (Nat × Code) := loopsAll 0 (Go.Proofs.Tryd.f128.body.getD .skip)
noncomputable def cs_l20Val_0 : Code := (loopOf 0 (Go.Proofs.Tryd.f128.body.getD .skip)).getD .skip
theorem lseqs_l20Val : lss_l20Val = [(0, cs_l20Val_0)] := by kernel_rfl
theorem ms_l20Val_0 : ∀ p, p ∈ lss_l20Val → p.1 = 0 → p.2 = cs_l20Val_0 := by
  intro p hp
  rw [lseqs_l20Val] at hp
  simp only [List.mem_cons, List.not_mem_nil, or_false] at hp
  subst hp; simp
theorem ks_l20Val_0 : OrcOk Es_l20Val Os_l20Val_0 lss_l20Val 0 := orcOk_none
noncomputable def hs_l20Val_0 (y0 : Int) (y1 : List (Int)) (y2 : Int) (y3 : List (Int)) (y4 : Int) : List (Pl × LV) := [(.T 0, .t (.val false [.ptr 0 0 0])), (.T 1, .t (.val false [.int .i64 y0])), (.T 5, .t (.val false [.row 5 0 0])), (.R 5 0, .r 0 (some ⟨false, .non, true, 3, (.int .i64), y1⟩)), (.T 6, .t (.val false [.int .i64 y2])), (.B 0, .b 0 false [.sl .any 5 (.int .u8) y3, .int .i64 y4])]
noncomputable def g_Ss_l20Val_0 (y0 : Int) (y3 : List (Int)) : ((List (Int)) × (Int) × (Int)) → RT ((List (Int)) × (Int) × (Int)) (((List (Int)) × (Int)))
  | (y1, y2, y4) => .br (true) (.br (decide (y2 > (0 : Int))) (.br (g_pickA y3 y4 (12 : Int)) (.br (decide ((List.length y1 + List.length [g_pick y3 y4 (12 : Int)]) * nat_lit 8 ≤ nat_lit 140737488355328 ∧ List.length y1 + List.length [g_pick y3 y4 (12 : Int)] ≤ nat_lit 9223372036854775807)) (.br (true) (.go ((y1 ++ [g_pick y3 y4 (12 : Int)], IntKind.wrap IntKind.i64 (y2 - (1 : Int)), IntKind.wrap IntKind.i64 (y4 + (1 : Int))))) (.bad)) (.bad)) (.bad)) (.out ((y1, y4)))) (.bad)
noncomputable def g_Ls_l20Val_0 (y0 : Int) (y3 : List (Int)) (x : (List (Int)) × (Int) × (Int)) : Option (((List (Int)) × (Int))) := loopO (g_Ss_l20Val_0 y0 y3) x
noncomputable def xs_l20Val_0 (y0 : Int) (y3 : List (Int)) : (((List (Int)) × (Int))) → Ex × List (Pl × LV) := fun r => (.exit 0, [(.T 0, .t (.val false [.ptr 0 0 0])), (.T 1, .t (.val false [.int .i64 y0])), (.T 5, .t (.val false [.row 5 0 0])), (.R 5 0, .r 0 (some ⟨false, .non, true, 3, (.int .i64), r.1⟩)), (.B 0, .b 0 false [.sl .any 5 (.int .u8) y3, .int .i64 r.2])])
noncomputable def Os_l20Val_1 : Orc := fun b h => match b, h with
  | 0, [(.T 0, .t (.val false [.ptr 0 0 0])), (.T 1, .t (.val false [.int .i64 y0])), (.T 5, .t (.val false [.row 5 0 0])), (.R 5 0, .r 0 (some ⟨false, .non, true, 3, (.int .i64), y1⟩)), (.T 6, .t (.val false [.int .i64 y2])), (.B 0, .b 0 false [.sl .any 5 (.int .u8) y3, .int .i64 y4])] => some (okO (g_Ls_l20Val_0 y0 y3 (y1, y2, y4)), (.leaf (.exit 0) [(.T 0, .t (.val false [.ptr 0 0 0])), (.T 1, .t (.val false [.int .i64 y0])), (.T 5, .t (.val false [.row 5 0 0])), (.R 5 0, .r 0 (some ⟨false, .non, true, 3, (.int .i64), (valO (g_Ls_l20Val_0 y0 y3 (y1, y2, y4))).1⟩)), (.B 0, .b 0 false [.sl .any 5 (.int .u8) y3, .int .i64 (valO (g_Ls_l20Val_0 y0 y3 (y1, y2, y4))).2])]))
  | b, h => Os_l20Val_0 b h
theorem bs_l20Val_0 (y0 : Int) (y1 : List (Int)) (y2 : Int) (y3 : List (Int)) (y4 : Int) : Tr.bt Es_l20Val Os_l20Val_0 (exec Es_l20Val 0 cs_l20Val_0 (St.of (hs_l20Val_0 y0 y1 y2 y3 y4)) (leafRd Es_l20Val 0)) = (g_Ss_l20Val_0 y0 y3 (y1, y2, y4)).bt (fun ((y1, y2, y4) : (List (Int)) × (Int) × (Int)) => (hs_l20Val_0 y0 y1 y2 y3 y4)) (xs_l20Val_0 y0 y3) := by kernel_rfl
theorem ks_l20Val_1 : OrcOk Es_l20Val Os_l20Val_1 lss_l20Val 1 := orc_add ks_l20Val_0 (fun n p hp h ex h' ho => by
  obtain ⟨b, c⟩ := p
  obtain ⟨xt, h1, h2⟩ := ho
  have h1 : Os_l20Val_1 b h = some (true, xt) := h1
  unfold Os_l20Val_1 at h1
  split at h1
  · injection h1 with h1
    injection h1 with e1 e2
    subst e2
    have hc : c = cs_l20Val_0 := ms_l20Val_0 _ hp rfl
    subst hc
    right
    rename_i y0 y1 y2 y3 y4
    have key := LT_step ks_l20Val_0 hp (fun q hq => loopsAll_in _ _ _ _ hp hq) (fun ((y1, y2, y4) : (List (Int)) × (Int) × (Int)) => (hs_l20Val_0 y0 y1 y2 y3 y4)) (xs_l20Val_0 y0 y3) (g_Ss_l20Val_0 y0 y3) (fun x => by first | exact bs_l20Val_0 y0 x.1 x.2.1 y3 x.2.2) n (x := (y1, y2, y4)) (okO_some e1)
    have hx : ∀ r, XT.sel (.leaf (.exit 0) [(.T 0, .t (.val false [.ptr 0 0 0])), (.T 1, .t (.val false [.int .i64 y0])), (.T 5, .t (.val false [.row 5 0 0])), (.R 5 0, .r 0 (some ⟨false, .non, true, 3, (.int .i64), r.1⟩)), (.B 0, .b 0 false [.sl .any 5 (.int .u8) y3, .int .i64 r.2])]) = xs_l20Val_0 y0 y3 r := fun r => by first | rfl | (rcases r with r | r <;> rfl) | (rcases r with r | r | r <;> rfl) | (rcases r with r | r | r | r <;> rfl)
    have h3 := (hx (valO (g_Ls_l20Val_0 y0 y3 (y1, y2, y4)))).symm.trans h2
    have e3 := congrArg Prod.fst h3
    have e4 := congrArg Prod.snd h3
    simp only at e3 e4
    rw [← e3, ← e4]
    exact key
  · exact .inl ⟨xt, h1, h2⟩)
noncomputable def g_As_l20Val (r0 : List Int) (r1 : Int) (a2 : Int) : Bool := g_pickA r0 r1 (4 : Int) && (g_pickA r0 (IntKind.wrap IntKind.i64 (r1 + (1 : Int))) (3 : Int) && (okO (g_Ls_l20Val_0 a2 r0 ([g_pick r0 r1 (4 : Int)], g_pick r0 (IntKind.wrap IntKind.i64 (r1 + (1 : Int))) (3 : Int), IntKind.wrap IntKind.i64 (IntKind.wrap IntKind.i64 (r1 + (1 : Int)) + (1 : Int)))) && (g_As_l20Rd_odd r0 (valO (g_Ls_l20Val_0 a2 r0 ([g_pick r0 r1 (4 : Int)], g_pick r0 (IntKind.wrap IntKind.i64 (r1 + (1 : Int))) (3 : Int), IntKind.wrap IntKind.i64 (IntKind.wrap IntKind.i64 (r1 + (1 : Int)) + (1 : Int))))).2 a2 && (!g_Vs_l20Rd_odd_0 r0 (valO (g_Ls_l20Val_0 a2 r0 ([g_pick r0 r1 (4 : Int)], g_pick r0 (IntKind.wrap IntKind.i64 (r1 + (1 : Int))) (3 : Int), IntKind.wrap IntKind.i64 (IntKind.wrap IntKind.i64 (r1 + (1 : Int)) + (1 : Int))))).2 a2 || g_pickA r0 (g_Vs_l20Rd_odd_2 r0 (valO (g_Ls_l20Val_0 a2 r0 ([g_pick r0 r1 (4 : Int)], g_pick r0 (IntKind.wrap IntKind.i64 (r1 + (1 : Int))) (3 : Int), IntKind.wrap IntKind.i64 (IntKind.wrap IntKind.i64 (r1 + (1 : Int)) + (1 : Int))))).2 a2) (4 : Int) && (decide ((0 : Int) ≤ g_pick r0 (g_Vs_l20Rd_odd_2 r0 (valO (g_Ls_l20Val_0 a2 r0 ([g_pick r0 r1 (4 : Int)], g_pick r0 (IntKind.wrap IntKind.i64 (r1 + (1 : Int))) (3 : Int), IntKind.wrap IntKind.i64 (IntKind.wrap IntKind.i64 (r1 + (1 : Int)) + (1 : Int))))).2 a2) (4 : Int) ∧ g_pick r0 (g_Vs_l20Rd_odd_2 r0 (valO (g_Ls_l20Val_0 a2 r0 ([g_pick r0 r1 (4 : Int)], g_pick r0 (IntKind.wrap IntKind.i64 (r1 + (1 : Int))) (3 : Int), IntKind.wrap IntKind.i64 (IntKind.wrap IntKind.i64 (r1 + (1 : Int)) + (1 : Int))))).2 a2) (4 : Int) < (4 : Int)) && decide (Int.toNat (g_pick r0 (g_Vs_l20Rd_odd_2 r0 (valO (g_Ls_l20Val_0 a2 r0 ([g_pick r0 r1 (4 : Int)], g_pick r0 (IntKind.wrap IntKind.i64 (r1 + (1 : Int))) (3 : Int), IntKind.wrap IntKind.i64 (IntKind.wrap IntKind.i64 (r1 + (1 : Int)) + (1 : Int))))).2 a2) (4 : Int)) < nat_lit 4))))))
noncomputable def g_Vs_l20Val_0 (r0 : List Int) (r1 : Int) (a2 : Int) : List (Int) := bif g_Vs_l20Rd_odd_0 r0 (valO (g_Ls_l20Val_0 a2 r0 ([g_pick r0 r1 (4 : Int)], g_pick r0 (IntKind.wrap IntKind.i64 (r1 + (1 : Int))) (3 : Int), IntKind.wrap IntKind.i64 (IntKind.wrap IntKind.i64 (r1 + (1 : Int)) + (1 : Int))))).2 a2 then at_ (Ty.sl (nat_lit 3) (Ty.int IntKind.i64)) [[], [(-1 : Int)], [(10000 : Int)], [(1 : Int), (2 : Int), (3 : Int), (4 : Int)]] (Int.toNat (g_pick r0 (g_Vs_l20Rd_odd_2 r0 (valO (g_Ls_l20Val_0 a2 r0 ([g_pick r0 r1 (4 : Int)], g_pick r0 (IntKind.wrap IntKind.i64 (r1 + (1 : Int))) (3 : Int), IntKind.wrap IntKind.i64 (IntKind.wrap IntKind.i64 (r1 + (1 : Int)) + (1 : Int))))).2 a2) (4 : Int))) else (valO (g_Ls_l20Val_0 a2 r0 ([g_pick r0 r1 (4 : Int)], g_pick r0 (IntKind.wrap IntKind.i64 (r1 + (1 : Int))) (3 : Int), IntKind.wrap IntKind.i64 (IntKind.wrap IntKind.i64 (r1 + (1 : Int)) + (1 : Int))))).1
noncomputable def g_Vs_l20Val_1 (r0 : List Int) (r1 : Int) (a2 : Int) : List (Int) := bif g_Vs_l20Rd_odd_0 r0 (valO (g_Ls_l20Val_0 a2 r0 ([g_pick r0 r1 (4 : Int)], g_pick r0 (IntKind.wrap IntKind.i64 (r1 + (1 : Int))) (3 : Int), IntKind.wrap IntKind.i64 (IntKind.wrap IntKind.i64 (r1 + (1 : Int)) + (1 : Int))))).2 a2 then r0 else r0
noncomputable def g_Vs_l20Val_2 (r0 : List Int) (r1 : Int) (a2 : Int) : Int := bif g_Vs_l20Rd_odd_0 r0 (valO (g_Ls_l20Val_0 a2 r0 ([g_pick r0 r1 (4 : Int)], g_pick r0 (IntKind.wrap IntKind.i64 (r1 + (1 : Int))) (3 : Int), IntKind.wrap IntKind.i64 (IntKind.wrap IntKind.i64 (r1 + (1 : Int)) + (1 : Int))))).2 a2 then IntKind.wrap IntKind.i64 (g_Vs_l20Rd_odd_2 r0 (valO (g_Ls_l20Val_0 a2 r0 ([g_pick r0 r1 (4 : Int)], g_pick r0 (IntKind.wrap IntKind.i64 (r1 + (1 : Int))) (3 : Int), IntKind.wrap IntKind.i64 (IntKind.wrap IntKind.i64 (r1 + (1 : Int)) + (1 : Int))))).2 a2 + (1 : Int)) else g_Vs_l20Rd_odd_2 r0 (valO (g_Ls_l20Val_0 a2 r0 ([g_pick r0 r1 (4 : Int)], g_pick r0 (IntKind.wrap IntKind.i64 (r1 + (1 : Int))) (3 : Int), IntKind.wrap IntKind.i64 (IntKind.wrap IntKind.i64 (r1 + (1 : Int)) + (1 : Int))))).2 a2
noncomputable def Fs_l20Val : FSem := fun ys => match ys with
  | [.val true [.sl .any 5 (.int .u8) r0, .int .i64 r1], .val false [.int .i64 a2]] => some ((g_As_l20Val r0 r1 a2), .val false [.sl .any 3 (.int .i64) (g_Vs_l20Val_0 r0 r1 a2)], [[.sl .any 5 (.int .u8) (g_Vs_l20Val_1 r0 r1 a2), .int .i64 (g_Vs_l20Val_2 r0 r1 a2)]])
  | _ => none
theorem vs_l20Val (r0 : List Int) (r1 : Int) (a2 : Int) : collapseH .fr Es_l20Val Os_l20Val_1 (execFn Es_l20Val Go.Proofs.Tryd.f128 mss_l20Val [.val true [.sl .any 5 (.int .u8) r0, .int .i64 r1], .val false [.int .i64 a2]]) = some ((g_As_l20Val r0 r1 a2), .val false [.sl .any 3 (.int .i64) (g_Vs_l20Val_0 r0 r1 a2)], [[.sl .any 5 (.int .u8) (g_Vs_l20Val_1 r0 r1 a2), .int .i64 (g_Vs_l20Val_2 r0 r1 a2)]]) := by kernel_rfl
theorem ss_l20Val : Sound Go.Proofs.Tryd.prog 128 mss_l20Val Fs_l20Val := by
  refine fn_gen goods_l20Val (by kernel_rfl) .fr (fn := Go.Proofs.Tryd.f128) (c := (Go.Proofs.Tryd.f128.body.getD .skip)) (o := Os_l20Val_1) (k := 1) (by kernel_rfl) (by kernel_rfl) (by kernel_rfl) (by kernel_rfl) (by decide) ks_l20Val_1 ?_
  intro ys r outs h
  unfold Fs_l20Val at h
  split at h
  · exact (vs_l20Val _ _ _).trans h
  · cases h
end Go.Proofs.YtkjeicijcecmlaaDoor.E
end
section
namespace Go.Proofs.YtkjeicijcecmlaaDoor.E
open Go
set_option maxRecDepth 100000
set_option linter.all false
noncomputable def mss_l20ValR : List PM := mss_l20Val
theorem sames_l20Val (r0 : List Int) (r1 : Int) (a2 : Int) : g_Vs_l20Val_1 r0 r1 a2 = r0 := by
  unfold g_Vs_l20Val_1
  simp only [Bool.cond_self]
noncomputable def Fs_l20ValR : FSem := fun ys => match ys with
  | [.val true [.sl .any 5 (.int .u8) r0, .int .i64 r1], .val false [.int .i64 a2]] => some ((g_As_l20Val r0 r1 a2), .val false [.sl .any 3 (.int .i64) (g_Vs_l20Val_0 r0 r1 a2)], [[.sl .any 5 (.int .u8) r0, .int .i64 (g_Vs_l20Val_2 r0 r1 a2)]])
  | _ => none
theorem ss_l20ValR : Sound Go.Proofs.Tryd.prog 128 mss_l20ValR Fs_l20ValR := by
  refine ⟨ss_l20Val.fn, fun w S ψ ys vs r outs hF hh hg => ss_l20Val.calls w S ψ ys vs r outs (Eq.trans ?_ hF) hh hg⟩
  unfold Fs_l20ValR at hF ⊢
  split at hF
  · rename_i  r0 r1 a2
    show (some ((g_As_l20Val r0 r1 a2), .val false [.sl .any 3 (.int .i64) (g_Vs_l20Val_0 r0 r1 a2)], [[.sl .any 5 (.int .u8) (g_Vs_l20Val_1 r0 r1 a2), .int .i64 (g_Vs_l20Val_2 r0 r1 a2)]]) : Option (Bool × RV × List (List Cell))) = _
    rw [sames_l20Val]
  · cases hF
end Go.Proofs.YtkjeicijcecmlaaDoor.E
end
section
namespace Go.Proofs.YtkjeicijcecmlaaDoor.E
open Go
set_option maxRecDepth 100000
set_option maxHeartbeats 0
set_option linter.all false
noncomputable def Es_l20Write : Env where
  tt := mkTI Go.Proofs.Tryd.prog
  fn := fun f => match f with
    | 79 => some (mss_l20Rd_oddR, FSem.wk mss_l20Rd_oddR Fs_l20Rd_oddR)
    | 127 => some (mss_l20Rd_pick, FSem.wk mss_l20Rd_pick Fs_l20Rd_pick)
    | 128 => some (mss_l20ValR, FSem.wk mss_l20ValR Fs_l20ValR)
    | 166 => some (mss_l20KeyR, FSem.wk mss_l20KeyR Fs_l20KeyR)
    | _ => none
  bxf := fun _ => none
  mv := []
  keep := fun _ => []
  keepB := fun _ => []
  keepX := fun _ => []
  keepXB := fun _ => []
theorem goodFs_l20Write : ∀ f ms F, Es_l20Write.fn f = some (ms, F) → Sound Go.Proofs.Tryd.prog f ms F := fun f ms F h => by
  unfold Es_l20Write at h
  dsimp only at h
  split at h
  · injection h with h; injection h with e1 e2; subst e1 e2; exact Sound.wk ss_l20Rd_oddR
  · injection h with h; injection h with e1 e2; subst e1 e2; exact Sound.wk ss_l20Rd_pick
  · injection h with h; injection h with e1 e2; subst e1 e2; exact Sound.wk ss_l20ValR
  · injection h with h; injection h with e1 e2; subst e1 e2; exact Sound.wk ss_l20KeyR
  · cases h
theorem goodBs_l20Write : ∀ f ms F, Es_l20Write.bxf f = some (ms, F) → SoundB Go.Proofs.Tryd.prog f ms F := fun f ms F h => by cases h
theorem goods_l20Write : Good Go.Proofs.Tryd.prog Es_l20Write := ⟨rfl, goodFs_l20Write, goodBs_l20Write⟩
noncomputable def Os_l20Write_0 : Orc := fun _ _ => none
noncomputable def mss_l20Write : List PM := [.bx, .own]
noncomputable def lss_l20Write : List (Nat × Code) := loopsAll 0 (Go.Proofs.Tryd.f133.body.getD .skip)

theorem ks_l20Write_0 : OrcOk Es_l20Write Os_l20Write_0 lss_l20Write 0 := orcOk_none
noncomputable def g_As_l20Write (r0 : List Int) (r1 : Int) (a2 : Int) : Bool := g_As_l20Key r0 r1 a2 && (g_pickA r0 (g_Vs_l20Key_2 r0 r1 a2) (3 : Int) && bif g_pick r0 (g_Vs_l20Key_2 r0 r1 a2) (3 : Int) == (0 : Int) then g_As_l20Rd_odd r0 (IntKind.wrap IntKind.i64 (g_Vs_l20Key_2 r0 r1 a2 + (1 : Int))) a2 else g_As_l20Val r0 (IntKind.wrap IntKind.i64 (g_Vs_l20Key_2 r0 r1 a2 + (1 : Int))) a2)
noncomputable def g_Vs_l20Write_0 (r0 : List Int) (r1 : Int) (a2 : Int) : ByteArray := bif g_pick r0 (g_Vs_l20Key_2 r0 r1 a2) (3 : Int) == (0 : Int) then bif g_Vs_l20Rd_odd_0 r0 (IntKind.wrap IntKind.i64 (g_Vs_l20Key_2 r0 r1 a2 + (1 : Int))) a2 then g_Vs_l20Key_0 r0 r1 a2 else g_Vs_l20Key_0 r0 r1 a2 else g_Vs_l20Key_0 r0 r1 a2
noncomputable def g_Vs_l20Write_1 (r0 : List Int) (r1 : Int) (a2 : Int) : Bool := bif g_pick r0 (g_Vs_l20Key_2 r0 r1 a2) (3 : Int) == (0 : Int) then bif g_Vs_l20Rd_odd_0 r0 (IntKind.wrap IntKind.i64 (g_Vs_l20Key_2 r0 r1 a2 + (1 : Int))) a2 then true else true else false
noncomputable def g_Vs_l20Write_2 (r0 : List Int) (r1 : Int) (a2 : Int) : List (Int) := bif g_pick r0 (g_Vs_l20Key_2 r0 r1 a2) (3 : Int) == (0 : Int) then bif g_Vs_l20Rd_odd_0 r0 (IntKind.wrap IntKind.i64 (g_Vs_l20Key_2 r0 r1 a2 + (1 : Int))) a2 then [(1 : Int)] else [] else g_Vs_l20Val_0 r0 (IntKind.wrap IntKind.i64 (g_Vs_l20Key_2 r0 r1 a2 + (1 : Int))) a2
noncomputable def g_Vs_l20Write_3 (r0 : List Int) (r1 : Int) (a2 : Int) : List (Int) := bif g_pick r0 (g_Vs_l20Key_2 r0 r1 a2) (3 : Int) == (0 : Int) then bif g_Vs_l20Rd_odd_0 r0 (IntKind.wrap IntKind.i64 (g_Vs_l20Key_2 r0 r1 a2 + (1 : Int))) a2 then r0 else r0 else r0
noncomputable def g_Vs_l20Write_4 (r0 : List Int) (r1 : Int) (a2 : Int) : Int := bif g_pick r0 (g_Vs_l20Key_2 r0 r1 a2) (3 : Int) == (0 : Int) then bif g_Vs_l20Rd_odd_0 r0 (IntKind.wrap IntKind.i64 (g_Vs_l20Key_2 r0 r1 a2 + (1 : Int))) a2 then g_Vs_l20Rd_odd_2 r0 (IntKind.wrap IntKind.i64 (g_Vs_l20Key_2 r0 r1 a2 + (1 : Int))) a2 else g_Vs_l20Rd_odd_2 r0 (IntKind.wrap IntKind.i64 (g_Vs_l20Key_2 r0 r1 a2 + (1 : Int))) a2 else g_Vs_l20Val_2 r0 (IntKind.wrap IntKind.i64 (g_Vs_l20Key_2 r0 r1 a2 + (1 : Int))) a2
noncomputable def Fs_l20Write : FSem := fun ys => match ys with
  | [.val true [.sl .any 5 (.int .u8) r0, .int .i64 r1], .val false [.int .i64 a2]] => some ((g_As_l20Write r0 r1 a2), .val true [.str (g_Vs_l20Write_0 r0 r1 a2), .bool (g_Vs_l20Write_1 r0 r1 a2), .sl .any 3 (.int .i64) (g_Vs_l20Write_2 r0 r1 a2)], [[.sl .any 5 (.int .u8) (g_Vs_l20Write_3 r0 r1 a2), .int .i64 (g_Vs_l20Write_4 r0 r1 a2)]])
  | _ => none
theorem vs_l20Write (r0 : List Int) (r1 : Int) (a2 : Int) : collapseH .fr Es_l20Write Os_l20Write_0 (execFn Es_l20Write Go.Proofs.Tryd.f133 mss_l20Write [.val true [.sl .any 5 (.int .u8) r0, .int .i64 r1], .val false [.int .i64 a2]]) = some ((g_As_l20Write r0 r1 a2), .val true [.str (g_Vs_l20Write_0 r0 r1 a2), .bool (g_Vs_l20Write_1 r0 r1 a2), .sl .any 3 (.int .i64) (g_Vs_l20Write_2 r0 r1 a2)], [[.sl .any 5 (.int .u8) (g_Vs_l20Write_3 r0 r1 a2), .int .i64 (g_Vs_l20Write_4 r0 r1 a2)]]) := by kernel_rfl
theorem ss_l20Write : Sound Go.Proofs.Tryd.prog 133 mss_l20Write Fs_l20Write := by
  refine fn_gen goods_l20Write (by kernel_rfl) .fr (fn := Go.Proofs.Tryd.f133) (c := (Go.Proofs.Tryd.f133.body.getD .skip)) (o := Os_l20Write_0) (k := 0) (by kernel_rfl) (by kernel_rfl) (by kernel_rfl) (by kernel_rfl) (by decide) ks_l20Write_0 ?_
  intro ys r outs h
  unfold Fs_l20Write at h
  split at h
  · exact (vs_l20Write _ _ _).trans h
  · cases h
end Go.Proofs.YtkjeicijcecmlaaDoor.E
end
section
namespace Go.Proofs.YtkjeicijcecmlaaDoor.E
open Go
set_option maxRecDepth 100000
set_option linter.all false
noncomputable def mss_l20WriteR : List PM := mss_l20Write
theorem sames_l20Write (r0 : List Int) (r1 : Int) (a2 : Int) : g_Vs_l20Write_3 r0 r1 a2 = r0 := by
  unfold g_Vs_l20Write_3
  simp only [Bool.cond_self]
noncomputable def Fs_l20WriteR : FSem := fun ys => match ys with
  | [.val true [.sl .any 5 (.int .u8) r0, .int .i64 r1], .val false [.int .i64 a2]] => some ((g_As_l20Write r0 r1 a2), .val true [.str (g_Vs_l20Write_0 r0 r1 a2), .bool (g_Vs_l20Write_1 r0 r1 a2), .sl .any 3 (.int .i64) (g_Vs_l20Write_2 r0 r1 a2)], [[.sl .any 5 (.int .u8) r0, .int .i64 (g_Vs_l20Write_4 r0 r1 a2)]])
  | _ => none
theorem ss_l20WriteR : Sound Go.Proofs.Tryd.prog 133 mss_l20WriteR Fs_l20WriteR := by
  refine ⟨ss_l20Write.fn, fun w S ψ ys vs r outs hF hh hg => ss_l20Write.calls w S ψ ys vs r outs (Eq.trans ?_ hF) hh hg⟩
  unfold Fs_l20WriteR at hF ⊢
  split at hF
  · rename_i  r0 r1 a2
    show (some ((g_As_l20Write r0 r1 a2), .val true [.str (g_Vs_l20Write_0 r0 r1 a2), .bool (g_Vs_l20Write_1 r0 r1 a2), .sl .any 3 (.int .i64) (g_Vs_l20Write_2 r0 r1 a2)], [[.sl .any 5 (.int .u8) (g_Vs_l20Write_3 r0 r1 a2), .int .i64 (g_Vs_l20Write_4 r0 r1 a2)]]) : Option (Bool × RV × List (List Cell))) = _
    rw [sames_l20Write]
  · cases hF
end Go.Proofs.YtkjeicijcecmlaaDoor.E
end
section
namespace Go.Proofs.YtkjeicijcecmlaaDoor.E
open Go
set_option maxRecDepth 100000
set_option maxHeartbeats 0
set_option linter.all false
noncomputable def Es_l20Writes : Env where
  tt := mkTI Go.Proofs.Tryd.prog
  fn := fun f => match f with
    | 79 => some (mss_l20Rd_oddR, FSem.wk mss_l20Rd_oddR Fs_l20Rd_oddR)
    | 127 => some (mss_l20Rd_pick, FSem.wk mss_l20Rd_pick Fs_l20Rd_pick)
    | 133 => some (mss_l20WriteR, FSem.wk mss_l20WriteR Fs_l20WriteR)
    | _ => none
  bxf := fun _ => none
  mv := []
  keep := fun b => match b with
    | 0 => [(0, false), (1, false), (5, true), (6, false)]
    | _ => []
  keepB := fun b => match b with
    | 0 => [(0, false)]
    | _ => []
  keepX := fun b => match b with
    | 0 => [(0, false), (1, false), (5, true)]
    | _ => []
  keepXB := fun b => match b with
    | 0 => [(0, false)]
    | _ => []
theorem goodFs_l20Writes : ∀ f ms F, Es_l20Writes.fn f = some (ms, F) → Sound Go.Proofs.Tryd.prog f ms F := fun f ms F h => by
  unfold Es_l20Writes at h
  dsimp only at h
  split at h
  · injection h with h; injection h with e1 e2; subst e1 e2; exact Sound.wk ss_l20Rd_oddR
  · injection h with h; injection h with e1 e2; subst e1 e2; exact Sound.wk ss_l20Rd_pick
  · injection h with h; injection h with e1 e2; subst e1 e2; exact Sound.wk ss_l20WriteR
  · cases h
theorem goodBs_l20Writes : ∀ f ms F, Es_l20Writes.bxf f = some (ms, F) → SoundB Go.Proofs.Tryd.prog f ms F := fun f ms F h => by cases h
theorem goods_l20Writes : Good Go.Proofs.Tryd.prog Es_l20Writes := ⟨rfl, goodFs_l20Writes, goodBs_l20Writes⟩
noncomputable def Os_l20Writes_0 : Orc := fun _ _ => none
noncomputable def mss_l20Writes : List PM := [.bx, .own]
noncomputable def lss_l20Writes : List (Nat × Code) := loopsAll 0 (Go.Proofs.Tryd.f78.body.getD .skip)
noncomputable def cs_l20Writes_0 : Code := (loopOf 0 (Go.Proofs.Tryd.f78.body.getD .skip)).getD .skip
theorem lseqs_l20Writes : lss_l20Writes = [(0, cs_l20Writes_0)] := by kernel_rfl
theorem ms_l20Writes_0 : ∀ p, p ∈ lss_l20Writes → p.1 = 0 → p.2 = cs_l20Writes_0 := by
  intro p hp
  rw [lseqs_l20Writes] at hp
  simp only [List.mem_cons, List.not_mem_nil, or_false] at hp
  subst hp; simp
theorem ks_l20Writes_0 : OrcOk Es_l20Writes Os_l20Writes_0 lss_l20Writes 0 := orcOk_none
noncomputable def hs_l20Writes_0 (y0 : Int) (y1 : List ((ByteArray) × ((Bool) × (List (Int))))) (y2 : Int) (y3 : List (Int)) (y4 : Int) : List (Pl × LV) := [(.T 0, .t (.val false [.ptr 0 0 0])), (.T 1, .t (.val false [.int .i64 y0])), (.T 5, .t (.val false [.row 5 0 0])), (.R 5 0, .r 0 (some ⟨false, .non, false, 38, (.pair .str (.pair .bool (.sl 3 (.int .i64)))), y1⟩)), (.T 6, .t (.val false [.int .i64 y2])), (.B 0, .b 0 false [.sl .any 5 (.int .u8) y3, .int .i64 y4])]
noncomputable def g_Ss_l20Writes_0 (y0 : Int) (y3 : List (Int)) : ((List ((ByteArray) × ((Bool) × (List (Int))))) × (Int) × (Int)) → RT ((List ((ByteArray) × ((Bool) × (List (Int))))) × (Int) × (Int)) (((List ((ByteArray) × ((Bool) × (List (Int))))) × (Int)))
  | (y1, y2, y4) => .br (true) (.br (decide (y2 > (0 : Int))) (.br (g_As_l20Write y3 y4 (0 : Int)) (.br (decide ((List.length y1 + List.length [(g_Vs_l20Write_0 y3 y4 (0 : Int), g_Vs_l20Write_1 y3 y4 (0 : Int), g_Vs_l20Write_2 y3 y4 (0 : Int))]) * nat_lit 48 ≤ nat_lit 140737488355328 ∧ List.length y1 + List.length [(g_Vs_l20Write_0 y3 y4 (0 : Int), g_Vs_l20Write_1 y3 y4 (0 : Int), g_Vs_l20Write_2 y3 y4 (0 : Int))] ≤ nat_lit 9223372036854775807)) (.br (true) (.go ((y1 ++ [(g_Vs_l20Write_0 y3 y4 (0 : Int), g_Vs_l20Write_1 y3 y4 (0 : Int), g_Vs_l20Write_2 y3 y4 (0 : Int))], IntKind.wrap IntKind.i64 (y2 - (1 : Int)), g_Vs_l20Write_4 y3 y4 (0 : Int)))) (.bad)) (.bad)) (.bad)) (.out ((y1, y4)))) (.bad)
noncomputable def g_Ls_l20Writes_0 (y0 : Int) (y3 : List (Int)) (x : (List ((ByteArray) × ((Bool) × (List (Int))))) × (Int) × (Int)) : Option (((List ((ByteArray) × ((Bool) × (List (Int))))) × (Int))) := loopO (g_Ss_l20Writes_0 y0 y3) x
noncomputable def xs_l20Writes_0 (y0 : Int) (y3 : List (Int)) : (((List ((ByteArray) × ((Bool) × (List (Int))))) × (Int))) → Ex × List (Pl × LV) := fun r => (.exit 0, [(.T 0, .t (.val false [.ptr 0 0 0])), (.T 1, .t (.val false [.int .i64 y0])), (.T 5, .t (.val false [.row 5 0 0])), (.R 5 0, .r 0 (some ⟨false, .non, false, 38, (.pair .str (.pair .bool (.sl 3 (.int .i64)))), r.1⟩)), (.B 0, .b 0 false [.sl .any 5 (.int .u8) y3, .int .i64 r.2])])
noncomputable def Os_l20Writes_1 : Orc := fun b h => match b, h with
  | 0, [(.T 0, .t (.val false [.ptr 0 0 0])), (.T 1, .t (.val false [.int .i64 y0])), (.T 5, .t (.val false [.row 5 0 0])), (.R 5 0, .r 0 (some ⟨false, .non, false, 38, (.pair .str (.pair .bool (.sl 3 (.int .i64)))), y1⟩)), (.T 6, .t (.val false [.int .i64 y2])), (.B 0, .b 0 false [.sl .any 5 (.int .u8) y3, .int .i64 y4])] => some (okO (g_Ls_l20Writes_0 y0 y3 (y1, y2, y4)), (.leaf (.exit 0) [(.T 0, .t (.val false [.ptr 0 0 0])), (.T 1, .t (.val false [.int .i64 y0])), (.T 5, .t (.val false [.row 5 0 0])), (.R 5 0, .r 0 (some ⟨false, .non, false, 38, (.pair .str (.pair .bool (.sl 3 (.int .i64)))), (valO (g_Ls_l20Writes_0 y0 y3 (y1, y2, y4))).1⟩)), (.B 0, .b 0 false [.sl .any 5 (.int .u8) y3, .int .i64 (valO (g_Ls_l20Writes_0 y0 y3 (y1, y2, y4))).2])]))
  | b, h => Os_l20Writes_0 b h
theorem bs_l20Writes_0 (y0 : Int) (y1 : List ((ByteArray) × ((Bool) × (List (Int))))) (y2 : Int) (y3 : List (Int)) (y4 : Int) : Tr.bt Es_l20Writes Os_l20Writes_0 (exec Es_l20Writes 0 cs_l20Writes_0 (St.of (hs_l20Writes_0 y0 y1 y2 y3 y4)) (leafRd Es_l20Writes 0)) = (g_Ss_l20Writes_0 y0 y3 (y1, y2, y4)).bt (fun ((y1, y2, y4) : (List ((ByteArray) × ((Bool) × (List (Int))))) × (Int) × (Int)) => (hs_l20Writes_0 y0 y1 y2 y3 y4)) (xs_l20Writes_0 y0 y3) := by kernel_rfl
theorem ks_l20Writes_1 : OrcOk Es_l20Writes Os_l20Writes_1 lss_l20Writes 1 := orc_add ks_l20Writes_0 (fun n p hp h ex h' ho => by
  obtain ⟨b, c⟩ := p
  obtain ⟨xt, h1, h2⟩ := ho
  have h1 : Os_l20Writes_1 b h = some (true, xt) := h1
  unfold Os_l20Writes_1 at h1
  split at h1
  · injection h1 with h1
    injection h1 with e1 e2
    subst e2
    have hc : c = cs_l20Writes_0 := ms_l20Writes_0 _ hp rfl
    subst hc
    right
    rename_i y0 y1 y2 y3 y4
    have key := LT_step ks_l20Writes_0 hp (fun q hq => loopsAll_in _ _ _ _ hp hq) (fun ((y1, y2, y4) : (List ((ByteArray) × ((Bool) × (List (Int))))) × (Int) × (Int)) => (hs_l20Writes_0 y0 y1 y2 y3 y4)) (xs_l20Writes_0 y0 y3) (g_Ss_l20Writes_0 y0 y3) (fun x => by first | exact bs_l20Writes_0 y0 x.1 x.2.1 y3 x.2.2) n (x := (y1, y2, y4)) (okO_some e1)
    have hx : ∀ r, XT.sel (.leaf (.exit 0) [(.T 0, .t (.val false [.ptr 0 0 0])), (.T 1, .t (.val false [.int .i64 y0])), (.T 5, .t (.val false [.row 5 0 0])), (.R 5 0, .r 0 (some ⟨false, .non, false, 38, (.pair .str (.pair .bool (.sl 3 (.int .i64)))), r.1⟩)), (.B 0, .b 0 false [.sl .any 5 (.int .u8) y3, .int .i64 r.2])]) = xs_l20Writes_0 y0 y3 r := fun r => by first | rfl | (rcases r with r | r <;> rfl) | (rcases r with r | r | r <;> rfl) | (rcases r with r | r | r | r <;> rfl)
    have h3 := (hx (valO (g_Ls_l20Writes_0 y0 y3 (y1, y2, y4)))).symm.trans h2
    have e3 := congrArg Prod.fst h3
    have e4 := congrArg Prod.snd h3
    simp only at e3 e4
    rw [← e3, ← e4]
    exact key
  · exact .inl ⟨xt, h1, h2⟩)
noncomputable def g_As_l20Writes (r0 : List Int) (r1 : Int) (a2 : Int) : Bool := g_pickA r0 r1 (6 : Int) && (okO (g_Ls_l20Writes_0 a2 r0 ([], g_pick r0 r1 (6 : Int), IntKind.wrap IntKind.i64 (r1 + (1 : Int)))) && (g_As_l20Rd_odd r0 (valO (g_Ls_l20Writes_0 a2 r0 ([], g_pick r0 r1 (6 : Int), IntKind.wrap IntKind.i64 (r1 + (1 : Int))))).2 a2 && (!g_Vs_l20Rd_odd_0 r0 (valO (g_Ls_l20Writes_0 a2 r0 ([], g_pick r0 r1 (6 : Int), IntKind.wrap IntKind.i64 (r1 + (1 : Int))))).2 a2 || g_As_l20Write r0 (g_Vs_l20Rd_odd_2 r0 (valO (g_Ls_l20Writes_0 a2 r0 ([], g_pick r0 r1 (6 : Int), IntKind.wrap IntKind.i64 (r1 + (1 : Int))))).2 a2) (2 : Int) && decide ((List.length (valO (g_Ls_l20Writes_0 a2 r0 ([], g_pick r0 r1 (6 : Int), IntKind.wrap IntKind.i64 (r1 + (1 : Int))))).1 + List.length [(g_Vs_l20Write_0 r0 (g_Vs_l20Rd_odd_2 r0 (valO (g_Ls_l20Writes_0 a2 r0 ([], g_pick r0 r1 (6 : Int), IntKind.wrap IntKind.i64 (r1 + (1 : Int))))).2 a2) (2 : Int), g_Vs_l20Write_1 r0 (g_Vs_l20Rd_odd_2 r0 (valO (g_Ls_l20Writes_0 a2 r0 ([], g_pick r0 r1 (6 : Int), IntKind.wrap IntKind.i64 (r1 + (1 : Int))))).2 a2) (2 : Int), g_Vs_l20Write_2 r0 (g_Vs_l20Rd_odd_2 r0 (valO (g_Ls_l20Writes_0 a2 r0 ([], g_pick r0 r1 (6 : Int), IntKind.wrap IntKind.i64 (r1 + (1 : Int))))).2 a2) (2 : Int))]) * nat_lit 48 ≤ nat_lit 140737488355328 ∧ List.length (valO (g_Ls_l20Writes_0 a2 r0 ([], g_pick r0 r1 (6 : Int), IntKind.wrap IntKind.i64 (r1 + (1 : Int))))).1 + List.length [(g_Vs_l20Write_0 r0 (g_Vs_l20Rd_odd_2 r0 (valO (g_Ls_l20Writes_0 a2 r0 ([], g_pick r0 r1 (6 : Int), IntKind.wrap IntKind.i64 (r1 + (1 : Int))))).2 a2) (2 : Int), g_Vs_l20Write_1 r0 (g_Vs_l20Rd_odd_2 r0 (valO (g_Ls_l20Writes_0 a2 r0 ([], g_pick r0 r1 (6 : Int), IntKind.wrap IntKind.i64 (r1 + (1 : Int))))).2 a2) (2 : Int), g_Vs_l20Write_2 r0 (g_Vs_l20Rd_odd_2 r0 (valO (g_Ls_l20Writes_0 a2 r0 ([], g_pick r0 r1 (6 : Int), IntKind.wrap IntKind.i64 (r1 + (1 : Int))))).2 a2) (2 : Int))] ≤ nat_lit 9223372036854775807))))
noncomputable def g_Vs_l20Writes_0 (r0 : List Int) (r1 : Int) (a2 : Int) : List ((ByteArray) × ((Bool) × (List (Int)))) := bif g_Vs_l20Rd_odd_0 r0 (valO (g_Ls_l20Writes_0 a2 r0 ([], g_pick r0 r1 (6 : Int), IntKind.wrap IntKind.i64 (r1 + (1 : Int))))).2 a2 then (valO (g_Ls_l20Writes_0 a2 r0 ([], g_pick r0 r1 (6 : Int), IntKind.wrap IntKind.i64 (r1 + (1 : Int))))).1 ++ [(g_Vs_l20Write_0 r0 (g_Vs_l20Rd_odd_2 r0 (valO (g_Ls_l20Writes_0 a2 r0 ([], g_pick r0 r1 (6 : Int), IntKind.wrap IntKind.i64 (r1 + (1 : Int))))).2 a2) (2 : Int), g_Vs_l20Write_1 r0 (g_Vs_l20Rd_odd_2 r0 (valO (g_Ls_l20Writes_0 a2 r0 ([], g_pick r0 r1 (6 : Int), IntKind.wrap IntKind.i64 (r1 + (1 : Int))))).2 a2) (2 : Int), g_Vs_l20Write_2 r0 (g_Vs_l20Rd_odd_2 r0 (valO (g_Ls_l20Writes_0 a2 r0 ([], g_pick r0 r1 (6 : Int), IntKind.wrap IntKind.i64 (r1 + (1 : Int))))).2 a2) (2 : Int))] else (valO (g_Ls_l20Writes_0 a2 r0 ([], g_pick r0 r1 (6 : Int), IntKind.wrap IntKind.i64 (r1 + (1 : Int))))).1
noncomputable def g_Vs_l20Writes_1 (r0 : List Int) (r1 : Int) (a2 : Int) : List (Int) := bif g_Vs_l20Rd_odd_0 r0 (valO (g_Ls_l20Writes_0 a2 r0 ([], g_pick r0 r1 (6 : Int), IntKind.wrap IntKind.i64 (r1 + (1 : Int))))).2 a2 then r0 else r0
noncomputable def g_Vs_l20Writes_2 (r0 : List Int) (r1 : Int) (a2 : Int) : Int := bif g_Vs_l20Rd_odd_0 r0 (valO (g_Ls_l20Writes_0 a2 r0 ([], g_pick r0 r1 (6 : Int), IntKind.wrap IntKind.i64 (r1 + (1 : Int))))).2 a2 then g_Vs_l20Write_4 r0 (g_Vs_l20Rd_odd_2 r0 (valO (g_Ls_l20Writes_0 a2 r0 ([], g_pick r0 r1 (6 : Int), IntKind.wrap IntKind.i64 (r1 + (1 : Int))))).2 a2) (2 : Int) else g_Vs_l20Rd_odd_2 r0 (valO (g_Ls_l20Writes_0 a2 r0 ([], g_pick r0 r1 (6 : Int), IntKind.wrap IntKind.i64 (r1 + (1 : Int))))).2 a2
noncomputable def Fs_l20Writes : FSem := fun ys => match ys with
  | [.val true [.sl .any 5 (.int .u8) r0, .int .i64 r1], .val false [.int .i64 a2]] => some ((g_As_l20Writes r0 r1 a2), .val false [.own .any false 38 (.pair .str (.pair .bool (.sl 3 (.int .i64)))) (g_Vs_l20Writes_0 r0 r1 a2)], [[.sl .any 5 (.int .u8) (g_Vs_l20Writes_1 r0 r1 a2), .int .i64 (g_Vs_l20Writes_2 r0 r1 a2)]])
  | _ => none
theorem vs_l20Writes (r0 : List Int) (r1 : Int) (a2 : Int) : collapseH .std Es_l20Writes Os_l20Writes_1 (execFn Es_l20Writes Go.Proofs.Tryd.f78 mss_l20Writes [.val true [.sl .any 5 (.int .u8) r0, .int .i64 r1], .val false [.int .i64 a2]]) = some ((g_As_l20Writes r0 r1 a2), .val false [.own .any false 38 (.pair .str (.pair .bool (.sl 3 (.int .i64)))) (g_Vs_l20Writes_0 r0 r1 a2)], [[.sl .any 5 (.int .u8) (g_Vs_l20Writes_1 r0 r1 a2), .int .i64 (g_Vs_l20Writes_2 r0 r1 a2)]]) := by kernel_rfl
theorem ss_l20Writes : Sound Go.Proofs.Tryd.prog 78 mss_l20Writes Fs_l20Writes := by
  refine fn_gen goods_l20Writes (by kernel_rfl) .std (fn := Go.Proofs.Tryd.f78) (c := (Go.Proofs.Tryd.f78.body.getD .skip)) (o := Os_l20Writes_1) (k := 1) (by kernel_rfl) (by kernel_rfl) (by kernel_rfl) (by kernel_rfl) (by decide) ks_l20Writes_1 ?_
  intro ys r outs h
  unfold Fs_l20Writes at h
  split at h
  · exact (vs_l20Writes _ _ _).trans h
  · cases h
end Go.Proofs.YtkjeicijcecmlaaDoor.E
end
section
namespace Go.Proofs.YtkjeicijcecmlaaDoor.E
open Go
set_option maxRecDepth 100000
set_option linter.all false
noncomputable def mss_l20WritesR : List PM := mss_l20Writes
theorem sames_l20Writes (r0 : List Int) (r1 : Int) (a2 : Int) : g_Vs_l20Writes_1 r0 r1 a2 = r0 := by
  unfold g_Vs_l20Writes_1
  simp only [Bool.cond_self]
noncomputable def Fs_l20WritesR : FSem := fun ys => match ys with
  | [.val true [.sl .any 5 (.int .u8) r0, .int .i64 r1], .val false [.int .i64 a2]] => some ((g_As_l20Writes r0 r1 a2), .val false [.own .any false 38 (.pair .str (.pair .bool (.sl 3 (.int .i64)))) (g_Vs_l20Writes_0 r0 r1 a2)], [[.sl .any 5 (.int .u8) r0, .int .i64 (g_Vs_l20Writes_2 r0 r1 a2)]])
  | _ => none
theorem ss_l20WritesR : Sound Go.Proofs.Tryd.prog 78 mss_l20WritesR Fs_l20WritesR := by
  refine ⟨ss_l20Writes.fn, fun w S ψ ys vs r outs hF hh hg => ss_l20Writes.calls w S ψ ys vs r outs (Eq.trans ?_ hF) hh hg⟩
  unfold Fs_l20WritesR at hF ⊢
  split at hF
  · rename_i  r0 r1 a2
    show (some ((g_As_l20Writes r0 r1 a2), .val false [.own .any false 38 (.pair .str (.pair .bool (.sl 3 (.int .i64)))) (g_Vs_l20Writes_0 r0 r1 a2)], [[.sl .any 5 (.int .u8) (g_Vs_l20Writes_1 r0 r1 a2), .int .i64 (g_Vs_l20Writes_2 r0 r1 a2)]]) : Option (Bool × RV × List (List Cell))) = _
    rw [sames_l20Writes]
  · cases hF
end Go.Proofs.YtkjeicijcecmlaaDoor.E
end
section
namespace Go.Proofs.YtkjeicijcecmlaaDoor.E
open Go
set_option maxRecDepth 100000
set_option maxHeartbeats 0
set_option linter.all false
noncomputable def Es_l20Note : Env where
  tt := mkTI Go.Proofs.Tryd.prog
  fn := fun f => match f with
    | 78 => some (mss_l20WritesR, FSem.wk mss_l20WritesR Fs_l20WritesR)
    | 79 => some (mss_l20Rd_oddR, FSem.wk mss_l20Rd_oddR Fs_l20Rd_oddR)
    | 127 => some (mss_l20Rd_pick, FSem.wk mss_l20Rd_pick Fs_l20Rd_pick)
    | 133 => some (mss_l20WriteR, FSem.wk mss_l20WriteR Fs_l20WriteR)
    | 166 => some (mss_l20KeyR, FSem.wk mss_l20KeyR Fs_l20KeyR)
    | _ => none
  bxf := fun _ => none
  mv := []
  keep := fun b => match b with
    | 0 => [(0, false), (1, false), (4, false), (5, false), (6, false)]
    | _ => []
  keepB := fun b => match b with
    | 0 => [(4, false), (5, false), (0, false)]
    | _ => []
  keepX := fun b => match b with
    | 0 => [(0, false), (1, false), (4, false), (5, false)]
    | _ => []
  keepXB := fun b => match b with
    | 0 => [(4, false), (5, false), (0, false)]
    | _ => []
theorem goodFs_l20Note : ∀ f ms F, Es_l20Note.fn f = some (ms, F) → Sound Go.Proofs.Tryd.prog f ms F := fun f ms F h => by
  unfold Es_l20Note at h
  dsimp only at h
  split at h
  · injection h with h; injection h with e1 e2; subst e1 e2; exact Sound.wk ss_l20WritesR
  · injection h with h; injection h with e1 e2; subst e1 e2; exact Sound.wk ss_l20Rd_oddR
  · injection h with h; injection h with e1 e2; subst e1 e2; exact Sound.wk ss_l20Rd_pick
  · injection h with h; injection h with e1 e2; subst e1 e2; exact Sound.wk ss_l20WriteR
  · injection h with h; injection h with e1 e2; subst e1 e2; exact Sound.wk ss_l20KeyR
  · cases h
theorem goodBs_l20Note : ∀ f ms F, Es_l20Note.bxf f = some (ms, F) → SoundB Go.Proofs.Tryd.prog f ms F := fun f ms F h => by cases h
theorem goods_l20Note : Good Go.Proofs.Tryd.prog Es_l20Note := ⟨rfl, goodFs_l20Note, goodBs_l20Note⟩
noncomputable def Os_l20Note_0 : Orc := fun _ _ => none
noncomputable def mss_l20Note : List PM := [.bx, .own]
noncomputable def lss_l20Note : List (Nat × Code) := loopsAll 0 (Go.Proofs.Tryd.f155.body.getD .skip)
noncomputable def cs_l20Note_0 : Code := (loopOf 0 (Go.Proofs.Tryd.f155.body.getD .skip)).getD .skip
theorem lseqs_l20Note : lss_l20Note = [(0, cs_l20Note_0)] := by kernel_rfl
theorem ms_l20Note_0 : ∀ p, p ∈ lss_l20Note → p.1 = 0 → p.2 = cs_l20Note_0 := by
  intro p hp
  rw [lseqs_l20Note] at hp
  simp only [List.mem_cons, List.not_mem_nil, or_false] at hp
  subst hp; simp
theorem ks_l20Note_0 : OrcOk Es_l20Note Os_l20Note_0 lss_l20Note 0 := orcOk_none
noncomputable def hs_l20Note_0 (y0 : Int) (y1 : Int) (y2 : Int) (y3 : Int) (y4 : List (ByteArray)) (y5 : List ((ByteArray) × ((Bool) × (List (Int))))) (y6 : Int) (y7 : Int) (y8 : List (ByteArray)) (y9 : List ((ByteArray) × ((Bool) × (List (Int))))) (y10 : List (Int)) (y11 : Int) : List (Pl × LV) := [(.T 0, .t (.val false [.ptr 0 0 0])), (.T 1, .t (.val false [.int .i64 y0])), (.T 4, .t (.val false [.ptr 4 0 0])), (.T 5, .t (.val false [.ptr 5 0 0])), (.T 6, .t (.val false [.int .i64 y1])), (.B 4, .b 0 false [.int .i64 y2, .int .i64 y3, .row 4 5 0, .row 4 7 0]), (.R 4 5, .r 0 (some ⟨false, .any, true, 9, .str, y4⟩)), (.R 4 7, .r 0 (some ⟨false, .any, true, 38, (.pair .str (.pair .bool (.sl 3 (.int .i64)))), y5⟩)), (.B 5, .b 0 false [.int .i64 y6, .int .i64 y7, .row 5 5 0, .row 5 7 0]), (.R 5 5, .r 0 (some ⟨false, .any, true, 9, .str, y8⟩)), (.R 5 7, .r 0 (some ⟨false, .any, false, 38, (.pair .str (.pair .bool (.sl 3 (.int .i64)))), y9⟩)), (.B 0, .b 0 false [.sl .any 5 (.int .u8) y10, .int .i64 y11])]
noncomputable def g_Ss_l20Note_0 (y0 : Int) (y2 : Int) (y3 : Int) (y4 : List (ByteArray)) (y5 : List ((ByteArray) × ((Bool) × (List (Int))))) (y6 : Int) (y7 : Int) (y9 : List ((ByteArray) × ((Bool) × (List (Int))))) (y10 : List (Int)) (y11 : Int) : ((Int) × (List (ByteArray))) → RT ((Int) × (List (ByteArray))) (((List (ByteArray))))
  | (y1, y8) => .br (true) (.br (decide (y1 < (↑(List.length y9) : Int))) (.br (decide ((0 : Int) ≤ y1 ∧ y1 < (↑(List.length y9) : Int))) (.br (decide (Int.toNat y1 < List.length y9)) (.br (decide ((List.length y8 + List.length [(at_ (Ty.pair Ty.str (Ty.pair Ty.bool (Ty.sl (nat_lit 3) (Ty.int IntKind.i64)))) y9 (Int.toNat y1)).1]) * nat_lit 16 ≤ nat_lit 140737488355328 ∧ List.length y8 + List.length [(at_ (Ty.pair Ty.str (Ty.pair Ty.bool (Ty.sl (nat_lit 3) (Ty.int IntKind.i64)))) y9 (Int.toNat y1)).1] ≤ nat_lit 9223372036854775807)) (.br (true) (.go ((IntKind.wrap IntKind.i64 (y1 + (1 : Int)), y8 ++ [(at_ (Ty.pair Ty.str (Ty.pair Ty.bool (Ty.sl (nat_lit 3) (Ty.int IntKind.i64)))) y9 (Int.toNat y1)).1]))) (.bad)) (.bad)) (.bad)) (.bad)) (.out (y8))) (.bad)
noncomputable def g_Ls_l20Note_0 (y0 : Int) (y2 : Int) (y3 : Int) (y4 : List (ByteArray)) (y5 : List ((ByteArray) × ((Bool) × (List (Int))))) (y6 : Int) (y7 : Int) (y9 : List ((ByteArray) × ((Bool) × (List (Int))))) (y10 : List (Int)) (y11 : Int) (x : (Int) × (List (ByteArray))) : Option (((List (ByteArray)))) := loopO (g_Ss_l20Note_0 y0 y2 y3 y4 y5 y6 y7 y9 y10 y11) x
noncomputable def xs_l20Note_0 (y0 : Int) (y2 : Int) (y3 : Int) (y4 : List (ByteArray)) (y5 : List ((ByteArray) × ((Bool) × (List (Int))))) (y6 : Int) (y7 : Int) (y9 : List ((ByteArray) × ((Bool) × (List (Int))))) (y10 : List (Int)) (y11 : Int) : (((List (ByteArray)))) → Ex × List (Pl × LV) := fun r => (.exit 0, [(.T 0, .t (.val false [.ptr 0 0 0])), (.T 1, .t (.val false [.int .i64 y0])), (.T 4, .t (.val false [.ptr 4 0 0])), (.T 5, .t (.val false [.ptr 5 0 0])), (.B 4, .b 0 false [.int .i64 y2, .int .i64 y3, .row 4 5 0, .row 4 7 0]), (.R 4 5, .r 0 (some ⟨false, .any, true, 9, .str, y4⟩)), (.R 4 7, .r 0 (some ⟨false, .any, true, 38, (.pair .str (.pair .bool (.sl 3 (.int .i64)))), y5⟩)), (.B 5, .b 0 false [.int .i64 y6, .int .i64 y7, .row 5 5 0, .row 5 7 0]), (.R 5 5, .r 0 (some ⟨false, .any, true, 9, .str, r⟩)), (.R 5 7, .r 0 (some ⟨false, .any, false, 38, (.pair .str (.pair .bool (.sl 3 (.int .i64)))), y9⟩)), (.B 0, .b 0 false [.sl .any 5 (.int .u8) y10, .int .i64 y11])])
noncomputable def Os_l20Note_1 : Orc := fun b h => match b, h with
  | 0, [(.T 0, .t (.val false [.ptr 0 0 0])), (.T 1, .t (.val false [.int .i64 y0])), (.T 4, .t (.val false [.ptr 4 0 0])), (.T 5, .t (.val false [.ptr 5 0 0])), (.T 6, .t (.val false [.int .i64 y1])), (.B 4, .b 0 false [.int .i64 y2, .int .i64 y3, .row 4 5 0, .row 4 7 0]), (.R 4 5, .r 0 (some ⟨false, .any, true, 9, .str, y4⟩)), (.R 4 7, .r 0 (some ⟨false, .any, true, 38, (.pair .str (.pair .bool (.sl 3 (.int .i64)))), y5⟩)), (.B 5, .b 0 false [.int .i64 y6, .int .i64 y7, .row 5 5 0, .row 5 7 0]), (.R 5 5, .r 0 (some ⟨false, .any, true, 9, .str, y8⟩)), (.R 5 7, .r 0 (some ⟨false, .any, false, 38, (.pair .str (.pair .bool (.sl 3 (.int .i64)))), y9⟩)), (.B 0, .b 0 false [.sl .any 5 (.int .u8) y10, .int .i64 y11])] => some (okO (g_Ls_l20Note_0 y0 y2 y3 y4 y5 y6 y7 y9 y10 y11 (y1, y8)), (.leaf (.exit 0) [(.T 0, .t (.val false [.ptr 0 0 0])), (.T 1, .t (.val false [.int .i64 y0])), (.T 4, .t (.val false [.ptr 4 0 0])), (.T 5, .t (.val false [.ptr 5 0 0])), (.B 4, .b 0 false [.int .i64 y2, .int .i64 y3, .row 4 5 0, .row 4 7 0]), (.R 4 5, .r 0 (some ⟨false, .any, true, 9, .str, y4⟩)), (.R 4 7, .r 0 (some ⟨false, .any, true, 38, (.pair .str (.pair .bool (.sl 3 (.int .i64)))), y5⟩)), (.B 5, .b 0 false [.int .i64 y6, .int .i64 y7, .row 5 5 0, .row 5 7 0]), (.R 5 5, .r 0 (some ⟨false, .any, true, 9, .str, (valO (g_Ls_l20Note_0 y0 y2 y3 y4 y5 y6 y7 y9 y10 y11 (y1, y8)))⟩)), (.R 5 7, .r 0 (some ⟨false, .any, false, 38, (.pair .str (.pair .bool (.sl 3 (.int .i64)))), y9⟩)), (.B 0, .b 0 false [.sl .any 5 (.int .u8) y10, .int .i64 y11])]))
  | b, h => Os_l20Note_0 b h
theorem bs_l20Note_0 (y0 : Int) (y1 : Int) (y2 : Int) (y3 : Int) (y4 : List (ByteArray)) (y5 : List ((ByteArray) × ((Bool) × (List (Int))))) (y6 : Int) (y7 : Int) (y8 : List (ByteArray)) (y9 : List ((ByteArray) × ((Bool) × (List (Int))))) (y10 : List (Int)) (y11 : Int) : Tr.bt Es_l20Note Os_l20Note_0 (exec Es_l20Note 0 cs_l20Note_0 (St.of (hs_l20Note_0 y0 y1 y2 y3 y4 y5 y6 y7 y8 y9 y10 y11)) (leafRd Es_l20Note 0)) = (g_Ss_l20Note_0 y0 y2 y3 y4 y5 y6 y7 y9 y10 y11 (y1, y8)).bt (fun ((y1, y8) : (Int) × (List (ByteArray))) => (hs_l20Note_0 y0 y1 y2 y3 y4 y5 y6 y7 y8 y9 y10 y11)) (xs_l20Note_0 y0 y2 y3 y4 y5 y6 y7 y9 y10 y11) := by kernel_rfl
theorem ks_l20Note_1 : OrcOk Es_l20Note Os_l20Note_1 lss_l20Note 1 := orc_add ks_l20Note_0 (fun n p hp h ex h' ho => by
  obtain ⟨b, c⟩ := p
  obtain ⟨xt, h1, h2⟩ := ho
  have h1 : Os_l20Note_1 b h = some (true, xt) := h1
  unfold Os_l20Note_1 at h1
  split at h1
  · injection h1 with h1
    injection h1 with e1 e2
    subst e2
    have hc : c = cs_l20Note_0 := ms_l20Note_0 _ hp rfl
    subst hc
    right
    rename_i y0 y1 y2 y3 y4 y5 y6 y7 y8 y9 y10 y11
    have key := LT_step ks_l20Note_0 hp (fun q hq => loopsAll_in _ _ _ _ hp hq) (fun ((y1, y8) : (Int) × (List (ByteArray))) => (hs_l20Note_0 y0 y1 y2 y3 y4 y5 y6 y7 y8 y9 y10 y11)) (xs_l20Note_0 y0 y2 y3 y4 y5 y6 y7 y9 y10 y11) (g_Ss_l20Note_0 y0 y2 y3 y4 y5 y6 y7 y9 y10 y11) (fun x => by first | exact bs_l20Note_0 y0 x.1 y2 y3 y4 y5 y6 y7 x.2 y9 y10 y11) n (x := (y1, y8)) (okO_some e1)
    have hx : ∀ r, XT.sel (.leaf (.exit 0) [(.T 0, .t (.val false [.ptr 0 0 0])), (.T 1, .t (.val false [.int .i64 y0])), (.T 4, .t (.val false [.ptr 4 0 0])), (.T 5, .t (.val false [.ptr 5 0 0])), (.B 4, .b 0 false [.int .i64 y2, .int .i64 y3, .row 4 5 0, .row 4 7 0]), (.R 4 5, .r 0 (some ⟨false, .any, true, 9, .str, y4⟩)), (.R 4 7, .r 0 (some ⟨false, .any, true, 38, (.pair .str (.pair .bool (.sl 3 (.int .i64)))), y5⟩)), (.B 5, .b 0 false [.int .i64 y6, .int .i64 y7, .row 5 5 0, .row 5 7 0]), (.R 5 5, .r 0 (some ⟨false, .any, true, 9, .str, r⟩)), (.R 5 7, .r 0 (some ⟨false, .any, false, 38, (.pair .str (.pair .bool (.sl 3 (.int .i64)))), y9⟩)), (.B 0, .b 0 false [.sl .any 5 (.int .u8) y10, .int .i64 y11])]) = xs_l20Note_0 y0 y2 y3 y4 y5 y6 y7 y9 y10 y11 r := fun r => by first | rfl | (rcases r with r | r <;> rfl) | (rcases r with r | r | r <;> rfl) | (rcases r with r | r | r | r <;> rfl)
    have h3 := (hx (valO (g_Ls_l20Note_0 y0 y2 y3 y4 y5 y6 y7 y9 y10 y11 (y1, y8)))).symm.trans h2
    have e3 := congrArg Prod.fst h3
    have e4 := congrArg Prod.snd h3
    simp only at e3 e4
    rw [← e3, ← e4]
    exact key
  · exact .inl ⟨xt, h1, h2⟩)
noncomputable def g_As_l20Note (r0 : List Int) (r1 : Int) (a2 : Int) : Bool := g_pickA r0 r1 (5 : Int) && (decide ((0 : Int) ≤ g_pick r0 r1 (5 : Int) ∧ g_pick r0 r1 (5 : Int) < (5 : Int)) && (decide (Int.toNat (g_pick r0 r1 (5 : Int)) < nat_lit 5) && (g_pickA r0 (IntKind.wrap IntKind.i64 (r1 + (1 : Int))) (5 : Int) && bif at_ (Ty.int IntKind.i64) [(1 : Int), (1 : Int), (2 : Int), (3 : Int), (4 : Int)] (Int.toNat (g_pick r0 r1 (5 : Int))) == (1 : Int) then g_As_l20Writes r0 (IntKind.wrap IntKind.i64 (IntKind.wrap IntKind.i64 (r1 + (1 : Int)) + (1 : Int))) (0 : Int) && (okO (g_Ls_l20Note_0 a2 (0 : Int) (0 : Int) [] [] (at_ (Ty.int IntKind.i64) [(1 : Int), (1 : Int), (2 : Int), (3 : Int), (4 : Int)] (Int.toNat (g_pick r0 r1 (5 : Int)))) (g_pick r0 (IntKind.wrap IntKind.i64 (r1 + (1 : Int))) (5 : Int)) (g_Vs_l20Writes_0 r0 (IntKind.wrap IntKind.i64 (IntKind.wrap IntKind.i64 (r1 + (1 : Int)) + (1 : Int))) (0 : Int)) r0 (g_Vs_l20Writes_2 r0 (IntKind.wrap IntKind.i64 (IntKind.wrap IntKind.i64 (r1 + (1 : Int)) + (1 : Int))) (0 : Int)) ((0 : Int), [])) && (g_pickA r0 (g_Vs_l20Writes_2 r0 (IntKind.wrap IntKind.i64 (IntKind.wrap IntKind.i64 (r1 + (1 : Int)) + (1 : Int))) (0 : Int)) (2 : Int) && bif g_pick r0 (g_Vs_l20Writes_2 r0 (IntKind.wrap IntKind.i64 (IntKind.wrap IntKind.i64 (r1 + (1 : Int)) + (1 : Int))) (0 : Int)) (2 : Int) == (0 : Int) then g_As_l20Key r0 (IntKind.wrap IntKind.i64 (g_Vs_l20Writes_2 r0 (IntKind.wrap IntKind.i64 (IntKind.wrap IntKind.i64 (r1 + (1 : Int)) + (1 : Int))) (0 : Int) + (1 : Int))) (0 : Int) && (decide ((List.length (valO (g_Ls_l20Note_0 a2 (0 : Int) (0 : Int) [] [] (at_ (Ty.int IntKind.i64) [(1 : Int), (1 : Int), (2 : Int), (3 : Int), (4 : Int)] (Int.toNat (g_pick r0 r1 (5 : Int)))) (g_pick r0 (IntKind.wrap IntKind.i64 (r1 + (1 : Int))) (5 : Int)) (g_Vs_l20Writes_0 r0 (IntKind.wrap IntKind.i64 (IntKind.wrap IntKind.i64 (r1 + (1 : Int)) + (1 : Int))) (0 : Int)) r0 (g_Vs_l20Writes_2 r0 (IntKind.wrap IntKind.i64 (IntKind.wrap IntKind.i64 (r1 + (1 : Int)) + (1 : Int))) (0 : Int)) ((0 : Int), []))) + List.length [g_Vs_l20Key_0 r0 (IntKind.wrap IntKind.i64 (g_Vs_l20Writes_2 r0 (IntKind.wrap IntKind.i64 (IntKind.wrap IntKind.i64 (r1 + (1 : Int)) + (1 : Int))) (0 : Int) + (1 : Int))) (0 : Int)]) * nat_lit 16 ≤ nat_lit 140737488355328 ∧ List.length (valO (g_Ls_l20Note_0 a2 (0 : Int) (0 : Int) [] [] (at_ (Ty.int IntKind.i64) [(1 : Int), (1 : Int), (2 : Int), (3 : Int), (4 : Int)] (Int.toNat (g_pick r0 r1 (5 : Int)))) (g_pick r0 (IntKind.wrap IntKind.i64 (r1 + (1 : Int))) (5 : Int)) (g_Vs_l20Writes_0 r0 (IntKind.wrap IntKind.i64 (IntKind.wrap IntKind.i64 (r1 + (1 : Int)) + (1 : Int))) (0 : Int)) r0 (g_Vs_l20Writes_2 r0 (IntKind.wrap IntKind.i64 (IntKind.wrap IntKind.i64 (r1 + (1 : Int)) + (1 : Int))) (0 : Int)) ((0 : Int), []))) + List.length [g_Vs_l20Key_0 r0 (IntKind.wrap IntKind.i64 (g_Vs_l20Writes_2 r0 (IntKind.wrap IntKind.i64 (IntKind.wrap IntKind.i64 (r1 + (1 : Int)) + (1 : Int))) (0 : Int) + (1 : Int))) (0 : Int)] ≤ nat_lit 9223372036854775807) && (g_As_l20Rd_odd r0 (g_Vs_l20Key_2 r0 (IntKind.wrap IntKind.i64 (g_Vs_l20Writes_2 r0 (IntKind.wrap IntKind.i64 (IntKind.wrap IntKind.i64 (r1 + (1 : Int)) + (1 : Int))) (0 : Int) + (1 : Int))) (0 : Int)) a2 && (!g_Vs_l20Rd_odd_0 r0 (g_Vs_l20Key_2 r0 (IntKind.wrap IntKind.i64 (g_Vs_l20Writes_2 r0 (IntKind.wrap IntKind.i64 (IntKind.wrap IntKind.i64 (r1 + (1 : Int)) + (1 : Int))) (0 : Int) + (1 : Int))) (0 : Int)) a2 || g_pickA r0 (g_Vs_l20Rd_odd_2 r0 (g_Vs_l20Key_2 r0 (IntKind.wrap IntKind.i64 (g_Vs_l20Writes_2 r0 (IntKind.wrap IntKind.i64 (IntKind.wrap IntKind.i64 (r1 + (1 : Int)) + (1 : Int))) (0 : Int) + (1 : Int))) (0 : Int)) a2) (5 : Int) && bif g_pick r0 (g_Vs_l20Rd_odd_2 r0 (g_Vs_l20Key_2 r0 (IntKind.wrap IntKind.i64 (g_Vs_l20Writes_2 r0 (IntKind.wrap IntKind.i64 (IntKind.wrap IntKind.i64 (r1 + (1 : Int)) + (1 : Int))) (0 : Int) + (1 : Int))) (0 : Int)) a2) (5 : Int) == (0 : Int) then g_pickA r0 (IntKind.wrap IntKind.i64 (g_Vs_l20Rd_odd_2 r0 (g_Vs_l20Key_2 r0 (IntKind.wrap IntKind.i64 (g_Vs_l20Writes_2 r0 (IntKind.wrap IntKind.i64 (IntKind.wrap IntKind.i64 (r1 + (1 : Int)) + (1 : Int))) (0 : Int) + (1 : Int))) (0 : Int)) a2 + (1 : Int))) (2 : Int) && (decide ((0 : Int) ≤ g_pick r0 (IntKind.wrap IntKind.i64 (g_Vs_l20Rd_odd_2 r0 (g_Vs_l20Key_2 r0 (IntKind.wrap IntKind.i64 (g_Vs_l20Writes_2 r0 (IntKind.wrap IntKind.i64 (IntKind.wrap IntKind.i64 (r1 + (1 : Int)) + (1 : Int))) (0 : Int) + (1 : Int))) (0 : Int)) a2 + (1 : Int))) (2 : Int) ∧ g_pick r0 (IntKind.wrap IntKind.i64 (g_Vs_l20Rd_odd_2 r0 (g_Vs_l20Key_2 r0 (IntKind.wrap IntKind.i64 (g_Vs_l20Writes_2 r0 (IntKind.wrap IntKind.i64 (IntKind.wrap IntKind.i64 (r1 + (1 : Int)) + (1 : Int))) (0 : Int) + (1 : Int))) (0 : Int)) a2 + (1 : Int))) (2 : Int) < (2 : Int)) && decide (Int.toNat (g_pick r0 (IntKind.wrap IntKind.i64 (g_Vs_l20Rd_odd_2 r0 (g_Vs_l20Key_2 r0 (IntKind.wrap IntKind.i64 (g_Vs_l20Writes_2 r0 (IntKind.wrap IntKind.i64 (IntKind.wrap IntKind.i64 (r1 + (1 : Int)) + (1 : Int))) (0 : Int) + (1 : Int))) (0 : Int)) a2 + (1 : Int))) (2 : Int)) < nat_lit 2)) else bif g_pick r0 (g_Vs_l20Rd_odd_2 r0 (g_Vs_l20Key_2 r0 (IntKind.wrap IntKind.i64 (g_Vs_l20Writes_2 r0 (IntKind.wrap IntKind.i64 (IntKind.wrap IntKind.i64 (r1 + (1 : Int)) + (1 : Int))) (0 : Int) + (1 : Int))) (0 : Int)) a2) (5 : Int) == (1 : Int) then g_pickA r0 (IntKind.wrap IntKind.i64 (g_Vs_l20Rd_odd_2 r0 (g_Vs_l20Key_2 r0 (IntKind.wrap IntKind.i64 (g_Vs_l20Writes_2 r0 (IntKind.wrap IntKind.i64 (IntKind.wrap IntKind.i64 (r1 + (1 : Int)) + (1 : Int))) (0 : Int) + (1 : Int))) (0 : Int)) a2 + (1 : Int))) (2 : Int) && (decide ((0 : Int) ≤ g_pick r0 (IntKind.wrap IntKind.i64 (g_Vs_l20Rd_odd_2 r0 (g_Vs_l20Key_2 r0 (IntKind.wrap IntKind.i64 (g_Vs_l20Writes_2 r0 (IntKind.wrap IntKind.i64 (IntKind.wrap IntKind.i64 (r1 + (1 : Int)) + (1 : Int))) (0 : Int) + (1 : Int))) (0 : Int)) a2 + (1 : Int))) (2 : Int) ∧ g_pick r0 (IntKind.wrap IntKind.i64 (g_Vs_l20Rd_odd_2 r0 (g_Vs_l20Key_2 r0 (IntKind.wrap IntKind.i64 (g_Vs_l20Writes_2 r0 (IntKind.wrap IntKind.i64 (IntKind.wrap IntKind.i64 (r1 + (1 : Int)) + (1 : Int))) (0 : Int) + (1 : Int))) (0 : Int)) a2 + (1 : Int))) (2 : Int) < (2 : Int)) && decide (Int.toNat (g_pick r0 (IntKind.wrap IntKind.i64 (g_Vs_l20Rd_odd_2 r0 (g_Vs_l20Key_2 r0 (IntKind.wrap IntKind.i64 (g_Vs_l20Writes_2 r0 (IntKind.wrap IntKind.i64 (IntKind.wrap IntKind.i64 (r1 + (1 : Int)) + (1 : Int))) (0 : Int) + (1 : Int))) (0 : Int)) a2 + (1 : Int))) (2 : Int)) < nat_lit 2)) else bif g_pick r0 (g_Vs_l20Rd_odd_2 r0 (g_Vs_l20Key_2 r0 (IntKind.wrap IntKind.i64 (g_Vs_l20Writes_2 r0 (IntKind.wrap IntKind.i64 (IntKind.wrap IntKind.i64 (r1 + (1 : Int)) + (1 : Int))) (0 : Int) + (1 : Int))) (0 : Int)) a2) (5 : Int) == (2 : Int) then decide ((List.length (valO (g_Ls_l20Note_0 a2 (0 : Int) (0 : Int) [] [] (at_ (Ty.int IntKind.i64) [(1 : Int), (1 : Int), (2 : Int), (3 : Int), (4 : Int)] (Int.toNat (g_pick r0 r1 (5 : Int)))) (g_pick r0 (IntKind.wrap IntKind.i64 (r1 + (1 : Int))) (5 : Int)) (g_Vs_l20Writes_0 r0 (IntKind.wrap IntKind.i64 (IntKind.wrap IntKind.i64 (r1 + (1 : Int)) + (1 : Int))) (0 : Int)) r0 (g_Vs_l20Writes_2 r0 (IntKind.wrap IntKind.i64 (IntKind.wrap IntKind.i64 (r1 + (1 : Int)) + (1 : Int))) (0 : Int)) ((0 : Int), [])) ++ [g_Vs_l20Key_0 r0 (IntKind.wrap IntKind.i64 (g_Vs_l20Writes_2 r0 (IntKind.wrap IntKind.i64 (IntKind.wrap IntKind.i64 (r1 + (1 : Int)) + (1 : Int))) (0 : Int) + (1 : Int))) (0 : Int)]) + nat_lit 1) * nat_lit 16 ≤ nat_lit 140737488355328 ∧ List.length (valO (g_Ls_l20Note_0 a2 (0 : Int) (0 : Int) [] [] (at_ (Ty.int IntKind.i64) [(1 : Int), (1 : Int), (2 : Int), (3 : Int), (4 : Int)] (Int.toNat (g_pick r0 r1 (5 : Int)))) (g_pick r0 (IntKind.wrap IntKind.i64 (r1 + (1 : Int))) (5 : Int)) (g_Vs_l20Writes_0 r0 (IntKind.wrap IntKind.i64 (IntKind.wrap IntKind.i64 (r1 + (1 : Int)) + (1 : Int))) (0 : Int)) r0 (g_Vs_l20Writes_2 r0 (IntKind.wrap IntKind.i64 (IntKind.wrap IntKind.i64 (r1 + (1 : Int)) + (1 : Int))) (0 : Int)) ((0 : Int), [])) ++ [g_Vs_l20Key_0 r0 (IntKind.wrap IntKind.i64 (g_Vs_l20Writes_2 r0 (IntKind.wrap IntKind.i64 (IntKind.wrap IntKind.i64 (r1 + (1 : Int)) + (1 : Int))) (0 : Int) + (1 : Int))) (0 : Int)]) + nat_lit 1 ≤ nat_lit 9223372036854775807) else bif g_pick r0 (g_Vs_l20Rd_odd_2 r0 (g_Vs_l20Key_2 r0 (IntKind.wrap IntKind.i64 (g_Vs_l20Writes_2 r0 (IntKind.wrap IntKind.i64 (IntKind.wrap IntKind.i64 (r1 + (1 : Int)) + (1 : Int))) (0 : Int) + (1 : Int))) (0 : Int)) a2) (5 : Int) == (3 : Int) then decide ((List.length (g_Vs_l20Writes_0 r0 (IntKind.wrap IntKind.i64 (IntKind.wrap IntKind.i64 (r1 + (1 : Int)) + (1 : Int))) (0 : Int)) + nat_lit 1) * nat_lit 48 ≤ nat_lit 140737488355328 ∧ List.length (g_Vs_l20Writes_0 r0 (IntKind.wrap IntKind.i64 (IntKind.wrap IntKind.i64 (r1 + (1 : Int)) + (1 : Int))) (0 : Int)) + nat_lit 1 ≤ nat_lit 9223372036854775807) else g_As_l20Write r0 (IntKind.wrap IntKind.i64 (g_Vs_l20Rd_odd_2 r0 (g_Vs_l20Key_2 r0 (IntKind.wrap IntKind.i64 (g_Vs_l20Writes_2 r0 (IntKind.wrap IntKind.i64 (IntKind.wrap IntKind.i64 (r1 + (1 : Int)) + (1 : Int))) (0 : Int) + (1 : Int))) (0 : Int)) a2 + (1 : Int))) (1 : Int) && decide ((List.length (g_Vs_l20Writes_0 r0 (IntKind.wrap IntKind.i64 (IntKind.wrap IntKind.i64 (r1 + (1 : Int)) + (1 : Int))) (0 : Int)) + List.length [(g_Vs_l20Write_0 r0 (IntKind.wrap IntKind.i64 (g_Vs_l20Rd_odd_2 r0 (g_Vs_l20Key_2 r0 (IntKind.wrap IntKind.i64 (g_Vs_l20Writes_2 r0 (IntKind.wrap IntKind.i64 (IntKind.wrap IntKind.i64 (r1 + (1 : Int)) + (1 : Int))) (0 : Int) + (1 : Int))) (0 : Int)) a2 + (1 : Int))) (1 : Int), g_Vs_l20Write_1 r0 (IntKind.wrap IntKind.i64 (g_Vs_l20Rd_odd_2 r0 (g_Vs_l20Key_2 r0 (IntKind.wrap IntKind.i64 (g_Vs_l20Writes_2 r0 (IntKind.wrap IntKind.i64 (IntKind.wrap IntKind.i64 (r1 + (1 : Int)) + (1 : Int))) (0 : Int) + (1 : Int))) (0 : Int)) a2 + (1 : Int))) (1 : Int), g_Vs_l20Write_2 r0 (IntKind.wrap IntKind.i64 (g_Vs_l20Rd_odd_2 r0 (g_Vs_l20Key_2 r0 (IntKind.wrap IntKind.i64 (g_Vs_l20Writes_2 r0 (IntKind.wrap IntKind.i64 (IntKind.wrap IntKind.i64 (r1 + (1 : Int)) + (1 : Int))) (0 : Int) + (1 : Int))) (0 : Int)) a2 + (1 : Int))) (1 : Int))]) * nat_lit 48 ≤ nat_lit 140737488355328 ∧ List.length (g_Vs_l20Writes_0 r0 (IntKind.wrap IntKind.i64 (IntKind.wrap IntKind.i64 (r1 + (1 : Int)) + (1 : Int))) (0 : Int)) + List.length [(g_Vs_l20Write_0 r0 (IntKind.wrap IntKind.i64 (g_Vs_l20Rd_odd_2 r0 (g_Vs_l20Key_2 r0 (IntKind.wrap IntKind.i64 (g_Vs_l20Writes_2 r0 (IntKind.wrap IntKind.i64 (IntKind.wrap IntKind.i64 (r1 + (1 : Int)) + (1 : Int))) (0 : Int) + (1 : Int))) (0 : Int)) a2 + (1 : Int))) (1 : Int), g_Vs_l20Write_1 r0 (IntKind.wrap IntKind.i64 (g_Vs_l20Rd_odd_2 r0 (g_Vs_l20Key_2 r0 (IntKind.wrap IntKind.i64 (g_Vs_l20Writes_2 r0 (IntKind.wrap IntKind.i64 (IntKind.wrap IntKind.i64 (r1 + (1 : Int)) + (1 : Int))) (0 : Int) + (1 : Int))) (0 : Int)) a2 + (1 : Int))) (1 : Int), g_Vs_l20Write_2 r0 (IntKind.wrap IntKind.i64 (g_Vs_l20Rd_odd_2 r0 (g_Vs_l20Key_2 r0 (IntKind.wrap IntKind.i64 (g_Vs_l20Writes_2 r0 (IntKind.wrap IntKind.i64 (IntKind.wrap IntKind.i64 (r1 + (1 : Int)) + (1 : Int))) (0 : Int) + (1 : Int))) (0 : Int)) a2 + (1 : Int))) (1 : Int))] ≤ nat_lit 9223372036854775807)))) else g_As_l20Rd_odd r0 (IntKind.wrap IntKind.i64 (g_Vs_l20Writes_2 r0 (IntKind.wrap IntKind.i64 (IntKind.wrap IntKind.i64 (r1 + (1 : Int)) + (1 : Int))) (0 : Int) + (1 : Int))) a2 && (!g_Vs_l20Rd_odd_0 r0 (IntKind.wrap IntKind.i64 (g_Vs_l20Writes_2 r0 (IntKind.wrap IntKind.i64 (IntKind.wrap IntKind.i64 (r1 + (1 : Int)) + (1 : Int))) (0 : Int) + (1 : Int))) a2 || g_pickA r0 (g_Vs_l20Rd_odd_2 r0 (IntKind.wrap IntKind.i64 (g_Vs_l20Writes_2 r0 (IntKind.wrap IntKind.i64 (IntKind.wrap IntKind.i64 (r1 + (1 : Int)) + (1 : Int))) (0 : Int) + (1 : Int))) a2) (5 : Int) && bif g_pick r0 (g_Vs_l20Rd_odd_2 r0 (IntKind.wrap IntKind.i64 (g_Vs_l20Writes_2 r0 (IntKind.wrap IntKind.i64 (IntKind.wrap IntKind.i64 (r1 + (1 : Int)) + (1 : Int))) (0 : Int) + (1 : Int))) a2) (5 : Int) == (0 : Int) then g_pickA r0 (IntKind.wrap IntKind.i64 (g_Vs_l20Rd_odd_2 r0 (IntKind.wrap IntKind.i64 (g_Vs_l20Writes_2 r0 (IntKind.wrap IntKind.i64 (IntKind.wrap IntKind.i64 (r1 + (1 : Int)) + (1 : Int))) (0 : Int) + (1 : Int))) a2 + (1 : Int))) (2 : Int) && (decide ((0 : Int) ≤ g_pick r0 (IntKind.wrap IntKind.i64 (g_Vs_l20Rd_odd_2 r0 (IntKind.wrap IntKind.i64 (g_Vs_l20Writes_2 r0 (IntKind.wrap IntKind.i64 (IntKind.wrap IntKind.i64 (r1 + (1 : Int)) + (1 : Int))) (0 : Int) + (1 : Int))) a2 + (1 : Int))) (2 : Int) ∧ g_pick r0 (IntKind.wrap IntKind.i64 (g_Vs_l20Rd_odd_2 r0 (IntKind.wrap IntKind.i64 (g_Vs_l20Writes_2 r0 (IntKind.wrap IntKind.i64 (IntKind.wrap IntKind.i64 (r1 + (1 : Int)) + (1 : Int))) (0 : Int) + (1 : Int))) a2 + (1 : Int))) (2 : Int) < (2 : Int)) && decide (Int.toNat (g_pick r0 (IntKind.wrap IntKind.i64 (g_Vs_l20Rd_odd_2 r0 (IntKind.wrap IntKind.i64 (g_Vs_l20Writes_2 r0 (IntKind.wrap IntKind.i64 (IntKind.wrap IntKind.i64 (r1 + (1 : Int)) + (1 : Int))) (0 : Int) + (1 : Int))) a2 + (1 : Int))) (2 : Int)) < nat_lit 2)) else bif g_pick r0 (g_Vs_l20Rd_odd_2 r0 (IntKind.wrap IntKind.i64 (g_Vs_l20Writes_2 r0 (IntKind.wrap IntKind.i64 (IntKind.wrap IntKind.i64 (r1 + (1 : Int)) + (1 : Int))) (0 : Int) + (1 : Int))) a2) (5 : Int) == (1 : Int) then g_pickA r0 (IntKind.wrap IntKind.i64 (g_Vs_l20Rd_odd_2 r0 (IntKind.wrap IntKind.i64 (g_Vs_l20Writes_2 r0 (IntKind.wrap IntKind.i64 (IntKind.wrap IntKind.i64 (r1 + (1 : Int)) + (1 : Int))) (0 : Int) + (1 : Int))) a2 + (1 : Int))) (2 : Int) && (decide ((0 : Int) ≤ g_pick r0 (IntKind.wrap IntKind.i64 (g_Vs_l20Rd_odd_2 r0 (IntKind.wrap IntKind.i64 (g_Vs_l20Writes_2 r0 (IntKind.wrap IntKind.i64 (IntKind.wrap IntKind.i64 (r1 + (1 : Int)) + (1 : Int))) (0 : Int) + (1 : Int))) a2 + (1 : Int))) (2 : Int) ∧ g_pick r0 (IntKind.wrap IntKind.i64 (g_Vs_l20Rd_odd_2 r0 (IntKind.wrap IntKind.i64 (g_Vs_l20Writes_2 r0 (IntKind.wrap IntKind.i64 (IntKind.wrap IntKind.i64 (r1 + (1 : Int)) + (1 : Int))) (0 : Int) + (1 : Int))) a2 + (1 : Int))) (2 : Int) < (2 : Int)) && decide (Int.toNat (g_pick r0 (IntKind.wrap IntKind.i64 (g_Vs_l20Rd_odd_2 r0 (IntKind.wrap IntKind.i64 (g_Vs_l20Writes_2 r0 (IntKind.wrap IntKind.i64 (IntKind.wrap IntKind.i64 (r1 + (1 : Int)) + (1 : Int))) (0 : Int) + (1 : Int))) a2 + (1 : Int))) (2 : Int)) < nat_lit 2)) else bif g_pick r0 (g_Vs_l20Rd_odd_2 r0 (IntKind.wrap IntKind.i64 (g_Vs_l20Writes_2 r0 (IntKind.wrap IntKind.i64 (IntKind.wrap IntKind.i64 (r1 + (1 : Int)) + (1 : Int))) (0 : Int) + (1 : Int))) a2) (5 : Int) == (2 : Int) then decide ((List.length (valO (g_Ls_l20Note_0 a2 (0 : Int) (0 : Int) [] [] (at_ (Ty.int IntKind.i64) [(1 : Int), (1 : Int), (2 : Int), (3 : Int), (4 : Int)] (Int.toNat (g_pick r0 r1 (5 : Int)))) (g_pick r0 (IntKind.wrap IntKind.i64 (r1 + (1 : Int))) (5 : Int)) (g_Vs_l20Writes_0 r0 (IntKind.wrap IntKind.i64 (IntKind.wrap IntKind.i64 (r1 + (1 : Int)) + (1 : Int))) (0 : Int)) r0 (g_Vs_l20Writes_2 r0 (IntKind.wrap IntKind.i64 (IntKind.wrap IntKind.i64 (r1 + (1 : Int)) + (1 : Int))) (0 : Int)) ((0 : Int), []))) + nat_lit 1) * nat_lit 16 ≤ nat_lit 140737488355328 ∧ List.length (valO (g_Ls_l20Note_0 a2 (0 : Int) (0 : Int) [] [] (at_ (Ty.int IntKind.i64) [(1 : Int), (1 : Int), (2 : Int), (3 : Int), (4 : Int)] (Int.toNat (g_pick r0 r1 (5 : Int)))) (g_pick r0 (IntKind.wrap IntKind.i64 (r1 + (1 : Int))) (5 : Int)) (g_Vs_l20Writes_0 r0 (IntKind.wrap IntKind.i64 (IntKind.wrap IntKind.i64 (r1 + (1 : Int)) + (1 : Int))) (0 : Int)) r0 (g_Vs_l20Writes_2 r0 (IntKind.wrap IntKind.i64 (IntKind.wrap IntKind.i64 (r1 + (1 : Int)) + (1 : Int))) (0 : Int)) ((0 : Int), []))) + nat_lit 1 ≤ nat_lit 9223372036854775807) else bif g_pick r0 (g_Vs_l20Rd_odd_2 r0 (IntKind.wrap IntKind.i64 (g_Vs_l20Writes_2 r0 (IntKind.wrap IntKind.i64 (IntKind.wrap IntKind.i64 (r1 + (1 : Int)) + (1 : Int))) (0 : Int) + (1 : Int))) a2) (5 : Int) == (3 : Int) then decide ((List.length (g_Vs_l20Writes_0 r0 (IntKind.wrap IntKind.i64 (IntKind.wrap IntKind.i64 (r1 + (1 : Int)) + (1 : Int))) (0 : Int)) + nat_lit 1) * nat_lit 48 ≤ nat_lit 140737488355328 ∧ List.length (g_Vs_l20Writes_0 r0 (IntKind.wrap IntKind.i64 (IntKind.wrap IntKind.i64 (r1 + (1 : Int)) + (1 : Int))) (0 : Int)) + nat_lit 1 ≤ nat_lit 9223372036854775807) else g_As_l20Write r0 (IntKind.wrap IntKind.i64 (g_Vs_l20Rd_odd_2 r0 (IntKind.wrap IntKind.i64 (g_Vs_l20Writes_2 r0 (IntKind.wrap IntKind.i64 (IntKind.wrap IntKind.i64 (r1 + (1 : Int)) + (1 : Int))) (0 : Int) + (1 : Int))) a2 + (1 : Int))) (1 : Int) && decide ((List.length (g_Vs_l20Writes_0 r0 (IntKind.wrap IntKind.i64 (IntKind.wrap IntKind.i64 (r1 + (1 : Int)) + (1 : Int))) (0 : Int)) + List.length [(g_Vs_l20Write_0 r0 (IntKind.wrap IntKind.i64 (g_Vs_l20Rd_odd_2 r0 (IntKind.wrap IntKind.i64 (g_Vs_l20Writes_2 r0 (IntKind.wrap IntKind.i64 (IntKind.wrap IntKind.i64 (r1 + (1 : Int)) + (1 : Int))) (0 : Int) + (1 : Int))) a2 + (1 : Int))) (1 : Int), g_Vs_l20Write_1 r0 (IntKind.wrap IntKind.i64 (g_Vs_l20Rd_odd_2 r0 (IntKind.wrap IntKind.i64 (g_Vs_l20Writes_2 r0 (IntKind.wrap IntKind.i64 (IntKind.wrap IntKind.i64 (r1 + (1 : Int)) + (1 : Int))) (0 : Int) + (1 : Int))) a2 + (1 : Int))) (1 : Int), g_Vs_l20Write_2 r0 (IntKind.wrap IntKind.i64 (g_Vs_l20Rd_odd_2 r0 (IntKind.wrap IntKind.i64 (g_Vs_l20Writes_2 r0 (IntKind.wrap IntKind.i64 (IntKind.wrap IntKind.i64 (r1 + (1 : Int)) + (1 : Int))) (0 : Int) + (1 : Int))) a2 + (1 : Int))) (1 : Int))]) * nat_lit 48 ≤ nat_lit 140737488355328 ∧ List.length (g_Vs_l20Writes_0 r0 (IntKind.wrap IntKind.i64 (IntKind.wrap IntKind.i64 (r1 + (1 : Int)) + (1 : Int))) (0 : Int)) + List.length [(g_Vs_l20Write_0 r0 (IntKind.wrap IntKind.i64 (g_Vs_l20Rd_odd_2 r0 (IntKind.wrap IntKind.i64 (g_Vs_l20Writes_2 r0 (IntKind.wrap IntKind.i64 (IntKind.wrap IntKind.i64 (r1 + (1 : Int)) + (1 : Int))) (0 : Int) + (1 : Int))) a2 + (1 : Int))) (1 : Int), g_Vs_l20Write_1 r0 (IntKind.wrap IntKind.i64 (g_Vs_l20Rd_odd_2 r0 (IntKind.wrap IntKind.i64 (g_Vs_l20Writes_2 r0 (IntKind.wrap IntKind.i64 (IntKind.wrap IntKind.i64 (r1 + (1 : Int)) + (1 : Int))) (0 : Int) + (1 : Int))) a2 + (1 : Int))) (1 : Int), g_Vs_l20Write_2 r0 (IntKind.wrap IntKind.i64 (g_Vs_l20Rd_odd_2 r0 (IntKind.wrap IntKind.i64 (g_Vs_l20Writes_2 r0 (IntKind.wrap IntKind.i64 (IntKind.wrap IntKind.i64 (r1 + (1 : Int)) + (1 : Int))) (0 : Int) + (1 : Int))) a2 + (1 : Int))) (1 : Int))] ≤ nat_lit 9223372036854775807)))) else g_As_l20Rd_odd r0 (IntKind.wrap IntKind.i64 (IntKind.wrap IntKind.i64 (r1 + (1 : Int)) + (1 : Int))) a2 && (!g_Vs_l20Rd_odd_0 r0 (IntKind.wrap IntKind.i64 (IntKind.wrap IntKind.i64 (r1 + (1 : Int)) + (1 : Int))) a2 || g_pickA r0 (g_Vs_l20Rd_odd_2 r0 (IntKind.wrap IntKind.i64 (IntKind.wrap IntKind.i64 (r1 + (1 : Int)) + (1 : Int))) a2) (5 : Int) && bif g_pick r0 (g_Vs_l20Rd_odd_2 r0 (IntKind.wrap IntKind.i64 (IntKind.wrap IntKind.i64 (r1 + (1 : Int)) + (1 : Int))) a2) (5 : Int) == (0 : Int) then g_pickA r0 (IntKind.wrap IntKind.i64 (g_Vs_l20Rd_odd_2 r0 (IntKind.wrap IntKind.i64 (IntKind.wrap IntKind.i64 (r1 + (1 : Int)) + (1 : Int))) a2 + (1 : Int))) (2 : Int) && (decide ((0 : Int) ≤ g_pick r0 (IntKind.wrap IntKind.i64 (g_Vs_l20Rd_odd_2 r0 (IntKind.wrap IntKind.i64 (IntKind.wrap IntKind.i64 (r1 + (1 : Int)) + (1 : Int))) a2 + (1 : Int))) (2 : Int) ∧ g_pick r0 (IntKind.wrap IntKind.i64 (g_Vs_l20Rd_odd_2 r0 (IntKind.wrap IntKind.i64 (IntKind.wrap IntKind.i64 (r1 + (1 : Int)) + (1 : Int))) a2 + (1 : Int))) (2 : Int) < (2 : Int)) && decide (Int.toNat (g_pick r0 (IntKind.wrap IntKind.i64 (g_Vs_l20Rd_odd_2 r0 (IntKind.wrap IntKind.i64 (IntKind.wrap IntKind.i64 (r1 + (1 : Int)) + (1 : Int))) a2 + (1 : Int))) (2 : Int)) < nat_lit 2)) else bif g_pick r0 (g_Vs_l20Rd_odd_2 r0 (IntKind.wrap IntKind.i64 (IntKind.wrap IntKind.i64 (r1 + (1 : Int)) + (1 : Int))) a2) (5 : Int) == (1 : Int) then g_pickA r0 (IntKind.wrap IntKind.i64 (g_Vs_l20Rd_odd_2 r0 (IntKind.wrap IntKind.i64 (IntKind.wrap IntKind.i64 (r1 + (1 : Int)) + (1 : Int))) a2 + (1 : Int))) (2 : Int) && (decide ((0 : Int) ≤ g_pick r0 (IntKind.wrap IntKind.i64 (g_Vs_l20Rd_odd_2 r0 (IntKind.wrap IntKind.i64 (IntKind.wrap IntKind.i64 (r1 + (1 : Int)) + (1 : Int))) a2 + (1 : Int))) (2 : Int) ∧ g_pick r0 (IntKind.wrap IntKind.i64 (g_Vs_l20Rd_odd_2 r0 (IntKind.wrap IntKind.i64 (IntKind.wrap IntKind.i64 (r1 + (1 : Int)) + (1 : Int))) a2 + (1 : Int))) (2 : Int) < (2 : Int)) && decide (Int.toNat (g_pick r0 (IntKind.wrap IntKind.i64 (g_Vs_l20Rd_odd_2 r0 (IntKind.wrap IntKind.i64 (IntKind.wrap IntKind.i64 (r1 + (1 : Int)) + (1 : Int))) a2 + (1 : Int))) (2 : Int)) < nat_lit 2)) else bif g_pick r0 (g_Vs_l20Rd_odd_2 r0 (IntKind.wrap IntKind.i64 (IntKind.wrap IntKind.i64 (r1 + (1 : Int)) + (1 : Int))) a2) (5 : Int) == (2 : Int) then true else bif g_pick r0 (g_Vs_l20Rd_odd_2 r0 (IntKind.wrap IntKind.i64 (IntKind.wrap IntKind.i64 (r1 + (1 : Int)) + (1 : Int))) a2) (5 : Int) == (3 : Int) then true else g_As_l20Write r0 (IntKind.wrap IntKind.i64 (g_Vs_l20Rd_odd_2 r0 (IntKind.wrap IntKind.i64 (IntKind.wrap IntKind.i64 (r1 + (1 : Int)) + (1 : Int))) a2 + (1 : Int))) (1 : Int) && decide ((nat_lit 0 + List.length [(g_Vs_l20Write_0 r0 (IntKind.wrap IntKind.i64 (g_Vs_l20Rd_odd_2 r0 (IntKind.wrap IntKind.i64 (IntKind.wrap IntKind.i64 (r1 + (1 : Int)) + (1 : Int))) a2 + (1 : Int))) (1 : Int), g_Vs_l20Write_1 r0 (IntKind.wrap IntKind.i64 (g_Vs_l20Rd_odd_2 r0 (IntKind.wrap IntKind.i64 (IntKind.wrap IntKind.i64 (r1 + (1 : Int)) + (1 : Int))) a2 + (1 : Int))) (1 : Int), g_Vs_l20Write_2 r0 (IntKind.wrap IntKind.i64 (g_Vs_l20Rd_odd_2 r0 (IntKind.wrap IntKind.i64 (IntKind.wrap IntKind.i64 (r1 + (1 : Int)) + (1 : Int))) a2 + (1 : Int))) (1 : Int))]) * nat_lit 48 ≤ nat_lit 140737488355328 ∧ nat_lit 0 + List.length [(g_Vs_l20Write_0 r0 (IntKind.wrap IntKind.i64 (g_Vs_l20Rd_odd_2 r0 (IntKind.wrap IntKind.i64 (IntKind.wrap IntKind.i64 (r1 + (1 : Int)) + (1 : Int))) a2 + (1 : Int))) (1 : Int), g_Vs_l20Write_1 r0 (IntKind.wrap IntKind.i64 (g_Vs_l20Rd_odd_2 r0 (IntKind.wrap IntKind.i64 (IntKind.wrap IntKind.i64 (r1 + (1 : Int)) + (1 : Int))) a2 + (1 : Int))) (1 : Int), g_Vs_l20Write_2 r0 (IntKind.wrap IntKind.i64 (g_Vs_l20Rd_odd_2 r0 (IntKind.wrap IntKind.i64 (IntKind.wrap IntKind.i64 (r1 + (1 : Int)) + (1 : Int))) a2 + (1 : Int))) (1 : Int))] ≤ nat_lit 9223372036854775807)))))
noncomputable def g_Vs_l20Note_0 (r0 : List Int) (r1 : Int) (a2 : Int) : Int := bif at_ (Ty.int IntKind.i64) [(1 : Int), (1 : Int), (2 : Int), (3 : Int), (4 : Int)] (Int.toNat (g_pick r0 r1 (5 : Int))) == (1 : Int) then bif g_pick r0 (g_Vs_l20Writes_2 r0 (IntKind.wrap IntKind.i64 (IntKind.wrap IntKind.i64 (r1 + (1 : Int)) + (1 : Int))) (0 : Int)) (2 : Int) == (0 : Int) then bif g_Vs_l20Rd_odd_0 r0 (g_Vs_l20Key_2 r0 (IntKind.wrap IntKind.i64 (g_Vs_l20Writes_2 r0 (IntKind.wrap IntKind.i64 (IntKind.wrap IntKind.i64 (r1 + (1 : Int)) + (1 : Int))) (0 : Int) + (1 : Int))) (0 : Int)) a2 then bif g_pick r0 (g_Vs_l20Rd_odd_2 r0 (g_Vs_l20Key_2 r0 (IntKind.wrap IntKind.i64 (g_Vs_l20Writes_2 r0 (IntKind.wrap IntKind.i64 (IntKind.wrap IntKind.i64 (r1 + (1 : Int)) + (1 : Int))) (0 : Int) + (1 : Int))) (0 : Int)) a2) (5 : Int) == (0 : Int) then at_ (Ty.int IntKind.i64) [(0 : Int), (5 : Int)] (Int.toNat (g_pick r0 (IntKind.wrap IntKind.i64 (g_Vs_l20Rd_odd_2 r0 (g_Vs_l20Key_2 r0 (IntKind.wrap IntKind.i64 (g_Vs_l20Writes_2 r0 (IntKind.wrap IntKind.i64 (IntKind.wrap IntKind.i64 (r1 + (1 : Int)) + (1 : Int))) (0 : Int) + (1 : Int))) (0 : Int)) a2 + (1 : Int))) (2 : Int))) else bif g_pick r0 (g_Vs_l20Rd_odd_2 r0 (g_Vs_l20Key_2 r0 (IntKind.wrap IntKind.i64 (g_Vs_l20Writes_2 r0 (IntKind.wrap IntKind.i64 (IntKind.wrap IntKind.i64 (r1 + (1 : Int)) + (1 : Int))) (0 : Int) + (1 : Int))) (0 : Int)) a2) (5 : Int) == (1 : Int) then at_ (Ty.int IntKind.i64) [(1 : Int), (1 : Int), (2 : Int), (3 : Int), (4 : Int)] (Int.toNat (g_pick r0 r1 (5 : Int))) else bif g_pick r0 (g_Vs_l20Rd_odd_2 r0 (g_Vs_l20Key_2 r0 (IntKind.wrap IntKind.i64 (g_Vs_l20Writes_2 r0 (IntKind.wrap IntKind.i64 (IntKind.wrap IntKind.i64 (r1 + (1 : Int)) + (1 : Int))) (0 : Int) + (1 : Int))) (0 : Int)) a2) (5 : Int) == (2 : Int) then at_ (Ty.int IntKind.i64) [(1 : Int), (1 : Int), (2 : Int), (3 : Int), (4 : Int)] (Int.toNat (g_pick r0 r1 (5 : Int))) else bif g_pick r0 (g_Vs_l20Rd_odd_2 r0 (g_Vs_l20Key_2 r0 (IntKind.wrap IntKind.i64 (g_Vs_l20Writes_2 r0 (IntKind.wrap IntKind.i64 (IntKind.wrap IntKind.i64 (r1 + (1 : Int)) + (1 : Int))) (0 : Int) + (1 : Int))) (0 : Int)) a2) (5 : Int) == (3 : Int) then at_ (Ty.int IntKind.i64) [(1 : Int), (1 : Int), (2 : Int), (3 : Int), (4 : Int)] (Int.toNat (g_pick r0 r1 (5 : Int))) else at_ (Ty.int IntKind.i64) [(1 : Int), (1 : Int), (2 : Int), (3 : Int), (4 : Int)] (Int.toNat (g_pick r0 r1 (5 : Int))) else at_ (Ty.int IntKind.i64) [(1 : Int), (1 : Int), (2 : Int), (3 : Int), (4 : Int)] (Int.toNat (g_pick r0 r1 (5 : Int))) else bif g_Vs_l20Rd_odd_0 r0 (IntKind.wrap IntKind.i64 (g_Vs_l20Writes_2 r0 (IntKind.wrap IntKind.i64 (IntKind.wrap IntKind.i64 (r1 + (1 : Int)) + (1 : Int))) (0 : Int) + (1 : Int))) a2 then bif g_pick r0 (g_Vs_l20Rd_odd_2 r0 (IntKind.wrap IntKind.i64 (g_Vs_l20Writes_2 r0 (IntKind.wrap IntKind.i64 (IntKind.wrap IntKind.i64 (r1 + (1 : Int)) + (1 : Int))) (0 : Int) + (1 : Int))) a2) (5 : Int) == (0 : Int) then at_ (Ty.int IntKind.i64) [(0 : Int), (5 : Int)] (Int.toNat (g_pick r0 (IntKind.wrap IntKind.i64 (g_Vs_l20Rd_odd_2 r0 (IntKind.wrap IntKind.i64 (g_Vs_l20Writes_2 r0 (IntKind.wrap IntKind.i64 (IntKind.wrap IntKind.i64 (r1 + (1 : Int)) + (1 : Int))) (0 : Int) + (1 : Int))) a2 + (1 : Int))) (2 : Int))) else bif g_pick r0 (g_Vs_l20Rd_odd_2 r0 (IntKind.wrap IntKind.i64 (g_Vs_l20Writes_2 r0 (IntKind.wrap IntKind.i64 (IntKind.wrap IntKind.i64 (r1 + (1 : Int)) + (1 : Int))) (0 : Int) + (1 : Int))) a2) (5 : Int) == (1 : Int) then at_ (Ty.int IntKind.i64) [(1 : Int), (1 : Int), (2 : Int), (3 : Int), (4 : Int)] (Int.toNat (g_pick r0 r1 (5 : Int))) else bif g_pick r0 (g_Vs_l20Rd_odd_2 r0 (IntKind.wrap IntKind.i64 (g_Vs_l20Writes_2 r0 (IntKind.wrap IntKind.i64 (IntKind.wrap IntKind.i64 (r1 + (1 : Int)) + (1 : Int))) (0 : Int) + (1 : Int))) a2) (5 : Int) == (2 : Int) then at_ (Ty.int IntKind.i64) [(1 : Int), (1 : Int), (2 : Int), (3 : Int), (4 : Int)] (Int.toNat (g_pick r0 r1 (5 : Int))) else bif g_pick r0 (g_Vs_l20Rd_odd_2 r0 (IntKind.wrap IntKind.i64 (g_Vs_l20Writes_2 r0 (IntKind.wrap IntKind.i64 (IntKind.wrap IntKind.i64 (r1 + (1 : Int)) + (1 : Int))) (0 : Int) + (1 : Int))) a2) (5 : Int) == (3 : Int) then at_ (Ty.int IntKind.i64) [(1 : Int), (1 : Int), (2 : Int), (3 : Int), (4 : Int)] (Int.toNat (g_pick r0 r1 (5 : Int))) else at_ (Ty.int IntKind.i64) [(1 : Int), (1 : Int), (2 : Int), (3 : Int), (4 : Int)] (Int.toNat (g_pick r0 r1 (5 : Int))) else at_ (Ty.int IntKind.i64) [(1 : Int), (1 : Int), (2 : Int), (3 : Int), (4 : Int)] (Int.toNat (g_pick r0 r1 (5 : Int))) else bif g_Vs_l20Rd_odd_0 r0 (IntKind.wrap IntKind.i64 (IntKind.wrap IntKind.i64 (r1 + (1 : Int)) + (1 : Int))) a2 then bif g_pick r0 (g_Vs_l20Rd_odd_2 r0 (IntKind.wrap IntKind.i64 (IntKind.wrap IntKind.i64 (r1 + (1 : Int)) + (1 : Int))) a2) (5 : Int) == (0 : Int) then at_ (Ty.int IntKind.i64) [(0 : Int), (5 : Int)] (Int.toNat (g_pick r0 (IntKind.wrap IntKind.i64 (g_Vs_l20Rd_odd_2 r0 (IntKind.wrap IntKind.i64 (IntKind.wrap IntKind.i64 (r1 + (1 : Int)) + (1 : Int))) a2 + (1 : Int))) (2 : Int))) else bif g_pick r0 (g_Vs_l20Rd_odd_2 r0 (IntKind.wrap IntKind.i64 (IntKind.wrap IntKind.i64 (r1 + (1 : Int)) + (1 : Int))) a2) (5 : Int) == (1 : Int) then at_ (Ty.int IntKind.i64) [(1 : Int), (1 : Int), (2 : Int), (3 : Int), (4 : Int)] (Int.toNat (g_pick r0 r1 (5 : Int))) else bif g_pick r0 (g_Vs_l20Rd_odd_2 r0 (IntKind.wrap IntKind.i64 (IntKind.wrap IntKind.i64 (r1 + (1 : Int)) + (1 : Int))) a2) (5 : Int) == (2 : Int) then at_ (Ty.int IntKind.i64) [(1 : Int), (1 : Int), (2 : Int), (3 : Int), (4 : Int)] (Int.toNat (g_pick r0 r1 (5 : Int))) else bif g_pick r0 (g_Vs_l20Rd_odd_2 r0 (IntKind.wrap IntKind.i64 (IntKind.wrap IntKind.i64 (r1 + (1 : Int)) + (1 : Int))) a2) (5 : Int) == (3 : Int) then at_ (Ty.int IntKind.i64) [(1 : Int), (1 : Int), (2 : Int), (3 : Int), (4 : Int)] (Int.toNat (g_pick r0 r1 (5 : Int))) else at_ (Ty.int IntKind.i64) [(1 : Int), (1 : Int), (2 : Int), (3 : Int), (4 : Int)] (Int.toNat (g_pick r0 r1 (5 : Int))) else at_ (Ty.int IntKind.i64) [(1 : Int), (1 : Int), (2 : Int), (3 : Int), (4 : Int)] (Int.toNat (g_pick r0 r1 (5 : Int)))
noncomputable def g_Vs_l20Note_1 (r0 : List Int) (r1 : Int) (a2 : Int) : Int := bif at_ (Ty.int IntKind.i64) [(1 : Int), (1 : Int), (2 : Int), (3 : Int), (4 : Int)] (Int.toNat (g_pick r0 r1 (5 : Int))) == (1 : Int) then bif g_pick r0 (g_Vs_l20Writes_2 r0 (IntKind.wrap IntKind.i64 (IntKind.wrap IntKind.i64 (r1 + (1 : Int)) + (1 : Int))) (0 : Int)) (2 : Int) == (0 : Int) then bif g_Vs_l20Rd_odd_0 r0 (g_Vs_l20Key_2 r0 (IntKind.wrap IntKind.i64 (g_Vs_l20Writes_2 r0 (IntKind.wrap IntKind.i64 (IntKind.wrap IntKind.i64 (r1 + (1 : Int)) + (1 : Int))) (0 : Int) + (1 : Int))) (0 : Int)) a2 then bif g_pick r0 (g_Vs_l20Rd_odd_2 r0 (g_Vs_l20Key_2 r0 (IntKind.wrap IntKind.i64 (g_Vs_l20Writes_2 r0 (IntKind.wrap IntKind.i64 (IntKind.wrap IntKind.i64 (r1 + (1 : Int)) + (1 : Int))) (0 : Int) + (1 : Int))) (0 : Int)) a2) (5 : Int) == (0 : Int) then g_pick r0 (IntKind.wrap IntKind.i64 (r1 + (1 : Int))) (5 : Int) else bif g_pick r0 (g_Vs_l20Rd_odd_2 r0 (g_Vs_l20Key_2 r0 (IntKind.wrap IntKind.i64 (g_Vs_l20Writes_2 r0 (IntKind.wrap IntKind.i64 (IntKind.wrap IntKind.i64 (r1 + (1 : Int)) + (1 : Int))) (0 : Int) + (1 : Int))) (0 : Int)) a2) (5 : Int) == (1 : Int) then at_ (Ty.int IntKind.i64) [(-1 : Int), (30 : Int)] (Int.toNat (g_pick r0 (IntKind.wrap IntKind.i64 (g_Vs_l20Rd_odd_2 r0 (g_Vs_l20Key_2 r0 (IntKind.wrap IntKind.i64 (g_Vs_l20Writes_2 r0 (IntKind.wrap IntKind.i64 (IntKind.wrap IntKind.i64 (r1 + (1 : Int)) + (1 : Int))) (0 : Int) + (1 : Int))) (0 : Int)) a2 + (1 : Int))) (2 : Int))) else bif g_pick r0 (g_Vs_l20Rd_odd_2 r0 (g_Vs_l20Key_2 r0 (IntKind.wrap IntKind.i64 (g_Vs_l20Writes_2 r0 (IntKind.wrap IntKind.i64 (IntKind.wrap IntKind.i64 (r1 + (1 : Int)) + (1 : Int))) (0 : Int) + (1 : Int))) (0 : Int)) a2) (5 : Int) == (2 : Int) then g_pick r0 (IntKind.wrap IntKind.i64 (r1 + (1 : Int))) (5 : Int) else bif g_pick r0 (g_Vs_l20Rd_odd_2 r0 (g_Vs_l20Key_2 r0 (IntKind.wrap IntKind.i64 (g_Vs_l20Writes_2 r0 (IntKind.wrap IntKind.i64 (IntKind.wrap IntKind.i64 (r1 + (1 : Int)) + (1 : Int))) (0 : Int) + (1 : Int))) (0 : Int)) a2) (5 : Int) == (3 : Int) then g_pick r0 (IntKind.wrap IntKind.i64 (r1 + (1 : Int))) (5 : Int) else g_pick r0 (IntKind.wrap IntKind.i64 (r1 + (1 : Int))) (5 : Int) else g_pick r0 (IntKind.wrap IntKind.i64 (r1 + (1 : Int))) (5 : Int) else bif g_Vs_l20Rd_odd_0 r0 (IntKind.wrap IntKind.i64 (g_Vs_l20Writes_2 r0 (IntKind.wrap IntKind.i64 (IntKind.wrap IntKind.i64 (r1 + (1 : Int)) + (1 : Int))) (0 : Int) + (1 : Int))) a2 then bif g_pick r0 (g_Vs_l20Rd_odd_2 r0 (IntKind.wrap IntKind.i64 (g_Vs_l20Writes_2 r0 (IntKind.wrap IntKind.i64 (IntKind.wrap IntKind.i64 (r1 + (1 : Int)) + (1 : Int))) (0 : Int) + (1 : Int))) a2) (5 : Int) == (0 : Int) then g_pick r0 (IntKind.wrap IntKind.i64 (r1 + (1 : Int))) (5 : Int) else bif g_pick r0 (g_Vs_l20Rd_odd_2 r0 (IntKind.wrap IntKind.i64 (g_Vs_l20Writes_2 r0 (IntKind.wrap IntKind.i64 (IntKind.wrap IntKind.i64 (r1 + (1 : Int)) + (1 : Int))) (0 : Int) + (1 : Int))) a2) (5 : Int) == (1 : Int) then at_ (Ty.int IntKind.i64) [(-1 : Int), (30 : Int)] (Int.toNat (g_pick r0 (IntKind.wrap IntKind.i64 (g_Vs_l20Rd_odd_2 r0 (IntKind.wrap IntKind.i64 (g_Vs_l20Writes_2 r0 (IntKind.wrap IntKind.i64 (IntKind.wrap IntKind.i64 (r1 + (1 : Int)) + (1 : Int))) (0 : Int) + (1 : Int))) a2 + (1 : Int))) (2 : Int))) else bif g_pick r0 (g_Vs_l20Rd_odd_2 r0 (IntKind.wrap IntKind.i64 (g_Vs_l20Writes_2 r0 (IntKind.wrap IntKind.i64 (IntKind.wrap IntKind.i64 (r1 + (1 : Int)) + (1 : Int))) (0 : Int) + (1 : Int))) a2) (5 : Int) == (2 : Int) then g_pick r0 (IntKind.wrap IntKind.i64 (r1 + (1 : Int))) (5 : Int) else bif g_pick r0 (g_Vs_l20Rd_odd_2 r0 (IntKind.wrap IntKind.i64 (g_Vs_l20Writes_2 r0 (IntKind.wrap IntKind.i64 (IntKind.wrap IntKind.i64 (r1 + (1 : Int)) + (1 : Int))) (0 : Int) + (1 : Int))) a2) (5 : Int) == (3 : Int) then g_pick r0 (IntKind.wrap IntKind.i64 (r1 + (1 : Int))) (5 : Int) else g_pick r0 (IntKind.wrap IntKind.i64 (r1 + (1 : Int))) (5 : Int) else g_pick r0 (IntKind.wrap IntKind.i64 (r1 + (1 : Int))) (5 : Int) else bif g_Vs_l20Rd_odd_0 r0 (IntKind.wrap IntKind.i64 (IntKind.wrap IntKind.i64 (r1 + (1 : Int)) + (1 : Int))) a2 then bif g_pick r0 (g_Vs_l20Rd_odd_2 r0 (IntKind.wrap IntKind.i64 (IntKind.wrap IntKind.i64 (r1 + (1 : Int)) + (1 : Int))) a2) (5 : Int) == (0 : Int) then g_pick r0 (IntKind.wrap IntKind.i64 (r1 + (1 : Int))) (5 : Int) else bif g_pick r0 (g_Vs_l20Rd_odd_2 r0 (IntKind.wrap IntKind.i64 (IntKind.wrap IntKind.i64 (r1 + (1 : Int)) + (1 : Int))) a2) (5 : Int) == (1 : Int) then at_ (Ty.int IntKind.i64) [(-1 : Int), (30 : Int)] (Int.toNat (g_pick r0 (IntKind.wrap IntKind.i64 (g_Vs_l20Rd_odd_2 r0 (IntKind.wrap IntKind.i64 (IntKind.wrap IntKind.i64 (r1 + (1 : Int)) + (1 : Int))) a2 + (1 : Int))) (2 : Int))) else bif g_pick r0 (g_Vs_l20Rd_odd_2 r0 (IntKind.wrap IntKind.i64 (IntKind.wrap IntKind.i64 (r1 + (1 : Int)) + (1 : Int))) a2) (5 : Int) == (2 : Int) then g_pick r0 (IntKind.wrap IntKind.i64 (r1 + (1 : Int))) (5 : Int) else bif g_pick r0 (g_Vs_l20Rd_odd_2 r0 (IntKind.wrap IntKind.i64 (IntKind.wrap IntKind.i64 (r1 + (1 : Int)) + (1 : Int))) a2) (5 : Int) == (3 : Int) then g_pick r0 (IntKind.wrap IntKind.i64 (r1 + (1 : Int))) (5 : Int) else g_pick r0 (IntKind.wrap IntKind.i64 (r1 + (1 : Int))) (5 : Int) else g_pick r0 (IntKind.wrap IntKind.i64 (r1 + (1 : Int))) (5 : Int)
noncomputable def g_Vs_l20Note_2 (r0 : List Int) (r1 : Int) (a2 : Int) : List (ByteArray) := bif at_ (Ty.int IntKind.i64) [(1 : Int), (1 : Int), (2 : Int), (3 : Int), (4 : Int)] (Int.toNat (g_pick r0 r1 (5 : Int))) == (1 : Int) then bif g_pick r0 (g_Vs_l20Writes_2 r0 (IntKind.wrap IntKind.i64 (IntKind.wrap IntKind.i64 (r1 + (1 : Int)) + (1 : Int))) (0 : Int)) (2 : Int) == (0 : Int) then bif g_Vs_l20Rd_odd_0 r0 (g_Vs_l20Key_2 r0 (IntKind.wrap IntKind.i64 (g_Vs_l20Writes_2 r0 (IntKind.wrap IntKind.i64 (IntKind.wrap IntKind.i64 (r1 + (1 : Int)) + (1 : Int))) (0 : Int) + (1 : Int))) (0 : Int)) a2 then bif g_pick r0 (g_Vs_l20Rd_odd_2 r0 (g_Vs_l20Key_2 r0 (IntKind.wrap IntKind.i64 (g_Vs_l20Writes_2 r0 (IntKind.wrap IntKind.i64 (IntKind.wrap IntKind.i64 (r1 + (1 : Int)) + (1 : Int))) (0 : Int) + (1 : Int))) (0 : Int)) a2) (5 : Int) == (0 : Int) then valO (g_Ls_l20Note_0 a2 (0 : Int) (0 : Int) [] [] (at_ (Ty.int IntKind.i64) [(1 : Int), (1 : Int), (2 : Int), (3 : Int), (4 : Int)] (Int.toNat (g_pick r0 r1 (5 : Int)))) (g_pick r0 (IntKind.wrap IntKind.i64 (r1 + (1 : Int))) (5 : Int)) (g_Vs_l20Writes_0 r0 (IntKind.wrap IntKind.i64 (IntKind.wrap IntKind.i64 (r1 + (1 : Int)) + (1 : Int))) (0 : Int)) r0 (g_Vs_l20Writes_2 r0 (IntKind.wrap IntKind.i64 (IntKind.wrap IntKind.i64 (r1 + (1 : Int)) + (1 : Int))) (0 : Int)) ((0 : Int), [])) ++ [g_Vs_l20Key_0 r0 (IntKind.wrap IntKind.i64 (g_Vs_l20Writes_2 r0 (IntKind.wrap IntKind.i64 (IntKind.wrap IntKind.i64 (r1 + (1 : Int)) + (1 : Int))) (0 : Int) + (1 : Int))) (0 : Int)] else bif g_pick r0 (g_Vs_l20Rd_odd_2 r0 (g_Vs_l20Key_2 r0 (IntKind.wrap IntKind.i64 (g_Vs_l20Writes_2 r0 (IntKind.wrap IntKind.i64 (IntKind.wrap IntKind.i64 (r1 + (1 : Int)) + (1 : Int))) (0 : Int) + (1 : Int))) (0 : Int)) a2) (5 : Int) == (1 : Int) then valO (g_Ls_l20Note_0 a2 (0 : Int) (0 : Int) [] [] (at_ (Ty.int IntKind.i64) [(1 : Int), (1 : Int), (2 : Int), (3 : Int), (4 : Int)] (Int.toNat (g_pick r0 r1 (5 : Int)))) (g_pick r0 (IntKind.wrap IntKind.i64 (r1 + (1 : Int))) (5 : Int)) (g_Vs_l20Writes_0 r0 (IntKind.wrap IntKind.i64 (IntKind.wrap IntKind.i64 (r1 + (1 : Int)) + (1 : Int))) (0 : Int)) r0 (g_Vs_l20Writes_2 r0 (IntKind.wrap IntKind.i64 (IntKind.wrap IntKind.i64 (r1 + (1 : Int)) + (1 : Int))) (0 : Int)) ((0 : Int), [])) ++ [g_Vs_l20Key_0 r0 (IntKind.wrap IntKind.i64 (g_Vs_l20Writes_2 r0 (IntKind.wrap IntKind.i64 (IntKind.wrap IntKind.i64 (r1 + (1 : Int)) + (1 : Int))) (0 : Int) + (1 : Int))) (0 : Int)] else bif g_pick r0 (g_Vs_l20Rd_odd_2 r0 (g_Vs_l20Key_2 r0 (IntKind.wrap IntKind.i64 (g_Vs_l20Writes_2 r0 (IntKind.wrap IntKind.i64 (IntKind.wrap IntKind.i64 (r1 + (1 : Int)) + (1 : Int))) (0 : Int) + (1 : Int))) (0 : Int)) a2) (5 : Int) == (2 : Int) then valO (g_Ls_l20Note_0 a2 (0 : Int) (0 : Int) [] [] (at_ (Ty.int IntKind.i64) [(1 : Int), (1 : Int), (2 : Int), (3 : Int), (4 : Int)] (Int.toNat (g_pick r0 r1 (5 : Int)))) (g_pick r0 (IntKind.wrap IntKind.i64 (r1 + (1 : Int))) (5 : Int)) (g_Vs_l20Writes_0 r0 (IntKind.wrap IntKind.i64 (IntKind.wrap IntKind.i64 (r1 + (1 : Int)) + (1 : Int))) (0 : Int)) r0 (g_Vs_l20Writes_2 r0 (IntKind.wrap IntKind.i64 (IntKind.wrap IntKind.i64 (r1 + (1 : Int)) + (1 : Int))) (0 : Int)) ((0 : Int), [])) ++ [g_Vs_l20Key_0 r0 (IntKind.wrap IntKind.i64 (g_Vs_l20Writes_2 r0 (IntKind.wrap IntKind.i64 (IntKind.wrap IntKind.i64 (r1 + (1 : Int)) + (1 : Int))) (0 : Int) + (1 : Int))) (0 : Int)] ++ [lit []] else bif g_pick r0 (g_Vs_l20Rd_odd_2 r0 (g_Vs_l20Key_2 r0 (IntKind.wrap IntKind.i64 (g_Vs_l20Writes_2 r0 (IntKind.wrap IntKind.i64 (IntKind.wrap IntKind.i64 (r1 + (1 : Int)) + (1 : Int))) (0 : Int) + (1 : Int))) (0 : Int)) a2) (5 : Int) == (3 : Int) then valO (g_Ls_l20Note_0 a2 (0 : Int) (0 : Int) [] [] (at_ (Ty.int IntKind.i64) [(1 : Int), (1 : Int), (2 : Int), (3 : Int), (4 : Int)] (Int.toNat (g_pick r0 r1 (5 : Int)))) (g_pick r0 (IntKind.wrap IntKind.i64 (r1 + (1 : Int))) (5 : Int)) (g_Vs_l20Writes_0 r0 (IntKind.wrap IntKind.i64 (IntKind.wrap IntKind.i64 (r1 + (1 : Int)) + (1 : Int))) (0 : Int)) r0 (g_Vs_l20Writes_2 r0 (IntKind.wrap IntKind.i64 (IntKind.wrap IntKind.i64 (r1 + (1 : Int)) + (1 : Int))) (0 : Int)) ((0 : Int), [])) ++ [g_Vs_l20Key_0 r0 (IntKind.wrap IntKind.i64 (g_Vs_l20Writes_2 r0 (IntKind.wrap IntKind.i64 (IntKind.wrap IntKind.i64 (r1 + (1 : Int)) + (1 : Int))) (0 : Int) + (1 : Int))) (0 : Int)] else valO (g_Ls_l20Note_0 a2 (0 : Int) (0 : Int) [] [] (at_ (Ty.int IntKind.i64) [(1 : Int), (1 : Int), (2 : Int), (3 : Int), (4 : Int)] (Int.toNat (g_pick r0 r1 (5 : Int)))) (g_pick r0 (IntKind.wrap IntKind.i64 (r1 + (1 : Int))) (5 : Int)) (g_Vs_l20Writes_0 r0 (IntKind.wrap IntKind.i64 (IntKind.wrap IntKind.i64 (r1 + (1 : Int)) + (1 : Int))) (0 : Int)) r0 (g_Vs_l20Writes_2 r0 (IntKind.wrap IntKind.i64 (IntKind.wrap IntKind.i64 (r1 + (1 : Int)) + (1 : Int))) (0 : Int)) ((0 : Int), [])) ++ [g_Vs_l20Key_0 r0 (IntKind.wrap IntKind.i64 (g_Vs_l20Writes_2 r0 (IntKind.wrap IntKind.i64 (IntKind.wrap IntKind.i64 (r1 + (1 : Int)) + (1 : Int))) (0 : Int) + (1 : Int))) (0 : Int)] else valO (g_Ls_l20Note_0 a2 (0 : Int) (0 : Int) [] [] (at_ (Ty.int IntKind.i64) [(1 : Int), (1 : Int), (2 : Int), (3 : Int), (4 : Int)] (Int.toNat (g_pick r0 r1 (5 : Int)))) (g_pick r0 (IntKind.wrap IntKind.i64 (r1 + (1 : Int))) (5 : Int)) (g_Vs_l20Writes_0 r0 (IntKind.wrap IntKind.i64 (IntKind.wrap IntKind.i64 (r1 + (1 : Int)) + (1 : Int))) (0 : Int)) r0 (g_Vs_l20Writes_2 r0 (IntKind.wrap IntKind.i64 (IntKind.wrap IntKind.i64 (r1 + (1 : Int)) + (1 : Int))) (0 : Int)) ((0 : Int), [])) ++ [g_Vs_l20Key_0 r0 (IntKind.wrap IntKind.i64 (g_Vs_l20Writes_2 r0 (IntKind.wrap IntKind.i64 (IntKind.wrap IntKind.i64 (r1 + (1 : Int)) + (1 : Int))) (0 : Int) + (1 : Int))) (0 : Int)] else bif g_Vs_l20Rd_odd_0 r0 (IntKind.wrap IntKind.i64 (g_Vs_l20Writes_2 r0 (IntKind.wrap IntKind.i64 (IntKind.wrap IntKind.i64 (r1 + (1 : Int)) + (1 : Int))) (0 : Int) + (1 : Int))) a2 then bif g_pick r0 (g_Vs_l20Rd_odd_2 r0 (IntKind.wrap IntKind.i64 (g_Vs_l20Writes_2 r0 (IntKind.wrap IntKind.i64 (IntKind.wrap IntKind.i64 (r1 + (1 : Int)) + (1 : Int))) (0 : Int) + (1 : Int))) a2) (5 : Int) == (0 : Int) then valO (g_Ls_l20Note_0 a2 (0 : Int) (0 : Int) [] [] (at_ (Ty.int IntKind.i64) [(1 : Int), (1 : Int), (2 : Int), (3 : Int), (4 : Int)] (Int.toNat (g_pick r0 r1 (5 : Int)))) (g_pick r0 (IntKind.wrap IntKind.i64 (r1 + (1 : Int))) (5 : Int)) (g_Vs_l20Writes_0 r0 (IntKind.wrap IntKind.i64 (IntKind.wrap IntKind.i64 (r1 + (1 : Int)) + (1 : Int))) (0 : Int)) r0 (g_Vs_l20Writes_2 r0 (IntKind.wrap IntKind.i64 (IntKind.wrap IntKind.i64 (r1 + (1 : Int)) + (1 : Int))) (0 : Int)) ((0 : Int), [])) else bif g_pick r0 (g_Vs_l20Rd_odd_2 r0 (IntKind.wrap IntKind.i64 (g_Vs_l20Writes_2 r0 (IntKind.wrap IntKind.i64 (IntKind.wrap IntKind.i64 (r1 + (1 : Int)) + (1 : Int))) (0 : Int) + (1 : Int))) a2) (5 : Int) == (1 : Int) then valO (g_Ls_l20Note_0 a2 (0 : Int) (0 : Int) [] [] (at_ (Ty.int IntKind.i64) [(1 : Int), (1 : Int), (2 : Int), (3 : Int), (4 : Int)] (Int.toNat (g_pick r0 r1 (5 : Int)))) (g_pick r0 (IntKind.wrap IntKind.i64 (r1 + (1 : Int))) (5 : Int)) (g_Vs_l20Writes_0 r0 (IntKind.wrap IntKind.i64 (IntKind.wrap IntKind.i64 (r1 + (1 : Int)) + (1 : Int))) (0 : Int)) r0 (g_Vs_l20Writes_2 r0 (IntKind.wrap IntKind.i64 (IntKind.wrap IntKind.i64 (r1 + (1 : Int)) + (1 : Int))) (0 : Int)) ((0 : Int), [])) else bif g_pick r0 (g_Vs_l20Rd_odd_2 r0 (IntKind.wrap IntKind.i64 (g_Vs_l20Writes_2 r0 (IntKind.wrap IntKind.i64 (IntKind.wrap IntKind.i64 (r1 + (1 : Int)) + (1 : Int))) (0 : Int) + (1 : Int))) a2) (5 : Int) == (2 : Int) then valO (g_Ls_l20Note_0 a2 (0 : Int) (0 : Int) [] [] (at_ (Ty.int IntKind.i64) [(1 : Int), (1 : Int), (2 : Int), (3 : Int), (4 : Int)] (Int.toNat (g_pick r0 r1 (5 : Int)))) (g_pick r0 (IntKind.wrap IntKind.i64 (r1 + (1 : Int))) (5 : Int)) (g_Vs_l20Writes_0 r0 (IntKind.wrap IntKind.i64 (IntKind.wrap IntKind.i64 (r1 + (1 : Int)) + (1 : Int))) (0 : Int)) r0 (g_Vs_l20Writes_2 r0 (IntKind.wrap IntKind.i64 (IntKind.wrap IntKind.i64 (r1 + (1 : Int)) + (1 : Int))) (0 : Int)) ((0 : Int), [])) ++ [lit []] else bif g_pick r0 (g_Vs_l20Rd_odd_2 r0 (IntKind.wrap IntKind.i64 (g_Vs_l20Writes_2 r0 (IntKind.wrap IntKind.i64 (IntKind.wrap IntKind.i64 (r1 + (1 : Int)) + (1 : Int))) (0 : Int) + (1 : Int))) a2) (5 : Int) == (3 : Int) then valO (g_Ls_l20Note_0 a2 (0 : Int) (0 : Int) [] [] (at_ (Ty.int IntKind.i64) [(1 : Int), (1 : Int), (2 : Int), (3 : Int), (4 : Int)] (Int.toNat (g_pick r0 r1 (5 : Int)))) (g_pick r0 (IntKind.wrap IntKind.i64 (r1 + (1 : Int))) (5 : Int)) (g_Vs_l20Writes_0 r0 (IntKind.wrap IntKind.i64 (IntKind.wrap IntKind.i64 (r1 + (1 : Int)) + (1 : Int))) (0 : Int)) r0 (g_Vs_l20Writes_2 r0 (IntKind.wrap IntKind.i64 (IntKind.wrap IntKind.i64 (r1 + (1 : Int)) + (1 : Int))) (0 : Int)) ((0 : Int), [])) else valO (g_Ls_l20Note_0 a2 (0 : Int) (0 : Int) [] [] (at_ (Ty.int IntKind.i64) [(1 : Int), (1 : Int), (2 : Int), (3 : Int), (4 : Int)] (Int.toNat (g_pick r0 r1 (5 : Int)))) (g_pick r0 (IntKind.wrap IntKind.i64 (r1 + (1 : Int))) (5 : Int)) (g_Vs_l20Writes_0 r0 (IntKind.wrap IntKind.i64 (IntKind.wrap IntKind.i64 (r1 + (1 : Int)) + (1 : Int))) (0 : Int)) r0 (g_Vs_l20Writes_2 r0 (IntKind.wrap IntKind.i64 (IntKind.wrap IntKind.i64 (r1 + (1 : Int)) + (1 : Int))) (0 : Int)) ((0 : Int), [])) else valO (g_Ls_l20Note_0 a2 (0 : Int) (0 : Int) [] [] (at_ (Ty.int IntKind.i64) [(1 : Int), (1 : Int), (2 : Int), (3 : Int), (4 : Int)] (Int.toNat (g_pick r0 r1 (5 : Int)))) (g_pick r0 (IntKind.wrap IntKind.i64 (r1 + (1 : Int))) (5 : Int)) (g_Vs_l20Writes_0 r0 (IntKind.wrap IntKind.i64 (IntKind.wrap IntKind.i64 (r1 + (1 : Int)) + (1 : Int))) (0 : Int)) r0 (g_Vs_l20Writes_2 r0 (IntKind.wrap IntKind.i64 (IntKind.wrap IntKind.i64 (r1 + (1 : Int)) + (1 : Int))) (0 : Int)) ((0 : Int), [])) else bif g_Vs_l20Rd_odd_0 r0 (IntKind.wrap IntKind.i64 (IntKind.wrap IntKind.i64 (r1 + (1 : Int)) + (1 : Int))) a2 then bif g_pick r0 (g_Vs_l20Rd_odd_2 r0 (IntKind.wrap IntKind.i64 (IntKind.wrap IntKind.i64 (r1 + (1 : Int)) + (1 : Int))) a2) (5 : Int) == (0 : Int) then [] else bif g_pick r0 (g_Vs_l20Rd_odd_2 r0 (IntKind.wrap IntKind.i64 (IntKind.wrap IntKind.i64 (r1 + (1 : Int)) + (1 : Int))) a2) (5 : Int) == (1 : Int) then [] else bif g_pick r0 (g_Vs_l20Rd_odd_2 r0 (IntKind.wrap IntKind.i64 (IntKind.wrap IntKind.i64 (r1 + (1 : Int)) + (1 : Int))) a2) (5 : Int) == (2 : Int) then [lit []] else bif g_pick r0 (g_Vs_l20Rd_odd_2 r0 (IntKind.wrap IntKind.i64 (IntKind.wrap IntKind.i64 (r1 + (1 : Int)) + (1 : Int))) a2) (5 : Int) == (3 : Int) then [] else [] else []
noncomputable def g_Vs_l20Note_3 (r0 : List Int) (r1 : Int) (a2 : Int) : List ((ByteArray) × ((Bool) × (List (Int)))) := bif at_ (Ty.int IntKind.i64) [(1 : Int), (1 : Int), (2 : Int), (3 : Int), (4 : Int)] (Int.toNat (g_pick r0 r1 (5 : Int))) == (1 : Int) then bif g_pick r0 (g_Vs_l20Writes_2 r0 (IntKind.wrap IntKind.i64 (IntKind.wrap IntKind.i64 (r1 + (1 : Int)) + (1 : Int))) (0 : Int)) (2 : Int) == (0 : Int) then bif g_Vs_l20Rd_odd_0 r0 (g_Vs_l20Key_2 r0 (IntKind.wrap IntKind.i64 (g_Vs_l20Writes_2 r0 (IntKind.wrap IntKind.i64 (IntKind.wrap IntKind.i64 (r1 + (1 : Int)) + (1 : Int))) (0 : Int) + (1 : Int))) (0 : Int)) a2 then bif g_pick r0 (g_Vs_l20Rd_odd_2 r0 (g_Vs_l20Key_2 r0 (IntKind.wrap IntKind.i64 (g_Vs_l20Writes_2 r0 (IntKind.wrap IntKind.i64 (IntKind.wrap IntKind.i64 (r1 + (1 : Int)) + (1 : Int))) (0 : Int) + (1 : Int))) (0 : Int)) a2) (5 : Int) == (0 : Int) then g_Vs_l20Writes_0 r0 (IntKind.wrap IntKind.i64 (IntKind.wrap IntKind.i64 (r1 + (1 : Int)) + (1 : Int))) (0 : Int) else bif g_pick r0 (g_Vs_l20Rd_odd_2 r0 (g_Vs_l20Key_2 r0 (IntKind.wrap IntKind.i64 (g_Vs_l20Writes_2 r0 (IntKind.wrap IntKind.i64 (IntKind.wrap IntKind.i64 (r1 + (1 : Int)) + (1 : Int))) (0 : Int) + (1 : Int))) (0 : Int)) a2) (5 : Int) == (1 : Int) then g_Vs_l20Writes_0 r0 (IntKind.wrap IntKind.i64 (IntKind.wrap IntKind.i64 (r1 + (1 : Int)) + (1 : Int))) (0 : Int) else bif g_pick r0 (g_Vs_l20Rd_odd_2 r0 (g_Vs_l20Key_2 r0 (IntKind.wrap IntKind.i64 (g_Vs_l20Writes_2 r0 (IntKind.wrap IntKind.i64 (IntKind.wrap IntKind.i64 (r1 + (1 : Int)) + (1 : Int))) (0 : Int) + (1 : Int))) (0 : Int)) a2) (5 : Int) == (2 : Int) then g_Vs_l20Writes_0 r0 (IntKind.wrap IntKind.i64 (IntKind.wrap IntKind.i64 (r1 + (1 : Int)) + (1 : Int))) (0 : Int) else bif g_pick r0 (g_Vs_l20Rd_odd_2 r0 (g_Vs_l20Key_2 r0 (IntKind.wrap IntKind.i64 (g_Vs_l20Writes_2 r0 (IntKind.wrap IntKind.i64 (IntKind.wrap IntKind.i64 (r1 + (1 : Int)) + (1 : Int))) (0 : Int) + (1 : Int))) (0 : Int)) a2) (5 : Int) == (3 : Int) then g_Vs_l20Writes_0 r0 (IntKind.wrap IntKind.i64 (IntKind.wrap IntKind.i64 (r1 + (1 : Int)) + (1 : Int))) (0 : Int) ++ [(lit [(122 : Nat), (49 : Nat)], false, [(1 : Int)])] else g_Vs_l20Writes_0 r0 (IntKind.wrap IntKind.i64 (IntKind.wrap IntKind.i64 (r1 + (1 : Int)) + (1 : Int))) (0 : Int) ++ [(g_Vs_l20Write_0 r0 (IntKind.wrap IntKind.i64 (g_Vs_l20Rd_odd_2 r0 (g_Vs_l20Key_2 r0 (IntKind.wrap IntKind.i64 (g_Vs_l20Writes_2 r0 (IntKind.wrap IntKind.i64 (IntKind.wrap IntKind.i64 (r1 + (1 : Int)) + (1 : Int))) (0 : Int) + (1 : Int))) (0 : Int)) a2 + (1 : Int))) (1 : Int), g_Vs_l20Write_1 r0 (IntKind.wrap IntKind.i64 (g_Vs_l20Rd_odd_2 r0 (g_Vs_l20Key_2 r0 (IntKind.wrap IntKind.i64 (g_Vs_l20Writes_2 r0 (IntKind.wrap IntKind.i64 (IntKind.wrap IntKind.i64 (r1 + (1 : Int)) + (1 : Int))) (0 : Int) + (1 : Int))) (0 : Int)) a2 + (1 : Int))) (1 : Int), g_Vs_l20Write_2 r0 (IntKind.wrap IntKind.i64 (g_Vs_l20Rd_odd_2 r0 (g_Vs_l20Key_2 r0 (IntKind.wrap IntKind.i64 (g_Vs_l20Writes_2 r0 (IntKind.wrap IntKind.i64 (IntKind.wrap IntKind.i64 (r1 + (1 : Int)) + (1 : Int))) (0 : Int) + (1 : Int))) (0 : Int)) a2 + (1 : Int))) (1 : Int))] else g_Vs_l20Writes_0 r0 (IntKind.wrap IntKind.i64 (IntKind.wrap IntKind.i64 (r1 + (1 : Int)) + (1 : Int))) (0 : Int) else bif g_Vs_l20Rd_odd_0 r0 (IntKind.wrap IntKind.i64 (g_Vs_l20Writes_2 r0 (IntKind.wrap IntKind.i64 (IntKind.wrap IntKind.i64 (r1 + (1 : Int)) + (1 : Int))) (0 : Int) + (1 : Int))) a2 then bif g_pick r0 (g_Vs_l20Rd_odd_2 r0 (IntKind.wrap IntKind.i64 (g_Vs_l20Writes_2 r0 (IntKind.wrap IntKind.i64 (IntKind.wrap IntKind.i64 (r1 + (1 : Int)) + (1 : Int))) (0 : Int) + (1 : Int))) a2) (5 : Int) == (0 : Int) then g_Vs_l20Writes_0 r0 (IntKind.wrap IntKind.i64 (IntKind.wrap IntKind.i64 (r1 + (1 : Int)) + (1 : Int))) (0 : Int) else bif g_pick r0 (g_Vs_l20Rd_odd_2 r0 (IntKind.wrap IntKind.i64 (g_Vs_l20Writes_2 r0 (IntKind.wrap IntKind.i64 (IntKind.wrap IntKind.i64 (r1 + (1 : Int)) + (1 : Int))) (0 : Int) + (1 : Int))) a2) (5 : Int) == (1 : Int) then g_Vs_l20Writes_0 r0 (IntKind.wrap IntKind.i64 (IntKind.wrap IntKind.i64 (r1 + (1 : Int)) + (1 : Int))) (0 : Int) else bif g_pick r0 (g_Vs_l20Rd_odd_2 r0 (IntKind.wrap IntKind.i64 (g_Vs_l20Writes_2 r0 (IntKind.wrap IntKind.i64 (IntKind.wrap IntKind.i64 (r1 + (1 : Int)) + (1 : Int))) (0 : Int) + (1 : Int))) a2) (5 : Int) == (2 : Int) then g_Vs_l20Writes_0 r0 (IntKind.wrap IntKind.i64 (IntKind.wrap IntKind.i64 (r1 + (1 : Int)) + (1 : Int))) (0 : Int) else bif g_pick r0 (g_Vs_l20Rd_odd_2 r0 (IntKind.wrap IntKind.i64 (g_Vs_l20Writes_2 r0 (IntKind.wrap IntKind.i64 (IntKind.wrap IntKind.i64 (r1 + (1 : Int)) + (1 : Int))) (0 : Int) + (1 : Int))) a2) (5 : Int) == (3 : Int) then g_Vs_l20Writes_0 r0 (IntKind.wrap IntKind.i64 (IntKind.wrap IntKind.i64 (r1 + (1 : Int)) + (1 : Int))) (0 : Int) ++ [(lit [(122 : Nat), (49 : Nat)], false, [(1 : Int)])] else g_Vs_l20Writes_0 r0 (IntKind.wrap IntKind.i64 (IntKind.wrap IntKind.i64 (r1 + (1 : Int)) + (1 : Int))) (0 : Int) ++ [(g_Vs_l20Write_0 r0 (IntKind.wrap IntKind.i64 (g_Vs_l20Rd_odd_2 r0 (IntKind.wrap IntKind.i64 (g_Vs_l20Writes_2 r0 (IntKind.wrap IntKind.i64 (IntKind.wrap IntKind.i64 (r1 + (1 : Int)) + (1 : Int))) (0 : Int) + (1 : Int))) a2 + (1 : Int))) (1 : Int), g_Vs_l20Write_1 r0 (IntKind.wrap IntKind.i64 (g_Vs_l20Rd_odd_2 r0 (IntKind.wrap IntKind.i64 (g_Vs_l20Writes_2 r0 (IntKind.wrap IntKind.i64 (IntKind.wrap IntKind.i64 (r1 + (1 : Int)) + (1 : Int))) (0 : Int) + (1 : Int))) a2 + (1 : Int))) (1 : Int), g_Vs_l20Write_2 r0 (IntKind.wrap IntKind.i64 (g_Vs_l20Rd_odd_2 r0 (IntKind.wrap IntKind.i64 (g_Vs_l20Writes_2 r0 (IntKind.wrap IntKind.i64 (IntKind.wrap IntKind.i64 (r1 + (1 : Int)) + (1 : Int))) (0 : Int) + (1 : Int))) a2 + (1 : Int))) (1 : Int))] else g_Vs_l20Writes_0 r0 (IntKind.wrap IntKind.i64 (IntKind.wrap IntKind.i64 (r1 + (1 : Int)) + (1 : Int))) (0 : Int) else bif g_Vs_l20Rd_odd_0 r0 (IntKind.wrap IntKind.i64 (IntKind.wrap IntKind.i64 (r1 + (1 : Int)) + (1 : Int))) a2 then bif g_pick r0 (g_Vs_l20Rd_odd_2 r0 (IntKind.wrap IntKind.i64 (IntKind.wrap IntKind.i64 (r1 + (1 : Int)) + (1 : Int))) a2) (5 : Int) == (0 : Int) then [] else bif g_pick r0 (g_Vs_l20Rd_odd_2 r0 (IntKind.wrap IntKind.i64 (IntKind.wrap IntKind.i64 (r1 + (1 : Int)) + (1 : Int))) a2) (5 : Int) == (1 : Int) then [] else bif g_pick r0 (g_Vs_l20Rd_odd_2 r0 (IntKind.wrap IntKind.i64 (IntKind.wrap IntKind.i64 (r1 + (1 : Int)) + (1 : Int))) a2) (5 : Int) == (2 : Int) then [] else bif g_pick r0 (g_Vs_l20Rd_odd_2 r0 (IntKind.wrap IntKind.i64 (IntKind.wrap IntKind.i64 (r1 + (1 : Int)) + (1 : Int))) a2) (5 : Int) == (3 : Int) then [(lit [(122 : Nat), (49 : Nat)], false, [(1 : Int)])] else [] ++ [(g_Vs_l20Write_0 r0 (IntKind.wrap IntKind.i64 (g_Vs_l20Rd_odd_2 r0 (IntKind.wrap IntKind.i64 (IntKind.wrap IntKind.i64 (r1 + (1 : Int)) + (1 : Int))) a2 + (1 : Int))) (1 : Int), g_Vs_l20Write_1 r0 (IntKind.wrap IntKind.i64 (g_Vs_l20Rd_odd_2 r0 (IntKind.wrap IntKind.i64 (IntKind.wrap IntKind.i64 (r1 + (1 : Int)) + (1 : Int))) a2 + (1 : Int))) (1 : Int), g_Vs_l20Write_2 r0 (IntKind.wrap IntKind.i64 (g_Vs_l20Rd_odd_2 r0 (IntKind.wrap IntKind.i64 (IntKind.wrap IntKind.i64 (r1 + (1 : Int)) + (1 : Int))) a2 + (1 : Int))) (1 : Int))] else []
noncomputable def g_Vs_l20Note_4 (r0 : List Int) (r1 : Int) (a2 : Int) : List (Int) := bif at_ (Ty.int IntKind.i64) [(1 : Int), (1 : Int), (2 : Int), (3 : Int), (4 : Int)] (Int.toNat (g_pick r0 r1 (5 : Int))) == (1 : Int) then bif g_pick r0 (g_Vs_l20Writes_2 r0 (IntKind.wrap IntKind.i64 (IntKind.wrap IntKind.i64 (r1 + (1 : Int)) + (1 : Int))) (0 : Int)) (2 : Int) == (0 : Int) then bif g_Vs_l20Rd_odd_0 r0 (g_Vs_l20Key_2 r0 (IntKind.wrap IntKind.i64 (g_Vs_l20Writes_2 r0 (IntKind.wrap IntKind.i64 (IntKind.wrap IntKind.i64 (r1 + (1 : Int)) + (1 : Int))) (0 : Int) + (1 : Int))) (0 : Int)) a2 then bif g_pick r0 (g_Vs_l20Rd_odd_2 r0 (g_Vs_l20Key_2 r0 (IntKind.wrap IntKind.i64 (g_Vs_l20Writes_2 r0 (IntKind.wrap IntKind.i64 (IntKind.wrap IntKind.i64 (r1 + (1 : Int)) + (1 : Int))) (0 : Int) + (1 : Int))) (0 : Int)) a2) (5 : Int) == (0 : Int) then r0 else bif g_pick r0 (g_Vs_l20Rd_odd_2 r0 (g_Vs_l20Key_2 r0 (IntKind.wrap IntKind.i64 (g_Vs_l20Writes_2 r0 (IntKind.wrap IntKind.i64 (IntKind.wrap IntKind.i64 (r1 + (1 : Int)) + (1 : Int))) (0 : Int) + (1 : Int))) (0 : Int)) a2) (5 : Int) == (1 : Int) then r0 else bif g_pick r0 (g_Vs_l20Rd_odd_2 r0 (g_Vs_l20Key_2 r0 (IntKind.wrap IntKind.i64 (g_Vs_l20Writes_2 r0 (IntKind.wrap IntKind.i64 (IntKind.wrap IntKind.i64 (r1 + (1 : Int)) + (1 : Int))) (0 : Int) + (1 : Int))) (0 : Int)) a2) (5 : Int) == (2 : Int) then r0 else bif g_pick r0 (g_Vs_l20Rd_odd_2 r0 (g_Vs_l20Key_2 r0 (IntKind.wrap IntKind.i64 (g_Vs_l20Writes_2 r0 (IntKind.wrap IntKind.i64 (IntKind.wrap IntKind.i64 (r1 + (1 : Int)) + (1 : Int))) (0 : Int) + (1 : Int))) (0 : Int)) a2) (5 : Int) == (3 : Int) then r0 else r0 else r0 else bif g_Vs_l20Rd_odd_0 r0 (IntKind.wrap IntKind.i64 (g_Vs_l20Writes_2 r0 (IntKind.wrap IntKind.i64 (IntKind.wrap IntKind.i64 (r1 + (1 : Int)) + (1 : Int))) (0 : Int) + (1 : Int))) a2 then bif g_pick r0 (g_Vs_l20Rd_odd_2 r0 (IntKind.wrap IntKind.i64 (g_Vs_l20Writes_2 r0 (IntKind.wrap IntKind.i64 (IntKind.wrap IntKind.i64 (r1 + (1 : Int)) + (1 : Int))) (0 : Int) + (1 : Int))) a2) (5 : Int) == (0 : Int) then r0 else bif g_pick r0 (g_Vs_l20Rd_odd_2 r0 (IntKind.wrap IntKind.i64 (g_Vs_l20Writes_2 r0 (IntKind.wrap IntKind.i64 (IntKind.wrap IntKind.i64 (r1 + (1 : Int)) + (1 : Int))) (0 : Int) + (1 : Int))) a2) (5 : Int) == (1 : Int) then r0 else bif g_pick r0 (g_Vs_l20Rd_odd_2 r0 (IntKind.wrap IntKind.i64 (g_Vs_l20Writes_2 r0 (IntKind.wrap IntKind.i64 (IntKind.wrap IntKind.i64 (r1 + (1 : Int)) + (1 : Int))) (0 : Int) + (1 : Int))) a2) (5 : Int) == (2 : Int) then r0 else bif g_pick r0 (g_Vs_l20Rd_odd_2 r0 (IntKind.wrap IntKind.i64 (g_Vs_l20Writes_2 r0 (IntKind.wrap IntKind.i64 (IntKind.wrap IntKind.i64 (r1 + (1 : Int)) + (1 : Int))) (0 : Int) + (1 : Int))) a2) (5 : Int) == (3 : Int) then r0 else r0 else r0 else bif g_Vs_l20Rd_odd_0 r0 (IntKind.wrap IntKind.i64 (IntKind.wrap IntKind.i64 (r1 + (1 : Int)) + (1 : Int))) a2 then bif g_pick r0 (g_Vs_l20Rd_odd_2 r0 (IntKind.wrap IntKind.i64 (IntKind.wrap IntKind.i64 (r1 + (1 : Int)) + (1 : Int))) a2) (5 : Int) == (0 : Int) then r0 else bif g_pick r0 (g_Vs_l20Rd_odd_2 r0 (IntKind.wrap IntKind.i64 (IntKind.wrap IntKind.i64 (r1 + (1 : Int)) + (1 : Int))) a2) (5 : Int) == (1 : Int) then r0 else bif g_pick r0 (g_Vs_l20Rd_odd_2 r0 (IntKind.wrap IntKind.i64 (IntKind.wrap IntKind.i64 (r1 + (1 : Int)) + (1 : Int))) a2) (5 : Int) == (2 : Int) then r0 else bif g_pick r0 (g_Vs_l20Rd_odd_2 r0 (IntKind.wrap IntKind.i64 (IntKind.wrap IntKind.i64 (r1 + (1 : Int)) + (1 : Int))) a2) (5 : Int) == (3 : Int) then r0 else r0 else r0
noncomputable def g_Vs_l20Note_5 (r0 : List Int) (r1 : Int) (a2 : Int) : Int := bif at_ (Ty.int IntKind.i64) [(1 : Int), (1 : Int), (2 : Int), (3 : Int), (4 : Int)] (Int.toNat (g_pick r0 r1 (5 : Int))) == (1 : Int) then bif g_pick r0 (g_Vs_l20Writes_2 r0 (IntKind.wrap IntKind.i64 (IntKind.wrap IntKind.i64 (r1 + (1 : Int)) + (1 : Int))) (0 : Int)) (2 : Int) == (0 : Int) then bif g_Vs_l20Rd_odd_0 r0 (g_Vs_l20Key_2 r0 (IntKind.wrap IntKind.i64 (g_Vs_l20Writes_2 r0 (IntKind.wrap IntKind.i64 (IntKind.wrap IntKind.i64 (r1 + (1 : Int)) + (1 : Int))) (0 : Int) + (1 : Int))) (0 : Int)) a2 then bif g_pick r0 (g_Vs_l20Rd_odd_2 r0 (g_Vs_l20Key_2 r0 (IntKind.wrap IntKind.i64 (g_Vs_l20Writes_2 r0 (IntKind.wrap IntKind.i64 (IntKind.wrap IntKind.i64 (r1 + (1 : Int)) + (1 : Int))) (0 : Int) + (1 : Int))) (0 : Int)) a2) (5 : Int) == (0 : Int) then IntKind.wrap IntKind.i64 (IntKind.wrap IntKind.i64 (g_Vs_l20Rd_odd_2 r0 (g_Vs_l20Key_2 r0 (IntKind.wrap IntKind.i64 (g_Vs_l20Writes_2 r0 (IntKind.wrap IntKind.i64 (IntKind.wrap IntKind.i64 (r1 + (1 : Int)) + (1 : Int))) (0 : Int) + (1 : Int))) (0 : Int)) a2 + (1 : Int)) + (1 : Int)) else bif g_pick r0 (g_Vs_l20Rd_odd_2 r0 (g_Vs_l20Key_2 r0 (IntKind.wrap IntKind.i64 (g_Vs_l20Writes_2 r0 (IntKind.wrap IntKind.i64 (IntKind.wrap IntKind.i64 (r1 + (1 : Int)) + (1 : Int))) (0 : Int) + (1 : Int))) (0 : Int)) a2) (5 : Int) == (1 : Int) then IntKind.wrap IntKind.i64 (IntKind.wrap IntKind.i64 (g_Vs_l20Rd_odd_2 r0 (g_Vs_l20Key_2 r0 (IntKind.wrap IntKind.i64 (g_Vs_l20Writes_2 r0 (IntKind.wrap IntKind.i64 (IntKind.wrap IntKind.i64 (r1 + (1 : Int)) + (1 : Int))) (0 : Int) + (1 : Int))) (0 : Int)) a2 + (1 : Int)) + (1 : Int)) else bif g_pick r0 (g_Vs_l20Rd_odd_2 r0 (g_Vs_l20Key_2 r0 (IntKind.wrap IntKind.i64 (g_Vs_l20Writes_2 r0 (IntKind.wrap IntKind.i64 (IntKind.wrap IntKind.i64 (r1 + (1 : Int)) + (1 : Int))) (0 : Int) + (1 : Int))) (0 : Int)) a2) (5 : Int) == (2 : Int) then IntKind.wrap IntKind.i64 (g_Vs_l20Rd_odd_2 r0 (g_Vs_l20Key_2 r0 (IntKind.wrap IntKind.i64 (g_Vs_l20Writes_2 r0 (IntKind.wrap IntKind.i64 (IntKind.wrap IntKind.i64 (r1 + (1 : Int)) + (1 : Int))) (0 : Int) + (1 : Int))) (0 : Int)) a2 + (1 : Int)) else bif g_pick r0 (g_Vs_l20Rd_odd_2 r0 (g_Vs_l20Key_2 r0 (IntKind.wrap IntKind.i64 (g_Vs_l20Writes_2 r0 (IntKind.wrap IntKind.i64 (IntKind.wrap IntKind.i64 (r1 + (1 : Int)) + (1 : Int))) (0 : Int) + (1 : Int))) (0 : Int)) a2) (5 : Int) == (3 : Int) then IntKind.wrap IntKind.i64 (g_Vs_l20Rd_odd_2 r0 (g_Vs_l20Key_2 r0 (IntKind.wrap IntKind.i64 (g_Vs_l20Writes_2 r0 (IntKind.wrap IntKind.i64 (IntKind.wrap IntKind.i64 (r1 + (1 : Int)) + (1 : Int))) (0 : Int) + (1 : Int))) (0 : Int)) a2 + (1 : Int)) else g_Vs_l20Write_4 r0 (IntKind.wrap IntKind.i64 (g_Vs_l20Rd_odd_2 r0 (g_Vs_l20Key_2 r0 (IntKind.wrap IntKind.i64 (g_Vs_l20Writes_2 r0 (IntKind.wrap IntKind.i64 (IntKind.wrap IntKind.i64 (r1 + (1 : Int)) + (1 : Int))) (0 : Int) + (1 : Int))) (0 : Int)) a2 + (1 : Int))) (1 : Int) else g_Vs_l20Rd_odd_2 r0 (g_Vs_l20Key_2 r0 (IntKind.wrap IntKind.i64 (g_Vs_l20Writes_2 r0 (IntKind.wrap IntKind.i64 (IntKind.wrap IntKind.i64 (r1 + (1 : Int)) + (1 : Int))) (0 : Int) + (1 : Int))) (0 : Int)) a2 else bif g_Vs_l20Rd_odd_0 r0 (IntKind.wrap IntKind.i64 (g_Vs_l20Writes_2 r0 (IntKind.wrap IntKind.i64 (IntKind.wrap IntKind.i64 (r1 + (1 : Int)) + (1 : Int))) (0 : Int) + (1 : Int))) a2 then bif g_pick r0 (g_Vs_l20Rd_odd_2 r0 (IntKind.wrap IntKind.i64 (g_Vs_l20Writes_2 r0 (IntKind.wrap IntKind.i64 (IntKind.wrap IntKind.i64 (r1 + (1 : Int)) + (1 : Int))) (0 : Int) + (1 : Int))) a2) (5 : Int) == (0 : Int) then IntKind.wrap IntKind.i64 (IntKind.wrap IntKind.i64 (g_Vs_l20Rd_odd_2 r0 (IntKind.wrap IntKind.i64 (g_Vs_l20Writes_2 r0 (IntKind.wrap IntKind.i64 (IntKind.wrap IntKind.i64 (r1 + (1 : Int)) + (1 : Int))) (0 : Int) + (1 : Int))) a2 + (1 : Int)) + (1 : Int)) else bif g_pick r0 (g_Vs_l20Rd_odd_2 r0 (IntKind.wrap IntKind.i64 (g_Vs_l20Writes_2 r0 (IntKind.wrap IntKind.i64 (IntKind.wrap IntKind.i64 (r1 + (1 : Int)) + (1 : Int))) (0 : Int) + (1 : Int))) a2) (5 : Int) == (1 : Int) then IntKind.wrap IntKind.i64 (IntKind.wrap IntKind.i64 (g_Vs_l20Rd_odd_2 r0 (IntKind.wrap IntKind.i64 (g_Vs_l20Writes_2 r0 (IntKind.wrap IntKind.i64 (IntKind.wrap IntKind.i64 (r1 + (1 : Int)) + (1 : Int))) (0 : Int) + (1 : Int))) a2 + (1 : Int)) + (1 : Int)) else bif g_pick r0 (g_Vs_l20Rd_odd_2 r0 (IntKind.wrap IntKind.i64 (g_Vs_l20Writes_2 r0 (IntKind.wrap IntKind.i64 (IntKind.wrap IntKind.i64 (r1 + (1 : Int)) + (1 : Int))) (0 : Int) + (1 : Int))) a2) (5 : Int) == (2 : Int) then IntKind.wrap IntKind.i64 (g_Vs_l20Rd_odd_2 r0 (IntKind.wrap IntKind.i64 (g_Vs_l20Writes_2 r0 (IntKind.wrap IntKind.i64 (IntKind.wrap IntKind.i64 (r1 + (1 : Int)) + (1 : Int))) (0 : Int) + (1 : Int))) a2 + (1 : Int)) else bif g_pick r0 (g_Vs_l20Rd_odd_2 r0 (IntKind.wrap IntKind.i64 (g_Vs_l20Writes_2 r0 (IntKind.wrap IntKind.i64 (IntKind.wrap IntKind.i64 (r1 + (1 : Int)) + (1 : Int))) (0 : Int) + (1 : Int))) a2) (5 : Int) == (3 : Int) then IntKind.wrap IntKind.i64 (g_Vs_l20Rd_odd_2 r0 (IntKind.wrap IntKind.i64 (g_Vs_l20Writes_2 r0 (IntKind.wrap IntKind.i64 (IntKind.wrap IntKind.i64 (r1 + (1 : Int)) + (1 : Int))) (0 : Int) + (1 : Int))) a2 + (1 : Int)) else g_Vs_l20Write_4 r0 (IntKind.wrap IntKind.i64 (g_Vs_l20Rd_odd_2 r0 (IntKind.wrap IntKind.i64 (g_Vs_l20Writes_2 r0 (IntKind.wrap IntKind.i64 (IntKind.wrap IntKind.i64 (r1 + (1 : Int)) + (1 : Int))) (0 : Int) + (1 : Int))) a2 + (1 : Int))) (1 : Int) else g_Vs_l20Rd_odd_2 r0 (IntKind.wrap IntKind.i64 (g_Vs_l20Writes_2 r0 (IntKind.wrap IntKind.i64 (IntKind.wrap IntKind.i64 (r1 + (1 : Int)) + (1 : Int))) (0 : Int) + (1 : Int))) a2 else bif g_Vs_l20Rd_odd_0 r0 (IntKind.wrap IntKind.i64 (IntKind.wrap IntKind.i64 (r1 + (1 : Int)) + (1 : Int))) a2 then bif g_pick r0 (g_Vs_l20Rd_odd_2 r0 (IntKind.wrap IntKind.i64 (IntKind.wrap IntKind.i64 (r1 + (1 : Int)) + (1 : Int))) a2) (5 : Int) == (0 : Int) then IntKind.wrap IntKind.i64 (IntKind.wrap IntKind.i64 (g_Vs_l20Rd_odd_2 r0 (IntKind.wrap IntKind.i64 (IntKind.wrap IntKind.i64 (r1 + (1 : Int)) + (1 : Int))) a2 + (1 : Int)) + (1 : Int)) else bif g_pick r0 (g_Vs_l20Rd_odd_2 r0 (IntKind.wrap IntKind.i64 (IntKind.wrap IntKind.i64 (r1 + (1 : Int)) + (1 : Int))) a2) (5 : Int) == (1 : Int) then IntKind.wrap IntKind.i64 (IntKind.wrap IntKind.i64 (g_Vs_l20Rd_odd_2 r0 (IntKind.wrap IntKind.i64 (IntKind.wrap IntKind.i64 (r1 + (1 : Int)) + (1 : Int))) a2 + (1 : Int)) + (1 : Int)) else bif g_pick r0 (g_Vs_l20Rd_odd_2 r0 (IntKind.wrap IntKind.i64 (IntKind.wrap IntKind.i64 (r1 + (1 : Int)) + (1 : Int))) a2) (5 : Int) == (2 : Int) then IntKind.wrap IntKind.i64 (g_Vs_l20Rd_odd_2 r0 (IntKind.wrap IntKind.i64 (IntKind.wrap IntKind.i64 (r1 + (1 : Int)) + (1 : Int))) a2 + (1 : Int)) else bif g_pick r0 (g_Vs_l20Rd_odd_2 r0 (IntKind.wrap IntKind.i64 (IntKind.wrap IntKind.i64 (r1 + (1 : Int)) + (1 : Int))) a2) (5 : Int) == (3 : Int) then IntKind.wrap IntKind.i64 (g_Vs_l20Rd_odd_2 r0 (IntKind.wrap IntKind.i64 (IntKind.wrap IntKind.i64 (r1 + (1 : Int)) + (1 : Int))) a2 + (1 : Int)) else g_Vs_l20Write_4 r0 (IntKind.wrap IntKind.i64 (g_Vs_l20Rd_odd_2 r0 (IntKind.wrap IntKind.i64 (IntKind.wrap IntKind.i64 (r1 + (1 : Int)) + (1 : Int))) a2 + (1 : Int))) (1 : Int) else g_Vs_l20Rd_odd_2 r0 (IntKind.wrap IntKind.i64 (IntKind.wrap IntKind.i64 (r1 + (1 : Int)) + (1 : Int))) a2
noncomputable def Fs_l20Note : FSem := fun ys => match ys with
  | [.val true [.sl .any 5 (.int .u8) r0, .int .i64 r1], .val false [.int .i64 a2]] => some ((g_As_l20Note r0 r1 a2), .val true [.int .i64 (g_Vs_l20Note_0 r0 r1 a2), .int .i64 (g_Vs_l20Note_1 r0 r1 a2), .sl .any 9 .str (g_Vs_l20Note_2 r0 r1 a2), .sl .any 38 (.pair .str (.pair .bool (.sl 3 (.int .i64)))) (g_Vs_l20Note_3 r0 r1 a2)], [[.sl .any 5 (.int .u8) (g_Vs_l20Note_4 r0 r1 a2), .int .i64 (g_Vs_l20Note_5 r0 r1 a2)]])
  | _ => none
theorem vs_l20Note (r0 : List Int) (r1 : Int) (a2 : Int) : collapseH .fr Es_l20Note Os_l20Note_1 (execFn Es_l20Note Go.Proofs.Tryd.f155 mss_l20Note [.val true [.sl .any 5 (.int .u8) r0, .int .i64 r1], .val false [.int .i64 a2]]) = some ((g_As_l20Note r0 r1 a2), .val true [.int .i64 (g_Vs_l20Note_0 r0 r1 a2), .int .i64 (g_Vs_l20Note_1 r0 r1 a2), .sl .any 9 .str (g_Vs_l20Note_2 r0 r1 a2), .sl .any 38 (.pair .str (.pair .bool (.sl 3 (.int .i64)))) (g_Vs_l20Note_3 r0 r1 a2)], [[.sl .any 5 (.int .u8) (g_Vs_l20Note_4 r0 r1 a2), .int .i64 (g_Vs_l20Note_5 r0 r1 a2)]]) := by kernel_rfl
theorem ss_l20Note : Sound Go.Proofs.Tryd.prog 155 mss_l20Note Fs_l20Note := by
  refine fn_gen goods_l20Note (by kernel_rfl) .fr (fn := Go.Proofs.Tryd.f155) (c := (Go.Proofs.Tryd.f155.body.getD .skip)) (o := Os_l20Note_1) (k := 1) (by kernel_rfl) (by kernel_rfl) (by kernel_rfl) (by kernel_rfl) (by decide) ks_l20Note_1 ?_
  intro ys r outs h
  unfold Fs_l20Note at h
  split at h
  · exact (vs_l20Note _ _ _).trans h
  · cases h
end Go.Proofs.YtkjeicijcecmlaaDoor.E
end
section
namespace Go.Proofs.YtkjeicijcecmlaaDoor.E
open Go
set_option maxRecDepth 100000
set_option linter.all false
noncomputable def mss_l20NoteR : List PM := mss_l20Note
theorem sames_l20Note (r0 : List Int) (r1 : Int) (a2 : Int) : g_Vs_l20Note_4 r0 r1 a2 = r0 := by
  unfold g_Vs_l20Note_4
  simp only [Bool.cond_self]
noncomputable def Fs_l20NoteR : FSem := fun ys => match ys with
  | [.val true [.sl .any 5 (.int .u8) r0, .int .i64 r1], .val false [.int .i64 a2]] => some ((g_As_l20Note r0 r1 a2), .val true [.int .i64 (g_Vs_l20Note_0 r0 r1 a2), .int .i64 (g_Vs_l20Note_1 r0 r1 a2), .sl .any 9 .str (g_Vs_l20Note_2 r0 r1 a2), .sl .any 38 (.pair .str (.pair .bool (.sl 3 (.int .i64)))) (g_Vs_l20Note_3 r0 r1 a2)], [[.sl .any 5 (.int .u8) r0, .int .i64 (g_Vs_l20Note_5 r0 r1 a2)]])
  | _ => none
theorem ss_l20NoteR : Sound Go.Proofs.Tryd.prog 155 mss_l20NoteR Fs_l20NoteR := by
  refine ⟨ss_l20Note.fn, fun w S ψ ys vs r outs hF hh hg => ss_l20Note.calls w S ψ ys vs r outs (Eq.trans ?_ hF) hh hg⟩
  unfold Fs_l20NoteR at hF ⊢
  split at hF
  · rename_i  r0 r1 a2
    show (some ((g_As_l20Note r0 r1 a2), .val true [.int .i64 (g_Vs_l20Note_0 r0 r1 a2), .int .i64 (g_Vs_l20Note_1 r0 r1 a2), .sl .any 9 .str (g_Vs_l20Note_2 r0 r1 a2), .sl .any 38 (.pair .str (.pair .bool (.sl 3 (.int .i64)))) (g_Vs_l20Note_3 r0 r1 a2)], [[.sl .any 5 (.int .u8) (g_Vs_l20Note_4 r0 r1 a2), .int .i64 (g_Vs_l20Note_5 r0 r1 a2)]]) : Option (Bool × RV × List (List Cell))) = _
    rw [sames_l20Note]
  · cases hF
end Go.Proofs.YtkjeicijcecmlaaDoor.E
end
section
namespace Go.Proofs.YtkjeicijcecmlaaDoor.E
open Go
set_option maxRecDepth 100000
set_option maxHeartbeats 0
set_option linter.all false
noncomputable def Es_l20Disk : Env where
  tt := mkTI Go.Proofs.Tryd.prog
  fn := fun f => match f with
    | 48 => some (mss_DiskAdd, FSem.wk mss_DiskAdd Fs_DiskAdd)
    | 79 => some (mss_l20Rd_oddR, FSem.wk mss_l20Rd_oddR Fs_l20Rd_oddR)
    | 127 => some (mss_l20Rd_pick, FSem.wk mss_l20Rd_pick Fs_l20Rd_pick)
    | 155 => some (mss_l20NoteR, FSem.wk mss_l20NoteR Fs_l20NoteR)
    | _ => none
  bxf := fun _ => none
  mv := []
  keep := fun b => match b with
    | 0 => [(0, false), (1, false), (4, false), (5, false), (6, false)]
    | 3 => [(0, false), (4, false), (5, false)]
    | _ => []
  keepB := fun b => match b with
    | 0 => [(4, false), (5, false), (0, false)]
    | 3 => [(4, false), (5, false), (0, false)]
    | _ => []
  keepX := fun b => match b with
    | 0 => [(0, false), (1, false), (4, false), (5, false)]
    | 3 => [(0, false), (4, false), (5, false)]
    | _ => []
  keepXB := fun b => match b with
    | 0 => [(4, false), (5, false), (0, false)]
    | 3 => [(4, false), (5, false), (0, false)]
    | _ => []
theorem goodFs_l20Disk : ∀ f ms F, Es_l20Disk.fn f = some (ms, F) → Sound Go.Proofs.Tryd.prog f ms F := fun f ms F h => by
  unfold Es_l20Disk at h
  dsimp only at h
  split at h
  · injection h with h; injection h with e1 e2; subst e1 e2; exact Sound.wk ss_DiskAdd
  · injection h with h; injection h with e1 e2; subst e1 e2; exact Sound.wk ss_l20Rd_oddR
  · injection h with h; injection h with e1 e2; subst e1 e2; exact Sound.wk ss_l20Rd_pick
  · injection h with h; injection h with e1 e2; subst e1 e2; exact Sound.wk ss_l20NoteR
  · cases h
theorem goodBs_l20Disk : ∀ f ms F, Es_l20Disk.bxf f = some (ms, F) → SoundB Go.Proofs.Tryd.prog f ms F := fun f ms F h => by cases h
theorem goods_l20Disk : Good Go.Proofs.Tryd.prog Es_l20Disk := ⟨rfl, goodFs_l20Disk, goodBs_l20Disk⟩
noncomputable def Os_l20Disk_0 : Orc := fun _ _ => none
noncomputable def mss_l20Disk : List PM := [.bx, .own]
noncomputable def lss_l20Disk : List (Nat × Code) := loopsAll 0 (Go.Proofs.Tryd.f118.body.getD .skip)
noncomputable def cs_l20Disk_0 : Code := (loopOf 0 (Go.Proofs.Tryd.f118.body.getD .skip)).getD .skip
noncomputable def cs_l20Disk_3 : Code := (loopOf 3 (Go.Proofs.Tryd.f118.body.getD .skip)).getD .skip
theorem lseqs_l20Disk : lss_l20Disk = [(0, cs_l20Disk_0), (3, cs_l20Disk_3)] := by kernel_rfl
theorem ms_l20Disk_0 : ∀ p, p ∈ lss_l20Disk → p.1 = 0 → p.2 = cs_l20Disk_0 := by
  intro p hp
  rw [lseqs_l20Disk] at hp
  simp only [List.mem_cons, List.not_mem_nil, or_false] at hp
  rcases hp with rfl | rfl <;> simp
theorem ms_l20Disk_3 : ∀ p, p ∈ lss_l20Disk → p.1 = 3 → p.2 = cs_l20Disk_3 := by
  intro p hp
  rw [lseqs_l20Disk] at hp
  simp only [List.mem_cons, List.not_mem_nil, or_false] at hp
  rcases hp with rfl | rfl <;> simp
theorem ks_l20Disk_0 : OrcOk Es_l20Disk Os_l20Disk_0 lss_l20Disk 0 := orcOk_none
noncomputable def hs_l20Disk_0 (y0 : Int) (y1 : Int) (y2 : Int) (y3 : List ((Int) × ((Int) × ((List (ByteArray)) × (List ((ByteArray) × ((Bool) × (List (Int))))))))) (y4 : Int) (y5 : List ((Int) × ((Int) × ((List (ByteArray)) × (List ((ByteArray) × ((Bool) × (List (Int))))))))) (y6 : List (Int)) (y7 : Int) : List (Pl × LV) := [(.T 0, .t (.val false [.ptr 0 0 0])), (.T 1, .t (.val false [.int .i64 y0])), (.T 4, .t (.val false [.ptr 4 0 0])), (.T 5, .t (.val false [.ptr 5 0 0])), (.T 6, .t (.val false [.int .i64 y1])), (.B 4, .b 0 false [.row 4 1 0, .int .i64 y2]), (.R 4 1, .r 0 (some ⟨false, .any, true, 79, (.pair (.int .i64) (.pair (.int .i64) (.pair (.sl 9 .str) (.sl 38 (.pair .str (.pair .bool (.sl 3 (.int .i64)))))))), y3⟩)), (.B 5, .b 0 false [.row 5 1 0, .int .i64 y4]), (.R 5 1, .r 0 (some ⟨false, .any, true, 79, (.pair (.int .i64) (.pair (.int .i64) (.pair (.sl 9 .str) (.sl 38 (.pair .str (.pair .bool (.sl 3 (.int .i64)))))))), y5⟩)), (.B 0, .b 0 false [.sl .any 5 (.int .u8) y6, .int .i64 y7])]
noncomputable def g_Ss_l20Disk_0 (y0 : Int) (y2 : Int) (y3 : List ((Int) × ((Int) × ((List (ByteArray)) × (List ((ByteArray) × ((Bool) × (List (Int))))))))) (y6 : List (Int)) : ((Int) × (Int) × (List ((Int) × ((Int) × ((List (ByteArray)) × (List ((ByteArray) × ((Bool) × (List (Int))))))))) × (Int)) → RT ((Int) × (Int) × (List ((Int) × ((Int) × ((List (ByteArray)) × (List ((ByteArray) × ((Bool) × (List (Int))))))))) × (Int)) (((Int) × (List ((Int) × ((Int) × ((List (ByteArray)) × (List ((ByteArray) × ((Bool) × (List (Int))))))))) × (Int)))
  | (y1, y4, y5, y7) => .br (true) (.br (decide (y1 > (0 : Int))) (.br (g_As_l20Note y6 y7 (0 : Int)) (.br (g_pickA y6 (g_Vs_l20Note_5 y6 y7 (0 : Int)) (2 : Int)) (.br (true) (.br (g_As_DiskAdd y5 y4 (g_Vs_l20Note_0 y6 y7 (0 : Int)) (g_Vs_l20Note_1 y6 y7 (0 : Int)) (g_Vs_l20Note_2 y6 y7 (0 : Int)) (g_Vs_l20Note_3 y6 y7 (0 : Int)) (g_pick y6 (g_Vs_l20Note_5 y6 y7 (0 : Int)) (2 : Int) == (0 : Int))) (.br (true) (.go ((IntKind.wrap IntKind.i64 (y1 - (1 : Int)), g_Vs_DiskAdd_1 y5 y4 (g_Vs_l20Note_0 y6 y7 (0 : Int)) (g_Vs_l20Note_1 y6 y7 (0 : Int)) (g_Vs_l20Note_2 y6 y7 (0 : Int)) (g_Vs_l20Note_3 y6 y7 (0 : Int)) (g_pick y6 (g_Vs_l20Note_5 y6 y7 (0 : Int)) (2 : Int) == (0 : Int)), g_Vs_DiskAdd_0 y5 y4 (g_Vs_l20Note_0 y6 y7 (0 : Int)) (g_Vs_l20Note_1 y6 y7 (0 : Int)) (g_Vs_l20Note_2 y6 y7 (0 : Int)) (g_Vs_l20Note_3 y6 y7 (0 : Int)) (g_pick y6 (g_Vs_l20Note_5 y6 y7 (0 : Int)) (2 : Int) == (0 : Int)), IntKind.wrap IntKind.i64 (g_Vs_l20Note_5 y6 y7 (0 : Int) + (1 : Int))))) (.bad)) (.bad)) (.bad)) (.bad)) (.bad)) (.out ((y4, y5, y7)))) (.bad)
noncomputable def g_Ls_l20Disk_0 (y0 : Int) (y2 : Int) (y3 : List ((Int) × ((Int) × ((List (ByteArray)) × (List ((ByteArray) × ((Bool) × (List (Int))))))))) (y6 : List (Int)) (x : (Int) × (Int) × (List ((Int) × ((Int) × ((List (ByteArray)) × (List ((ByteArray) × ((Bool) × (List (Int))))))))) × (Int)) : Option (((Int) × (List ((Int) × ((Int) × ((List (ByteArray)) × (List ((ByteArray) × ((Bool) × (List (Int))))))))) × (Int))) := loopO (g_Ss_l20Disk_0 y0 y2 y3 y6) x
noncomputable def xs_l20Disk_0 (y0 : Int) (y2 : Int) (y3 : List ((Int) × ((Int) × ((List (ByteArray)) × (List ((ByteArray) × ((Bool) × (List (Int))))))))) (y6 : List (Int)) : (((Int) × (List ((Int) × ((Int) × ((List (ByteArray)) × (List ((ByteArray) × ((Bool) × (List (Int))))))))) × (Int))) → Ex × List (Pl × LV) := fun r => (.exit 0, [(.T 0, .t (.val false [.ptr 0 0 0])), (.T 1, .t (.val false [.int .i64 y0])), (.T 4, .t (.val false [.ptr 4 0 0])), (.T 5, .t (.val false [.ptr 5 0 0])), (.B 4, .b 0 false [.row 4 1 0, .int .i64 y2]), (.R 4 1, .r 0 (some ⟨false, .any, true, 79, (.pair (.int .i64) (.pair (.int .i64) (.pair (.sl 9 .str) (.sl 38 (.pair .str (.pair .bool (.sl 3 (.int .i64)))))))), y3⟩)), (.B 5, .b 0 false [.row 5 1 0, .int .i64 r.1]), (.R 5 1, .r 0 (some ⟨false, .any, true, 79, (.pair (.int .i64) (.pair (.int .i64) (.pair (.sl 9 .str) (.sl 38 (.pair .str (.pair .bool (.sl 3 (.int .i64)))))))), r.2.1⟩)), (.B 0, .b 0 false [.sl .any 5 (.int .u8) y6, .int .i64 r.2.2])])
noncomputable def Os_l20Disk_1 : Orc := fun b h => match b, h with
  | 0, [(.T 0, .t (.val false [.ptr 0 0 0])), (.T 1, .t (.val false [.int .i64 y0])), (.T 4, .t (.val false [.ptr 4 0 0])), (.T 5, .t (.val false [.ptr 5 0 0])), (.T 6, .t (.val false [.int .i64 y1])), (.B 4, .b 0 false [.row 4 1 0, .int .i64 y2]), (.R 4 1, .r 0 (some ⟨false, .any, true, 79, (.pair (.int .i64) (.pair (.int .i64) (.pair (.sl 9 .str) (.sl 38 (.pair .str (.pair .bool (.sl 3 (.int .i64)))))))), y3⟩)), (.B 5, .b 0 false [.row 5 1 0, .int .i64 y4]), (.R 5 1, .r 0 (some ⟨false, .any, true, 79, (.pair (.int .i64) (.pair (.int .i64) (.pair (.sl 9 .str) (.sl 38 (.pair .str (.pair .bool (.sl 3 (.int .i64)))))))), y5⟩)), (.B 0, .b 0 false [.sl .any 5 (.int .u8) y6, .int .i64 y7])] => some (okO (g_Ls_l20Disk_0 y0 y2 y3 y6 (y1, y4, y5, y7)), (.leaf (.exit 0) [(.T 0, .t (.val false [.ptr 0 0 0])), (.T 1, .t (.val false [.int .i64 y0])), (.T 4, .t (.val false [.ptr 4 0 0])), (.T 5, .t (.val false [.ptr 5 0 0])), (.B 4, .b 0 false [.row 4 1 0, .int .i64 y2]), (.R 4 1, .r 0 (some ⟨false, .any, true, 79, (.pair (.int .i64) (.pair (.int .i64) (.pair (.sl 9 .str) (.sl 38 (.pair .str (.pair .bool (.sl 3 (.int .i64)))))))), y3⟩)), (.B 5, .b 0 false [.row 5 1 0, .int .i64 (valO (g_Ls_l20Disk_0 y0 y2 y3 y6 (y1, y4, y5, y7))).1]), (.R 5 1, .r 0 (some ⟨false, .any, true, 79, (.pair (.int .i64) (.pair (.int .i64) (.pair (.sl 9 .str) (.sl 38 (.pair .str (.pair .bool (.sl 3 (.int .i64)))))))), (valO (g_Ls_l20Disk_0 y0 y2 y3 y6 (y1, y4, y5, y7))).2.1⟩)), (.B 0, .b 0 false [.sl .any 5 (.int .u8) y6, .int .i64 (valO (g_Ls_l20Disk_0 y0 y2 y3 y6 (y1, y4, y5, y7))).2.2])]))
  | b, h => Os_l20Disk_0 b h
theorem bs_l20Disk_0 (y0 : Int) (y1 : Int) (y2 : Int) (y3 : List ((Int) × ((Int) × ((List (ByteArray)) × (List ((ByteArray) × ((Bool) × (List (Int))))))))) (y4 : Int) (y5 : List ((Int) × ((Int) × ((List (ByteArray)) × (List ((ByteArray) × ((Bool) × (List (Int))))))))) (y6 : List (Int)) (y7 : Int) : Tr.bt Es_l20Disk Os_l20Disk_0 (exec Es_l20Disk 0 cs_l20Disk_0 (St.of (hs_l20Disk_0 y0 y1 y2 y3 y4 y5 y6 y7)) (leafRd Es_l20Disk 0)) = (g_Ss_l20Disk_0 y0 y2 y3 y6 (y1, y4, y5, y7)).bt (fun ((y1, y4, y5, y7) : (Int) × (Int) × (List ((Int) × ((Int) × ((List (ByteArray)) × (List ((ByteArray) × ((Bool) × (List (Int))))))))) × (Int)) => (hs_l20Disk_0 y0 y1 y2 y3 y4 y5 y6 y7)) (xs_l20Disk_0 y0 y2 y3 y6) := by kernel_rfl
theorem ks_l20Disk_1 : OrcOk Es_l20Disk Os_l20Disk_1 lss_l20Disk 1 := orc_add ks_l20Disk_0 (fun n p hp h ex h' ho => by
  obtain ⟨b, c⟩ := p
  obtain ⟨xt, h1, h2⟩ := ho
  have h1 : Os_l20Disk_1 b h = some (true, xt) := h1
  unfold Os_l20Disk_1 at h1
  split at h1
  · injection h1 with h1
    injection h1 with e1 e2
    subst e2
    have hc : c = cs_l20Disk_0 := ms_l20Disk_0 _ hp rfl
    subst hc
    right
    rename_i y0 y1 y2 y3 y4 y5 y6 y7
    have key := LT_step ks_l20Disk_0 hp (fun q hq => loopsAll_in _ _ _ _ hp hq) (fun ((y1, y4, y5, y7) : (Int) × (Int) × (List ((Int) × ((Int) × ((List (ByteArray)) × (List ((ByteArray) × ((Bool) × (List (Int))))))))) × (Int)) => (hs_l20Disk_0 y0 y1 y2 y3 y4 y5 y6 y7)) (xs_l20Disk_0 y0 y2 y3 y6) (g_Ss_l20Disk_0 y0 y2 y3 y6) (fun x => by first | exact bs_l20Disk_0 y0 x.1 y2 y3 x.2.1 x.2.2.1 y6 x.2.2.2) n (x := (y1, y4, y5, y7)) (okO_some e1)
    have hx : ∀ r, XT.sel (.leaf (.exit 0) [(.T 0, .t (.val false [.ptr 0 0 0])), (.T 1, .t (.val false [.int .i64 y0])), (.T 4, .t (.val false [.ptr 4 0 0])), (.T 5, .t (.val false [.ptr 5 0 0])), (.B 4, .b 0 false [.row 4 1 0, .int .i64 y2]), (.R 4 1, .r 0 (some ⟨false, .any, true, 79, (.pair (.int .i64) (.pair (.int .i64) (.pair (.sl 9 .str) (.sl 38 (.pair .str (.pair .bool (.sl 3 (.int .i64)))))))), y3⟩)), (.B 5, .b 0 false [.row 5 1 0, .int .i64 r.1]), (.R 5 1, .r 0 (some ⟨false, .any, true, 79, (.pair (.int .i64) (.pair (.int .i64) (.pair (.sl 9 .str) (.sl 38 (.pair .str (.pair .bool (.sl 3 (.int .i64)))))))), r.2.1⟩)), (.B 0, .b 0 false [.sl .any 5 (.int .u8) y6, .int .i64 r.2.2])]) = xs_l20Disk_0 y0 y2 y3 y6 r := fun r => by first | rfl | (rcases r with r | r <;> rfl) | (rcases r with r | r | r <;> rfl) | (rcases r with r | r | r | r <;> rfl)
    have h3 := (hx (valO (g_Ls_l20Disk_0 y0 y2 y3 y6 (y1, y4, y5, y7)))).symm.trans h2
    have e3 := congrArg Prod.fst h3
    have e4 := congrArg Prod.snd h3
    simp only at e3 e4
    rw [← e3, ← e4]
    exact key
  · exact .inl ⟨xt, h1, h2⟩)
noncomputable def hs_l20Disk_3 (y0 : Int) (y1 : List ((Int) × ((Int) × ((List (ByteArray)) × (List ((ByteArray) × ((Bool) × (List (Int))))))))) (y2 : Int) (y3 : List ((Int) × ((Int) × ((List (ByteArray)) × (List ((ByteArray) × ((Bool) × (List (Int))))))))) (y4 : List (Int)) (y5 : Int) : List (Pl × LV) := [(.T 0, .t (.val false [.ptr 0 0 0])), (.T 4, .t (.val false [.ptr 4 0 0])), (.T 5, .t (.val false [.ptr 5 0 0])), (.B 4, .b 0 false [.row 4 1 0, .int .i64 y0]), (.R 4 1, .r 0 (some ⟨false, .any, true, 79, (.pair (.int .i64) (.pair (.int .i64) (.pair (.sl 9 .str) (.sl 38 (.pair .str (.pair .bool (.sl 3 (.int .i64)))))))), y1⟩)), (.B 5, .b 0 false [.row 5 1 0, .int .i64 y2]), (.R 5 1, .r 0 (some ⟨false, .any, true, 79, (.pair (.int .i64) (.pair (.int .i64) (.pair (.sl 9 .str) (.sl 38 (.pair .str (.pair .bool (.sl 3 (.int .i64)))))))), y3⟩)), (.B 0, .b 0 false [.sl .any 5 (.int .u8) y4, .int .i64 y5])]
noncomputable def g_Ss_l20Disk_3 (y0 : Int) (y1 : List ((Int) × ((Int) × ((List (ByteArray)) × (List ((ByteArray) × ((Bool) × (List (Int))))))))) (y2 : Int) (y4 : List (Int)) (y5 : Int) : ((List ((Int) × ((Int) × ((List (ByteArray)) × (List ((ByteArray) × ((Bool) × (List (Int)))))))))) → RT ((List ((Int) × ((Int) × ((List (ByteArray)) × (List ((ByteArray) × ((Bool) × (List (Int)))))))))) (((List ((Int) × ((Int) × ((List (ByteArray)) × (List ((ByteArray) × ((Bool) × (List (Int)))))))))))
  | y3 => .br (true) (.br (decide ((↑(List.length y3) : Int) ≤ (120 : Int))) (.br (decide ((List.length y3 + nat_lit 1) * nat_lit 64 ≤ nat_lit 140737488355328 ∧ List.length y3 + nat_lit 1 ≤ nat_lit 9223372036854775807)) (.go (y3 ++ [((3 : Int), (0 : Int), [], [])])) (.bad)) (.out (y3))) (.bad)
noncomputable def g_Ls_l20Disk_3 (y0 : Int) (y1 : List ((Int) × ((Int) × ((List (ByteArray)) × (List ((ByteArray) × ((Bool) × (List (Int))))))))) (y2 : Int) (y4 : List (Int)) (y5 : Int) (x : (List ((Int) × ((Int) × ((List (ByteArray)) × (List ((ByteArray) × ((Bool) × (List (Int)))))))))) : Option (((List ((Int) × ((Int) × ((List (ByteArray)) × (List ((ByteArray) × ((Bool) × (List (Int))))))))))) := loopO (g_Ss_l20Disk_3 y0 y1 y2 y4 y5) x
noncomputable def xs_l20Disk_3 (y0 : Int) (y1 : List ((Int) × ((Int) × ((List (ByteArray)) × (List ((ByteArray) × ((Bool) × (List (Int))))))))) (y2 : Int) (y4 : List (Int)) (y5 : Int) : (((List ((Int) × ((Int) × ((List (ByteArray)) × (List ((ByteArray) × ((Bool) × (List (Int))))))))))) → Ex × List (Pl × LV) := fun r => (.exit 3, [(.T 0, .t (.val false [.ptr 0 0 0])), (.T 4, .t (.val false [.ptr 4 0 0])), (.T 5, .t (.val false [.ptr 5 0 0])), (.B 4, .b 0 false [.row 4 1 0, .int .i64 y0]), (.R 4 1, .r 0 (some ⟨false, .any, true, 79, (.pair (.int .i64) (.pair (.int .i64) (.pair (.sl 9 .str) (.sl 38 (.pair .str (.pair .bool (.sl 3 (.int .i64)))))))), y1⟩)), (.B 5, .b 0 false [.row 5 1 0, .int .i64 y2]), (.R 5 1, .r 0 (some ⟨false, .any, true, 79, (.pair (.int .i64) (.pair (.int .i64) (.pair (.sl 9 .str) (.sl 38 (.pair .str (.pair .bool (.sl 3 (.int .i64)))))))), r⟩)), (.B 0, .b 0 false [.sl .any 5 (.int .u8) y4, .int .i64 y5])])
noncomputable def Os_l20Disk_2 : Orc := fun b h => match b, h with
  | 3, [(.T 0, .t (.val false [.ptr 0 0 0])), (.T 4, .t (.val false [.ptr 4 0 0])), (.T 5, .t (.val false [.ptr 5 0 0])), (.B 4, .b 0 false [.row 4 1 0, .int .i64 y0]), (.R 4 1, .r 0 (some ⟨false, .any, true, 79, (.pair (.int .i64) (.pair (.int .i64) (.pair (.sl 9 .str) (.sl 38 (.pair .str (.pair .bool (.sl 3 (.int .i64)))))))), y1⟩)), (.B 5, .b 0 false [.row 5 1 0, .int .i64 y2]), (.R 5 1, .r 0 (some ⟨false, .any, true, 79, (.pair (.int .i64) (.pair (.int .i64) (.pair (.sl 9 .str) (.sl 38 (.pair .str (.pair .bool (.sl 3 (.int .i64)))))))), y3⟩)), (.B 0, .b 0 false [.sl .any 5 (.int .u8) y4, .int .i64 y5])] => some (okO (g_Ls_l20Disk_3 y0 y1 y2 y4 y5 y3), (.leaf (.exit 3) [(.T 0, .t (.val false [.ptr 0 0 0])), (.T 4, .t (.val false [.ptr 4 0 0])), (.T 5, .t (.val false [.ptr 5 0 0])), (.B 4, .b 0 false [.row 4 1 0, .int .i64 y0]), (.R 4 1, .r 0 (some ⟨false, .any, true, 79, (.pair (.int .i64) (.pair (.int .i64) (.pair (.sl 9 .str) (.sl 38 (.pair .str (.pair .bool (.sl 3 (.int .i64)))))))), y1⟩)), (.B 5, .b 0 false [.row 5 1 0, .int .i64 y2]), (.R 5 1, .r 0 (some ⟨false, .any, true, 79, (.pair (.int .i64) (.pair (.int .i64) (.pair (.sl 9 .str) (.sl 38 (.pair .str (.pair .bool (.sl 3 (.int .i64)))))))), (valO (g_Ls_l20Disk_3 y0 y1 y2 y4 y5 y3))⟩)), (.B 0, .b 0 false [.sl .any 5 (.int .u8) y4, .int .i64 y5])]))
  | b, h => Os_l20Disk_1 b h
theorem bs_l20Disk_3 (y0 : Int) (y1 : List ((Int) × ((Int) × ((List (ByteArray)) × (List ((ByteArray) × ((Bool) × (List (Int))))))))) (y2 : Int) (y3 : List ((Int) × ((Int) × ((List (ByteArray)) × (List ((ByteArray) × ((Bool) × (List (Int))))))))) (y4 : List (Int)) (y5 : Int) : Tr.bt Es_l20Disk Os_l20Disk_1 (exec Es_l20Disk 3 cs_l20Disk_3 (St.of (hs_l20Disk_3 y0 y1 y2 y3 y4 y5)) (leafRd Es_l20Disk 3)) = (g_Ss_l20Disk_3 y0 y1 y2 y4 y5 y3).bt (fun (y3 : (List ((Int) × ((Int) × ((List (ByteArray)) × (List ((ByteArray) × ((Bool) × (List (Int)))))))))) => (hs_l20Disk_3 y0 y1 y2 y3 y4 y5)) (xs_l20Disk_3 y0 y1 y2 y4 y5) := by kernel_rfl
theorem ks_l20Disk_2 : OrcOk Es_l20Disk Os_l20Disk_2 lss_l20Disk 2 := orc_add ks_l20Disk_1 (fun n p hp h ex h' ho => by
  obtain ⟨b, c⟩ := p
  obtain ⟨xt, h1, h2⟩ := ho
  have h1 : Os_l20Disk_2 b h = some (true, xt) := h1
  unfold Os_l20Disk_2 at h1
  split at h1
  · injection h1 with h1
    injection h1 with e1 e2
    subst e2
    have hc : c = cs_l20Disk_3 := ms_l20Disk_3 _ hp rfl
    subst hc
    right
    rename_i y0 y1 y2 y3 y4 y5
    have key := LT_step ks_l20Disk_1 hp (fun q hq => loopsAll_in _ _ _ _ hp hq) (fun (y3 : (List ((Int) × ((Int) × ((List (ByteArray)) × (List ((ByteArray) × ((Bool) × (List (Int)))))))))) => (hs_l20Disk_3 y0 y1 y2 y3 y4 y5)) (xs_l20Disk_3 y0 y1 y2 y4 y5) (g_Ss_l20Disk_3 y0 y1 y2 y4 y5) (fun x => by first | exact bs_l20Disk_3 y0 y1 y2 x y4 y5) n (x := y3) (okO_some e1)
    have hx : ∀ r, XT.sel (.leaf (.exit 3) [(.T 0, .t (.val false [.ptr 0 0 0])), (.T 4, .t (.val false [.ptr 4 0 0])), (.T 5, .t (.val false [.ptr 5 0 0])), (.B 4, .b 0 false [.row 4 1 0, .int .i64 y0]), (.R 4 1, .r 0 (some ⟨false, .any, true, 79, (.pair (.int .i64) (.pair (.int .i64) (.pair (.sl 9 .str) (.sl 38 (.pair .str (.pair .bool (.sl 3 (.int .i64)))))))), y1⟩)), (.B 5, .b 0 false [.row 5 1 0, .int .i64 y2]), (.R 5 1, .r 0 (some ⟨false, .any, true, 79, (.pair (.int .i64) (.pair (.int .i64) (.pair (.sl 9 .str) (.sl 38 (.pair .str (.pair .bool (.sl 3 (.int .i64)))))))), r⟩)), (.B 0, .b 0 false [.sl .any 5 (.int .u8) y4, .int .i64 y5])]) = xs_l20Disk_3 y0 y1 y2 y4 y5 r := fun r => by first | rfl | (rcases r with r | r <;> rfl) | (rcases r with r | r | r <;> rfl) | (rcases r with r | r | r | r <;> rfl)
    have h3 := (hx (valO (g_Ls_l20Disk_3 y0 y1 y2 y4 y5 y3))).symm.trans h2
    have e3 := congrArg Prod.fst h3
    have e4 := congrArg Prod.snd h3
    simp only at e3 e4
    rw [← e3, ← e4]
    exact key
  · exact .inl ⟨xt, h1, h2⟩)
noncomputable def g_As_l20Disk (r0 : List Int) (r1 : Int) (a2 : Int) : Bool := g_pickA r0 r1 (10 : Int) && (okO (g_Ls_l20Disk_0 a2 (0 : Int) [] r0 (g_pick r0 r1 (10 : Int), (0 : Int), [], IntKind.wrap IntKind.i64 (r1 + (1 : Int)))) && (g_As_l20Rd_odd r0 (valO (g_Ls_l20Disk_0 a2 (0 : Int) [] r0 (g_pick r0 r1 (10 : Int), (0 : Int), [], IntKind.wrap IntKind.i64 (r1 + (1 : Int))))).2.2 a2 && (!g_Vs_l20Rd_odd_0 r0 (valO (g_Ls_l20Disk_0 a2 (0 : Int) [] r0 (g_pick r0 r1 (10 : Int), (0 : Int), [], IntKind.wrap IntKind.i64 (r1 + (1 : Int))))).2.2 a2 || g_pickA r0 (g_Vs_l20Rd_odd_2 r0 (valO (g_Ls_l20Disk_0 a2 (0 : Int) [] r0 (g_pick r0 r1 (10 : Int), (0 : Int), [], IntKind.wrap IntKind.i64 (r1 + (1 : Int))))).2.2 a2) (3 : Int) && bif g_pick r0 (g_Vs_l20Rd_odd_2 r0 (valO (g_Ls_l20Disk_0 a2 (0 : Int) [] r0 (g_pick r0 r1 (10 : Int), (0 : Int), [], IntKind.wrap IntKind.i64 (r1 + (1 : Int))))).2.2 a2) (3 : Int) == (0 : Int) then g_pickA r0 (IntKind.wrap IntKind.i64 (g_Vs_l20Rd_odd_2 r0 (valO (g_Ls_l20Disk_0 a2 (0 : Int) [] r0 (g_pick r0 r1 (10 : Int), (0 : Int), [], IntKind.wrap IntKind.i64 (r1 + (1 : Int))))).2.2 a2 + (1 : Int))) (2 : Int) && (decide ((0 : Int) ≤ g_pick r0 (IntKind.wrap IntKind.i64 (g_Vs_l20Rd_odd_2 r0 (valO (g_Ls_l20Disk_0 a2 (0 : Int) [] r0 (g_pick r0 r1 (10 : Int), (0 : Int), [], IntKind.wrap IntKind.i64 (r1 + (1 : Int))))).2.2 a2 + (1 : Int))) (2 : Int) ∧ g_pick r0 (IntKind.wrap IntKind.i64 (g_Vs_l20Rd_odd_2 r0 (valO (g_Ls_l20Disk_0 a2 (0 : Int) [] r0 (g_pick r0 r1 (10 : Int), (0 : Int), [], IntKind.wrap IntKind.i64 (r1 + (1 : Int))))).2.2 a2 + (1 : Int))) (2 : Int) < (↑(List.length [(-1 : Int), IntKind.wrap IntKind.i64 ((↑(List.length (valO (g_Ls_l20Disk_0 a2 (0 : Int) [] r0 (g_pick r0 r1 (10 : Int), (0 : Int), [], IntKind.wrap IntKind.i64 (r1 + (1 : Int))))).2.1) : Int) + (1 : Int))]) : Int)) && decide (Int.toNat (g_pick r0 (IntKind.wrap IntKind.i64 (g_Vs_l20Rd_odd_2 r0 (valO (g_Ls_l20Disk_0 a2 (0 : Int) [] r0 (g_pick r0 r1 (10 : Int), (0 : Int), [], IntKind.wrap IntKind.i64 (r1 + (1 : Int))))).2.2 a2 + (1 : Int))) (2 : Int)) < List.length [(-1 : Int), IntKind.wrap IntKind.i64 ((↑(List.length (valO (g_Ls_l20Disk_0 a2 (0 : Int) [] r0 (g_pick r0 r1 (10 : Int), (0 : Int), [], IntKind.wrap IntKind.i64 (r1 + (1 : Int))))).2.1) : Int) + (1 : Int))])) else bif g_pick r0 (g_Vs_l20Rd_odd_2 r0 (valO (g_Ls_l20Disk_0 a2 (0 : Int) [] r0 (g_pick r0 r1 (10 : Int), (0 : Int), [], IntKind.wrap IntKind.i64 (r1 + (1 : Int))))).2.2 a2) (3 : Int) == (1 : Int) then g_As_l20Note r0 (IntKind.wrap IntKind.i64 (g_Vs_l20Rd_odd_2 r0 (valO (g_Ls_l20Disk_0 a2 (0 : Int) [] r0 (g_pick r0 r1 (10 : Int), (0 : Int), [], IntKind.wrap IntKind.i64 (r1 + (1 : Int))))).2.2 a2 + (1 : Int))) (1 : Int) && decide ((List.length (valO (g_Ls_l20Disk_0 a2 (0 : Int) [] r0 (g_pick r0 r1 (10 : Int), (0 : Int), [], IntKind.wrap IntKind.i64 (r1 + (1 : Int))))).2.1 + List.length [(g_Vs_l20Note_0 r0 (IntKind.wrap IntKind.i64 (g_Vs_l20Rd_odd_2 r0 (valO (g_Ls_l20Disk_0 a2 (0 : Int) [] r0 (g_pick r0 r1 (10 : Int), (0 : Int), [], IntKind.wrap IntKind.i64 (r1 + (1 : Int))))).2.2 a2 + (1 : Int))) (1 : Int), g_Vs_l20Note_1 r0 (IntKind.wrap IntKind.i64 (g_Vs_l20Rd_odd_2 r0 (valO (g_Ls_l20Disk_0 a2 (0 : Int) [] r0 (g_pick r0 r1 (10 : Int), (0 : Int), [], IntKind.wrap IntKind.i64 (r1 + (1 : Int))))).2.2 a2 + (1 : Int))) (1 : Int), g_Vs_l20Note_2 r0 (IntKind.wrap IntKind.i64 (g_Vs_l20Rd_odd_2 r0 (valO (g_Ls_l20Disk_0 a2 (0 : Int) [] r0 (g_pick r0 r1 (10 : Int), (0 : Int), [], IntKind.wrap IntKind.i64 (r1 + (1 : Int))))).2.2 a2 + (1 : Int))) (1 : Int), g_Vs_l20Note_3 r0 (IntKind.wrap IntKind.i64 (g_Vs_l20Rd_odd_2 r0 (valO (g_Ls_l20Disk_0 a2 (0 : Int) [] r0 (g_pick r0 r1 (10 : Int), (0 : Int), [], IntKind.wrap IntKind.i64 (r1 + (1 : Int))))).2.2 a2 + (1 : Int))) (1 : Int))]) * nat_lit 64 ≤ nat_lit 140737488355328 ∧ List.length (valO (g_Ls_l20Disk_0 a2 (0 : Int) [] r0 (g_pick r0 r1 (10 : Int), (0 : Int), [], IntKind.wrap IntKind.i64 (r1 + (1 : Int))))).2.1 + List.length [(g_Vs_l20Note_0 r0 (IntKind.wrap IntKind.i64 (g_Vs_l20Rd_odd_2 r0 (valO (g_Ls_l20Disk_0 a2 (0 : Int) [] r0 (g_pick r0 r1 (10 : Int), (0 : Int), [], IntKind.wrap IntKind.i64 (r1 + (1 : Int))))).2.2 a2 + (1 : Int))) (1 : Int), g_Vs_l20Note_1 r0 (IntKind.wrap IntKind.i64 (g_Vs_l20Rd_odd_2 r0 (valO (g_Ls_l20Disk_0 a2 (0 : Int) [] r0 (g_pick r0 r1 (10 : Int), (0 : Int), [], IntKind.wrap IntKind.i64 (r1 + (1 : Int))))).2.2 a2 + (1 : Int))) (1 : Int), g_Vs_l20Note_2 r0 (IntKind.wrap IntKind.i64 (g_Vs_l20Rd_odd_2 r0 (valO (g_Ls_l20Disk_0 a2 (0 : Int) [] r0 (g_pick r0 r1 (10 : Int), (0 : Int), [], IntKind.wrap IntKind.i64 (r1 + (1 : Int))))).2.2 a2 + (1 : Int))) (1 : Int), g_Vs_l20Note_3 r0 (IntKind.wrap IntKind.i64 (g_Vs_l20Rd_odd_2 r0 (valO (g_Ls_l20Disk_0 a2 (0 : Int) [] r0 (g_pick r0 r1 (10 : Int), (0 : Int), [], IntKind.wrap IntKind.i64 (r1 + (1 : Int))))).2.2 a2 + (1 : Int))) (1 : Int))] ≤ nat_lit 9223372036854775807) else okO (g_Ls_l20Disk_3 (0 : Int) [] (valO (g_Ls_l20Disk_0 a2 (0 : Int) [] r0 (g_pick r0 r1 (10 : Int), (0 : Int), [], IntKind.wrap IntKind.i64 (r1 + (1 : Int))))).1 r0 (IntKind.wrap IntKind.i64 (g_Vs_l20Rd_odd_2 r0 (valO (g_Ls_l20Disk_0 a2 (0 : Int) [] r0 (g_pick r0 r1 (10 : Int), (0 : Int), [], IntKind.wrap IntKind.i64 (r1 + (1 : Int))))).2.2 a2 + (1 : Int))) (valO (g_Ls_l20Disk_0 a2 (0 : Int) [] r0 (g_pick r0 r1 (10 : Int), (0 : Int), [], IntKind.wrap IntKind.i64 (r1 + (1 : Int))))).2.1))))
noncomputable def g_Vs_l20Disk_0 (r0 : List Int) (r1 : Int) (a2 : Int) : List ((Int) × ((Int) × ((List (ByteArray)) × (List ((ByteArray) × ((Bool) × (List (Int)))))))) := bif g_Vs_l20Rd_odd_0 r0 (valO (g_Ls_l20Disk_0 a2 (0 : Int) [] r0 (g_pick r0 r1 (10 : Int), (0 : Int), [], IntKind.wrap IntKind.i64 (r1 + (1 : Int))))).2.2 a2 then bif g_pick r0 (g_Vs_l20Rd_odd_2 r0 (valO (g_Ls_l20Disk_0 a2 (0 : Int) [] r0 (g_pick r0 r1 (10 : Int), (0 : Int), [], IntKind.wrap IntKind.i64 (r1 + (1 : Int))))).2.2 a2) (3 : Int) == (0 : Int) then (valO (g_Ls_l20Disk_0 a2 (0 : Int) [] r0 (g_pick r0 r1 (10 : Int), (0 : Int), [], IntKind.wrap IntKind.i64 (r1 + (1 : Int))))).2.1 else bif g_pick r0 (g_Vs_l20Rd_odd_2 r0 (valO (g_Ls_l20Disk_0 a2 (0 : Int) [] r0 (g_pick r0 r1 (10 : Int), (0 : Int), [], IntKind.wrap IntKind.i64 (r1 + (1 : Int))))).2.2 a2) (3 : Int) == (1 : Int) then (valO (g_Ls_l20Disk_0 a2 (0 : Int) [] r0 (g_pick r0 r1 (10 : Int), (0 : Int), [], IntKind.wrap IntKind.i64 (r1 + (1 : Int))))).2.1 ++ [(g_Vs_l20Note_0 r0 (IntKind.wrap IntKind.i64 (g_Vs_l20Rd_odd_2 r0 (valO (g_Ls_l20Disk_0 a2 (0 : Int) [] r0 (g_pick r0 r1 (10 : Int), (0 : Int), [], IntKind.wrap IntKind.i64 (r1 + (1 : Int))))).2.2 a2 + (1 : Int))) (1 : Int), g_Vs_l20Note_1 r0 (IntKind.wrap IntKind.i64 (g_Vs_l20Rd_odd_2 r0 (valO (g_Ls_l20Disk_0 a2 (0 : Int) [] r0 (g_pick r0 r1 (10 : Int), (0 : Int), [], IntKind.wrap IntKind.i64 (r1 + (1 : Int))))).2.2 a2 + (1 : Int))) (1 : Int), g_Vs_l20Note_2 r0 (IntKind.wrap IntKind.i64 (g_Vs_l20Rd_odd_2 r0 (valO (g_Ls_l20Disk_0 a2 (0 : Int) [] r0 (g_pick r0 r1 (10 : Int), (0 : Int), [], IntKind.wrap IntKind.i64 (r1 + (1 : Int))))).2.2 a2 + (1 : Int))) (1 : Int), g_Vs_l20Note_3 r0 (IntKind.wrap IntKind.i64 (g_Vs_l20Rd_odd_2 r0 (valO (g_Ls_l20Disk_0 a2 (0 : Int) [] r0 (g_pick r0 r1 (10 : Int), (0 : Int), [], IntKind.wrap IntKind.i64 (r1 + (1 : Int))))).2.2 a2 + (1 : Int))) (1 : Int))] else valO (g_Ls_l20Disk_3 (0 : Int) [] (valO (g_Ls_l20Disk_0 a2 (0 : Int) [] r0 (g_pick r0 r1 (10 : Int), (0 : Int), [], IntKind.wrap IntKind.i64 (r1 + (1 : Int))))).1 r0 (IntKind.wrap IntKind.i64 (g_Vs_l20Rd_odd_2 r0 (valO (g_Ls_l20Disk_0 a2 (0 : Int) [] r0 (g_pick r0 r1 (10 : Int), (0 : Int), [], IntKind.wrap IntKind.i64 (r1 + (1 : Int))))).2.2 a2 + (1 : Int))) (valO (g_Ls_l20Disk_0 a2 (0 : Int) [] r0 (g_pick r0 r1 (10 : Int), (0 : Int), [], IntKind.wrap IntKind.i64 (r1 + (1 : Int))))).2.1) else (valO (g_Ls_l20Disk_0 a2 (0 : Int) [] r0 (g_pick r0 r1 (10 : Int), (0 : Int), [], IntKind.wrap IntKind.i64 (r1 + (1 : Int))))).2.1
noncomputable def g_Vs_l20Disk_1 (r0 : List Int) (r1 : Int) (a2 : Int) : Int := bif g_Vs_l20Rd_odd_0 r0 (valO (g_Ls_l20Disk_0 a2 (0 : Int) [] r0 (g_pick r0 r1 (10 : Int), (0 : Int), [], IntKind.wrap IntKind.i64 (r1 + (1 : Int))))).2.2 a2 then bif g_pick r0 (g_Vs_l20Rd_odd_2 r0 (valO (g_Ls_l20Disk_0 a2 (0 : Int) [] r0 (g_pick r0 r1 (10 : Int), (0 : Int), [], IntKind.wrap IntKind.i64 (r1 + (1 : Int))))).2.2 a2) (3 : Int) == (0 : Int) then at_ (Ty.int IntKind.i64) [(-1 : Int), IntKind.wrap IntKind.i64 ((↑(List.length (valO (g_Ls_l20Disk_0 a2 (0 : Int) [] r0 (g_pick r0 r1 (10 : Int), (0 : Int), [], IntKind.wrap IntKind.i64 (r1 + (1 : Int))))).2.1) : Int) + (1 : Int))] (Int.toNat (g_pick r0 (IntKind.wrap IntKind.i64 (g_Vs_l20Rd_odd_2 r0 (valO (g_Ls_l20Disk_0 a2 (0 : Int) [] r0 (g_pick r0 r1 (10 : Int), (0 : Int), [], IntKind.wrap IntKind.i64 (r1 + (1 : Int))))).2.2 a2 + (1 : Int))) (2 : Int))) else bif g_pick r0 (g_Vs_l20Rd_odd_2 r0 (valO (g_Ls_l20Disk_0 a2 (0 : Int) [] r0 (g_pick r0 r1 (10 : Int), (0 : Int), [], IntKind.wrap IntKind.i64 (r1 + (1 : Int))))).2.2 a2) (3 : Int) == (1 : Int) then (valO (g_Ls_l20Disk_0 a2 (0 : Int) [] r0 (g_pick r0 r1 (10 : Int), (0 : Int), [], IntKind.wrap IntKind.i64 (r1 + (1 : Int))))).1 else (valO (g_Ls_l20Disk_0 a2 (0 : Int) [] r0 (g_pick r0 r1 (10 : Int), (0 : Int), [], IntKind.wrap IntKind.i64 (r1 + (1 : Int))))).1 else (valO (g_Ls_l20Disk_0 a2 (0 : Int) [] r0 (g_pick r0 r1 (10 : Int), (0 : Int), [], IntKind.wrap IntKind.i64 (r1 + (1 : Int))))).1
noncomputable def g_Vs_l20Disk_2 (r0 : List Int) (r1 : Int) (a2 : Int) : List (Int) := bif g_Vs_l20Rd_odd_0 r0 (valO (g_Ls_l20Disk_0 a2 (0 : Int) [] r0 (g_pick r0 r1 (10 : Int), (0 : Int), [], IntKind.wrap IntKind.i64 (r1 + (1 : Int))))).2.2 a2 then bif g_pick r0 (g_Vs_l20Rd_odd_2 r0 (valO (g_Ls_l20Disk_0 a2 (0 : Int) [] r0 (g_pick r0 r1 (10 : Int), (0 : Int), [], IntKind.wrap IntKind.i64 (r1 + (1 : Int))))).2.2 a2) (3 : Int) == (0 : Int) then r0 else bif g_pick r0 (g_Vs_l20Rd_odd_2 r0 (valO (g_Ls_l20Disk_0 a2 (0 : Int) [] r0 (g_pick r0 r1 (10 : Int), (0 : Int), [], IntKind.wrap IntKind.i64 (r1 + (1 : Int))))).2.2 a2) (3 : Int) == (1 : Int) then r0 else r0 else r0
noncomputable def g_Vs_l20Disk_3 (r0 : List Int) (r1 : Int) (a2 : Int) : Int := bif g_Vs_l20Rd_odd_0 r0 (valO (g_Ls_l20Disk_0 a2 (0 : Int) [] r0 (g_pick r0 r1 (10 : Int), (0 : Int), [], IntKind.wrap IntKind.i64 (r1 + (1 : Int))))).2.2 a2 then bif g_pick r0 (g_Vs_l20Rd_odd_2 r0 (valO (g_Ls_l20Disk_0 a2 (0 : Int) [] r0 (g_pick r0 r1 (10 : Int), (0 : Int), [], IntKind.wrap IntKind.i64 (r1 + (1 : Int))))).2.2 a2) (3 : Int) == (0 : Int) then IntKind.wrap IntKind.i64 (IntKind.wrap IntKind.i64 (g_Vs_l20Rd_odd_2 r0 (valO (g_Ls_l20Disk_0 a2 (0 : Int) [] r0 (g_pick r0 r1 (10 : Int), (0 : Int), [], IntKind.wrap IntKind.i64 (r1 + (1 : Int))))).2.2 a2 + (1 : Int)) + (1 : Int)) else bif g_pick r0 (g_Vs_l20Rd_odd_2 r0 (valO (g_Ls_l20Disk_0 a2 (0 : Int) [] r0 (g_pick r0 r1 (10 : Int), (0 : Int), [], IntKind.wrap IntKind.i64 (r1 + (1 : Int))))).2.2 a2) (3 : Int) == (1 : Int) then g_Vs_l20Note_5 r0 (IntKind.wrap IntKind.i64 (g_Vs_l20Rd_odd_2 r0 (valO (g_Ls_l20Disk_0 a2 (0 : Int) [] r0 (g_pick r0 r1 (10 : Int), (0 : Int), [], IntKind.wrap IntKind.i64 (r1 + (1 : Int))))).2.2 a2 + (1 : Int))) (1 : Int) else IntKind.wrap IntKind.i64 (g_Vs_l20Rd_odd_2 r0 (valO (g_Ls_l20Disk_0 a2 (0 : Int) [] r0 (g_pick r0 r1 (10 : Int), (0 : Int), [], IntKind.wrap IntKind.i64 (r1 + (1 : Int))))).2.2 a2 + (1 : Int)) else g_Vs_l20Rd_odd_2 r0 (valO (g_Ls_l20Disk_0 a2 (0 : Int) [] r0 (g_pick r0 r1 (10 : Int), (0 : Int), [], IntKind.wrap IntKind.i64 (r1 + (1 : Int))))).2.2 a2
noncomputable def Fs_l20Disk : FSem := fun ys => match ys with
  | [.val true [.sl .any 5 (.int .u8) r0, .int .i64 r1], .val false [.int .i64 a2]] => some ((g_As_l20Disk r0 r1 a2), .val true [.own .any false 79 (.pair (.int .i64) (.pair (.int .i64) (.pair (.sl 9 .str) (.sl 38 (.pair .str (.pair .bool (.sl 3 (.int .i64)))))))) (g_Vs_l20Disk_0 r0 r1 a2), .int .i64 (g_Vs_l20Disk_1 r0 r1 a2)], [[.sl .any 5 (.int .u8) (g_Vs_l20Disk_2 r0 r1 a2), .int .i64 (g_Vs_l20Disk_3 r0 r1 a2)]])
  | _ => none
theorem vs_l20Disk (r0 : List Int) (r1 : Int) (a2 : Int) : collapseH .sh Es_l20Disk Os_l20Disk_2 (execFn Es_l20Disk Go.Proofs.Tryd.f118 mss_l20Disk [.val true [.sl .any 5 (.int .u8) r0, .int .i64 r1], .val false [.int .i64 a2]]) = some ((g_As_l20Disk r0 r1 a2), .val true [.own .any false 79 (.pair (.int .i64) (.pair (.int .i64) (.pair (.sl 9 .str) (.sl 38 (.pair .str (.pair .bool (.sl 3 (.int .i64)))))))) (g_Vs_l20Disk_0 r0 r1 a2), .int .i64 (g_Vs_l20Disk_1 r0 r1 a2)], [[.sl .any 5 (.int .u8) (g_Vs_l20Disk_2 r0 r1 a2), .int .i64 (g_Vs_l20Disk_3 r0 r1 a2)]]) := by kernel_rfl
theorem ss_l20Disk : Sound Go.Proofs.Tryd.prog 118 mss_l20Disk Fs_l20Disk := by
  refine fn_gen goods_l20Disk (by kernel_rfl) .sh (fn := Go.Proofs.Tryd.f118) (c := (Go.Proofs.Tryd.f118.body.getD .skip)) (o := Os_l20Disk_2) (k := 2) (by kernel_rfl) (by kernel_rfl) (by kernel_rfl) (by kernel_rfl) (by decide) ks_l20Disk_2 ?_
  intro ys r outs h
  unfold Fs_l20Disk at h
  split at h
  · exact (vs_l20Disk _ _ _).trans h
  · cases h
end Go.Proofs.YtkjeicijcecmlaaDoor.E
end
section
namespace Go.Proofs.YtkjeicijcecmlaaDoor.E
open Go
set_option maxRecDepth 100000
set_option linter.all false
noncomputable def mss_l20DiskR : List PM := mss_l20Disk
theorem sames_l20Disk (r0 : List Int) (r1 : Int) (a2 : Int) : g_Vs_l20Disk_2 r0 r1 a2 = r0 := by
  unfold g_Vs_l20Disk_2
  simp only [Bool.cond_self]
noncomputable def Fs_l20DiskR : FSem := fun ys => match ys with
  | [.val true [.sl .any 5 (.int .u8) r0, .int .i64 r1], .val false [.int .i64 a2]] => some ((g_As_l20Disk r0 r1 a2), .val true [.own .any false 79 (.pair (.int .i64) (.pair (.int .i64) (.pair (.sl 9 .str) (.sl 38 (.pair .str (.pair .bool (.sl 3 (.int .i64)))))))) (g_Vs_l20Disk_0 r0 r1 a2), .int .i64 (g_Vs_l20Disk_1 r0 r1 a2)], [[.sl .any 5 (.int .u8) r0, .int .i64 (g_Vs_l20Disk_3 r0 r1 a2)]])
  | _ => none
theorem ss_l20DiskR : Sound Go.Proofs.Tryd.prog 118 mss_l20DiskR Fs_l20DiskR := by
  refine ⟨ss_l20Disk.fn, fun w S ψ ys vs r outs hF hh hg => ss_l20Disk.calls w S ψ ys vs r outs (Eq.trans ?_ hF) hh hg⟩
  unfold Fs_l20DiskR at hF ⊢
  split at hF
  · rename_i  r0 r1 a2
    show (some ((g_As_l20Disk r0 r1 a2), .val true [.own .any false 79 (.pair (.int .i64) (.pair (.int .i64) (.pair (.sl 9 .str) (.sl 38 (.pair .str (.pair .bool (.sl 3 (.int .i64)))))))) (g_Vs_l20Disk_0 r0 r1 a2), .int .i64 (g_Vs_l20Disk_1 r0 r1 a2)], [[.sl .any 5 (.int .u8) (g_Vs_l20Disk_2 r0 r1 a2), .int .i64 (g_Vs_l20Disk_3 r0 r1 a2)]]) : Option (Bool × RV × List (List Cell))) = _
    rw [sames_l20Disk]
  · cases hF
end Go.Proofs.YtkjeicijcecmlaaDoor.E
end
section
namespace Go.Proofs.YtkjeicijcecmlaaDoor.E
open Go
set_option maxRecDepth 100000
set_option maxHeartbeats 0
set_option linter.all false
noncomputable def Es_l20Open : Env where
  tt := mkTI Go.Proofs.Tryd.prog
  fn := fun _ => none
  bxf := fun _ => none
  mv := []
  keep := fun _ => []
  keepB := fun _ => []
  keepX := fun _ => []
  keepXB := fun _ => []
theorem goodFs_l20Open : ∀ f ms F, Es_l20Open.fn f = some (ms, F) → Sound Go.Proofs.Tryd.prog f ms F := fun f ms F h => by cases h
theorem goodBs_l20Open : ∀ f ms F, Es_l20Open.bxf f = some (ms, F) → SoundB Go.Proofs.Tryd.prog f ms F := fun f ms F h => by cases h
theorem goods_l20Open : Good Go.Proofs.Tryd.prog Es_l20Open := ⟨rfl, goodFs_l20Open, goodBs_l20Open⟩
noncomputable def Os_l20Open_0 : Orc := fun _ _ => none
noncomputable def mss_l20Open : List PM := [.fz]
noncomputable def lss_l20Open : List (Nat × Code) := loopsAll 0 (Go.Proofs.Tryd.f72.body.getD .skip)

theorem ks_l20Open_0 : OrcOk Es_l20Open Os_l20Open_0 lss_l20Open 0 := orcOk_none
noncomputable def g_As_l20Open (a0 : List (Int)) : Bool := Bool.rec (!decide ((↑(List.length a0) : Int) > (2000 : Int)) && true) true (decide ((0 : Int) ≤ (2000 : Int) ∧ (2000 : Int) ≤ (↑(List.length a0) : Int)) && true)
noncomputable def g_Vs_l20Open_0 (a0 : List (Int)) : List (Int) := bif decide ((↑(List.length a0) : Int) > (2000 : Int)) then List.drop (nat_lit 0) (List.take (nat_lit 2000) a0) else a0
noncomputable def g_Vs_l20Open_1 (a0 : List (Int)) : Int := bif decide ((↑(List.length a0) : Int) > (2000 : Int)) then (0 : Int) else (0 : Int)
noncomputable def Fs_l20Open : List RV → Option (Bool × List Cell × List (List Cell)) := fun ys => match ys with
  | [.val false [.sl .any 5 (.int .u8) a0]] => some ((g_As_l20Open a0), [.sl .any 5 (.int .u8) (g_Vs_l20Open_0 a0), .int .i64 (g_Vs_l20Open_1 a0)], [])
  | _ => none
theorem vs_l20Open (a0 : List (Int)) : collapse Es_l20Open Os_l20Open_0 (execFnB Es_l20Open Go.Proofs.Tryd.f72 mss_l20Open 2 [.val false [.sl .any 5 (.int .u8) a0]]) = some ((g_As_l20Open a0), .val true [.sl .any 5 (.int .u8) (g_Vs_l20Open_0 a0), .int .i64 (g_Vs_l20Open_1 a0)], []) := by kernel_rfl
theorem ss_l20Open : SoundB Go.Proofs.Tryd.prog 72 mss_l20Open Fs_l20Open := by
  refine fn_genB goods_l20Open (by kernel_rfl) (fn := Go.Proofs.Tryd.f72) (c := (Go.Proofs.Tryd.f72.body.getD .skip)) (o := Os_l20Open_0) (k := 0) (tr := 2) (by kernel_rfl) (by kernel_rfl) (by kernel_rfl) (by kernel_rfl) (by decide) (by kernel_rfl) (by decide) ks_l20Open_0 ?_
  intro ys r outs h
  unfold Fs_l20Open at h
  split at h
  · simp only [Option.some.injEq, Prod.mk.injEq] at h
    obtain ⟨h1, h2, h3⟩ := h
    refine ⟨h3.symm, (vs_l20Open _).trans ?_⟩
    rw [h1, h2]
  · cases h
end Go.Proofs.YtkjeicijcecmlaaDoor.E
end
section
namespace Go.Proofs.YtkjeicijcecmlaaDoor.E
open Go
set_option maxRecDepth 100000
set_option maxHeartbeats 0
set_option linter.all false
noncomputable def Es_DrawDiskLocks : Env where
  tt := mkTI Go.Proofs.Tryd.prog
  fn := fun f => match f with
    | 118 => some (mss_l20DiskR, FSem.wk mss_l20DiskR Fs_l20DiskR)
    | _ => none
  bxf := fun f => match f with
    | 72 => some (mss_l20Open, Fs_l20Open)
    | _ => none
  mv := []
  keep := fun _ => []
  keepB := fun _ => []
  keepX := fun _ => []
  keepXB := fun _ => []
theorem goodFs_DrawDiskLocks : ∀ f ms F, Es_DrawDiskLocks.fn f = some (ms, F) → Sound Go.Proofs.Tryd.prog f ms F := fun f ms F h => by
  unfold Es_DrawDiskLocks at h
  dsimp only at h
  split at h
  · injection h with h; injection h with e1 e2; subst e1 e2; exact Sound.wk ss_l20DiskR
  · cases h
theorem goodBs_DrawDiskLocks : ∀ f ms F, Es_DrawDiskLocks.bxf f = some (ms, F) → SoundB Go.Proofs.Tryd.prog f ms F := fun f ms F h => by
  unfold Es_DrawDiskLocks at h
  dsimp only at h
  split at h
  · injection h with h; injection h with e1 e2; subst e1 e2; exact ss_l20Open
  · cases h
theorem goods_DrawDiskLocks : Good Go.Proofs.Tryd.prog Es_DrawDiskLocks := ⟨rfl, goodFs_DrawDiskLocks, goodBs_DrawDiskLocks⟩
noncomputable def Os_DrawDiskLocks_0 : Orc := fun _ _ => none
noncomputable def mss_DrawDiskLocks : List PM := [.fz]
noncomputable def lss_DrawDiskLocks : List (Nat × Code) := loopsAll 0 (Go.Proofs.Tryd.f57.body.getD .skip)

theorem ks_DrawDiskLocks_0 : OrcOk Es_DrawDiskLocks Os_DrawDiskLocks_0 lss_DrawDiskLocks 0 := orcOk_none
noncomputable def g_As_DrawDiskLocks (a0 : List (Int)) : Bool := g_As_l20Open a0 && g_As_l20Disk (g_Vs_l20Open_0 a0) (g_Vs_l20Open_1 a0) (9 : Int)
noncomputable def g_Vs_DrawDiskLocks_0 (a0 : List (Int)) : List ((Int) × ((Int) × ((List (ByteArray)) × (List ((ByteArray) × ((Bool) × (List (Int)))))))) := g_Vs_l20Disk_0 (g_Vs_l20Open_0 a0) (g_Vs_l20Open_1 a0) (9 : Int)
noncomputable def g_Vs_DrawDiskLocks_1 (a0 : List (Int)) : Int := g_Vs_l20Disk_1 (g_Vs_l20Open_0 a0) (g_Vs_l20Open_1 a0) (9 : Int)
noncomputable def Fs_DrawDiskLocks : FSem := fun ys => match ys with
  | [.val false [.sl .any 5 (.int .u8) a0]] => some ((g_As_DrawDiskLocks a0), .val true [.own .any false 79 (.pair (.int .i64) (.pair (.int .i64) (.pair (.sl 9 .str) (.sl 38 (.pair .str (.pair .bool (.sl 3 (.int .i64)))))))) (g_Vs_DrawDiskLocks_0 a0), .int .i64 (g_Vs_DrawDiskLocks_1 a0)], [])
  | _ => none
theorem vs_DrawDiskLocks (a0 : List (Int)) : collapseH .std Es_DrawDiskLocks Os_DrawDiskLocks_0 (execFn Es_DrawDiskLocks Go.Proofs.Tryd.f57 mss_DrawDiskLocks [.val false [.sl .any 5 (.int .u8) a0]]) = some ((g_As_DrawDiskLocks a0), .val true [.own .any false 79 (.pair (.int .i64) (.pair (.int .i64) (.pair (.sl 9 .str) (.sl 38 (.pair .str (.pair .bool (.sl 3 (.int .i64)))))))) (g_Vs_DrawDiskLocks_0 a0), .int .i64 (g_Vs_DrawDiskLocks_1 a0)], []) := by kernel_rfl
theorem ss_DrawDiskLocks : Sound Go.Proofs.Tryd.prog 57 mss_DrawDiskLocks Fs_DrawDiskLocks := by
  refine fn_gen goods_DrawDiskLocks (by kernel_rfl) .std (fn := Go.Proofs.Tryd.f57) (c := (Go.Proofs.Tryd.f57.body.getD .skip)) (o := Os_DrawDiskLocks_0) (k := 0) (by kernel_rfl) (by kernel_rfl) (by kernel_rfl) (by kernel_rfl) (by decide) ks_DrawDiskLocks_0 ?_
  intro ys r outs h
  unfold Fs_DrawDiskLocks at h
  split at h
  · exact (vs_DrawDiskLocks _).trans h
  · cases h
end Go.Proofs.YtkjeicijcecmlaaDoor.E
end
section
namespace Go.Proofs.YtkjeicijcecmlaaDoor.E
open Go
set_option maxRecDepth 100000
set_option maxHeartbeats 0
set_option linter.all false
noncomputable def Es_DrawDiskOpen : Env where
  tt := mkTI Go.Proofs.Tryd.prog
  fn := fun f => match f with
    | 118 => some (mss_l20DiskR, FSem.wk mss_l20DiskR Fs_l20DiskR)
    | _ => none
  bxf := fun f => match f with
    | 72 => some (mss_l20Open, Fs_l20Open)
    | _ => none
  mv := []
  keep := fun _ => []
  keepB := fun _ => []
  keepX := fun _ => []
  keepXB := fun _ => []
theorem goodFs_DrawDiskOpen : ∀ f ms F, Es_DrawDiskOpen.fn f = some (ms, F) → Sound Go.Proofs.Tryd.prog f ms F := fun f ms F h => by
  unfold Es_DrawDiskOpen at h
  dsimp only at h
  split at h
  · injection h with h; injection h with e1 e2; subst e1 e2; exact Sound.wk ss_l20DiskR
  · cases h
theorem goodBs_DrawDiskOpen : ∀ f ms F, Es_DrawDiskOpen.bxf f = some (ms, F) → SoundB Go.Proofs.Tryd.prog f ms F := fun f ms F h => by
  unfold Es_DrawDiskOpen at h
  dsimp only at h
  split at h
  · injection h with h; injection h with e1 e2; subst e1 e2; exact ss_l20Open
  · cases h
theorem goods_DrawDiskOpen : Good Go.Proofs.Tryd.prog Es_DrawDiskOpen := ⟨rfl, goodFs_DrawDiskOpen, goodBs_DrawDiskOpen⟩
noncomputable def Os_DrawDiskOpen_0 : Orc := fun _ _ => none
noncomputable def mss_DrawDiskOpen : List PM := [.fz]
noncomputable def lss_DrawDiskOpen : List (Nat × Code) := loopsAll 0 (Go.Proofs.Tryd.f56.body.getD .skip)

theorem ks_DrawDiskOpen_0 : OrcOk Es_DrawDiskOpen Os_DrawDiskOpen_0 lss_DrawDiskOpen 0 := orcOk_none
noncomputable def g_As_DrawDiskOpen (a0 : List (Int)) : Bool := g_As_l20Open a0 && g_As_l20Disk (g_Vs_l20Open_0 a0) (g_Vs_l20Open_1 a0) (9 : Int)
noncomputable def g_Vs_DrawDiskOpen_0 (a0 : List (Int)) : List ((Int) × ((Int) × ((List (ByteArray)) × (List ((ByteArray) × ((Bool) × (List (Int)))))))) := g_Vs_l20Disk_0 (g_Vs_l20Open_0 a0) (g_Vs_l20Open_1 a0) (9 : Int)
noncomputable def g_Vs_DrawDiskOpen_1 (a0 : List (Int)) : Int := g_Vs_l20Disk_1 (g_Vs_l20Open_0 a0) (g_Vs_l20Open_1 a0) (9 : Int)
noncomputable def Fs_DrawDiskOpen : FSem := fun ys => match ys with
  | [.val false [.sl .any 5 (.int .u8) a0]] => some ((g_As_DrawDiskOpen a0), .val true [.own .any false 79 (.pair (.int .i64) (.pair (.int .i64) (.pair (.sl 9 .str) (.sl 38 (.pair .str (.pair .bool (.sl 3 (.int .i64)))))))) (g_Vs_DrawDiskOpen_0 a0), .int .i64 (g_Vs_DrawDiskOpen_1 a0)], [])
  | _ => none
theorem vs_DrawDiskOpen (a0 : List (Int)) : collapseH .std Es_DrawDiskOpen Os_DrawDiskOpen_0 (execFn Es_DrawDiskOpen Go.Proofs.Tryd.f56 mss_DrawDiskOpen [.val false [.sl .any 5 (.int .u8) a0]]) = some ((g_As_DrawDiskOpen a0), .val true [.own .any false 79 (.pair (.int .i64) (.pair (.int .i64) (.pair (.sl 9 .str) (.sl 38 (.pair .str (.pair .bool (.sl 3 (.int .i64)))))))) (g_Vs_DrawDiskOpen_0 a0), .int .i64 (g_Vs_DrawDiskOpen_1 a0)], []) := by kernel_rfl
theorem ss_DrawDiskOpen : Sound Go.Proofs.Tryd.prog 56 mss_DrawDiskOpen Fs_DrawDiskOpen := by
  refine fn_gen goods_DrawDiskOpen (by kernel_rfl) .std (fn := Go.Proofs.Tryd.f56) (c := (Go.Proofs.Tryd.f56.body.getD .skip)) (o := Os_DrawDiskOpen_0) (k := 0) (by kernel_rfl) (by kernel_rfl) (by kernel_rfl) (by kernel_rfl) (by decide) ks_DrawDiskOpen_0 ?_
  intro ys r outs h
  unfold Fs_DrawDiskOpen at h
  split at h
  · exact (vs_DrawDiskOpen _).trans h
  · cases h
end Go.Proofs.YtkjeicijcecmlaaDoor.E
end
section
namespace Go.Proofs.YtkjeicijcecmlaaDoor.E
open Go
set_option maxRecDepth 100000
set_option maxHeartbeats 0
set_option linter.all false
noncomputable def Ew_jaHas : Env where
  tt := mkTI Go.Proofs.Tryd.prog
  fn := fun _ => none
  bxf := fun _ => none
  mv := []
  keep := fun b => match b with
    | 0 => [(0, false), (1, false), (5, false)]
    | _ => []
  keepB := fun b => match b with
    | 0 => []
    | _ => []
  keepX := fun b => match b with
    | 0 => [(4, false)]
    | _ => []
  keepXB := fun b => match b with
    | 0 => []
    | _ => []
theorem goodFw_jaHas : ∀ f ms F, Ew_jaHas.fn f = some (ms, F) → Sound Go.Proofs.Tryd.prog f ms F := fun f ms F h => by cases h
theorem goodBw_jaHas : ∀ f ms F, Ew_jaHas.bxf f = some (ms, F) → SoundB Go.Proofs.Tryd.prog f ms F := fun f ms F h => by cases h
theorem goodw_jaHas : Good Go.Proofs.Tryd.prog Ew_jaHas := ⟨rfl, goodFw_jaHas, goodBw_jaHas⟩
noncomputable def Ow_jaHas_0 : Orc := fun _ _ => none
noncomputable def msw_jaHas : List PM := [.rd, .own]
noncomputable def lsw_jaHas : List (Nat × Code) := loopsAll 0 (Go.Proofs.Tryd.f62.body.getD .skip)
noncomputable def cw_jaHas_0 : Code := (loopOf 0 (Go.Proofs.Tryd.f62.body.getD .skip)).getD .skip
theorem lseqw_jaHas : lsw_jaHas = [(0, cw_jaHas_0)] := by kernel_rfl
theorem mw_jaHas_0 : ∀ p, p ∈ lsw_jaHas → p.1 = 0 → p.2 = cw_jaHas_0 := by
  intro p hp
  rw [lseqw_jaHas] at hp
  simp only [List.mem_cons, List.not_mem_nil, or_false] at hp
  subst hp; simp
theorem kw_jaHas_0 : OrcOk Ew_jaHas Ow_jaHas_0 lsw_jaHas 0 := orcOk_none
noncomputable def hw_jaHas_0 (y0 : List (ByteArray)) (y1 : ByteArray) (y2 : Int) : List (Pl × LV) := [(.T 0, .t (.val false [.sl .any 9 .str y0])), (.T 1, .t (.val false [.str y1])), (.T 5, .t (.val false [.int .i64 y2]))]
noncomputable def g_Sw_jaHas_0 (y0 : List (ByteArray)) (y1 : ByteArray) : ((Int)) → RT ((Int)) (((Bool)) ⊕ (Unit))
  | y2 => .br (true) (.br (decide (y2 < (↑(List.length y0) : Int))) (.br (decide ((0 : Int) ≤ y2 ∧ y2 < (↑(List.length y0) : Int))) (.br (true) (.br (ByteArray.toList (at_ Ty.str y0 (Int.toNat y2)) == ByteArray.toList y1) (.out (.inl true)) (.br (true) (.go (IntKind.wrap IntKind.i64 (y2 + (1 : Int)))) (.bad))) (.bad)) (.bad)) (.out (.inr (())))) (.bad)
noncomputable def g_Lw_jaHas_0 (y0 : List (ByteArray)) (y1 : ByteArray) (x : (Int)) : Option (((Bool)) ⊕ (Unit)) := loopO (g_Sw_jaHas_0 y0 y1) x
noncomputable def xw_jaHas_0 (y0 : List (ByteArray)) (y1 : ByteArray) : (((Bool)) ⊕ (Unit)) → Ex × List (Pl × LV) := fun
  | .inl r => (.ret, [(.T 4, .t (.val false [.bool r]))])
  | .inr (r) => (.exit 0, [(.T 4, .t (.val false [.undef]))])
noncomputable def Ow_jaHas_1 : Orc := fun b h => match b, h with
  | 0, [(.T 0, .t (.val false [.sl .any 9 .str y0])), (.T 1, .t (.val false [.str y1])), (.T 5, .t (.val false [.int .i64 y2]))] => some (okO (g_Lw_jaHas_0 y0 y1 y2), (.br (isL (valO (g_Lw_jaHas_0 y0 y1 y2))) (.leaf .ret [(.T 4, .t (.val false [.bool (getL (valO (g_Lw_jaHas_0 y0 y1 y2)))]))]) (.leaf (.exit 0) [(.T 4, .t (.val false [.undef]))])))
  | b, h => Ow_jaHas_0 b h
theorem bw_jaHas_0 (y0 : List (ByteArray)) (y1 : ByteArray) (y2 : Int) : Tr.bt Ew_jaHas Ow_jaHas_0 (exec Ew_jaHas 0 cw_jaHas_0 (St.of (hw_jaHas_0 y0 y1 y2)) (leafRd Ew_jaHas 0)) = (g_Sw_jaHas_0 y0 y1 y2).bt (fun (y2 : (Int)) => (hw_jaHas_0 y0 y1 y2)) (xw_jaHas_0 y0 y1) := by kernel_rfl
theorem kw_jaHas_1 : OrcOk Ew_jaHas Ow_jaHas_1 lsw_jaHas 1 := orc_add kw_jaHas_0 (fun n p hp h ex h' ho => by
  obtain ⟨b, c⟩ := p
  obtain ⟨xt, h1, h2⟩ := ho
  have h1 : Ow_jaHas_1 b h = some (true, xt) := h1
  unfold Ow_jaHas_1 at h1
  split at h1
  · injection h1 with h1
    injection h1 with e1 e2
    subst e2
    have hc : c = cw_jaHas_0 := mw_jaHas_0 _ hp rfl
    subst hc
    right
    rename_i y0 y1 y2
    have key := LT_step kw_jaHas_0 hp (fun q hq => loopsAll_in _ _ _ _ hp hq) (fun (y2 : (Int)) => (hw_jaHas_0 y0 y1 y2)) (xw_jaHas_0 y0 y1) (g_Sw_jaHas_0 y0 y1) (fun x => by first | exact bw_jaHas_0 y0 y1 x) n (x := y2) (okO_some e1)
    have hx : ∀ r, XT.sel (.br (isL r) (.leaf .ret [(.T 4, .t (.val false [.bool (getL r)]))]) (.leaf (.exit 0) [(.T 4, .t (.val false [.undef]))])) = xw_jaHas_0 y0 y1 r := fun r => by first | rfl | (rcases r with r | r <;> rfl) | (rcases r with r | r | r <;> rfl) | (rcases r with r | r | r | r <;> rfl)
    have h3 := (hx (valO (g_Lw_jaHas_0 y0 y1 y2))).symm.trans h2
    have e3 := congrArg Prod.fst h3
    have e4 := congrArg Prod.snd h3
    simp only at e3 e4
    rw [← e3, ← e4]
    exact key
  · exact .inl ⟨xt, h1, h2⟩)
noncomputable def g_Aw_jaHas (a0 : List (ByteArray)) (a1 : ByteArray) : Bool := okO (g_Lw_jaHas_0 a0 a1 (0 : Int))
noncomputable def g_Vw_jaHas_0 (a0 : List (ByteArray)) (a1 : ByteArray) : Bool := bif isL (valO (g_Lw_jaHas_0 a0 a1 (0 : Int))) then getL (valO (g_Lw_jaHas_0 a0 a1 (0 : Int))) else false
noncomputable def Fw_jaHas : FSem := fun ys => match ys with
  | [.val false [.sl .any 9 .str a0], .val false [.str a1]] => some ((g_Aw_jaHas a0 a1), .val false [.bool (g_Vw_jaHas_0 a0 a1)], [])
  | _ => none
theorem vw_jaHas (a0 : List (ByteArray)) (a1 : ByteArray) : collapseH .std Ew_jaHas Ow_jaHas_1 (execFn Ew_jaHas Go.Proofs.Tryd.f62 msw_jaHas [.val false [.sl .any 9 .str a0], .val false [.str a1]]) = some ((g_Aw_jaHas a0 a1), .val false [.bool (g_Vw_jaHas_0 a0 a1)], []) := by kernel_rfl
theorem sw_jaHas : Sound Go.Proofs.Tryd.prog 62 msw_jaHas Fw_jaHas := by
  refine fn_gen goodw_jaHas (by kernel_rfl) .std (fn := Go.Proofs.Tryd.f62) (c := (Go.Proofs.Tryd.f62.body.getD .skip)) (o := Ow_jaHas_1) (k := 1) (by kernel_rfl) (by kernel_rfl) (by kernel_rfl) (by kernel_rfl) (by decide) kw_jaHas_1 ?_
  intro ys r outs h
  unfold Fw_jaHas at h
  split at h
  · exact (vw_jaHas _ _).trans h
  · cases h
end Go.Proofs.YtkjeicijcecmlaaDoor.E
end
section
namespace Go.Proofs.YtkjeicijcecmlaaDoor.E
open Go
set_option maxRecDepth 100000
set_option maxHeartbeats 0
set_option linter.all false
noncomputable def Ew_jaIn : Env where
  tt := mkTI Go.Proofs.Tryd.prog
  fn := fun _ => none
  bxf := fun _ => none
  mv := []
  keep := fun b => match b with
    | 0 => [(0, false), (1, false), (5, false)]
    | _ => []
  keepB := fun b => match b with
    | 0 => []
    | _ => []
  keepX := fun b => match b with
    | 0 => [(4, false)]
    | _ => []
  keepXB := fun b => match b with
    | 0 => []
    | _ => []
theorem goodFw_jaIn : ∀ f ms F, Ew_jaIn.fn f = some (ms, F) → Sound Go.Proofs.Tryd.prog f ms F := fun f ms F h => by cases h
theorem goodBw_jaIn : ∀ f ms F, Ew_jaIn.bxf f = some (ms, F) → SoundB Go.Proofs.Tryd.prog f ms F := fun f ms F h => by cases h
theorem goodw_jaIn : Good Go.Proofs.Tryd.prog Ew_jaIn := ⟨rfl, goodFw_jaIn, goodBw_jaIn⟩
noncomputable def Ow_jaIn_0 : Orc := fun _ _ => none
noncomputable def msw_jaIn : List PM := [.rd, .own]
noncomputable def lsw_jaIn : List (Nat × Code) := loopsAll 0 (Go.Proofs.Tryd.f60.body.getD .skip)
noncomputable def cw_jaIn_0 : Code := (loopOf 0 (Go.Proofs.Tryd.f60.body.getD .skip)).getD .skip
theorem lseqw_jaIn : lsw_jaIn = [(0, cw_jaIn_0)] := by kernel_rfl
theorem mw_jaIn_0 : ∀ p, p ∈ lsw_jaIn → p.1 = 0 → p.2 = cw_jaIn_0 := by
  intro p hp
  rw [lseqw_jaIn] at hp
  simp only [List.mem_cons, List.not_mem_nil, or_false] at hp
  subst hp; simp
theorem kw_jaIn_0 : OrcOk Ew_jaIn Ow_jaIn_0 lsw_jaIn 0 := orcOk_none
noncomputable def hw_jaIn_0 (y0 : List (Int)) (y1 : Int) (y2 : Int) : List (Pl × LV) := [(.T 0, .t (.val false [.sl .any 3 (.int .i64) y0])), (.T 1, .t (.val false [.int .i64 y1])), (.T 5, .t (.val false [.int .i64 y2]))]
noncomputable def g_Sw_jaIn_0 (y0 : List (Int)) (y1 : Int) : ((Int)) → RT ((Int)) (((Bool)) ⊕ (Unit))
  | y2 => .br (true) (.br (decide (y2 < (↑(List.length y0) : Int))) (.br (decide ((0 : Int) ≤ y2 ∧ y2 < (↑(List.length y0) : Int))) (.br (true) (.br (at_ (Ty.int IntKind.i64) y0 (Int.toNat y2) == y1) (.out (.inl true)) (.br (true) (.go (IntKind.wrap IntKind.i64 (y2 + (1 : Int)))) (.bad))) (.bad)) (.bad)) (.out (.inr (())))) (.bad)
noncomputable def g_Lw_jaIn_0 (y0 : List (Int)) (y1 : Int) (x : (Int)) : Option (((Bool)) ⊕ (Unit)) := loopO (g_Sw_jaIn_0 y0 y1) x
noncomputable def xw_jaIn_0 (y0 : List (Int)) (y1 : Int) : (((Bool)) ⊕ (Unit)) → Ex × List (Pl × LV) := fun
  | .inl r => (.ret, [(.T 4, .t (.val false [.bool r]))])
  | .inr (r) => (.exit 0, [(.T 4, .t (.val false [.undef]))])
noncomputable def Ow_jaIn_1 : Orc := fun b h => match b, h with
  | 0, [(.T 0, .t (.val false [.sl .any 3 (.int .i64) y0])), (.T 1, .t (.val false [.int .i64 y1])), (.T 5, .t (.val false [.int .i64 y2]))] => some (okO (g_Lw_jaIn_0 y0 y1 y2), (.br (isL (valO (g_Lw_jaIn_0 y0 y1 y2))) (.leaf .ret [(.T 4, .t (.val false [.bool (getL (valO (g_Lw_jaIn_0 y0 y1 y2)))]))]) (.leaf (.exit 0) [(.T 4, .t (.val false [.undef]))])))
  | b, h => Ow_jaIn_0 b h
theorem bw_jaIn_0 (y0 : List (Int)) (y1 : Int) (y2 : Int) : Tr.bt Ew_jaIn Ow_jaIn_0 (exec Ew_jaIn 0 cw_jaIn_0 (St.of (hw_jaIn_0 y0 y1 y2)) (leafRd Ew_jaIn 0)) = (g_Sw_jaIn_0 y0 y1 y2).bt (fun (y2 : (Int)) => (hw_jaIn_0 y0 y1 y2)) (xw_jaIn_0 y0 y1) := by kernel_rfl
theorem kw_jaIn_1 : OrcOk Ew_jaIn Ow_jaIn_1 lsw_jaIn 1 := orc_add kw_jaIn_0 (fun n p hp h ex h' ho => by
  obtain ⟨b, c⟩ := p
  obtain ⟨xt, h1, h2⟩ := ho
  have h1 : Ow_jaIn_1 b h = some (true, xt) := h1
  unfold Ow_jaIn_1 at h1
  split at h1
  · injection h1 with h1
    injection h1 with e1 e2
    subst e2
    have hc : c = cw_jaIn_0 := mw_jaIn_0 _ hp rfl
    subst hc
    right
    rename_i y0 y1 y2
    have key := LT_step kw_jaIn_0 hp (fun q hq => loopsAll_in _ _ _ _ hp hq) (fun (y2 : (Int)) => (hw_jaIn_0 y0 y1 y2)) (xw_jaIn_0 y0 y1) (g_Sw_jaIn_0 y0 y1) (fun x => by first | exact bw_jaIn_0 y0 y1 x) n (x := y2) (okO_some e1)
    have hx : ∀ r, XT.sel (.br (isL r) (.leaf .ret [(.T 4, .t (.val false [.bool (getL r)]))]) (.leaf (.exit 0) [(.T 4, .t (.val false [.undef]))])) = xw_jaIn_0 y0 y1 r := fun r => by first | rfl | (rcases r with r | r <;> rfl) | (rcases r with r | r | r <;> rfl) | (rcases r with r | r | r | r <;> rfl)
    have h3 := (hx (valO (g_Lw_jaIn_0 y0 y1 y2))).symm.trans h2
    have e3 := congrArg Prod.fst h3
    have e4 := congrArg Prod.snd h3
    simp only at e3 e4
    rw [← e3, ← e4]
    exact key
  · exact .inl ⟨xt, h1, h2⟩)
noncomputable def g_Aw_jaIn (a0 : List (Int)) (a1 : Int) : Bool := okO (g_Lw_jaIn_0 a0 a1 (0 : Int))
noncomputable def g_Vw_jaIn_0 (a0 : List (Int)) (a1 : Int) : Bool := bif isL (valO (g_Lw_jaIn_0 a0 a1 (0 : Int))) then getL (valO (g_Lw_jaIn_0 a0 a1 (0 : Int))) else false
noncomputable def Fw_jaIn : FSem := fun ys => match ys with
  | [.val false [.sl .any 3 (.int .i64) a0], .val false [.int .i64 a1]] => some ((g_Aw_jaIn a0 a1), .val false [.bool (g_Vw_jaIn_0 a0 a1)], [])
  | _ => none
theorem vw_jaIn (a0 : List (Int)) (a1 : Int) : collapseH .std Ew_jaIn Ow_jaIn_1 (execFn Ew_jaIn Go.Proofs.Tryd.f60 msw_jaIn [.val false [.sl .any 3 (.int .i64) a0], .val false [.int .i64 a1]]) = some ((g_Aw_jaIn a0 a1), .val false [.bool (g_Vw_jaIn_0 a0 a1)], []) := by kernel_rfl
theorem sw_jaIn : Sound Go.Proofs.Tryd.prog 60 msw_jaIn Fw_jaIn := by
  refine fn_gen goodw_jaIn (by kernel_rfl) .std (fn := Go.Proofs.Tryd.f60) (c := (Go.Proofs.Tryd.f60.body.getD .skip)) (o := Ow_jaIn_1) (k := 1) (by kernel_rfl) (by kernel_rfl) (by kernel_rfl) (by kernel_rfl) (by decide) kw_jaIn_1 ?_
  intro ys r outs h
  unfold Fw_jaIn at h
  split at h
  · exact (vw_jaIn _ _).trans h
  · cases h
end Go.Proofs.YtkjeicijcecmlaaDoor.E
end
section
namespace Go.Proofs.YtkjeicijcecmlaaDoor.E
open Go
set_option maxRecDepth 100000
set_option maxHeartbeats 0
set_option linter.all false
noncomputable def Ew_jaInts : Env where
  tt := mkTI Go.Proofs.Tryd.prog
  fn := fun _ => none
  bxf := fun _ => none
  mv := []
  keep := fun b => match b with
    | 0 => [(0, false), (1, false), (5, false)]
    | _ => []
  keepB := fun b => match b with
    | 0 => []
    | _ => []
  keepX := fun b => match b with
    | 0 => [(4, false)]
    | _ => []
  keepXB := fun b => match b with
    | 0 => []
    | _ => []
theorem goodFw_jaInts : ∀ f ms F, Ew_jaInts.fn f = some (ms, F) → Sound Go.Proofs.Tryd.prog f ms F := fun f ms F h => by cases h
theorem goodBw_jaInts : ∀ f ms F, Ew_jaInts.bxf f = some (ms, F) → SoundB Go.Proofs.Tryd.prog f ms F := fun f ms F h => by cases h
theorem goodw_jaInts : Good Go.Proofs.Tryd.prog Ew_jaInts := ⟨rfl, goodFw_jaInts, goodBw_jaInts⟩
noncomputable def Ow_jaInts_0 : Orc := fun _ _ => none
noncomputable def msw_jaInts : List PM := [.rd, .rd]
noncomputable def lsw_jaInts : List (Nat × Code) := loopsAll 0 (Go.Proofs.Tryd.f23.body.getD .skip)
noncomputable def cw_jaInts_0 : Code := (loopOf 0 (Go.Proofs.Tryd.f23.body.getD .skip)).getD .skip
theorem lseqw_jaInts : lsw_jaInts = [(0, cw_jaInts_0)] := by kernel_rfl
theorem mw_jaInts_0 : ∀ p, p ∈ lsw_jaInts → p.1 = 0 → p.2 = cw_jaInts_0 := by
  intro p hp
  rw [lseqw_jaInts] at hp
  simp only [List.mem_cons, List.not_mem_nil, or_false] at hp
  subst hp; simp
theorem kw_jaInts_0 : OrcOk Ew_jaInts Ow_jaInts_0 lsw_jaInts 0 := orcOk_none
noncomputable def hw_jaInts_0 (y0 : List (Int)) (y1 : List (Int)) (y2 : Int) : List (Pl × LV) := [(.T 0, .t (.val false [.sl .any 3 (.int .i64) y0])), (.T 1, .t (.val false [.sl .any 3 (.int .i64) y1])), (.T 5, .t (.val false [.int .i64 y2]))]
noncomputable def g_Sw_jaInts_0 (y0 : List (Int)) (y1 : List (Int)) : ((Int)) → RT ((Int)) (((Bool)) ⊕ (Unit))
  | y2 => .br (true) (.br (decide (y2 < (↑(List.length y0) : Int))) (.br (decide ((0 : Int) ≤ y2 ∧ y2 < (↑(List.length y0) : Int))) (.br (decide ((0 : Int) ≤ y2 ∧ y2 < (↑(List.length y1) : Int))) (.br (true) (.br (at_ (Ty.int IntKind.i64) y0 (Int.toNat y2) != at_ (Ty.int IntKind.i64) y1 (Int.toNat y2)) (.out (.inl false)) (.br (true) (.go (IntKind.wrap IntKind.i64 (y2 + (1 : Int)))) (.bad))) (.bad)) (.bad)) (.bad)) (.out (.inr (())))) (.bad)
noncomputable def g_Lw_jaInts_0 (y0 : List (Int)) (y1 : List (Int)) (x : (Int)) : Option (((Bool)) ⊕ (Unit)) := loopO (g_Sw_jaInts_0 y0 y1) x
noncomputable def xw_jaInts_0 (y0 : List (Int)) (y1 : List (Int)) : (((Bool)) ⊕ (Unit)) → Ex × List (Pl × LV) := fun
  | .inl r => (.ret, [(.T 4, .t (.val false [.bool r]))])
  | .inr (r) => (.exit 0, [(.T 4, .t (.val false [.undef]))])
noncomputable def Ow_jaInts_1 : Orc := fun b h => match b, h with
  | 0, [(.T 0, .t (.val false [.sl .any 3 (.int .i64) y0])), (.T 1, .t (.val false [.sl .any 3 (.int .i64) y1])), (.T 5, .t (.val false [.int .i64 y2]))] => some (okO (g_Lw_jaInts_0 y0 y1 y2), (.br (isL (valO (g_Lw_jaInts_0 y0 y1 y2))) (.leaf .ret [(.T 4, .t (.val false [.bool (getL (valO (g_Lw_jaInts_0 y0 y1 y2)))]))]) (.leaf (.exit 0) [(.T 4, .t (.val false [.undef]))])))
  | b, h => Ow_jaInts_0 b h
theorem bw_jaInts_0 (y0 : List (Int)) (y1 : List (Int)) (y2 : Int) : Tr.bt Ew_jaInts Ow_jaInts_0 (exec Ew_jaInts 0 cw_jaInts_0 (St.of (hw_jaInts_0 y0 y1 y2)) (leafRd Ew_jaInts 0)) = (g_Sw_jaInts_0 y0 y1 y2).bt (fun (y2 : (Int)) => (hw_jaInts_0 y0 y1 y2)) (xw_jaInts_0 y0 y1) := by kernel_rfl
theorem kw_jaInts_1 : OrcOk Ew_jaInts Ow_jaInts_1 lsw_jaInts 1 := orc_add kw_jaInts_0 (fun n p hp h ex h' ho => by
  obtain ⟨b, c⟩ := p
  obtain ⟨xt, h1, h2⟩ := ho
  have h1 : Ow_jaInts_1 b h = some (true, xt) := h1
  unfold Ow_jaInts_1 at h1
  split at h1
  · injection h1 with h1
    injection h1 with e1 e2
    subst e2
    have hc : c = cw_jaInts_0 := mw_jaInts_0 _ hp rfl
    subst hc
    right
    rename_i y0 y1 y2
    have key := LT_step kw_jaInts_0 hp (fun q hq => loopsAll_in _ _ _ _ hp hq) (fun (y2 : (Int)) => (hw_jaInts_0 y0 y1 y2)) (xw_jaInts_0 y0 y1) (g_Sw_jaInts_0 y0 y1) (fun x => by first | exact bw_jaInts_0 y0 y1 x) n (x := y2) (okO_some e1)
    have hx : ∀ r, XT.sel (.br (isL r) (.leaf .ret [(.T 4, .t (.val false [.bool (getL r)]))]) (.leaf (.exit 0) [(.T 4, .t (.val false [.undef]))])) = xw_jaInts_0 y0 y1 r := fun r => by first | rfl | (rcases r with r | r <;> rfl) | (rcases r with r | r | r <;> rfl) | (rcases r with r | r | r | r <;> rfl)
    have h3 := (hx (valO (g_Lw_jaInts_0 y0 y1 y2))).symm.trans h2
    have e3 := congrArg Prod.fst h3
    have e4 := congrArg Prod.snd h3
    simp only at e3 e4
    rw [← e3, ← e4]
    exact key
  · exact .inl ⟨xt, h1, h2⟩)
noncomputable def g_Aw_jaInts (a0 : List (Int)) (a1 : List (Int)) : Bool := (↑(List.length a0) : Int) != (↑(List.length a1) : Int) || okO (g_Lw_jaInts_0 a0 a1 (0 : Int))
noncomputable def g_Vw_jaInts_0 (a0 : List (Int)) (a1 : List (Int)) : Bool := bif (↑(List.length a0) : Int) != (↑(List.length a1) : Int) then false else bif isL (valO (g_Lw_jaInts_0 a0 a1 (0 : Int))) then getL (valO (g_Lw_jaInts_0 a0 a1 (0 : Int))) else true
noncomputable def Fw_jaInts : FSem := fun ys => match ys with
  | [.val false [.sl .any 3 (.int .i64) a0], .val false [.sl .any 3 (.int .i64) a1]] => some ((g_Aw_jaInts a0 a1), .val false [.bool (g_Vw_jaInts_0 a0 a1)], [])
  | _ => none
theorem vw_jaInts (a0 : List (Int)) (a1 : List (Int)) : collapseH .std Ew_jaInts Ow_jaInts_1 (execFn Ew_jaInts Go.Proofs.Tryd.f23 msw_jaInts [.val false [.sl .any 3 (.int .i64) a0], .val false [.sl .any 3 (.int .i64) a1]]) = some ((g_Aw_jaInts a0 a1), .val false [.bool (g_Vw_jaInts_0 a0 a1)], []) := by kernel_rfl
theorem sw_jaInts : Sound Go.Proofs.Tryd.prog 23 msw_jaInts Fw_jaInts := by
  refine fn_gen goodw_jaInts (by kernel_rfl) .std (fn := Go.Proofs.Tryd.f23) (c := (Go.Proofs.Tryd.f23.body.getD .skip)) (o := Ow_jaInts_1) (k := 1) (by kernel_rfl) (by kernel_rfl) (by kernel_rfl) (by kernel_rfl) (by decide) kw_jaInts_1 ?_
  intro ys r outs h
  unfold Fw_jaInts at h
  split at h
  · exact (vw_jaInts _ _).trans h
  · cases h
end Go.Proofs.YtkjeicijcecmlaaDoor.E
end
section
namespace Go.Proofs.YtkjeicijcecmlaaDoor.E
open Go
set_option maxRecDepth 100000
set_option maxHeartbeats 0
set_option linter.all false
noncomputable def Ew_jaOk : Env where
  tt := mkTI Go.Proofs.Tryd.prog
  fn := fun f => match f with
    | 77 => some (msi_WrtOk, FSem.wk msi_WrtOk Fi_WrtOk)
    | _ => none
  bxf := fun _ => none
  mv := []
  keep := fun _ => []
  keepB := fun _ => []
  keepX := fun _ => []
  keepXB := fun _ => []
theorem goodFw_jaOk : ∀ f ms F, Ew_jaOk.fn f = some (ms, F) → Sound Go.Proofs.Tryd.prog f ms F := fun f ms F h => by
  unfold Ew_jaOk at h
  dsimp only at h
  split at h
  · injection h with h; injection h with e1 e2; subst e1 e2; exact Sound.wk si_WrtOk
  · cases h
theorem goodBw_jaOk : ∀ f ms F, Ew_jaOk.bxf f = some (ms, F) → SoundB Go.Proofs.Tryd.prog f ms F := fun f ms F h => by cases h
theorem goodw_jaOk : Good Go.Proofs.Tryd.prog Ew_jaOk := ⟨rfl, goodFw_jaOk, goodBw_jaOk⟩
noncomputable def Ow_jaOk_0 : Orc := fun _ _ => none
noncomputable def msw_jaOk : List PM := []
noncomputable def lsw_jaOk : List (Nat × Code) := loopsAll 0 (Go.Proofs.Tryd.f16.body.getD .skip)

theorem kw_jaOk_0 : OrcOk Ew_jaOk Ow_jaOk_0 lsw_jaOk 0 := orcOk_none
noncomputable def g_Aw_jaOk : Bool := g_Ai_WrtOk (lit [(97 : Nat), (49 : Nat)]) false [(1 : Int)]
noncomputable def g_Vw_jaOk_0 : Bool := g_Vi_WrtOk_0 (lit [(97 : Nat), (49 : Nat)]) false [(1 : Int)]
noncomputable def Fw_jaOk : FSem := fun ys => match ys with
  | [] => some (g_Aw_jaOk, .val false [.bool g_Vw_jaOk_0], [])
  | _ => none
theorem vw_jaOk : collapseH .std Ew_jaOk Ow_jaOk_0 (execFn Ew_jaOk Go.Proofs.Tryd.f16 msw_jaOk []) = some (g_Aw_jaOk, .val false [.bool g_Vw_jaOk_0], []) := by kernel_rfl
theorem sw_jaOk : Sound Go.Proofs.Tryd.prog 16 msw_jaOk Fw_jaOk := by
  refine fn_gen goodw_jaOk (by kernel_rfl) .std (fn := Go.Proofs.Tryd.f16) (c := (Go.Proofs.Tryd.f16.body.getD .skip)) (o := Ow_jaOk_0) (k := 0) (by kernel_rfl) (by kernel_rfl) (by kernel_rfl) (by kernel_rfl) (by decide) kw_jaOk_0 ?_
  intro ys r outs h
  unfold Fw_jaOk at h
  split at h
  · exact (vw_jaOk).trans h
  · cases h
end Go.Proofs.YtkjeicijcecmlaaDoor.E
end
section
namespace Go.Proofs.YtkjeicijcecmlaaDoor.E
open Go
set_option maxRecDepth 100000
set_option maxHeartbeats 0
set_option linter.all false
noncomputable def Ew_jaTexts : Env where
  tt := mkTI Go.Proofs.Tryd.prog
  fn := fun _ => none
  bxf := fun _ => none
  mv := []
  keep := fun b => match b with
    | 0 => [(0, false), (1, false), (5, false)]
    | _ => []
  keepB := fun b => match b with
    | 0 => []
    | _ => []
  keepX := fun b => match b with
    | 0 => [(4, false)]
    | _ => []
  keepXB := fun b => match b with
    | 0 => []
    | _ => []
theorem goodFw_jaTexts : ∀ f ms F, Ew_jaTexts.fn f = some (ms, F) → Sound Go.Proofs.Tryd.prog f ms F := fun f ms F h => by cases h
theorem goodBw_jaTexts : ∀ f ms F, Ew_jaTexts.bxf f = some (ms, F) → SoundB Go.Proofs.Tryd.prog f ms F := fun f ms F h => by cases h
theorem goodw_jaTexts : Good Go.Proofs.Tryd.prog Ew_jaTexts := ⟨rfl, goodFw_jaTexts, goodBw_jaTexts⟩
noncomputable def Ow_jaTexts_0 : Orc := fun _ _ => none
noncomputable def msw_jaTexts : List PM := [.fz, .rd]
noncomputable def lsw_jaTexts : List (Nat × Code) := loopsAll 0 (Go.Proofs.Tryd.f58.body.getD .skip)
noncomputable def cw_jaTexts_0 : Code := (loopOf 0 (Go.Proofs.Tryd.f58.body.getD .skip)).getD .skip
theorem lseqw_jaTexts : lsw_jaTexts = [(0, cw_jaTexts_0)] := by kernel_rfl
theorem mw_jaTexts_0 : ∀ p, p ∈ lsw_jaTexts → p.1 = 0 → p.2 = cw_jaTexts_0 := by
  intro p hp
  rw [lseqw_jaTexts] at hp
  simp only [List.mem_cons, List.not_mem_nil, or_false] at hp
  subst hp; simp
theorem kw_jaTexts_0 : OrcOk Ew_jaTexts Ow_jaTexts_0 lsw_jaTexts 0 := orcOk_none
noncomputable def hw_jaTexts_0 (y0 : List (ByteArray)) (y1 : List (ByteArray)) (y2 : Int) : List (Pl × LV) := [(.T 0, .t (.val false [.sl .any 9 .str y0])), (.T 1, .t (.val false [.sl .any 9 .str y1])), (.T 5, .t (.val false [.int .i64 y2]))]
noncomputable def g_Sw_jaTexts_0 (y0 : List (ByteArray)) (y1 : List (ByteArray)) : ((Int)) → RT ((Int)) (((Bool)) ⊕ (Unit))
  | y2 => .br (true) (.br (decide (y2 < (↑(List.length y0) : Int))) (.br (decide ((0 : Int) ≤ y2 ∧ y2 < (↑(List.length y0) : Int))) (.br (decide ((0 : Int) ≤ y2 ∧ y2 < (↑(List.length y1) : Int))) (.br (true) (.br (!ByteArray.toList (at_ Ty.str y0 (Int.toNat y2)) == ByteArray.toList (at_ Ty.str y1 (Int.toNat y2))) (.out (.inl false)) (.br (true) (.go (IntKind.wrap IntKind.i64 (y2 + (1 : Int)))) (.bad))) (.bad)) (.bad)) (.bad)) (.out (.inr (())))) (.bad)
noncomputable def g_Lw_jaTexts_0 (y0 : List (ByteArray)) (y1 : List (ByteArray)) (x : (Int)) : Option (((Bool)) ⊕ (Unit)) := loopO (g_Sw_jaTexts_0 y0 y1) x
noncomputable def xw_jaTexts_0 (y0 : List (ByteArray)) (y1 : List (ByteArray)) : (((Bool)) ⊕ (Unit)) → Ex × List (Pl × LV) := fun
  | .inl r => (.ret, [(.T 4, .t (.val false [.bool r]))])
  | .inr (r) => (.exit 0, [(.T 4, .t (.val false [.undef]))])
noncomputable def Ow_jaTexts_1 : Orc := fun b h => match b, h with
  | 0, [(.T 0, .t (.val false [.sl .any 9 .str y0])), (.T 1, .t (.val false [.sl .any 9 .str y1])), (.T 5, .t (.val false [.int .i64 y2]))] => some (okO (g_Lw_jaTexts_0 y0 y1 y2), (.br (isL (valO (g_Lw_jaTexts_0 y0 y1 y2))) (.leaf .ret [(.T 4, .t (.val false [.bool (getL (valO (g_Lw_jaTexts_0 y0 y1 y2)))]))]) (.leaf (.exit 0) [(.T 4, .t (.val false [.undef]))])))
  | b, h => Ow_jaTexts_0 b h
theorem bw_jaTexts_0 (y0 : List (ByteArray)) (y1 : List (ByteArray)) (y2 : Int) : Tr.bt Ew_jaTexts Ow_jaTexts_0 (exec Ew_jaTexts 0 cw_jaTexts_0 (St.of (hw_jaTexts_0 y0 y1 y2)) (leafRd Ew_jaTexts 0)) = (g_Sw_jaTexts_0 y0 y1 y2).bt (fun (y2 : (Int)) => (hw_jaTexts_0 y0 y1 y2)) (xw_jaTexts_0 y0 y1) := by kernel_rfl
theorem kw_jaTexts_1 : OrcOk Ew_jaTexts Ow_jaTexts_1 lsw_jaTexts 1 := orc_add kw_jaTexts_0 (fun n p hp h ex h' ho => by
  obtain ⟨b, c⟩ := p
  obtain ⟨xt, h1, h2⟩ := ho
  have h1 : Ow_jaTexts_1 b h = some (true, xt) := h1
  unfold Ow_jaTexts_1 at h1
  split at h1
  · injection h1 with h1
    injection h1 with e1 e2
    subst e2
    have hc : c = cw_jaTexts_0 := mw_jaTexts_0 _ hp rfl
    subst hc
    right
    rename_i y0 y1 y2
    have key := LT_step kw_jaTexts_0 hp (fun q hq => loopsAll_in _ _ _ _ hp hq) (fun (y2 : (Int)) => (hw_jaTexts_0 y0 y1 y2)) (xw_jaTexts_0 y0 y1) (g_Sw_jaTexts_0 y0 y1) (fun x => by first | exact bw_jaTexts_0 y0 y1 x) n (x := y2) (okO_some e1)
    have hx : ∀ r, XT.sel (.br (isL r) (.leaf .ret [(.T 4, .t (.val false [.bool (getL r)]))]) (.leaf (.exit 0) [(.T 4, .t (.val false [.undef]))])) = xw_jaTexts_0 y0 y1 r := fun r => by first | rfl | (rcases r with r | r <;> rfl) | (rcases r with r | r | r <;> rfl) | (rcases r with r | r | r | r <;> rfl)
    have h3 := (hx (valO (g_Lw_jaTexts_0 y0 y1 y2))).symm.trans h2
    have e3 := congrArg Prod.fst h3
    have e4 := congrArg Prod.snd h3
    simp only at e3 e4
    rw [← e3, ← e4]
    exact key
  · exact .inl ⟨xt, h1, h2⟩)
noncomputable def g_Aw_jaTexts (a0 : List (ByteArray)) (a1 : List (ByteArray)) : Bool := (↑(List.length a0) : Int) != (↑(List.length a1) : Int) || okO (g_Lw_jaTexts_0 a0 a1 (0 : Int))
noncomputable def g_Vw_jaTexts_0 (a0 : List (ByteArray)) (a1 : List (ByteArray)) : Bool := bif (↑(List.length a0) : Int) != (↑(List.length a1) : Int) then false else bif isL (valO (g_Lw_jaTexts_0 a0 a1 (0 : Int))) then getL (valO (g_Lw_jaTexts_0 a0 a1 (0 : Int))) else true
noncomputable def Fw_jaTexts : FSem := fun ys => match ys with
  | [.val false [.sl .any 9 .str a0], .val false [.sl .any 9 .str a1]] => some ((g_Aw_jaTexts a0 a1), .val false [.bool (g_Vw_jaTexts_0 a0 a1)], [])
  | _ => none
theorem vw_jaTexts (a0 : List (ByteArray)) (a1 : List (ByteArray)) : collapseH .std Ew_jaTexts Ow_jaTexts_1 (execFn Ew_jaTexts Go.Proofs.Tryd.f58 msw_jaTexts [.val false [.sl .any 9 .str a0], .val false [.sl .any 9 .str a1]]) = some ((g_Aw_jaTexts a0 a1), .val false [.bool (g_Vw_jaTexts_0 a0 a1)], []) := by kernel_rfl
theorem sw_jaTexts : Sound Go.Proofs.Tryd.prog 58 msw_jaTexts Fw_jaTexts := by
  refine fn_gen goodw_jaTexts (by kernel_rfl) .std (fn := Go.Proofs.Tryd.f58) (c := (Go.Proofs.Tryd.f58.body.getD .skip)) (o := Ow_jaTexts_1) (k := 1) (by kernel_rfl) (by kernel_rfl) (by kernel_rfl) (by kernel_rfl) (by decide) kw_jaTexts_1 ?_
  intro ys r outs h
  unfold Fw_jaTexts at h
  split at h
  · exact (vw_jaTexts _ _).trans h
  · cases h
end Go.Proofs.YtkjeicijcecmlaaDoor.E
end
section
namespace Go.Proofs.YtkjeicijcecmlaaDoor.E
open Go
set_option maxRecDepth 100000
set_option maxHeartbeats 0
set_option linter.all false
noncomputable def Ew_FnDiskOpen : Env where
  tt := mkTI Go.Proofs.Tryd.prog
  fn := fun f => match f with
    | 16 => some (msw_jaOk, FSem.wk msw_jaOk Fw_jaOk)
    | 23 => some (msw_jaInts, FSem.wk msw_jaInts Fw_jaInts)
    | 34 => some (mss_DiskOpen, FSem.wk mss_DiskOpen Fs_DiskOpen)
    | 36 => some (msi_DiskOpen, FSem.wk msi_DiskOpen Fi_DiskOpen)
    | 42 => some (mss_DiskLocks, FSem.wk mss_DiskLocks Fs_DiskLocks)
    | 43 => some (msi_DiskLocks, FSem.wk msi_DiskLocks Fi_DiskLocks)
    | 56 => some (mss_DrawDiskOpen, FSem.wk mss_DrawDiskOpen Fs_DrawDiskOpen)
    | 57 => some (mss_DrawDiskLocks, FSem.wk mss_DrawDiskLocks Fs_DrawDiskLocks)
    | 58 => some (msw_jaTexts, FSem.wk msw_jaTexts Fw_jaTexts)
    | 59 => some (mss_DiskOk, FSem.wk mss_DiskOk Fs_DiskOk)
    | 60 => some (msw_jaIn, FSem.wk msw_jaIn Fw_jaIn)
    | 61 => some (msi_DiskOf, FSem.wk msi_DiskOf Fi_DiskOf)
    | 62 => some (msw_jaHas, FSem.wk msw_jaHas Fw_jaHas)
    | _ => none
  bxf := fun _ => none
  mv := []
  keep := fun b => match b with
    | 0 => [(5, false), (7, false), (8, false), (9, false)]
    | 2 => [(5, false), (7, false), (8, false), (10, false)]
    | 4 => [(5, false), (7, false), (8, false), (10, false), (11, false), (12, false)]
    | _ => []
  keepB := fun b => match b with
    | 0 => [(5, false)]
    | 2 => [(5, false)]
    | 4 => [(5, false)]
    | _ => []
  keepX := fun b => match b with
    | 0 => [(4, false), (5, false), (7, false), (8, false)]
    | 2 => [(4, false)]
    | 4 => [(5, false), (7, false), (8, false), (10, false), (11, false)]
    | _ => []
  keepXB := fun b => match b with
    | 0 => [(5, false)]
    | 2 => []
    | 4 => [(5, false)]
    | _ => []
theorem goodFw_FnDiskOpen : ∀ f ms F, Ew_FnDiskOpen.fn f = some (ms, F) → Sound Go.Proofs.Tryd.prog f ms F := fun f ms F h => by
  unfold Ew_FnDiskOpen at h
  dsimp only at h
  split at h
  · injection h with h; injection h with e1 e2; subst e1 e2; exact Sound.wk sw_jaOk
  · injection h with h; injection h with e1 e2; subst e1 e2; exact Sound.wk sw_jaInts
  · injection h with h; injection h with e1 e2; subst e1 e2; exact Sound.wk ss_DiskOpen
  · injection h with h; injection h with e1 e2; subst e1 e2; exact Sound.wk si_DiskOpen
  · injection h with h; injection h with e1 e2; subst e1 e2; exact Sound.wk ss_DiskLocks
  · injection h with h; injection h with e1 e2; subst e1 e2; exact Sound.wk si_DiskLocks
  · injection h with h; injection h with e1 e2; subst e1 e2; exact Sound.wk ss_DrawDiskOpen
  · injection h with h; injection h with e1 e2; subst e1 e2; exact Sound.wk ss_DrawDiskLocks
  · injection h with h; injection h with e1 e2; subst e1 e2; exact Sound.wk sw_jaTexts
  · injection h with h; injection h with e1 e2; subst e1 e2; exact Sound.wk ss_DiskOk
  · injection h with h; injection h with e1 e2; subst e1 e2; exact Sound.wk sw_jaIn
  · injection h with h; injection h with e1 e2; subst e1 e2; exact Sound.wk si_DiskOf
  · injection h with h; injection h with e1 e2; subst e1 e2; exact Sound.wk sw_jaHas
  · cases h
theorem goodBw_FnDiskOpen : ∀ f ms F, Ew_FnDiskOpen.bxf f = some (ms, F) → SoundB Go.Proofs.Tryd.prog f ms F := fun f ms F h => by cases h
theorem goodw_FnDiskOpen : Good Go.Proofs.Tryd.prog Ew_FnDiskOpen := ⟨rfl, goodFw_FnDiskOpen, goodBw_FnDiskOpen⟩
noncomputable def Ow_FnDiskOpen_0 : Orc := fun _ _ => none
noncomputable def msw_FnDiskOpen : List PM := [.rd, .rd]
noncomputable def lsw_FnDiskOpen : List (Nat × Code) := loopsAll 0 (Go.Proofs.Tryd.f10.body.getD .skip)
noncomputable def cw_FnDiskOpen_0 : Code := (loopOf 0 (Go.Proofs.Tryd.f10.body.getD .skip)).getD .skip
noncomputable def cw_FnDiskOpen_2 : Code := (loopOf 2 (Go.Proofs.Tryd.f10.body.getD .skip)).getD .skip
noncomputable def cw_FnDiskOpen_4 : Code := (loopOf 4 (Go.Proofs.Tryd.f10.body.getD .skip)).getD .skip
theorem lseqw_FnDiskOpen : lsw_FnDiskOpen = [(0, cw_FnDiskOpen_0), (2, cw_FnDiskOpen_2), (4, cw_FnDiskOpen_4)] := by kernel_rfl
theorem mw_FnDiskOpen_0 : ∀ p, p ∈ lsw_FnDiskOpen → p.1 = 0 → p.2 = cw_FnDiskOpen_0 := by
  intro p hp
  rw [lseqw_FnDiskOpen] at hp
  simp only [List.mem_cons, List.not_mem_nil, or_false] at hp
  rcases hp with rfl | rfl | rfl <;> simp
theorem mw_FnDiskOpen_2 : ∀ p, p ∈ lsw_FnDiskOpen → p.1 = 2 → p.2 = cw_FnDiskOpen_2 := by
  intro p hp
  rw [lseqw_FnDiskOpen] at hp
  simp only [List.mem_cons, List.not_mem_nil, or_false] at hp
  rcases hp with rfl | rfl | rfl <;> simp
theorem mw_FnDiskOpen_4 : ∀ p, p ∈ lsw_FnDiskOpen → p.1 = 4 → p.2 = cw_FnDiskOpen_4 := by
  intro p hp
  rw [lseqw_FnDiskOpen] at hp
  simp only [List.mem_cons, List.not_mem_nil, or_false] at hp
  rcases hp with rfl | rfl | rfl <;> simp
theorem kw_FnDiskOpen_0 : OrcOk Ew_FnDiskOpen Ow_FnDiskOpen_0 lsw_FnDiskOpen 0 := orcOk_none
noncomputable def hw_FnDiskOpen_0 (y0 : List (Int)) (y1 : List (ByteArray)) (y2 : Int) (y3 : Int) (y4 : List ((Int) × ((Int) × ((List (ByteArray)) × (List ((ByteArray) × ((Bool) × (List (Int))))))))) : List (Pl × LV) := [(.T 5, .t (.val false [.ptr 5 0 0])), (.T 7, .t (.val false [.row 7 0 0])), (.R 7 0, .r 0 (some ⟨false, .any, true, 3, (.int .i64), y0⟩)), (.T 8, .t (.val false [.row 8 0 0])), (.R 8 0, .r 0 (some ⟨true, .any, true, 9, .str, y1⟩)), (.T 9, .t (.val false [.int .i64 y2])), (.B 5, .b 0 false [.row 5 1 0, .int .i64 y3]), (.R 5 1, .r 0 (some ⟨false, .any, false, 79, (.pair (.int .i64) (.pair (.int .i64) (.pair (.sl 9 .str) (.sl 38 (.pair .str (.pair .bool (.sl 3 (.int .i64)))))))), y4⟩))]
noncomputable def g_Sw_FnDiskOpen_0 (y0 : List (Int)) (y1 : List (ByteArray)) (y3 : Int) (y4 : List ((Int) × ((Int) × ((List (ByteArray)) × (List ((ByteArray) × ((Bool) × (List (Int))))))))) : ((Int)) → RT ((Int)) (((Bool)) ⊕ (Unit))
  | y2 => .br (true) (.br (decide (y2 ≤ (29 : Int))) (.br (g_Aw_jaIn y0 y2) (.br (g_Ai_DiskOf y4 y3 y2) (.br (true) (.br (!g_Vw_jaIn_0 y0 y2 == (g_Vi_DiskOf_0 y4 y3 y2 == (1 : Int))) (.out (.inl false)) (.br (true) (.go (IntKind.wrap IntKind.i64 (y2 + (1 : Int)))) (.bad))) (.bad)) (.bad)) (.bad)) (.out (.inr (())))) (.bad)
noncomputable def g_Lw_FnDiskOpen_0 (y0 : List (Int)) (y1 : List (ByteArray)) (y3 : Int) (y4 : List ((Int) × ((Int) × ((List (ByteArray)) × (List ((ByteArray) × ((Bool) × (List (Int))))))))) (x : (Int)) : Option (((Bool)) ⊕ (Unit)) := loopO (g_Sw_FnDiskOpen_0 y0 y1 y3 y4) x
noncomputable def xw_FnDiskOpen_0 (y0 : List (Int)) (y1 : List (ByteArray)) (y3 : Int) (y4 : List ((Int) × ((Int) × ((List (ByteArray)) × (List ((ByteArray) × ((Bool) × (List (Int))))))))) : (((Bool)) ⊕ (Unit)) → Ex × List (Pl × LV) := fun
  | .inl r => (.ret, [(.T 4, .t (.val false [.bool r])), (.T 5, .t (.val false [.ptr 5 0 0])), (.T 7, .t (.val false [.row 7 0 0])), (.R 7 0, .r 0 (some ⟨false, .any, true, 3, (.int .i64), y0⟩)), (.T 8, .t (.val false [.row 8 0 0])), (.R 8 0, .r 0 (some ⟨true, .any, true, 9, .str, y1⟩)), (.B 5, .b 0 false [.row 5 1 0, .int .i64 y3]), (.R 5 1, .r 0 (some ⟨false, .any, false, 79, (.pair (.int .i64) (.pair (.int .i64) (.pair (.sl 9 .str) (.sl 38 (.pair .str (.pair .bool (.sl 3 (.int .i64)))))))), y4⟩))])
  | .inr (r) => (.exit 0, [(.T 4, .t (.val false [.undef])), (.T 5, .t (.val false [.ptr 5 0 0])), (.T 7, .t (.val false [.row 7 0 0])), (.R 7 0, .r 0 (some ⟨false, .any, true, 3, (.int .i64), y0⟩)), (.T 8, .t (.val false [.row 8 0 0])), (.R 8 0, .r 0 (some ⟨true, .any, true, 9, .str, y1⟩)), (.B 5, .b 0 false [.row 5 1 0, .int .i64 y3]), (.R 5 1, .r 0 (some ⟨false, .any, false, 79, (.pair (.int .i64) (.pair (.int .i64) (.pair (.sl 9 .str) (.sl 38 (.pair .str (.pair .bool (.sl 3 (.int .i64)))))))), y4⟩))])
noncomputable def Ow_FnDiskOpen_1 : Orc := fun b h => match b, h with
  | 0, [(.T 5, .t (.val false [.ptr 5 0 0])), (.T 7, .t (.val false [.row 7 0 0])), (.R 7 0, .r 0 (some ⟨false, .any, true, 3, (.int .i64), y0⟩)), (.T 8, .t (.val false [.row 8 0 0])), (.R 8 0, .r 0 (some ⟨true, .any, true, 9, .str, y1⟩)), (.T 9, .t (.val false [.int .i64 y2])), (.B 5, .b 0 false [.row 5 1 0, .int .i64 y3]), (.R 5 1, .r 0 (some ⟨false, .any, false, 79, (.pair (.int .i64) (.pair (.int .i64) (.pair (.sl 9 .str) (.sl 38 (.pair .str (.pair .bool (.sl 3 (.int .i64)))))))), y4⟩))] => some (okO (g_Lw_FnDiskOpen_0 y0 y1 y3 y4 y2), (.br (isL (valO (g_Lw_FnDiskOpen_0 y0 y1 y3 y4 y2))) (.leaf .ret [(.T 4, .t (.val false [.bool (getL (valO (g_Lw_FnDiskOpen_0 y0 y1 y3 y4 y2)))])), (.T 5, .t (.val false [.ptr 5 0 0])), (.T 7, .t (.val false [.row 7 0 0])), (.R 7 0, .r 0 (some ⟨false, .any, true, 3, (.int .i64), y0⟩)), (.T 8, .t (.val false [.row 8 0 0])), (.R 8 0, .r 0 (some ⟨true, .any, true, 9, .str, y1⟩)), (.B 5, .b 0 false [.row 5 1 0, .int .i64 y3]), (.R 5 1, .r 0 (some ⟨false, .any, false, 79, (.pair (.int .i64) (.pair (.int .i64) (.pair (.sl 9 .str) (.sl 38 (.pair .str (.pair .bool (.sl 3 (.int .i64)))))))), y4⟩))]) (.leaf (.exit 0) [(.T 4, .t (.val false [.undef])), (.T 5, .t (.val false [.ptr 5 0 0])), (.T 7, .t (.val false [.row 7 0 0])), (.R 7 0, .r 0 (some ⟨false, .any, true, 3, (.int .i64), y0⟩)), (.T 8, .t (.val false [.row 8 0 0])), (.R 8 0, .r 0 (some ⟨true, .any, true, 9, .str, y1⟩)), (.B 5, .b 0 false [.row 5 1 0, .int .i64 y3]), (.R 5 1, .r 0 (some ⟨false, .any, false, 79, (.pair (.int .i64) (.pair (.int .i64) (.pair (.sl 9 .str) (.sl 38 (.pair .str (.pair .bool (.sl 3 (.int .i64)))))))), y4⟩))])))
  | b, h => Ow_FnDiskOpen_0 b h
theorem bw_FnDiskOpen_0 (y0 : List (Int)) (y1 : List (ByteArray)) (y2 : Int) (y3 : Int) (y4 : List ((Int) × ((Int) × ((List (ByteArray)) × (List ((ByteArray) × ((Bool) × (List (Int))))))))) : Tr.bt Ew_FnDiskOpen Ow_FnDiskOpen_0 (exec Ew_FnDiskOpen 0 cw_FnDiskOpen_0 (St.of (hw_FnDiskOpen_0 y0 y1 y2 y3 y4)) (leafRd Ew_FnDiskOpen 0)) = (g_Sw_FnDiskOpen_0 y0 y1 y3 y4 y2).bt (fun (y2 : (Int)) => (hw_FnDiskOpen_0 y0 y1 y2 y3 y4)) (xw_FnDiskOpen_0 y0 y1 y3 y4) := by kernel_rfl
theorem kw_FnDiskOpen_1 : OrcOk Ew_FnDiskOpen Ow_FnDiskOpen_1 lsw_FnDiskOpen 1 := orc_add kw_FnDiskOpen_0 (fun n p hp h ex h' ho => by
  obtain ⟨b, c⟩ := p
  obtain ⟨xt, h1, h2⟩ := ho
  have h1 : Ow_FnDiskOpen_1 b h = some (true, xt) := h1
  unfold Ow_FnDiskOpen_1 at h1
  split at h1
  · injection h1 with h1
    injection h1 with e1 e2
    subst e2
    have hc : c = cw_FnDiskOpen_0 := mw_FnDiskOpen_0 _ hp rfl
    subst hc
    right
    rename_i y0 y1 y2 y3 y4
    have key := LT_step kw_FnDiskOpen_0 hp (fun q hq => loopsAll_in _ _ _ _ hp hq) (fun (y2 : (Int)) => (hw_FnDiskOpen_0 y0 y1 y2 y3 y4)) (xw_FnDiskOpen_0 y0 y1 y3 y4) (g_Sw_FnDiskOpen_0 y0 y1 y3 y4) (fun x => by first | exact bw_FnDiskOpen_0 y0 y1 x y3 y4) n (x := y2) (okO_some e1)
    have hx : ∀ r, XT.sel (.br (isL r) (.leaf .ret [(.T 4, .t (.val false [.bool (getL r)])), (.T 5, .t (.val false [.ptr 5 0 0])), (.T 7, .t (.val false [.row 7 0 0])), (.R 7 0, .r 0 (some ⟨false, .any, true, 3, (.int .i64), y0⟩)), (.T 8, .t (.val false [.row 8 0 0])), (.R 8 0, .r 0 (some ⟨true, .any, true, 9, .str, y1⟩)), (.B 5, .b 0 false [.row 5 1 0, .int .i64 y3]), (.R 5 1, .r 0 (some ⟨false, .any, false, 79, (.pair (.int .i64) (.pair (.int .i64) (.pair (.sl 9 .str) (.sl 38 (.pair .str (.pair .bool (.sl 3 (.int .i64)))))))), y4⟩))]) (.leaf (.exit 0) [(.T 4, .t (.val false [.undef])), (.T 5, .t (.val false [.ptr 5 0 0])), (.T 7, .t (.val false [.row 7 0 0])), (.R 7 0, .r 0 (some ⟨false, .any, true, 3, (.int .i64), y0⟩)), (.T 8, .t (.val false [.row 8 0 0])), (.R 8 0, .r 0 (some ⟨true, .any, true, 9, .str, y1⟩)), (.B 5, .b 0 false [.row 5 1 0, .int .i64 y3]), (.R 5 1, .r 0 (some ⟨false, .any, false, 79, (.pair (.int .i64) (.pair (.int .i64) (.pair (.sl 9 .str) (.sl 38 (.pair .str (.pair .bool (.sl 3 (.int .i64)))))))), y4⟩))])) = xw_FnDiskOpen_0 y0 y1 y3 y4 r := fun r => by first | rfl | (rcases r with r | r <;> rfl) | (rcases r with r | r | r <;> rfl) | (rcases r with r | r | r | r <;> rfl)
    have h3 := (hx (valO (g_Lw_FnDiskOpen_0 y0 y1 y3 y4 y2))).symm.trans h2
    have e3 := congrArg Prod.fst h3
    have e4 := congrArg Prod.snd h3
    simp only at e3 e4
    rw [← e3, ← e4]
    exact key
  · exact .inl ⟨xt, h1, h2⟩)
noncomputable def hw_FnDiskOpen_2 (y0 : List (Int)) (y1 : List (ByteArray)) (y2 : Int) (y3 : Int) (y4 : List ((Int) × ((Int) × ((List (ByteArray)) × (List ((ByteArray) × ((Bool) × (List (Int))))))))) : List (Pl × LV) := [(.T 5, .t (.val false [.ptr 5 0 0])), (.T 7, .t (.val false [.row 7 0 0])), (.R 7 0, .r 0 (some ⟨false, .any, true, 3, (.int .i64), y0⟩)), (.T 8, .t (.val false [.row 8 0 0])), (.R 8 0, .r 0 (some ⟨true, .any, true, 9, .str, y1⟩)), (.T 10, .t (.val false [.int .i64 y2])), (.B 5, .b 0 false [.row 5 1 0, .int .i64 y3]), (.R 5 1, .r 0 (some ⟨false, .any, false, 79, (.pair (.int .i64) (.pair (.int .i64) (.pair (.sl 9 .str) (.sl 38 (.pair .str (.pair .bool (.sl 3 (.int .i64)))))))), y4⟩))]
noncomputable def hw_FnDiskOpen_4 (y0 : List (Int)) (y1 : List (ByteArray)) (y2 : Int) (y3 : Bool) (y4 : Int) (y5 : Int) (y6 : List ((Int) × ((Int) × ((List (ByteArray)) × (List ((ByteArray) × ((Bool) × (List (Int))))))))) : List (Pl × LV) := [(.T 5, .t (.val false [.ptr 5 0 0])), (.T 7, .t (.val false [.row 7 0 0])), (.R 7 0, .r 0 (some ⟨false, .any, true, 3, (.int .i64), y0⟩)), (.T 8, .t (.val false [.row 8 0 0])), (.R 8 0, .r 0 (some ⟨true, .any, true, 9, .str, y1⟩)), (.T 10, .t (.val false [.int .i64 y2])), (.T 11, .t (.val false [.bool y3])), (.T 12, .t (.val false [.int .i64 y4])), (.B 5, .b 0 false [.row 5 1 0, .int .i64 y5]), (.R 5 1, .r 0 (some ⟨false, .any, false, 79, (.pair (.int .i64) (.pair (.int .i64) (.pair (.sl 9 .str) (.sl 38 (.pair .str (.pair .bool (.sl 3 (.int .i64)))))))), y6⟩))]
noncomputable def g_Sw_FnDiskOpen_4 (y0 : List (Int)) (y1 : List (ByteArray)) (y2 : Int) (y5 : Int) (y6 : List ((Int) × ((Int) × ((List (ByteArray)) × (List ((ByteArray) × ((Bool) × (List (Int))))))))) : ((Bool) × (Int)) → RT ((Bool) × (Int)) (((Bool)))
  | (y3, y4) => .br (true) (.br (decide (y4 < (↑(List.length y6) : Int))) (.br (y3) (.br (true) (.go ((true, IntKind.wrap IntKind.i64 (y4 + (1 : Int))))) (.bad)) (.br (decide ((0 : Int) ≤ y4 ∧ y4 < (↑(List.length y6) : Int))) (.br (decide (Int.toNat y4 < List.length y6)) (.br (true) (.br ((at_ (Ty.pair (Ty.int IntKind.i64) (Ty.pair (Ty.int IntKind.i64) (Ty.pair (Ty.sl (nat_lit 9) Ty.str) (Ty.sl (nat_lit 38) (Ty.pair Ty.str (Ty.pair Ty.bool (Ty.sl (nat_lit 3) (Ty.int IntKind.i64)))))))) y6 (Int.toNat y4)).1 == (1 : Int)) (.br (decide ((0 : Int) ≤ y4 ∧ y4 < (↑(List.length y6) : Int))) (.br (decide (Int.toNat y4 < List.length y6)) (.br (g_Aw_jaIn y0 (at_ (Ty.pair (Ty.int IntKind.i64) (Ty.pair (Ty.int IntKind.i64) (Ty.pair (Ty.sl (nat_lit 9) Ty.str) (Ty.sl (nat_lit 38) (Ty.pair Ty.str (Ty.pair Ty.bool (Ty.sl (nat_lit 3) (Ty.int IntKind.i64)))))))) y6 (Int.toNat y4)).2.1) (.br (g_Vw_jaIn_0 y0 (at_ (Ty.pair (Ty.int IntKind.i64) (Ty.pair (Ty.int IntKind.i64) (Ty.pair (Ty.sl (nat_lit 9) Ty.str) (Ty.sl (nat_lit 38) (Ty.pair Ty.str (Ty.pair Ty.bool (Ty.sl (nat_lit 3) (Ty.int IntKind.i64)))))))) y6 (Int.toNat y4)).2.1) (.br (decide ((0 : Int) ≤ y4 ∧ y4 < (↑(List.length y6) : Int))) (.br (decide (Int.toNat y4 < List.length y6)) (.br (decide ((0 : Int) ≤ y2 ∧ y2 < (↑(List.length y1) : Int))) (.br (g_Aw_jaHas (at_ (Ty.pair (Ty.int IntKind.i64) (Ty.pair (Ty.int IntKind.i64) (Ty.pair (Ty.sl (nat_lit 9) Ty.str) (Ty.sl (nat_lit 38) (Ty.pair Ty.str (Ty.pair Ty.bool (Ty.sl (nat_lit 3) (Ty.int IntKind.i64)))))))) y6 (Int.toNat y4)).2.2.1 (at_ Ty.str y1 (Int.toNat y2))) (.br (true) (.go ((g_Vw_jaHas_0 (at_ (Ty.pair (Ty.int IntKind.i64) (Ty.pair (Ty.int IntKind.i64) (Ty.pair (Ty.sl (nat_lit 9) Ty.str) (Ty.sl (nat_lit 38) (Ty.pair Ty.str (Ty.pair Ty.bool (Ty.sl (nat_lit 3) (Ty.int IntKind.i64)))))))) y6 (Int.toNat y4)).2.2.1 (at_ Ty.str y1 (Int.toNat y2)), IntKind.wrap IntKind.i64 (y4 + (1 : Int))))) (.bad)) (.bad)) (.bad)) (.bad)) (.bad)) (.br (true) (.go ((false, IntKind.wrap IntKind.i64 (y4 + (1 : Int))))) (.bad))) (.bad)) (.bad)) (.bad)) (.br (true) (.go ((false, IntKind.wrap IntKind.i64 (y4 + (1 : Int))))) (.bad))) (.bad)) (.bad)) (.bad))) (.out (y3))) (.bad)
noncomputable def g_Lw_FnDiskOpen_4 (y0 : List (Int)) (y1 : List (ByteArray)) (y2 : Int) (y5 : Int) (y6 : List ((Int) × ((Int) × ((List (ByteArray)) × (List ((ByteArray) × ((Bool) × (List (Int))))))))) (x : (Bool) × (Int)) : Option (((Bool))) := loopO (g_Sw_FnDiskOpen_4 y0 y1 y2 y5 y6) x
noncomputable def xw_FnDiskOpen_4 (y0 : List (Int)) (y1 : List (ByteArray)) (y2 : Int) (y5 : Int) (y6 : List ((Int) × ((Int) × ((List (ByteArray)) × (List ((ByteArray) × ((Bool) × (List (Int))))))))) : (((Bool))) → Ex × List (Pl × LV) := fun r => (.exit 4, [(.T 5, .t (.val false [.ptr 5 0 0])), (.T 7, .t (.val false [.row 7 0 0])), (.R 7 0, .r 0 (some ⟨false, .any, true, 3, (.int .i64), y0⟩)), (.T 8, .t (.val false [.row 8 0 0])), (.R 8 0, .r 0 (some ⟨true, .any, true, 9, .str, y1⟩)), (.T 10, .t (.val false [.int .i64 y2])), (.T 11, .t (.val false [.bool r])), (.B 5, .b 0 false [.row 5 1 0, .int .i64 y5]), (.R 5 1, .r 0 (some ⟨false, .any, false, 79, (.pair (.int .i64) (.pair (.int .i64) (.pair (.sl 9 .str) (.sl 38 (.pair .str (.pair .bool (.sl 3 (.int .i64)))))))), y6⟩))])
noncomputable def Ow_FnDiskOpen_2 : Orc := fun b h => match b, h with
  | 4, [(.T 5, .t (.val false [.ptr 5 0 0])), (.T 7, .t (.val false [.row 7 0 0])), (.R 7 0, .r 0 (some ⟨false, .any, true, 3, (.int .i64), y0⟩)), (.T 8, .t (.val false [.row 8 0 0])), (.R 8 0, .r 0 (some ⟨true, .any, true, 9, .str, y1⟩)), (.T 10, .t (.val false [.int .i64 y2])), (.T 11, .t (.val false [.bool y3])), (.T 12, .t (.val false [.int .i64 y4])), (.B 5, .b 0 false [.row 5 1 0, .int .i64 y5]), (.R 5 1, .r 0 (some ⟨false, .any, false, 79, (.pair (.int .i64) (.pair (.int .i64) (.pair (.sl 9 .str) (.sl 38 (.pair .str (.pair .bool (.sl 3 (.int .i64)))))))), y6⟩))] => some (okO (g_Lw_FnDiskOpen_4 y0 y1 y2 y5 y6 (y3, y4)), (.leaf (.exit 4) [(.T 5, .t (.val false [.ptr 5 0 0])), (.T 7, .t (.val false [.row 7 0 0])), (.R 7 0, .r 0 (some ⟨false, .any, true, 3, (.int .i64), y0⟩)), (.T 8, .t (.val false [.row 8 0 0])), (.R 8 0, .r 0 (some ⟨true, .any, true, 9, .str, y1⟩)), (.T 10, .t (.val false [.int .i64 y2])), (.T 11, .t (.val false [.bool (valO (g_Lw_FnDiskOpen_4 y0 y1 y2 y5 y6 (y3, y4)))])), (.B 5, .b 0 false [.row 5 1 0, .int .i64 y5]), (.R 5 1, .r 0 (some ⟨false, .any, false, 79, (.pair (.int .i64) (.pair (.int .i64) (.pair (.sl 9 .str) (.sl 38 (.pair .str (.pair .bool (.sl 3 (.int .i64)))))))), y6⟩))]))
  | b, h => Ow_FnDiskOpen_1 b h
theorem bw_FnDiskOpen_4 (y0 : List (Int)) (y1 : List (ByteArray)) (y2 : Int) (y3 : Bool) (y4 : Int) (y5 : Int) (y6 : List ((Int) × ((Int) × ((List (ByteArray)) × (List ((ByteArray) × ((Bool) × (List (Int))))))))) : Tr.bt Ew_FnDiskOpen Ow_FnDiskOpen_1 (exec Ew_FnDiskOpen 4 cw_FnDiskOpen_4 (St.of (hw_FnDiskOpen_4 y0 y1 y2 y3 y4 y5 y6)) (leafRd Ew_FnDiskOpen 4)) = (g_Sw_FnDiskOpen_4 y0 y1 y2 y5 y6 (y3, y4)).bt (fun ((y3, y4) : (Bool) × (Int)) => (hw_FnDiskOpen_4 y0 y1 y2 y3 y4 y5 y6)) (xw_FnDiskOpen_4 y0 y1 y2 y5 y6) := by kernel_rfl
theorem kw_FnDiskOpen_2 : OrcOk Ew_FnDiskOpen Ow_FnDiskOpen_2 lsw_FnDiskOpen 2 := orc_add kw_FnDiskOpen_1 (fun n p hp h ex h' ho => by
  obtain ⟨b, c⟩ := p
  obtain ⟨xt, h1, h2⟩ := ho
  have h1 : Ow_FnDiskOpen_2 b h = some (true, xt) := h1
  unfold Ow_FnDiskOpen_2 at h1
  split at h1
  · injection h1 with h1
    injection h1 with e1 e2
    subst e2
    have hc : c = cw_FnDiskOpen_4 := mw_FnDiskOpen_4 _ hp rfl
    subst hc
    right
    rename_i y0 y1 y2 y3 y4 y5 y6
    have key := LT_step kw_FnDiskOpen_1 hp (fun q hq => loopsAll_in _ _ _ _ hp hq) (fun ((y3, y4) : (Bool) × (Int)) => (hw_FnDiskOpen_4 y0 y1 y2 y3 y4 y5 y6)) (xw_FnDiskOpen_4 y0 y1 y2 y5 y6) (g_Sw_FnDiskOpen_4 y0 y1 y2 y5 y6) (fun x => by first | exact bw_FnDiskOpen_4 y0 y1 y2 x.1 x.2 y5 y6) n (x := (y3, y4)) (okO_some e1)
    have hx : ∀ r, XT.sel (.leaf (.exit 4) [(.T 5, .t (.val false [.ptr 5 0 0])), (.T 7, .t (.val false [.row 7 0 0])), (.R 7 0, .r 0 (some ⟨false, .any, true, 3, (.int .i64), y0⟩)), (.T 8, .t (.val false [.row 8 0 0])), (.R 8 0, .r 0 (some ⟨true, .any, true, 9, .str, y1⟩)), (.T 10, .t (.val false [.int .i64 y2])), (.T 11, .t (.val false [.bool r])), (.B 5, .b 0 false [.row 5 1 0, .int .i64 y5]), (.R 5 1, .r 0 (some ⟨false, .any, false, 79, (.pair (.int .i64) (.pair (.int .i64) (.pair (.sl 9 .str) (.sl 38 (.pair .str (.pair .bool (.sl 3 (.int .i64)))))))), y6⟩))]) = xw_FnDiskOpen_4 y0 y1 y2 y5 y6 r := fun r => by first | rfl | (rcases r with r | r <;> rfl) | (rcases r with r | r | r <;> rfl) | (rcases r with r | r | r | r <;> rfl)
    have h3 := (hx (valO (g_Lw_FnDiskOpen_4 y0 y1 y2 y5 y6 (y3, y4)))).symm.trans h2
    have e3 := congrArg Prod.fst h3
    have e4 := congrArg Prod.snd h3
    simp only at e3 e4
    rw [← e3, ← e4]
    exact key
  · exact .inl ⟨xt, h1, h2⟩)
noncomputable def g_Sw_FnDiskOpen_2 (y0 : List (Int)) (y1 : List (ByteArray)) (y3 : Int) (y4 : List ((Int) × ((Int) × ((List (ByteArray)) × (List ((ByteArray) × ((Bool) × (List (Int))))))))) : ((Int)) → RT ((Int)) (((Bool)) ⊕ (Unit))
  | y2 => .br (true) (.br (decide (y2 < (↑(List.length y1) : Int))) (.br (okO (g_Lw_FnDiskOpen_4 y0 y1 y2 y3 y4 (false, (0 : Int)))) (.br (!valO (g_Lw_FnDiskOpen_4 y0 y1 y2 y3 y4 (false, (0 : Int)))) (.out (.inl false)) (.br (decide ((0 : Int) ≤ y2 ∧ y2 ≤ (↑(List.length y1) : Int))) (.br (decide ((0 : Int) ≤ y2 ∧ y2 < (↑(List.length y1) : Int))) (.br (g_Aw_jaHas (List.drop (nat_lit 0) (List.take (Int.toNat y2) y1)) (at_ Ty.str y1 (Int.toNat y2))) (.br (g_Vw_jaHas_0 (List.drop (nat_lit 0) (List.take (Int.toNat y2) y1)) (at_ Ty.str y1 (Int.toNat y2))) (.out (.inl false)) (.br (true) (.go (IntKind.wrap IntKind.i64 (y2 + (1 : Int)))) (.bad))) (.bad)) (.bad)) (.bad))) (.bad)) (.out (.inr (())))) (.bad)
noncomputable def g_Lw_FnDiskOpen_2 (y0 : List (Int)) (y1 : List (ByteArray)) (y3 : Int) (y4 : List ((Int) × ((Int) × ((List (ByteArray)) × (List ((ByteArray) × ((Bool) × (List (Int))))))))) (x : (Int)) : Option (((Bool)) ⊕ (Unit)) := loopO (g_Sw_FnDiskOpen_2 y0 y1 y3 y4) x
noncomputable def xw_FnDiskOpen_2 (y0 : List (Int)) (y1 : List (ByteArray)) (y3 : Int) (y4 : List ((Int) × ((Int) × ((List (ByteArray)) × (List ((ByteArray) × ((Bool) × (List (Int))))))))) : (((Bool)) ⊕ (Unit)) → Ex × List (Pl × LV) := fun
  | .inl r => (.ret, [(.T 4, .t (.val false [.bool r]))])
  | .inr (r) => (.exit 2, [(.T 4, .t (.val false [.undef]))])
noncomputable def Ow_FnDiskOpen_3 : Orc := fun b h => match b, h with
  | 2, [(.T 5, .t (.val false [.ptr 5 0 0])), (.T 7, .t (.val false [.row 7 0 0])), (.R 7 0, .r 0 (some ⟨false, .any, true, 3, (.int .i64), y0⟩)), (.T 8, .t (.val false [.row 8 0 0])), (.R 8 0, .r 0 (some ⟨true, .any, true, 9, .str, y1⟩)), (.T 10, .t (.val false [.int .i64 y2])), (.B 5, .b 0 false [.row 5 1 0, .int .i64 y3]), (.R 5 1, .r 0 (some ⟨false, .any, false, 79, (.pair (.int .i64) (.pair (.int .i64) (.pair (.sl 9 .str) (.sl 38 (.pair .str (.pair .bool (.sl 3 (.int .i64)))))))), y4⟩))] => some (okO (g_Lw_FnDiskOpen_2 y0 y1 y3 y4 y2), (.br (isL (valO (g_Lw_FnDiskOpen_2 y0 y1 y3 y4 y2))) (.leaf .ret [(.T 4, .t (.val false [.bool (getL (valO (g_Lw_FnDiskOpen_2 y0 y1 y3 y4 y2)))]))]) (.leaf (.exit 2) [(.T 4, .t (.val false [.undef]))])))
  | b, h => Ow_FnDiskOpen_2 b h
theorem bw_FnDiskOpen_2 (y0 : List (Int)) (y1 : List (ByteArray)) (y2 : Int) (y3 : Int) (y4 : List ((Int) × ((Int) × ((List (ByteArray)) × (List ((ByteArray) × ((Bool) × (List (Int))))))))) : Tr.bt Ew_FnDiskOpen Ow_FnDiskOpen_2 (exec Ew_FnDiskOpen 2 cw_FnDiskOpen_2 (St.of (hw_FnDiskOpen_2 y0 y1 y2 y3 y4)) (leafRd Ew_FnDiskOpen 2)) = (g_Sw_FnDiskOpen_2 y0 y1 y3 y4 y2).bt (fun (y2 : (Int)) => (hw_FnDiskOpen_2 y0 y1 y2 y3 y4)) (xw_FnDiskOpen_2 y0 y1 y3 y4) := by kernel_rfl
theorem kw_FnDiskOpen_3 : OrcOk Ew_FnDiskOpen Ow_FnDiskOpen_3 lsw_FnDiskOpen 3 := orc_add kw_FnDiskOpen_2 (fun n p hp h ex h' ho => by
  obtain ⟨b, c⟩ := p
  obtain ⟨xt, h1, h2⟩ := ho
  have h1 : Ow_FnDiskOpen_3 b h = some (true, xt) := h1
  unfold Ow_FnDiskOpen_3 at h1
  split at h1
  · injection h1 with h1
    injection h1 with e1 e2
    subst e2
    have hc : c = cw_FnDiskOpen_2 := mw_FnDiskOpen_2 _ hp rfl
    subst hc
    right
    rename_i y0 y1 y2 y3 y4
    have key := LT_step kw_FnDiskOpen_2 hp (fun q hq => loopsAll_in _ _ _ _ hp hq) (fun (y2 : (Int)) => (hw_FnDiskOpen_2 y0 y1 y2 y3 y4)) (xw_FnDiskOpen_2 y0 y1 y3 y4) (g_Sw_FnDiskOpen_2 y0 y1 y3 y4) (fun x => by first | exact bw_FnDiskOpen_2 y0 y1 x y3 y4) n (x := y2) (okO_some e1)
    have hx : ∀ r, XT.sel (.br (isL r) (.leaf .ret [(.T 4, .t (.val false [.bool (getL r)]))]) (.leaf (.exit 2) [(.T 4, .t (.val false [.undef]))])) = xw_FnDiskOpen_2 y0 y1 y3 y4 r := fun r => by first | rfl | (rcases r with r | r <;> rfl) | (rcases r with r | r | r <;> rfl) | (rcases r with r | r | r | r <;> rfl)
    have h3 := (hx (valO (g_Lw_FnDiskOpen_2 y0 y1 y3 y4 y2))).symm.trans h2
    have e3 := congrArg Prod.fst h3
    have e4 := congrArg Prod.snd h3
    simp only at e3 e4
    rw [← e3, ← e4]
    exact key
  · exact .inl ⟨xt, h1, h2⟩)
noncomputable def g_Aw_FnDiskOpen (a0 : List (Int)) (a1 : List (Int)) : Bool := decide ((↑(List.length a0) : Int) > (1048576 : Int)) || (decide ((↑(List.length a1) : Int) > (1048576 : Int)) || g_As_DrawDiskOpen a0 && (g_As_DrawDiskLocks a1 && (g_Ai_DiskOpen (g_Vs_DrawDiskOpen_0 a0) (g_Vs_DrawDiskOpen_1 a0) && (g_Ai_DiskLocks (g_Vs_DrawDiskOpen_0 a0) (g_Vs_DrawDiskOpen_1 a0) && (g_As_DiskOpen (g_Vs_DrawDiskOpen_0 a0) (g_Vs_DrawDiskOpen_1 a0) && (g_Aw_jaInts (g_Vi_DiskOpen_0 (g_Vs_DrawDiskOpen_0 a0) (g_Vs_DrawDiskOpen_1 a0)) (g_Vs_DiskOpen_0 (g_Vs_DrawDiskOpen_0 a0) (g_Vs_DrawDiskOpen_1 a0)) && (!g_Vw_jaInts_0 (g_Vi_DiskOpen_0 (g_Vs_DrawDiskOpen_0 a0) (g_Vs_DrawDiskOpen_1 a0)) (g_Vs_DiskOpen_0 (g_Vs_DrawDiskOpen_0 a0) (g_Vs_DrawDiskOpen_1 a0)) || g_As_DiskLocks (g_Vs_DrawDiskOpen_0 a0) (g_Vs_DrawDiskOpen_1 a0) && (g_Aw_jaTexts (g_Vi_DiskLocks_0 (g_Vs_DrawDiskOpen_0 a0) (g_Vs_DrawDiskOpen_1 a0)) (g_Vs_DiskLocks_0 (g_Vs_DrawDiskOpen_0 a0) (g_Vs_DrawDiskOpen_1 a0)) && (!g_Vw_jaTexts_0 (g_Vi_DiskLocks_0 (g_Vs_DrawDiskOpen_0 a0) (g_Vs_DrawDiskOpen_1 a0)) (g_Vs_DiskLocks_0 (g_Vs_DrawDiskOpen_0 a0) (g_Vs_DrawDiskOpen_1 a0)) || g_Ai_DiskLocks (g_Vs_DrawDiskLocks_0 a1) (g_Vs_DrawDiskLocks_1 a1) && (g_As_DiskLocks (g_Vs_DrawDiskLocks_0 a1) (g_Vs_DrawDiskLocks_1 a1) && (g_Aw_jaTexts (g_Vi_DiskLocks_0 (g_Vs_DrawDiskLocks_0 a1) (g_Vs_DrawDiskLocks_1 a1)) (g_Vs_DiskLocks_0 (g_Vs_DrawDiskLocks_0 a1) (g_Vs_DrawDiskLocks_1 a1)) && (!g_Vw_jaTexts_0 (g_Vi_DiskLocks_0 (g_Vs_DrawDiskLocks_0 a1) (g_Vs_DrawDiskLocks_1 a1)) (g_Vs_DiskLocks_0 (g_Vs_DrawDiskLocks_0 a1) (g_Vs_DrawDiskLocks_1 a1)) || g_As_DiskOk (g_Vs_DrawDiskOpen_0 a0) (g_Vs_DrawDiskOpen_1 a0) && bif !g_Vs_DiskOk_0 (g_Vs_DrawDiskOpen_0 a0) (g_Vs_DrawDiskOpen_1 a0) then !IntKind.wrap IntKind.i64 ((↑(List.length (g_Vi_DiskOpen_0 (g_Vs_DrawDiskOpen_0 a0) (g_Vs_DrawDiskOpen_1 a0))) : Int) + (↑(List.length (g_Vi_DiskLocks_0 (g_Vs_DrawDiskOpen_0 a0) (g_Vs_DrawDiskOpen_1 a0))) : Int)) == (0 : Int) || g_Aw_jaOk else okO (g_Lw_FnDiskOpen_0 (g_Vi_DiskOpen_0 (g_Vs_DrawDiskOpen_0 a0) (g_Vs_DrawDiskOpen_1 a0)) (g_Vi_DiskLocks_0 (g_Vs_DrawDiskOpen_0 a0) (g_Vs_DrawDiskOpen_1 a0)) (g_Vs_DrawDiskOpen_1 a0) (g_Vs_DrawDiskOpen_0 a0) (0 : Int)) && (isL (valO (g_Lw_FnDiskOpen_0 (g_Vi_DiskOpen_0 (g_Vs_DrawDiskOpen_0 a0) (g_Vs_DrawDiskOpen_1 a0)) (g_Vi_DiskLocks_0 (g_Vs_DrawDiskOpen_0 a0) (g_Vs_DrawDiskOpen_1 a0)) (g_Vs_DrawDiskOpen_1 a0) (g_Vs_DrawDiskOpen_0 a0) (0 : Int))) || okO (g_Lw_FnDiskOpen_2 (g_Vi_DiskOpen_0 (g_Vs_DrawDiskOpen_0 a0) (g_Vs_DrawDiskOpen_1 a0)) (g_Vi_DiskLocks_0 (g_Vs_DrawDiskOpen_0 a0) (g_Vs_DrawDiskOpen_1 a0)) (g_Vs_DrawDiskOpen_1 a0) (g_Vs_DrawDiskOpen_0 a0) (0 : Int)) && (isL (valO (g_Lw_FnDiskOpen_2 (g_Vi_DiskOpen_0 (g_Vs_DrawDiskOpen_0 a0) (g_Vs_DrawDiskOpen_1 a0)) (g_Vi_DiskLocks_0 (g_Vs_DrawDiskOpen_0 a0) (g_Vs_DrawDiskOpen_1 a0)) (g_Vs_DrawDiskOpen_1 a0) (g_Vs_DrawDiskOpen_0 a0) (0 : Int))) || g_Aw_jaOk))))))))))))))
noncomputable def g_Vw_FnDiskOpen_0 (a0 : List (Int)) (a1 : List (Int)) : Bool := bif decide ((↑(List.length a0) : Int) > (1048576 : Int)) then true else bif decide ((↑(List.length a1) : Int) > (1048576 : Int)) then true else bif !g_Vw_jaInts_0 (g_Vi_DiskOpen_0 (g_Vs_DrawDiskOpen_0 a0) (g_Vs_DrawDiskOpen_1 a0)) (g_Vs_DiskOpen_0 (g_Vs_DrawDiskOpen_0 a0) (g_Vs_DrawDiskOpen_1 a0)) then false else bif !g_Vw_jaTexts_0 (g_Vi_DiskLocks_0 (g_Vs_DrawDiskOpen_0 a0) (g_Vs_DrawDiskOpen_1 a0)) (g_Vs_DiskLocks_0 (g_Vs_DrawDiskOpen_0 a0) (g_Vs_DrawDiskOpen_1 a0)) then false else bif !g_Vw_jaTexts_0 (g_Vi_DiskLocks_0 (g_Vs_DrawDiskLocks_0 a1) (g_Vs_DrawDiskLocks_1 a1)) (g_Vs_DiskLocks_0 (g_Vs_DrawDiskLocks_0 a1) (g_Vs_DrawDiskLocks_1 a1)) then false else bif !g_Vs_DiskOk_0 (g_Vs_DrawDiskOpen_0 a0) (g_Vs_DrawDiskOpen_1 a0) then bif IntKind.wrap IntKind.i64 ((↑(List.length (g_Vi_DiskOpen_0 (g_Vs_DrawDiskOpen_0 a0) (g_Vs_DrawDiskOpen_1 a0))) : Int) + (↑(List.length (g_Vi_DiskLocks_0 (g_Vs_DrawDiskOpen_0 a0) (g_Vs_DrawDiskOpen_1 a0))) : Int)) == (0 : Int) then g_Vw_jaOk_0 else false else bif isL (valO (g_Lw_FnDiskOpen_0 (g_Vi_DiskOpen_0 (g_Vs_DrawDiskOpen_0 a0) (g_Vs_DrawDiskOpen_1 a0)) (g_Vi_DiskLocks_0 (g_Vs_DrawDiskOpen_0 a0) (g_Vs_DrawDiskOpen_1 a0)) (g_Vs_DrawDiskOpen_1 a0) (g_Vs_DrawDiskOpen_0 a0) (0 : Int))) then getL (valO (g_Lw_FnDiskOpen_0 (g_Vi_DiskOpen_0 (g_Vs_DrawDiskOpen_0 a0) (g_Vs_DrawDiskOpen_1 a0)) (g_Vi_DiskLocks_0 (g_Vs_DrawDiskOpen_0 a0) (g_Vs_DrawDiskOpen_1 a0)) (g_Vs_DrawDiskOpen_1 a0) (g_Vs_DrawDiskOpen_0 a0) (0 : Int))) else bif isL (valO (g_Lw_FnDiskOpen_2 (g_Vi_DiskOpen_0 (g_Vs_DrawDiskOpen_0 a0) (g_Vs_DrawDiskOpen_1 a0)) (g_Vi_DiskLocks_0 (g_Vs_DrawDiskOpen_0 a0) (g_Vs_DrawDiskOpen_1 a0)) (g_Vs_DrawDiskOpen_1 a0) (g_Vs_DrawDiskOpen_0 a0) (0 : Int))) then getL (valO (g_Lw_FnDiskOpen_2 (g_Vi_DiskOpen_0 (g_Vs_DrawDiskOpen_0 a0) (g_Vs_DrawDiskOpen_1 a0)) (g_Vi_DiskLocks_0 (g_Vs_DrawDiskOpen_0 a0) (g_Vs_DrawDiskOpen_1 a0)) (g_Vs_DrawDiskOpen_1 a0) (g_Vs_DrawDiskOpen_0 a0) (0 : Int))) else g_Vw_jaOk_0
noncomputable def Fw_FnDiskOpen : FSem := fun ys => match ys with
  | [.val false [.sl .any 5 (.int .u8) a0], .val false [.sl .any 5 (.int .u8) a1]] => some ((g_Aw_FnDiskOpen a0 a1), .val false [.bool (g_Vw_FnDiskOpen_0 a0 a1)], [])
  | _ => none
theorem vw_FnDiskOpen (a0 : List (Int)) (a1 : List (Int)) : collapseH .std Ew_FnDiskOpen Ow_FnDiskOpen_3 (execFn Ew_FnDiskOpen Go.Proofs.Tryd.f10 msw_FnDiskOpen [.val false [.sl .any 5 (.int .u8) a0], .val false [.sl .any 5 (.int .u8) a1]]) = some ((g_Aw_FnDiskOpen a0 a1), .val false [.bool (g_Vw_FnDiskOpen_0 a0 a1)], []) := by kernel_rfl
theorem sw_FnDiskOpen : Sound Go.Proofs.Tryd.prog 10 msw_FnDiskOpen Fw_FnDiskOpen := by
  refine fn_gen goodw_FnDiskOpen (by kernel_rfl) .std (fn := Go.Proofs.Tryd.f10) (c := (Go.Proofs.Tryd.f10.body.getD .skip)) (o := Ow_FnDiskOpen_3) (k := 3) (by kernel_rfl) (by kernel_rfl) (by kernel_rfl) (by kernel_rfl) (by decide) kw_FnDiskOpen_3 ?_
  intro ys r outs h
  unfold Fw_FnDiskOpen at h
  split at h
  · exact (vw_FnDiskOpen _ _).trans h
  · cases h
end Go.Proofs.YtkjeicijcecmlaaDoor.E
end
section
namespace Go.Proofs.YtkjeicijcecmlaaDoor.E
open Go
set_option maxRecDepth 100000
set_option maxHeartbeats 0
set_option linter.all false
noncomputable def Eslices_Clone_int_int_a : Env where
  tt := mkTI Go.Proofs.Tryd.prog
  fn := fun _ => none
  bxf := fun _ => none
  mv := []
  keep := fun _ => []
  keepB := fun _ => []
  keepX := fun _ => []
  keepXB := fun _ => []
theorem goodFslices_Clone_int_int_a : ∀ f ms F, Eslices_Clone_int_int_a.fn f = some (ms, F) → Sound Go.Proofs.Tryd.prog f ms F := fun f ms F h => by cases h
theorem goodBslices_Clone_int_int_a : ∀ f ms F, Eslices_Clone_int_int_a.bxf f = some (ms, F) → SoundB Go.Proofs.Tryd.prog f ms F := fun f ms F h => by cases h
theorem goodslices_Clone_int_int_a : Good Go.Proofs.Tryd.prog Eslices_Clone_int_int_a := ⟨rfl, goodFslices_Clone_int_int_a, goodBslices_Clone_int_int_a⟩
noncomputable def Oslices_Clone_int_int_a_0 : Orc := fun _ _ => none
noncomputable def msslices_Clone_int_int_a : List PM := [.rd]
noncomputable def lsslices_Clone_int_int_a : List (Nat × Code) := loopsAll 0 (Go.Proofs.Tryd.f136.body.getD .skip)

theorem kslices_Clone_int_int_a_0 : OrcOk Eslices_Clone_int_int_a Oslices_Clone_int_int_a_0 lsslices_Clone_int_int_a 0 := orcOk_none
noncomputable def g_Vslices_Clone_int_int_a_0 : List (Int) := []
noncomputable def Fslices_Clone_int_int_a : FSem := fun ys => match ys with
  | [.val false [.nil 3 (.int .i64)]] => some (true, .val false [.own .any true 3 (.int .i64) g_Vslices_Clone_int_int_a_0], [])
  | _ => none
theorem vslices_Clone_int_int_a : collapseH .std Eslices_Clone_int_int_a Oslices_Clone_int_int_a_0 (execFn Eslices_Clone_int_int_a Go.Proofs.Tryd.f136 msslices_Clone_int_int_a [.val false [.nil 3 (.int .i64)]]) = some (true, .val false [.own .any true 3 (.int .i64) g_Vslices_Clone_int_int_a_0], []) := by kernel_rfl
theorem sslices_Clone_int_int_a : Sound Go.Proofs.Tryd.prog 136 msslices_Clone_int_int_a Fslices_Clone_int_int_a := by
  refine fn_gen goodslices_Clone_int_int_a (by kernel_rfl) .std (fn := Go.Proofs.Tryd.f136) (c := (Go.Proofs.Tryd.f136.body.getD .skip)) (o := Oslices_Clone_int_int_a_0) (k := 0) (by kernel_rfl) (by kernel_rfl) (by kernel_rfl) (by kernel_rfl) (by decide) kslices_Clone_int_int_a_0 ?_
  intro ys r outs h
  unfold Fslices_Clone_int_int_a at h
  split at h
  · exact (vslices_Clone_int_int_a).trans h
  · cases h
end Go.Proofs.YtkjeicijcecmlaaDoor.E
end
section
namespace Go.Proofs.YtkjeicijcecmlaaDoor.E
open Go
set_option maxRecDepth 100000
set_option maxHeartbeats 0
set_option linter.all false
noncomputable def Eslices_Clone_int_int_b : Env where
  tt := mkTI Go.Proofs.Tryd.prog
  fn := fun _ => none
  bxf := fun _ => none
  mv := []
  keep := fun _ => []
  keepB := fun _ => []
  keepX := fun _ => []
  keepXB := fun _ => []
theorem goodFslices_Clone_int_int_b : ∀ f ms F, Eslices_Clone_int_int_b.fn f = some (ms, F) → Sound Go.Proofs.Tryd.prog f ms F := fun f ms F h => by cases h
theorem goodBslices_Clone_int_int_b : ∀ f ms F, Eslices_Clone_int_int_b.bxf f = some (ms, F) → SoundB Go.Proofs.Tryd.prog f ms F := fun f ms F h => by cases h
theorem goodslices_Clone_int_int_b : Good Go.Proofs.Tryd.prog Eslices_Clone_int_int_b := ⟨rfl, goodFslices_Clone_int_int_b, goodBslices_Clone_int_int_b⟩
noncomputable def Oslices_Clone_int_int_b_0 : Orc := fun _ _ => none
noncomputable def msslices_Clone_int_int_b : List PM := [.rd]
noncomputable def lsslices_Clone_int_int_b : List (Nat × Code) := loopsAll 0 (Go.Proofs.Tryd.f136.body.getD .skip)

theorem kslices_Clone_int_int_b_0 : OrcOk Eslices_Clone_int_int_b Oslices_Clone_int_int_b_0 lsslices_Clone_int_int_b 0 := orcOk_none
noncomputable def g_Aslices_Clone_int_int_b (a0 : List (Int)) : Bool := decide ((nat_lit 0 + List.length a0) * nat_lit 8 ≤ nat_lit 140737488355328 ∧ nat_lit 0 + List.length a0 ≤ nat_lit 9223372036854775807)
noncomputable def g_Vslices_Clone_int_int_b_0 (a0 : List (Int)) : List (Int) := [] ++ a0
noncomputable def Fslices_Clone_int_int_b : FSem := fun ys => match ys with
  | [.val false [.sl .non 3 (.int .i64) a0]] => some ((g_Aslices_Clone_int_int_b a0), .val false [.own .any true 3 (.int .i64) (g_Vslices_Clone_int_int_b_0 a0)], [])
  | _ => none
theorem vslices_Clone_int_int_b (a0 : List (Int)) : collapseH .std Eslices_Clone_int_int_b Oslices_Clone_int_int_b_0 (execFn Eslices_Clone_int_int_b Go.Proofs.Tryd.f136 msslices_Clone_int_int_b [.val false [.sl .non 3 (.int .i64) a0]]) = some ((g_Aslices_Clone_int_int_b a0), .val false [.own .any true 3 (.int .i64) (g_Vslices_Clone_int_int_b_0 a0)], []) := by kernel_rfl
theorem sslices_Clone_int_int_b : Sound Go.Proofs.Tryd.prog 136 msslices_Clone_int_int_b Fslices_Clone_int_int_b := by
  refine fn_gen goodslices_Clone_int_int_b (by kernel_rfl) .std (fn := Go.Proofs.Tryd.f136) (c := (Go.Proofs.Tryd.f136.body.getD .skip)) (o := Oslices_Clone_int_int_b_0) (k := 0) (by kernel_rfl) (by kernel_rfl) (by kernel_rfl) (by kernel_rfl) (by decide) kslices_Clone_int_int_b_0 ?_
  intro ys r outs h
  unfold Fslices_Clone_int_int_b at h
  split at h
  · exact (vslices_Clone_int_int_b _).trans h
  · cases h
end Go.Proofs.YtkjeicijcecmlaaDoor.E
end
section
namespace Go.Proofs.YtkjeicijcecmlaaDoor.E
open Go
set_option maxRecDepth 100000
set_option linter.all false
def msslices_Clone_int_int : List PM := [.rd]
noncomputable def Fslices_Clone_int_int : FSem := fun ys => match ys with
  | [.val false [.sl .any 3 (.int .i64) a0]] => some ((g_Aslices_Clone_int_int_b a0), .val false [.own .any true 3 (.int .i64) a0], [])
  | _ => none
theorem sslices_Clone_int_int : Sound Go.Proofs.Tryd.prog 136 msslices_Clone_int_int Fslices_Clone_int_int := by
  refine sound_cases (el := 3) (e := (.int .i64)) sslices_Clone_int_int_a sslices_Clone_int_int_b (fun ys r outs h => ?_)
  unfold Fslices_Clone_int_int at h
  split at h
  · rename_i a0
    simp only [Option.some.injEq, Prod.mk.injEq] at h
    obtain ⟨h1, rfl, rfl⟩ := h
    refine ⟨a0, rfl, fun e => ?_, ?_⟩
    · subst e
      rfl
    · show some ((g_Aslices_Clone_int_int_b a0), RV.val false [Cell.own .any true 3 (.int .i64) ([] ++ a0)], []) = _
      rw [h1, List.nil_append]
  · cases h
end Go.Proofs.YtkjeicijcecmlaaDoor.E
end
