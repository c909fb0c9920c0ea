/- What the functions that are reached do, by the engine: for the proof (laws.FnPlcTick): part 2. No conditions. -/
import Derived.Test.YtibafhmmnoijkaaDoorGa
import Derived.Test.YtibafhmmnoijkaaDoorProg
import Derived.Test.YtibafhmmnoijkaaDoorShelf
set_option linter.all false
section
namespace Go.Proofs.YtibafhmmnoijkaaDoor.E
open Go
set_option maxRecDepth 100000
set_option maxHeartbeats 0
set_option linter.all false
noncomputable def Es_l20Key : Env where
  tt := mkTI Go.Proofs.Tryd.prog
  fn := fun f => match f with
    | 72 => some (mss_l20Rd_pick, FSem.wk mss_l20Rd_pick Fs_l20Rd_pick)
    | 81 => some (mss_l20Rd_oddR, FSem.wk mss_l20Rd_oddR Fs_l20Rd_oddR)
    | 93 => some (mss_l3Plain, FSem.wk mss_l3Plain Fs_l3Plain)
    | _ => none
  bxf := fun _ => none
  mv := []
  keep := fun _ => []
  keepB := fun _ => []
  keepX := fun _ => []
  keepXB := fun _ => []
theorem goodFs_l20Key : ∀ f ms F, Es_l20Key.fn f = some (ms, F) → Sound Go.Proofs.Tryd.prog f ms F := fun f ms F h => by
  unfold Es_l20Key at h
  dsimp only at h
  split at h
  · injection h with h; injection h with e1 e2; subst e1 e2; exact Sound.wk ss_l20Rd_pick
  · injection h with h; injection h with e1 e2; subst e1 e2; exact Sound.wk ss_l20Rd_oddR
  · injection h with h; injection h with e1 e2; subst e1 e2; exact Sound.wk ss_l3Plain
  · cases h
theorem goodBs_l20Key : ∀ f ms F, Es_l20Key.bxf f = some (ms, F) → SoundB Go.Proofs.Tryd.prog f ms F := fun f ms F h => by cases h
theorem goods_l20Key : Good Go.Proofs.Tryd.prog Es_l20Key := ⟨rfl, goodFs_l20Key, goodBs_l20Key⟩
noncomputable def Os_l20Key_0 : Orc := fun _ _ => none
noncomputable def mss_l20Key : List PM := [.bx, .own]
noncomputable def lss_l20Key : List (Nat × Code) := loopsAll 0 (Go.Proofs.Tryd.f128.body.getD .skip)

theorem ks_l20Key_0 : OrcOk Es_l20Key Os_l20Key_0 lss_l20Key 0 := orcOk_none
noncomputable def g_As_l20Key (r0 : List Int) (r1 : Int) (a2 : Int) : Bool := g_pickA r0 r1 (5 : Int) && (decide ((0 : Int) ≤ g_pick r0 r1 (5 : Int) ∧ g_pick r0 r1 (5 : Int) < (5 : Int)) && (decide (Int.toNat (g_pick r0 r1 (5 : Int)) < nat_lit 5) && (g_pickA r0 (IntKind.wrap IntKind.i64 (r1 + (1 : Int))) (4 : Int) && (g_pickA r0 (IntKind.wrap IntKind.i64 (IntKind.wrap IntKind.i64 (r1 + (1 : Int)) + (1 : Int))) (30 : Int) && (g_pickA r0 (IntKind.wrap IntKind.i64 (IntKind.wrap IntKind.i64 (IntKind.wrap IntKind.i64 (r1 + (1 : Int)) + (1 : Int)) + (1 : Int))) (2 : Int) && (decide ((0 : Int) ≤ g_pick r0 (IntKind.wrap IntKind.i64 (IntKind.wrap IntKind.i64 (IntKind.wrap IntKind.i64 (r1 + (1 : Int)) + (1 : Int)) + (1 : Int))) (2 : Int) ∧ g_pick r0 (IntKind.wrap IntKind.i64 (IntKind.wrap IntKind.i64 (IntKind.wrap IntKind.i64 (r1 + (1 : Int)) + (1 : Int)) + (1 : Int))) (2 : Int) < (↑(List.length [g_pick r0 (IntKind.wrap IntKind.i64 (r1 + (1 : Int))) (4 : Int), g_pick r0 (IntKind.wrap IntKind.i64 (IntKind.wrap IntKind.i64 (r1 + (1 : Int)) + (1 : Int))) (30 : Int)]) : Int)) && (decide (Int.toNat (g_pick r0 (IntKind.wrap IntKind.i64 (IntKind.wrap IntKind.i64 (IntKind.wrap IntKind.i64 (r1 + (1 : Int)) + (1 : Int)) + (1 : Int))) (2 : Int)) < List.length [g_pick r0 (IntKind.wrap IntKind.i64 (r1 + (1 : Int))) (4 : Int), g_pick r0 (IntKind.wrap IntKind.i64 (IntKind.wrap IntKind.i64 (r1 + (1 : Int)) + (1 : Int))) (30 : Int)]) && (g_As_l3Plain (at_ (Ty.int IntKind.i64) [g_pick r0 (IntKind.wrap IntKind.i64 (r1 + (1 : Int))) (4 : Int), g_pick r0 (IntKind.wrap IntKind.i64 (IntKind.wrap IntKind.i64 (r1 + (1 : Int)) + (1 : Int))) (30 : Int)] (Int.toNat (g_pick r0 (IntKind.wrap IntKind.i64 (IntKind.wrap IntKind.i64 (IntKind.wrap IntKind.i64 (r1 + (1 : Int)) + (1 : Int)) + (1 : Int))) (2 : Int)))) && (decide (ByteArray.size (at_ Ty.str [lit [(115 : Nat)], lit [(99 : Nat)], lit [(102 : Nat)], lit [(117 : Nat)], lit [(97 : Nat)]] (Int.toNat (g_pick r0 r1 (5 : Int)))) + ByteArray.size (g_Vs_l3Plain_0 (at_ (Ty.int IntKind.i64) [g_pick r0 (IntKind.wrap IntKind.i64 (r1 + (1 : Int))) (4 : Int), g_pick r0 (IntKind.wrap IntKind.i64 (IntKind.wrap IntKind.i64 (r1 + (1 : Int)) + (1 : Int))) (30 : Int)] (Int.toNat (g_pick r0 (IntKind.wrap IntKind.i64 (IntKind.wrap IntKind.i64 (IntKind.wrap IntKind.i64 (r1 + (1 : Int)) + (1 : Int)) + (1 : Int))) (2 : Int))))) ≤ nat_lit 9223372036854775807) && (g_As_l20Rd_odd r0 (IntKind.wrap IntKind.i64 (IntKind.wrap IntKind.i64 (IntKind.wrap IntKind.i64 (IntKind.wrap IntKind.i64 (r1 + (1 : Int)) + (1 : Int)) + (1 : Int)) + (1 : Int))) a2 && (!g_Vs_l20Rd_odd_0 r0 (IntKind.wrap IntKind.i64 (IntKind.wrap IntKind.i64 (IntKind.wrap IntKind.i64 (IntKind.wrap IntKind.i64 (r1 + (1 : Int)) + (1 : Int)) + (1 : Int)) + (1 : Int))) a2 || g_pickA r0 (g_Vs_l20Rd_odd_2 r0 (IntKind.wrap IntKind.i64 (IntKind.wrap IntKind.i64 (IntKind.wrap IntKind.i64 (IntKind.wrap IntKind.i64 (r1 + (1 : Int)) + (1 : Int)) + (1 : Int)) + (1 : Int))) a2) (6 : Int) && (decide ((0 : Int) ≤ g_pick r0 (g_Vs_l20Rd_odd_2 r0 (IntKind.wrap IntKind.i64 (IntKind.wrap IntKind.i64 (IntKind.wrap IntKind.i64 (IntKind.wrap IntKind.i64 (r1 + (1 : Int)) + (1 : Int)) + (1 : Int)) + (1 : Int))) a2) (6 : Int) ∧ g_pick r0 (g_Vs_l20Rd_odd_2 r0 (IntKind.wrap IntKind.i64 (IntKind.wrap IntKind.i64 (IntKind.wrap IntKind.i64 (IntKind.wrap IntKind.i64 (r1 + (1 : Int)) + (1 : Int)) + (1 : Int)) + (1 : Int))) a2) (6 : Int) < (6 : Int)) && decide (Int.toNat (g_pick r0 (g_Vs_l20Rd_odd_2 r0 (IntKind.wrap IntKind.i64 (IntKind.wrap IntKind.i64 (IntKind.wrap IntKind.i64 (IntKind.wrap IntKind.i64 (r1 + (1 : Int)) + (1 : Int)) + (1 : Int)) + (1 : Int))) a2) (6 : Int)) < nat_lit 6)))))))))))))
noncomputable def g_Vs_l20Key_0 (r0 : List Int) (r1 : Int) (a2 : Int) : ByteArray := bif g_Vs_l20Rd_odd_0 r0 (IntKind.wrap IntKind.i64 (IntKind.wrap IntKind.i64 (IntKind.wrap IntKind.i64 (IntKind.wrap IntKind.i64 (r1 + (1 : Int)) + (1 : Int)) + (1 : Int)) + (1 : Int))) a2 then at_ Ty.str [lit [], lit [(115 : Nat)], lit [(83 : Nat), (49 : Nat)], lit [(115 : Nat), (49 : Nat), (50 : Nat), (51 : Nat)], lit [(49 : Nat), (115 : Nat)], lit [(115 : Nat), (97 : Nat)]] (Int.toNat (g_pick r0 (g_Vs_l20Rd_odd_2 r0 (IntKind.wrap IntKind.i64 (IntKind.wrap IntKind.i64 (IntKind.wrap IntKind.i64 (IntKind.wrap IntKind.i64 (r1 + (1 : Int)) + (1 : Int)) + (1 : Int)) + (1 : Int))) a2) (6 : Int))) else at_ Ty.str [lit [(115 : Nat)], lit [(99 : Nat)], lit [(102 : Nat)], lit [(117 : Nat)], lit [(97 : Nat)]] (Int.toNat (g_pick r0 r1 (5 : Int))) ++ g_Vs_l3Plain_0 (at_ (Ty.int IntKind.i64) [g_pick r0 (IntKind.wrap IntKind.i64 (r1 + (1 : Int))) (4 : Int), g_pick r0 (IntKind.wrap IntKind.i64 (IntKind.wrap IntKind.i64 (r1 + (1 : Int)) + (1 : Int))) (30 : Int)] (Int.toNat (g_pick r0 (IntKind.wrap IntKind.i64 (IntKind.wrap IntKind.i64 (IntKind.wrap IntKind.i64 (r1 + (1 : Int)) + (1 : Int)) + (1 : Int))) (2 : Int))))
noncomputable def g_Vs_l20Key_1 (r0 : List Int) (r1 : Int) (a2 : Int) : List (Int) := bif g_Vs_l20Rd_odd_0 r0 (IntKind.wrap IntKind.i64 (IntKind.wrap IntKind.i64 (IntKind.wrap IntKind.i64 (IntKind.wrap IntKind.i64 (r1 + (1 : Int)) + (1 : Int)) + (1 : Int)) + (1 : Int))) a2 then r0 else r0
noncomputable def g_Vs_l20Key_2 (r0 : List Int) (r1 : Int) (a2 : Int) : Int := bif g_Vs_l20Rd_odd_0 r0 (IntKind.wrap IntKind.i64 (IntKind.wrap IntKind.i64 (IntKind.wrap IntKind.i64 (IntKind.wrap IntKind.i64 (r1 + (1 : Int)) + (1 : Int)) + (1 : Int)) + (1 : Int))) a2 then IntKind.wrap IntKind.i64 (g_Vs_l20Rd_odd_2 r0 (IntKind.wrap IntKind.i64 (IntKind.wrap IntKind.i64 (IntKind.wrap IntKind.i64 (IntKind.wrap IntKind.i64 (r1 + (1 : Int)) + (1 : Int)) + (1 : Int)) + (1 : Int))) a2 + (1 : Int)) else g_Vs_l20Rd_odd_2 r0 (IntKind.wrap IntKind.i64 (IntKind.wrap IntKind.i64 (IntKind.wrap IntKind.i64 (IntKind.wrap IntKind.i64 (r1 + (1 : Int)) + (1 : Int)) + (1 : Int)) + (1 : Int))) a2
noncomputable def Fs_l20Key : FSem := fun ys => match ys with
  | [.val true [.sl .any 5 (.int .u8) r0, .int .i64 r1], .val false [.int .i64 a2]] => some ((g_As_l20Key r0 r1 a2), .val false [.str (g_Vs_l20Key_0 r0 r1 a2)], [[.sl .any 5 (.int .u8) (g_Vs_l20Key_1 r0 r1 a2), .int .i64 (g_Vs_l20Key_2 r0 r1 a2)]])
  | _ => none
theorem vs_l20Key (r0 : List Int) (r1 : Int) (a2 : Int) : collapseH .std Es_l20Key Os_l20Key_0 (execFn Es_l20Key Go.Proofs.Tryd.f128 mss_l20Key [.val true [.sl .any 5 (.int .u8) r0, .int .i64 r1], .val false [.int .i64 a2]]) = some ((g_As_l20Key r0 r1 a2), .val false [.str (g_Vs_l20Key_0 r0 r1 a2)], [[.sl .any 5 (.int .u8) (g_Vs_l20Key_1 r0 r1 a2), .int .i64 (g_Vs_l20Key_2 r0 r1 a2)]]) := by kernel_rfl
theorem ss_l20Key : Sound Go.Proofs.Tryd.prog 128 mss_l20Key Fs_l20Key := by
  refine fn_gen goods_l20Key (by kernel_rfl) .std (fn := Go.Proofs.Tryd.f128) (c := (Go.Proofs.Tryd.f128.body.getD .skip)) (o := Os_l20Key_0) (k := 0) (by kernel_rfl) (by kernel_rfl) (by kernel_rfl) (by kernel_rfl) (by decide) ks_l20Key_0 ?_
  intro ys r outs h
  unfold Fs_l20Key at h
  split at h
  · exact (vs_l20Key _ _ _).trans h
  · cases h
end Go.Proofs.YtibafhmmnoijkaaDoor.E
end
section
namespace Go.Proofs.YtibafhmmnoijkaaDoor.E
open Go
set_option maxRecDepth 100000
set_option linter.all false
noncomputable def mss_l20KeyR : List PM := mss_l20Key
theorem sames_l20Key (r0 : List Int) (r1 : Int) (a2 : Int) : g_Vs_l20Key_1 r0 r1 a2 = r0 := by
  unfold g_Vs_l20Key_1
  simp only [Bool.cond_self]
noncomputable def Fs_l20KeyR : FSem := fun ys => match ys with
  | [.val true [.sl .any 5 (.int .u8) r0, .int .i64 r1], .val false [.int .i64 a2]] => some ((g_As_l20Key r0 r1 a2), .val false [.str (g_Vs_l20Key_0 r0 r1 a2)], [[.sl .any 5 (.int .u8) r0, .int .i64 (g_Vs_l20Key_2 r0 r1 a2)]])
  | _ => none
theorem ss_l20KeyR : Sound Go.Proofs.Tryd.prog 128 mss_l20KeyR Fs_l20KeyR := by
  refine ⟨ss_l20Key.fn, fun w S ψ ys vs r outs hF hh hg => ss_l20Key.calls w S ψ ys vs r outs (Eq.trans ?_ hF) hh hg⟩
  unfold Fs_l20KeyR at hF ⊢
  split at hF
  · rename_i  r0 r1 a2
    show (some ((g_As_l20Key r0 r1 a2), .val false [.str (g_Vs_l20Key_0 r0 r1 a2)], [[.sl .any 5 (.int .u8) (g_Vs_l20Key_1 r0 r1 a2), .int .i64 (g_Vs_l20Key_2 r0 r1 a2)]]) : Option (Bool × RV × List (List Cell))) = _
    rw [sames_l20Key]
  · cases hF
end Go.Proofs.YtibafhmmnoijkaaDoor.E
end
section
namespace Go.Proofs.YtibafhmmnoijkaaDoor.E
open Go
set_option maxRecDepth 100000
set_option maxHeartbeats 0
set_option linter.all false
noncomputable def Es_l20Val : Env where
  tt := mkTI Go.Proofs.Tryd.prog
  fn := fun f => match f with
    | 72 => some (mss_l20Rd_pick, FSem.wk mss_l20Rd_pick Fs_l20Rd_pick)
    | 81 => some (mss_l20Rd_oddR, FSem.wk mss_l20Rd_oddR Fs_l20Rd_oddR)
    | _ => none
  bxf := fun _ => none
  mv := []
  keep := fun b => match b with
    | 0 => [(0, false), (1, false), (5, false), (6, false)]
    | _ => []
  keepB := fun b => match b with
    | 0 => [(0, false)]
    | _ => []
  keepX := fun b => match b with
    | 0 => [(0, false), (1, false), (5, false)]
    | _ => []
  keepXB := fun b => match b with
    | 0 => [(0, false)]
    | _ => []
theorem goodFs_l20Val : ∀ f ms F, Es_l20Val.fn f = some (ms, F) → Sound Go.Proofs.Tryd.prog f ms F := fun f ms F h => by
  unfold Es_l20Val at h
  dsimp only at h
  split at h
  · injection h with h; injection h with e1 e2; subst e1 e2; exact Sound.wk ss_l20Rd_pick
  · injection h with h; injection h with e1 e2; subst e1 e2; exact Sound.wk ss_l20Rd_oddR
  · cases h
theorem goodBs_l20Val : ∀ f ms F, Es_l20Val.bxf f = some (ms, F) → SoundB Go.Proofs.Tryd.prog f ms F := fun f ms F h => by cases h
theorem goods_l20Val : Good Go.Proofs.Tryd.prog Es_l20Val := ⟨rfl, goodFs_l20Val, goodBs_l20Val⟩
noncomputable def Os_l20Val_0 : Orc := fun _ _ => none
noncomputable def mss_l20Val : List PM := [.bx, .own]
noncomputable def lss_l20Val : List (Nat × Code) := loopsAll 0 (Go.Proofs.Tryd.f132.body.getD .skip)
noncomputable def cs_l20Val_0 : Code := (loopOf 0 (Go.Proofs.Tryd.f132.body.getD .skip)).getD .skip
theorem lseqs_l20Val : lss_l20Val = [(0, cs_l20Val_0)] := by kernel_rfl
theorem ms_l20Val_0 : ∀ p, p ∈ lss_l20Val → p.1 = 0 → p.2 = cs_l20Val_0 := by
  intro p hp
  rw [lseqs_l20Val] at hp
  simp only [List.mem_cons, List.not_mem_nil, or_false] at hp
  subst hp; simp
theorem ks_l20Val_0 : OrcOk Es_l20Val Os_l20Val_0 lss_l20Val 0 := orcOk_none
noncomputable def hs_l20Val_0 (y0 : Int) (y1 : List (Int)) (y2 : Int) (y3 : List (Int)) (y4 : Int) : List (Pl × LV) := [(.T 0, .t (.val false [.ptr 0 0 0])), (.T 1, .t (.val false [.int .i64 y0])), (.T 5, .t (.val false [.row 5 0 0])), (.R 5 0, .r 0 (some ⟨false, .non, true, 3, (.int .i64), y1⟩)), (.T 6, .t (.val false [.int .i64 y2])), (.B 0, .b 0 false [.sl .any 5 (.int .u8) y3, .int .i64 y4])]
noncomputable def g_Ss_l20Val_0 (y0 : Int) (y3 : List (Int)) : ((List (Int)) × (Int) × (Int)) → RT ((List (Int)) × (Int) × (Int)) (((List (Int)) × (Int)))
  | (y1, y2, y4) => .br (true) (.br (decide (y2 > (0 : Int))) (.br (g_pickA y3 y4 (12 : Int)) (.br (decide ((List.length y1 + List.length [g_pick y3 y4 (12 : Int)]) * nat_lit 8 ≤ nat_lit 140737488355328 ∧ List.length y1 + List.length [g_pick y3 y4 (12 : Int)] ≤ nat_lit 9223372036854775807)) (.br (true) (.go ((y1 ++ [g_pick y3 y4 (12 : Int)], IntKind.wrap IntKind.i64 (y2 - (1 : Int)), IntKind.wrap IntKind.i64 (y4 + (1 : Int))))) (.bad)) (.bad)) (.bad)) (.out ((y1, y4)))) (.bad)
noncomputable def g_Ls_l20Val_0 (y0 : Int) (y3 : List (Int)) (x : (List (Int)) × (Int) × (Int)) : Option (((List (Int)) × (Int))) := loopO (g_Ss_l20Val_0 y0 y3) x
noncomputable def xs_l20Val_0 (y0 : Int) (y3 : List (Int)) : (((List (Int)) × (Int))) → Ex × List (Pl × LV) := fun r => (.exit 0, [(.T 0, .t (.val false [.ptr 0 0 0])), (.T 1, .t (.val false [.int .i64 y0])), (.T 5, .t (.val false [.row 5 0 0])), (.R 5 0, .r 0 (some ⟨false, .non, true, 3, (.int .i64), r.1⟩)), (.B 0, .b 0 false [.sl .any 5 (.int .u8) y3, .int .i64 r.2])])
noncomputable def Os_l20Val_1 : Orc := fun b h => match b, h with
  | 0, [(.T 0, .t (.val false [.ptr 0 0 0])), (.T 1, .t (.val false [.int .i64 y0])), (.T 5, .t (.val false [.row 5 0 0])), (.R 5 0, .r 0 (some ⟨false, .non, true, 3, (.int .i64), y1⟩)), (.T 6, .t (.val false [.int .i64 y2])), (.B 0, .b 0 false [.sl .any 5 (.int .u8) y3, .int .i64 y4])] => some (okO (g_Ls_l20Val_0 y0 y3 (y1, y2, y4)), (.leaf (.exit 0) [(.T 0, .t (.val false [.ptr 0 0 0])), (.T 1, .t (.val false [.int .i64 y0])), (.T 5, .t (.val false [.row 5 0 0])), (.R 5 0, .r 0 (some ⟨false, .non, true, 3, (.int .i64), (valO (g_Ls_l20Val_0 y0 y3 (y1, y2, y4))).1⟩)), (.B 0, .b 0 false [.sl .any 5 (.int .u8) y3, .int .i64 (valO (g_Ls_l20Val_0 y0 y3 (y1, y2, y4))).2])]))
  | b, h => Os_l20Val_0 b h
theorem bs_l20Val_0 (y0 : Int) (y1 : List (Int)) (y2 : Int) (y3 : List (Int)) (y4 : Int) : Tr.bt Es_l20Val Os_l20Val_0 (exec Es_l20Val 0 cs_l20Val_0 (St.of (hs_l20Val_0 y0 y1 y2 y3 y4)) (leafRd Es_l20Val 0)) = (g_Ss_l20Val_0 y0 y3 (y1, y2, y4)).bt (fun ((y1, y2, y4) : (List (Int)) × (Int) × (Int)) => (hs_l20Val_0 y0 y1 y2 y3 y4)) (xs_l20Val_0 y0 y3) := by kernel_rfl
theorem ks_l20Val_1 : OrcOk Es_l20Val Os_l20Val_1 lss_l20Val 1 := orc_add ks_l20Val_0 (fun n p hp h ex h' ho => by
  obtain ⟨b, c⟩ := p
  obtain ⟨xt, h1, h2⟩ := ho
  have h1 : Os_l20Val_1 b h = some (true, xt) := h1
  unfold Os_l20Val_1 at h1
  split at h1
  · injection h1 with h1
    injection h1 with e1 e2
    subst e2
    have hc : c = cs_l20Val_0 := ms_l20Val_0 _ hp rfl
    subst hc
    right
    rename_i y0 y1 y2 y3 y4
    have key := LT_step ks_l20Val_0 hp (fun q hq => loopsAll_in _ _ _ _ hp hq) (fun ((y1, y2, y4) : (List (Int)) × (Int) × (Int)) => (hs_l20Val_0 y0 y1 y2 y3 y4)) (xs_l20Val_0 y0 y3) (g_Ss_l20Val_0 y0 y3) (fun x => by first | exact bs_l20Val_0 y0 x.1 x.2.1 y3 x.2.2) n (x := (y1, y2, y4)) (okO_some e1)
    have hx : ∀ r, XT.sel (.leaf (.exit 0) [(.T 0, .t (.val false [.ptr 0 0 0])), (.T 1, .t (.val false [.int .i64 y0])), (.T 5, .t (.val false [.row 5 0 0])), (.R 5 0, .r 0 (some ⟨false, .non, true, 3, (.int .i64), r.1⟩)), (.B 0, .b 0 false [.sl .any 5 (.int .u8) y3, .int .i64 r.2])]) = xs_l20Val_0 y0 y3 r := fun r => by first | rfl | (rcases r with r | r <;> rfl) | (rcases r with r | r | r <;> rfl) | (rcases r with r | r | r | r <;> rfl)
    have h3 := (hx (valO (g_Ls_l20Val_0 y0 y3 (y1, y2, y4)))).symm.trans h2
    have e3 := congrArg Prod.fst h3
    have e4 := congrArg Prod.snd h3
    simp only at e3 e4
    rw [← e3, ← e4]
    exact key
  · exact .inl ⟨xt, h1, h2⟩)
noncomputable def g_As_l20Val (r0 : List Int) (r1 : Int) (a2 : Int) : Bool := g_pickA r0 r1 (4 : Int) && (g_pickA r0 (IntKind.wrap IntKind.i64 (r1 + (1 : Int))) (3 : Int) && (okO (g_Ls_l20Val_0 a2 r0 ([g_pick r0 r1 (4 : Int)], g_pick r0 (IntKind.wrap IntKind.i64 (r1 + (1 : Int))) (3 : Int), IntKind.wrap IntKind.i64 (IntKind.wrap IntKind.i64 (r1 + (1 : Int)) + (1 : Int)))) && (g_As_l20Rd_odd r0 (valO (g_Ls_l20Val_0 a2 r0 ([g_pick r0 r1 (4 : Int)], g_pick r0 (IntKind.wrap IntKind.i64 (r1 + (1 : Int))) (3 : Int), IntKind.wrap IntKind.i64 (IntKind.wrap IntKind.i64 (r1 + (1 : Int)) + (1 : Int))))).2 a2 && (!g_Vs_l20Rd_odd_0 r0 (valO (g_Ls_l20Val_0 a2 r0 ([g_pick r0 r1 (4 : Int)], g_pick r0 (IntKind.wrap IntKind.i64 (r1 + (1 : Int))) (3 : Int), IntKind.wrap IntKind.i64 (IntKind.wrap IntKind.i64 (r1 + (1 : Int)) + (1 : Int))))).2 a2 || g_pickA r0 (g_Vs_l20Rd_odd_2 r0 (valO (g_Ls_l20Val_0 a2 r0 ([g_pick r0 r1 (4 : Int)], g_pick r0 (IntKind.wrap IntKind.i64 (r1 + (1 : Int))) (3 : Int), IntKind.wrap IntKind.i64 (IntKind.wrap IntKind.i64 (r1 + (1 : Int)) + (1 : Int))))).2 a2) (4 : Int) && (decide ((0 : Int) ≤ g_pick r0 (g_Vs_l20Rd_odd_2 r0 (valO (g_Ls_l20Val_0 a2 r0 ([g_pick r0 r1 (4 : Int)], g_pick r0 (IntKind.wrap IntKind.i64 (r1 + (1 : Int))) (3 : Int), IntKind.wrap IntKind.i64 (IntKind.wrap IntKind.i64 (r1 + (1 : Int)) + (1 : Int))))).2 a2) (4 : Int) ∧ g_pick r0 (g_Vs_l20Rd_odd_2 r0 (valO (g_Ls_l20Val_0 a2 r0 ([g_pick r0 r1 (4 : Int)], g_pick r0 (IntKind.wrap IntKind.i64 (r1 + (1 : Int))) (3 : Int), IntKind.wrap IntKind.i64 (IntKind.wrap IntKind.i64 (r1 + (1 : Int)) + (1 : Int))))).2 a2) (4 : Int) < (4 : Int)) && decide (Int.toNat (g_pick r0 (g_Vs_l20Rd_odd_2 r0 (valO (g_Ls_l20Val_0 a2 r0 ([g_pick r0 r1 (4 : Int)], g_pick r0 (IntKind.wrap IntKind.i64 (r1 + (1 : Int))) (3 : Int), IntKind.wrap IntKind.i64 (IntKind.wrap IntKind.i64 (r1 + (1 : Int)) + (1 : Int))))).2 a2) (4 : Int)) < nat_lit 4))))))
noncomputable def g_Vs_l20Val_0 (r0 : List Int) (r1 : Int) (a2 : Int) : List (Int) := bif g_Vs_l20Rd_odd_0 r0 (valO (g_Ls_l20Val_0 a2 r0 ([g_pick r0 r1 (4 : Int)], g_pick r0 (IntKind.wrap IntKind.i64 (r1 + (1 : Int))) (3 : Int), IntKind.wrap IntKind.i64 (IntKind.wrap IntKind.i64 (r1 + (1 : Int)) + (1 : Int))))).2 a2 then at_ (Ty.sl (nat_lit 3) (Ty.int IntKind.i64)) [[], [(-1 : Int)], [(10000 : Int)], [(1 : Int), (2 : Int), (3 : Int), (4 : Int)]] (Int.toNat (g_pick r0 (g_Vs_l20Rd_odd_2 r0 (valO (g_Ls_l20Val_0 a2 r0 ([g_pick r0 r1 (4 : Int)], g_pick r0 (IntKind.wrap IntKind.i64 (r1 + (1 : Int))) (3 : Int), IntKind.wrap IntKind.i64 (IntKind.wrap IntKind.i64 (r1 + (1 : Int)) + (1 : Int))))).2 a2) (4 : Int))) else (valO (g_Ls_l20Val_0 a2 r0 ([g_pick r0 r1 (4 : Int)], g_pick r0 (IntKind.wrap IntKind.i64 (r1 + (1 : Int))) (3 : Int), IntKind.wrap IntKind.i64 (IntKind.wrap IntKind.i64 (r1 + (1 : Int)) + (1 : Int))))).1
noncomputable def g_Vs_l20Val_1 (r0 : List Int) (r1 : Int) (a2 : Int) : List (Int) := bif g_Vs_l20Rd_odd_0 r0 (valO (g_Ls_l20Val_0 a2 r0 ([g_pick r0 r1 (4 : Int)], g_pick r0 (IntKind.wrap IntKind.i64 (r1 + (1 : Int))) (3 : Int), IntKind.wrap IntKind.i64 (IntKind.wrap IntKind.i64 (r1 + (1 : Int)) + (1 : Int))))).2 a2 then r0 else r0
noncomputable def g_Vs_l20Val_2 (r0 : List Int) (r1 : Int) (a2 : Int) : Int := bif g_Vs_l20Rd_odd_0 r0 (valO (g_Ls_l20Val_0 a2 r0 ([g_pick r0 r1 (4 : Int)], g_pick r0 (IntKind.wrap IntKind.i64 (r1 + (1 : Int))) (3 : Int), IntKind.wrap IntKind.i64 (IntKind.wrap IntKind.i64 (r1 + (1 : Int)) + (1 : Int))))).2 a2 then IntKind.wrap IntKind.i64 (g_Vs_l20Rd_odd_2 r0 (valO (g_Ls_l20Val_0 a2 r0 ([g_pick r0 r1 (4 : Int)], g_pick r0 (IntKind.wrap IntKind.i64 (r1 + (1 : Int))) (3 : Int), IntKind.wrap IntKind.i64 (IntKind.wrap IntKind.i64 (r1 + (1 : Int)) + (1 : Int))))).2 a2 + (1 : Int)) else g_Vs_l20Rd_odd_2 r0 (valO (g_Ls_l20Val_0 a2 r0 ([g_pick r0 r1 (4 : Int)], g_pick r0 (IntKind.wrap IntKind.i64 (r1 + (1 : Int))) (3 : Int), IntKind.wrap IntKind.i64 (IntKind.wrap IntKind.i64 (r1 + (1 : Int)) + (1 : Int))))).2 a2
noncomputable def Fs_l20Val : FSem := fun ys => match ys with
  | [.val true [.sl .any 5 (.int .u8) r0, .int .i64 r1], .val false [.int .i64 a2]] => some ((g_As_l20Val r0 r1 a2), .val false [.sl .any 3 (.int .i64) (g_Vs_l20Val_0 r0 r1 a2)], [[.sl .any 5 (.int .u8) (g_Vs_l20Val_1 r0 r1 a2), .int .i64 (g_Vs_l20Val_2 r0 r1 a2)]])
  | _ => none
theorem vs_l20Val (r0 : List Int) (r1 : Int) (a2 : Int) : collapseH .fr Es_l20Val Os_l20Val_1 (execFn Es_l20Val Go.Proofs.Tryd.f132 mss_l20Val [.val true [.sl .any 5 (.int .u8) r0, .int .i64 r1], .val false [.int .i64 a2]]) = some ((g_As_l20Val r0 r1 a2), .val false [.sl .any 3 (.int .i64) (g_Vs_l20Val_0 r0 r1 a2)], [[.sl .any 5 (.int .u8) (g_Vs_l20Val_1 r0 r1 a2), .int .i64 (g_Vs_l20Val_2 r0 r1 a2)]]) := by kernel_rfl
theorem ss_l20Val : Sound Go.Proofs.Tryd.prog 132 mss_l20Val Fs_l20Val := by
  refine fn_gen goods_l20Val (by kernel_rfl) .fr (fn := Go.Proofs.Tryd.f132) (c := (Go.Proofs.Tryd.f132.body.getD .skip)) (o := Os_l20Val_1) (k := 1) (by kernel_rfl) (by kernel_rfl) (by kernel_rfl) (by kernel_rfl) (by decide) ks_l20Val_1 ?_
  intro ys r outs h
  unfold Fs_l20Val at h
  split at h
  · exact (vs_l20Val _ _ _).trans h
  · cases h
end Go.Proofs.YtibafhmmnoijkaaDoor.E
end
section
namespace Go.Proofs.YtibafhmmnoijkaaDoor.E
open Go
set_option maxRecDepth 100000
set_option linter.all false
noncomputable def mss_l20ValR : List PM := mss_l20Val
theorem sames_l20Val (r0 : List Int) (r1 : Int) (a2 : Int) : g_Vs_l20Val_1 r0 r1 a2 = r0 := by
  unfold g_Vs_l20Val_1
  simp only [Bool.cond_self]
noncomputable def Fs_l20ValR : FSem := fun ys => match ys with
  | [.val true [.sl .any 5 (.int .u8) r0, .int .i64 r1], .val false [.int .i64 a2]] => some ((g_As_l20Val r0 r1 a2), .val false [.sl .any 3 (.int .i64) (g_Vs_l20Val_0 r0 r1 a2)], [[.sl .any 5 (.int .u8) r0, .int .i64 (g_Vs_l20Val_2 r0 r1 a2)]])
  | _ => none
theorem ss_l20ValR : Sound Go.Proofs.Tryd.prog 132 mss_l20ValR Fs_l20ValR := by
  refine ⟨ss_l20Val.fn, fun w S ψ ys vs r outs hF hh hg => ss_l20Val.calls w S ψ ys vs r outs (Eq.trans ?_ hF) hh hg⟩
  unfold Fs_l20ValR at hF ⊢
  split at hF
  · rename_i  r0 r1 a2
    show (some ((g_As_l20Val r0 r1 a2), .val false [.sl .any 3 (.int .i64) (g_Vs_l20Val_0 r0 r1 a2)], [[.sl .any 5 (.int .u8) (g_Vs_l20Val_1 r0 r1 a2), .int .i64 (g_Vs_l20Val_2 r0 r1 a2)]]) : Option (Bool × RV × List (List Cell))) = _
    rw [sames_l20Val]
  · cases hF
end Go.Proofs.YtibafhmmnoijkaaDoor.E
end
section
namespace Go.Proofs.YtibafhmmnoijkaaDoor.E
open Go
set_option maxRecDepth 100000
set_option maxHeartbeats 0
set_option linter.all false
noncomputable def Es_l20Write : Env where
  tt := mkTI Go.Proofs.Tryd.prog
  fn := fun f => match f with
    | 72 => some (mss_l20Rd_pick, FSem.wk mss_l20Rd_pick Fs_l20Rd_pick)
    | 81 => some (mss_l20Rd_oddR, FSem.wk mss_l20Rd_oddR Fs_l20Rd_oddR)
    | 128 => some (mss_l20KeyR, FSem.wk mss_l20KeyR Fs_l20KeyR)
    | 132 => some (mss_l20ValR, FSem.wk mss_l20ValR Fs_l20ValR)
    | _ => none
  bxf := fun _ => none
  mv := []
  keep := fun _ => []
  keepB := fun _ => []
  keepX := fun _ => []
  keepXB := fun _ => []
theorem goodFs_l20Write : ∀ f ms F, Es_l20Write.fn f = some (ms, F) → Sound Go.Proofs.Tryd.prog f ms F := fun f ms F h => by
  unfold Es_l20Write at h
  dsimp only at h
  split at h
  · injection h with h; injection h with e1 e2; subst e1 e2; exact Sound.wk ss_l20Rd_pick
  · injection h with h; injection h with e1 e2; subst e1 e2; exact Sound.wk ss_l20Rd_oddR
  · injection h with h; injection h with e1 e2; subst e1 e2; exact Sound.wk ss_l20KeyR
  · injection h with h; injection h with e1 e2; subst e1 e2; exact Sound.wk ss_l20ValR
  · cases h
theorem goodBs_l20Write : ∀ f ms F, Es_l20Write.bxf f = some (ms, F) → SoundB Go.Proofs.Tryd.prog f ms F := fun f ms F h => by cases h
theorem goods_l20Write : Good Go.Proofs.Tryd.prog Es_l20Write := ⟨rfl, goodFs_l20Write, goodBs_l20Write⟩
noncomputable def Os_l20Write_0 : Orc := fun _ _ => none
noncomputable def mss_l20Write : List PM := [.bx, .own]
noncomputable def lss_l20Write : List (Nat × Code) := loopsAll 0 (Go.Proofs.Tryd.f129.body.getD .skip)

theorem ks_l20Write_0 : OrcOk Es_l20Write Os_l20Write_0 lss_l20Write 0 := orcOk_none
noncomputable def g_As_l20Write (r0 : List Int) (r1 : Int) (a2 : Int) : Bool := g_As_l20Key r0 r1 a2 && (g_pickA r0 (g_Vs_l20Key_2 r0 r1 a2) (3 : Int) && bif g_pick r0 (g_Vs_l20Key_2 r0 r1 a2) (3 : Int) == (0 : Int) then g_As_l20Rd_odd r0 (IntKind.wrap IntKind.i64 (g_Vs_l20Key_2 r0 r1 a2 + (1 : Int))) a2 else g_As_l20Val r0 (IntKind.wrap IntKind.i64 (g_Vs_l20Key_2 r0 r1 a2 + (1 : Int))) a2)
noncomputable def g_Vs_l20Write_0 (r0 : List Int) (r1 : Int) (a2 : Int) : ByteArray := bif g_pick r0 (g_Vs_l20Key_2 r0 r1 a2) (3 : Int) == (0 : Int) then bif g_Vs_l20Rd_odd_0 r0 (IntKind.wrap IntKind.i64 (g_Vs_l20Key_2 r0 r1 a2 + (1 : Int))) a2 then g_Vs_l20Key_0 r0 r1 a2 else g_Vs_l20Key_0 r0 r1 a2 else g_Vs_l20Key_0 r0 r1 a2
noncomputable def g_Vs_l20Write_1 (r0 : List Int) (r1 : Int) (a2 : Int) : Bool := bif g_pick r0 (g_Vs_l20Key_2 r0 r1 a2) (3 : Int) == (0 : Int) then bif g_Vs_l20Rd_odd_0 r0 (IntKind.wrap IntKind.i64 (g_Vs_l20Key_2 r0 r1 a2 + (1 : Int))) a2 then true else true else false
noncomputable def g_Vs_l20Write_2 (r0 : List Int) (r1 : Int) (a2 : Int) : List (Int) := bif g_pick r0 (g_Vs_l20Key_2 r0 r1 a2) (3 : Int) == (0 : Int) then bif g_Vs_l20Rd_odd_0 r0 (IntKind.wrap IntKind.i64 (g_Vs_l20Key_2 r0 r1 a2 + (1 : Int))) a2 then [(1 : Int)] else [] else g_Vs_l20Val_0 r0 (IntKind.wrap IntKind.i64 (g_Vs_l20Key_2 r0 r1 a2 + (1 : Int))) a2
noncomputable def g_Vs_l20Write_3 (r0 : List Int) (r1 : Int) (a2 : Int) : List (Int) := bif g_pick r0 (g_Vs_l20Key_2 r0 r1 a2) (3 : Int) == (0 : Int) then bif g_Vs_l20Rd_odd_0 r0 (IntKind.wrap IntKind.i64 (g_Vs_l20Key_2 r0 r1 a2 + (1 : Int))) a2 then r0 else r0 else r0
noncomputable def g_Vs_l20Write_4 (r0 : List Int) (r1 : Int) (a2 : Int) : Int := bif g_pick r0 (g_Vs_l20Key_2 r0 r1 a2) (3 : Int) == (0 : Int) then bif g_Vs_l20Rd_odd_0 r0 (IntKind.wrap IntKind.i64 (g_Vs_l20Key_2 r0 r1 a2 + (1 : Int))) a2 then g_Vs_l20Rd_odd_2 r0 (IntKind.wrap IntKind.i64 (g_Vs_l20Key_2 r0 r1 a2 + (1 : Int))) a2 else g_Vs_l20Rd_odd_2 r0 (IntKind.wrap IntKind.i64 (g_Vs_l20Key_2 r0 r1 a2 + (1 : Int))) a2 else g_Vs_l20Val_2 r0 (IntKind.wrap IntKind.i64 (g_Vs_l20Key_2 r0 r1 a2 + (1 : Int))) a2
noncomputable def Fs_l20Write : FSem := fun ys => match ys with
  | [.val true [.sl .any 5 (.int .u8) r0, .int .i64 r1], .val false [.int .i64 a2]] => some ((g_As_l20Write r0 r1 a2), .val true [.str (g_Vs_l20Write_0 r0 r1 a2), .bool (g_Vs_l20Write_1 r0 r1 a2), .sl .any 3 (.int .i64) (g_Vs_l20Write_2 r0 r1 a2)], [[.sl .any 5 (.int .u8) (g_Vs_l20Write_3 r0 r1 a2), .int .i64 (g_Vs_l20Write_4 r0 r1 a2)]])
  | _ => none
theorem vs_l20Write (r0 : List Int) (r1 : Int) (a2 : Int) : collapseH .fr Es_l20Write Os_l20Write_0 (execFn Es_l20Write Go.Proofs.Tryd.f129 mss_l20Write [.val true [.sl .any 5 (.int .u8) r0, .int .i64 r1], .val false [.int .i64 a2]]) = some ((g_As_l20Write r0 r1 a2), .val true [.str (g_Vs_l20Write_0 r0 r1 a2), .bool (g_Vs_l20Write_1 r0 r1 a2), .sl .any 3 (.int .i64) (g_Vs_l20Write_2 r0 r1 a2)], [[.sl .any 5 (.int .u8) (g_Vs_l20Write_3 r0 r1 a2), .int .i64 (g_Vs_l20Write_4 r0 r1 a2)]]) := by kernel_rfl
theorem ss_l20Write : Sound Go.Proofs.Tryd.prog 129 mss_l20Write Fs_l20Write := by
  refine fn_gen goods_l20Write (by kernel_rfl) .fr (fn := Go.Proofs.Tryd.f129) (c := (Go.Proofs.Tryd.f129.body.getD .skip)) (o := Os_l20Write_0) (k := 0) (by kernel_rfl) (by kernel_rfl) (by kernel_rfl) (by kernel_rfl) (by decide) ks_l20Write_0 ?_
  intro ys r outs h
  unfold Fs_l20Write at h
  split at h
  · exact (vs_l20Write _ _ _).trans h
  · cases h
end Go.Proofs.YtibafhmmnoijkaaDoor.E
end
section
namespace Go.Proofs.YtibafhmmnoijkaaDoor.E
open Go
set_option maxRecDepth 100000
set_option linter.all false
noncomputable def mss_l20WriteR : List PM := mss_l20Write
theorem sames_l20Write (r0 : List Int) (r1 : Int) (a2 : Int) : g_Vs_l20Write_3 r0 r1 a2 = r0 := by
  unfold g_Vs_l20Write_3
  simp only [Bool.cond_self]
noncomputable def Fs_l20WriteR : FSem := fun ys => match ys with
  | [.val true [.sl .any 5 (.int .u8) r0, .int .i64 r1], .val false [.int .i64 a2]] => some ((g_As_l20Write r0 r1 a2), .val true [.str (g_Vs_l20Write_0 r0 r1 a2), .bool (g_Vs_l20Write_1 r0 r1 a2), .sl .any 3 (.int .i64) (g_Vs_l20Write_2 r0 r1 a2)], [[.sl .any 5 (.int .u8) r0, .int .i64 (g_Vs_l20Write_4 r0 r1 a2)]])
  | _ => none
theorem ss_l20WriteR : Sound Go.Proofs.Tryd.prog 129 mss_l20WriteR Fs_l20WriteR := by
  refine ⟨ss_l20Write.fn, fun w S ψ ys vs r outs hF hh hg => ss_l20Write.calls w S ψ ys vs r outs (Eq.trans ?_ hF) hh hg⟩
  unfold Fs_l20WriteR at hF ⊢
  split at hF
  · rename_i  r0 r1 a2
    show (some ((g_As_l20Write r0 r1 a2), .val true [.str (g_Vs_l20Write_0 r0 r1 a2), .bool (g_Vs_l20Write_1 r0 r1 a2), .sl .any 3 (.int .i64) (g_Vs_l20Write_2 r0 r1 a2)], [[.sl .any 5 (.int .u8) (g_Vs_l20Write_3 r0 r1 a2), .int .i64 (g_Vs_l20Write_4 r0 r1 a2)]]) : Option (Bool × RV × List (List Cell))) = _
    rw [sames_l20Write]
  · cases hF
end Go.Proofs.YtibafhmmnoijkaaDoor.E
end
section
namespace Go.Proofs.YtibafhmmnoijkaaDoor.E
open Go
set_option maxRecDepth 100000
set_option maxHeartbeats 0
set_option linter.all false
noncomputable def Es_l20Writes : Env where
  tt := mkTI Go.Proofs.Tryd.prog
  fn := fun f => match f with
    | 72 => some (mss_l20Rd_pick, FSem.wk mss_l20Rd_pick Fs_l20Rd_pick)
    | 81 => some (mss_l20Rd_oddR, FSem.wk mss_l20Rd_oddR Fs_l20Rd_oddR)
    | 129 => some (mss_l20WriteR, FSem.wk mss_l20WriteR Fs_l20WriteR)
    | _ => none
  bxf := fun _ => none
  mv := []
  keep := fun b => match b with
    | 0 => [(0, false), (1, false), (5, true), (6, false)]
    | _ => []
  keepB := fun b => match b with
    | 0 => [(0, false)]
    | _ => []
  keepX := fun b => match b with
    | 0 => [(0, false), (1, false), (5, true)]
    | _ => []
  keepXB := fun b => match b with
    | 0 => [(0, false)]
    | _ => []
theorem goodFs_l20Writes : ∀ f ms F, Es_l20Writes.fn f = some (ms, F) → Sound Go.Proofs.Tryd.prog f ms F := fun f ms F h => by
  unfold Es_l20Writes at h
  dsimp only at h
  split at h
  · injection h with h; injection h with e1 e2; subst e1 e2; exact Sound.wk ss_l20Rd_pick
  · injection h with h; injection h with e1 e2; subst e1 e2; exact Sound.wk ss_l20Rd_oddR
  · injection h with h; injection h with e1 e2; subst e1 e2; exact Sound.wk ss_l20WriteR
  · cases h
theorem goodBs_l20Writes : ∀ f ms F, Es_l20Writes.bxf f = some (ms, F) → SoundB Go.Proofs.Tryd.prog f ms F := fun f ms F h => by cases h
theorem goods_l20Writes : Good Go.Proofs.Tryd.prog Es_l20Writes := ⟨rfl, goodFs_l20Writes, goodBs_l20Writes⟩
noncomputable def Os_l20Writes_0 : Orc := fun _ _ => none
noncomputable def mss_l20Writes : List PM := [.bx, .own]
noncomputable def lss_l20Writes : List (Nat × Code) := loopsAll 0 (Go.Proofs.Tryd.f92.body.getD .skip)
noncomputable def cs_l20Writes_0 : Code := (loopOf 0 (Go.Proofs.Tryd.f92.body.getD .skip)).getD .skip
theorem lseqs_l20Writes : lss_l20Writes = [(0, cs_l20Writes_0)] := by kernel_rfl
theorem ms_l20Writes_0 : ∀ p, p ∈ lss_l20Writes → p.1 = 0 → p.2 = cs_l20Writes_0 := by
  intro p hp
  rw [lseqs_l20Writes] at hp
  simp only [List.mem_cons, List.not_mem_nil, or_false] at hp
  subst hp; simp
theorem ks_l20Writes_0 : OrcOk Es_l20Writes Os_l20Writes_0 lss_l20Writes 0 := orcOk_none
noncomputable def hs_l20Writes_0 (y0 : Int) (y1 : List ((ByteArray) × ((Bool) × (List (Int))))) (y2 : Int) (y3 : List (Int)) (y4 : Int) : List (Pl × LV) := [(.T 0, .t (.val false [.ptr 0 0 0])), (.T 1, .t (.val false [.int .i64 y0])), (.T 5, .t (.val false [.row 5 0 0])), (.R 5 0, .r 0 (some ⟨false, .non, false, 83, (.pair .str (.pair .bool (.sl 3 (.int .i64)))), y1⟩)), (.T 6, .t (.val false [.int .i64 y2])), (.B 0, .b 0 false [.sl .any 5 (.int .u8) y3, .int .i64 y4])]
noncomputable def g_Ss_l20Writes_0 (y0 : Int) (y3 : List (Int)) : ((List ((ByteArray) × ((Bool) × (List (Int))))) × (Int) × (Int)) → RT ((List ((ByteArray) × ((Bool) × (List (Int))))) × (Int) × (Int)) (((List ((ByteArray) × ((Bool) × (List (Int))))) × (Int)))
  | (y1, y2, y4) => .br (true) (.br (decide (y2 > (0 : Int))) (.br (g_As_l20Write y3 y4 (0 : Int)) (.br (decide ((List.length y1 + List.length [(g_Vs_l20Write_0 y3 y4 (0 : Int), g_Vs_l20Write_1 y3 y4 (0 : Int), g_Vs_l20Write_2 y3 y4 (0 : Int))]) * nat_lit 48 ≤ nat_lit 140737488355328 ∧ List.length y1 + List.length [(g_Vs_l20Write_0 y3 y4 (0 : Int), g_Vs_l20Write_1 y3 y4 (0 : Int), g_Vs_l20Write_2 y3 y4 (0 : Int))] ≤ nat_lit 9223372036854775807)) (.br (true) (.go ((y1 ++ [(g_Vs_l20Write_0 y3 y4 (0 : Int), g_Vs_l20Write_1 y3 y4 (0 : Int), g_Vs_l20Write_2 y3 y4 (0 : Int))], IntKind.wrap IntKind.i64 (y2 - (1 : Int)), g_Vs_l20Write_4 y3 y4 (0 : Int)))) (.bad)) (.bad)) (.bad)) (.out ((y1, y4)))) (.bad)
noncomputable def g_Ls_l20Writes_0 (y0 : Int) (y3 : List (Int)) (x : (List ((ByteArray) × ((Bool) × (List (Int))))) × (Int) × (Int)) : Option (((List ((ByteArray) × ((Bool) × (List (Int))))) × (Int))) := loopO (g_Ss_l20Writes_0 y0 y3) x
noncomputable def xs_l20Writes_0 (y0 : Int) (y3 : List (Int)) : (((List ((ByteArray) × ((Bool) × (List (Int))))) × (Int))) → Ex × List (Pl × LV) := fun r => (.exit 0, [(.T 0, .t (.val false [.ptr 0 0 0])), (.T 1, .t (.val false [.int .i64 y0])), (.T 5, .t (.val false [.row 5 0 0])), (.R 5 0, .r 0 (some ⟨false, .non, false, 83, (.pair .str (.pair .bool (.sl 3 (.int .i64)))), r.1⟩)), (.B 0, .b 0 false [.sl .any 5 (.int .u8) y3, .int .i64 r.2])])
noncomputable def Os_l20Writes_1 : Orc := fun b h => match b, h with
  | 0, [(.T 0, .t (.val false [.ptr 0 0 0])), (.T 1, .t (.val false [.int .i64 y0])), (.T 5, .t (.val false [.row 5 0 0])), (.R 5 0, .r 0 (some ⟨false, .non, false, 83, (.pair .str (.pair .bool (.sl 3 (.int .i64)))), y1⟩)), (.T 6, .t (.val false [.int .i64 y2])), (.B 0, .b 0 false [.sl .any 5 (.int .u8) y3, .int .i64 y4])] => some (okO (g_Ls_l20Writes_0 y0 y3 (y1, y2, y4)), (.leaf (.exit 0) [(.T 0, .t (.val false [.ptr 0 0 0])), (.T 1, .t (.val false [.int .i64 y0])), (.T 5, .t (.val false [.row 5 0 0])), (.R 5 0, .r 0 (some ⟨false, .non, false, 83, (.pair .str (.pair .bool (.sl 3 (.int .i64)))), (valO (g_Ls_l20Writes_0 y0 y3 (y1, y2, y4))).1⟩)), (.B 0, .b 0 false [.sl .any 5 (.int .u8) y3, .int .i64 (valO (g_Ls_l20Writes_0 y0 y3 (y1, y2, y4))).2])]))
  | b, h => Os_l20Writes_0 b h
theorem bs_l20Writes_0 (y0 : Int) (y1 : List ((ByteArray) × ((Bool) × (List (Int))))) (y2 : Int) (y3 : List (Int)) (y4 : Int) : Tr.bt Es_l20Writes Os_l20Writes_0 (exec Es_l20Writes 0 cs_l20Writes_0 (St.of (hs_l20Writes_0 y0 y1 y2 y3 y4)) (leafRd Es_l20Writes 0)) = (g_Ss_l20Writes_0 y0 y3 (y1, y2, y4)).bt (fun ((y1, y2, y4) : (List ((ByteArray) × ((Bool) × (List (Int))))) × (Int) × (Int)) => (hs_l20Writes_0 y0 y1 y2 y3 y4)) (xs_l20Writes_0 y0 y3) := by kernel_rfl
theorem ks_l20Writes_1 : OrcOk Es_l20Writes Os_l20Writes_1 lss_l20Writes 1 := orc_add ks_l20Writes_0 (fun n p hp h ex h' ho => by
  obtain ⟨b, c⟩ := p
  obtain ⟨xt, h1, h2⟩ := ho
  have h1 : Os_l20Writes_1 b h = some (true, xt) := h1
  unfold Os_l20Writes_1 at h1
  split at h1
  · injection h1 with h1
    injection h1 with e1 e2
    subst e2
    have hc : c = cs_l20Writes_0 := ms_l20Writes_0 _ hp rfl
    subst hc
    right
    rename_i y0 y1 y2 y3 y4
    have key := LT_step ks_l20Writes_0 hp (fun q hq => loopsAll_in _ _ _ _ hp hq) (fun ((y1, y2, y4) : (List ((ByteArray) × ((Bool) × (List (Int))))) × (Int) × (Int)) => (hs_l20Writes_0 y0 y1 y2 y3 y4)) (xs_l20Writes_0 y0 y3) (g_Ss_l20Writes_0 y0 y3) (fun x => by first | exact bs_l20Writes_0 y0 x.1 x.2.1 y3 x.2.2) n (x := (y1, y2, y4)) (okO_some e1)
    have hx : ∀ r, XT.sel (.leaf (.exit 0) [(.T 0, .t (.val false [.ptr 0 0 0])), (.T 1, .t (.val false [.int .i64 y0])), (.T 5, .t (.val false [.row 5 0 0])), (.R 5 0, .r 0 (some ⟨false, .non, false, 83, (.pair .str (.pair .bool (.sl 3 (.int .i64)))), r.1⟩)), (.B 0, .b 0 false [.sl .any 5 (.int .u8) y3, .int .i64 r.2])]) = xs_l20Writes_0 y0 y3 r := fun r => by first | rfl | (rcases r with r | r <;> rfl) | (rcases r with r | r | r <;> rfl) | (rcases r with r | r | r | r <;> rfl)
    have h3 := (hx (valO (g_Ls_l20Writes_0 y0 y3 (y1, y2, y4)))).symm.trans h2
    have e3 := congrArg Prod.fst h3
    have e4 := congrArg Prod.snd h3
    simp only at e3 e4
    rw [← e3, ← e4]
    exact key
  · exact .inl ⟨xt, h1, h2⟩)
noncomputable def g_As_l20Writes (r0 : List Int) (r1 : Int) (a2 : Int) : Bool := g_pickA r0 r1 (6 : Int) && (okO (g_Ls_l20Writes_0 a2 r0 ([], g_pick r0 r1 (6 : Int), IntKind.wrap IntKind.i64 (r1 + (1 : Int)))) && (g_As_l20Rd_odd r0 (valO (g_Ls_l20Writes_0 a2 r0 ([], g_pick r0 r1 (6 : Int), IntKind.wrap IntKind.i64 (r1 + (1 : Int))))).2 a2 && (!g_Vs_l20Rd_odd_0 r0 (valO (g_Ls_l20Writes_0 a2 r0 ([], g_pick r0 r1 (6 : Int), IntKind.wrap IntKind.i64 (r1 + (1 : Int))))).2 a2 || g_As_l20Write r0 (g_Vs_l20Rd_odd_2 r0 (valO (g_Ls_l20Writes_0 a2 r0 ([], g_pick r0 r1 (6 : Int), IntKind.wrap IntKind.i64 (r1 + (1 : Int))))).2 a2) (2 : Int) && decide ((List.length (valO (g_Ls_l20Writes_0 a2 r0 ([], g_pick r0 r1 (6 : Int), IntKind.wrap IntKind.i64 (r1 + (1 : Int))))).1 + List.length [(g_Vs_l20Write_0 r0 (g_Vs_l20Rd_odd_2 r0 (valO (g_Ls_l20Writes_0 a2 r0 ([], g_pick r0 r1 (6 : Int), IntKind.wrap IntKind.i64 (r1 + (1 : Int))))).2 a2) (2 : Int), g_Vs_l20Write_1 r0 (g_Vs_l20Rd_odd_2 r0 (valO (g_Ls_l20Writes_0 a2 r0 ([], g_pick r0 r1 (6 : Int), IntKind.wrap IntKind.i64 (r1 + (1 : Int))))).2 a2) (2 : Int), g_Vs_l20Write_2 r0 (g_Vs_l20Rd_odd_2 r0 (valO (g_Ls_l20Writes_0 a2 r0 ([], g_pick r0 r1 (6 : Int), IntKind.wrap IntKind.i64 (r1 + (1 : Int))))).2 a2) (2 : Int))]) * nat_lit 48 ≤ nat_lit 140737488355328 ∧ List.length (valO (g_Ls_l20Writes_0 a2 r0 ([], g_pick r0 r1 (6 : Int), IntKind.wrap IntKind.i64 (r1 + (1 : Int))))).1 + List.length [(g_Vs_l20Write_0 r0 (g_Vs_l20Rd_odd_2 r0 (valO (g_Ls_l20Writes_0 a2 r0 ([], g_pick r0 r1 (6 : Int), IntKind.wrap IntKind.i64 (r1 + (1 : Int))))).2 a2) (2 : Int), g_Vs_l20Write_1 r0 (g_Vs_l20Rd_odd_2 r0 (valO (g_Ls_l20Writes_0 a2 r0 ([], g_pick r0 r1 (6 : Int), IntKind.wrap IntKind.i64 (r1 + (1 : Int))))).2 a2) (2 : Int), g_Vs_l20Write_2 r0 (g_Vs_l20Rd_odd_2 r0 (valO (g_Ls_l20Writes_0 a2 r0 ([], g_pick r0 r1 (6 : Int), IntKind.wrap IntKind.i64 (r1 + (1 : Int))))).2 a2) (2 : Int))] ≤ nat_lit 9223372036854775807))))
noncomputable def g_Vs_l20Writes_0 (r0 : List Int) (r1 : Int) (a2 : Int) : List ((ByteArray) × ((Bool) × (List (Int)))) := bif g_Vs_l20Rd_odd_0 r0 (valO (g_Ls_l20Writes_0 a2 r0 ([], g_pick r0 r1 (6 : Int), IntKind.wrap IntKind.i64 (r1 + (1 : Int))))).2 a2 then (valO (g_Ls_l20Writes_0 a2 r0 ([], g_pick r0 r1 (6 : Int), IntKind.wrap IntKind.i64 (r1 + (1 : Int))))).1 ++ [(g_Vs_l20Write_0 r0 (g_Vs_l20Rd_odd_2 r0 (valO (g_Ls_l20Writes_0 a2 r0 ([], g_pick r0 r1 (6 : Int), IntKind.wrap IntKind.i64 (r1 + (1 : Int))))).2 a2) (2 : Int), g_Vs_l20Write_1 r0 (g_Vs_l20Rd_odd_2 r0 (valO (g_Ls_l20Writes_0 a2 r0 ([], g_pick r0 r1 (6 : Int), IntKind.wrap IntKind.i64 (r1 + (1 : Int))))).2 a2) (2 : Int), g_Vs_l20Write_2 r0 (g_Vs_l20Rd_odd_2 r0 (valO (g_Ls_l20Writes_0 a2 r0 ([], g_pick r0 r1 (6 : Int), IntKind.wrap IntKind.i64 (r1 + (1 : Int))))).2 a2) (2 : Int))] else (valO (g_Ls_l20Writes_0 a2 r0 ([], g_pick r0 r1 (6 : Int), IntKind.wrap IntKind.i64 (r1 + (1 : Int))))).1
noncomputable def g_Vs_l20Writes_1 (r0 : List Int) (r1 : Int) (a2 : Int) : List (Int) := bif g_Vs_l20Rd_odd_0 r0 (valO (g_Ls_l20Writes_0 a2 r0 ([], g_pick r0 r1 (6 : Int), IntKind.wrap IntKind.i64 (r1 + (1 : Int))))).2 a2 then r0 else r0
noncomputable def g_Vs_l20Writes_2 (r0 : List Int) (r1 : Int) (a2 : Int) : Int := bif g_Vs_l20Rd_odd_0 r0 (valO (g_Ls_l20Writes_0 a2 r0 ([], g_pick r0 r1 (6 : Int), IntKind.wrap IntKind.i64 (r1 + (1 : Int))))).2 a2 then g_Vs_l20Write_4 r0 (g_Vs_l20Rd_odd_2 r0 (valO (g_Ls_l20Writes_0 a2 r0 ([], g_pick r0 r1 (6 : Int), IntKind.wrap IntKind.i64 (r1 + (1 : Int))))).2 a2) (2 : Int) else g_Vs_l20Rd_odd_2 r0 (valO (g_Ls_l20Writes_0 a2 r0 ([], g_pick r0 r1 (6 : Int), IntKind.wrap IntKind.i64 (r1 + (1 : Int))))).2 a2
noncomputable def Fs_l20Writes : FSem := fun ys => match ys with
  | [.val true [.sl .any 5 (.int .u8) r0, .int .i64 r1], .val false [.int .i64 a2]] => some ((g_As_l20Writes r0 r1 a2), .val false [.own .any false 83 (.pair .str (.pair .bool (.sl 3 (.int .i64)))) (g_Vs_l20Writes_0 r0 r1 a2)], [[.sl .any 5 (.int .u8) (g_Vs_l20Writes_1 r0 r1 a2), .int .i64 (g_Vs_l20Writes_2 r0 r1 a2)]])
  | _ => none
theorem vs_l20Writes (r0 : List Int) (r1 : Int) (a2 : Int) : collapseH .std Es_l20Writes Os_l20Writes_1 (execFn Es_l20Writes Go.Proofs.Tryd.f92 mss_l20Writes [.val true [.sl .any 5 (.int .u8) r0, .int .i64 r1], .val false [.int .i64 a2]]) = some ((g_As_l20Writes r0 r1 a2), .val false [.own .any false 83 (.pair .str (.pair .bool (.sl 3 (.int .i64)))) (g_Vs_l20Writes_0 r0 r1 a2)], [[.sl .any 5 (.int .u8) (g_Vs_l20Writes_1 r0 r1 a2), .int .i64 (g_Vs_l20Writes_2 r0 r1 a2)]]) := by kernel_rfl
theorem ss_l20Writes : Sound Go.Proofs.Tryd.prog 92 mss_l20Writes Fs_l20Writes := by
  refine fn_gen goods_l20Writes (by kernel_rfl) .std (fn := Go.Proofs.Tryd.f92) (c := (Go.Proofs.Tryd.f92.body.getD .skip)) (o := Os_l20Writes_1) (k := 1) (by kernel_rfl) (by kernel_rfl) (by kernel_rfl) (by kernel_rfl) (by decide) ks_l20Writes_1 ?_
  intro ys r outs h
  unfold Fs_l20Writes at h
  split at h
  · exact (vs_l20Writes _ _ _).trans h
  · cases h
end Go.Proofs.YtibafhmmnoijkaaDoor.E
end
section
namespace Go.Proofs.YtibafhmmnoijkaaDoor.E
open Go
set_option maxRecDepth 100000
set_option linter.all false
noncomputable def mss_l20WritesR : List PM := mss_l20Writes
theorem sames_l20Writes (r0 : List Int) (r1 : Int) (a2 : Int) : g_Vs_l20Writes_1 r0 r1 a2 = r0 := by
  unfold g_Vs_l20Writes_1
  simp only [Bool.cond_self]
noncomputable def Fs_l20WritesR : FSem := fun ys => match ys with
  | [.val true [.sl .any 5 (.int .u8) r0, .int .i64 r1], .val false [.int .i64 a2]] => some ((g_As_l20Writes r0 r1 a2), .val false [.own .any false 83 (.pair .str (.pair .bool (.sl 3 (.int .i64)))) (g_Vs_l20Writes_0 r0 r1 a2)], [[.sl .any 5 (.int .u8) r0, .int .i64 (g_Vs_l20Writes_2 r0 r1 a2)]])
  | _ => none
theorem ss_l20WritesR : Sound Go.Proofs.Tryd.prog 92 mss_l20WritesR Fs_l20WritesR := by
  refine ⟨ss_l20Writes.fn, fun w S ψ ys vs r outs hF hh hg => ss_l20Writes.calls w S ψ ys vs r outs (Eq.trans ?_ hF) hh hg⟩
  unfold Fs_l20WritesR at hF ⊢
  split at hF
  · rename_i  r0 r1 a2
    show (some ((g_As_l20Writes r0 r1 a2), .val false [.own .any false 83 (.pair .str (.pair .bool (.sl 3 (.int .i64)))) (g_Vs_l20Writes_0 r0 r1 a2)], [[.sl .any 5 (.int .u8) (g_Vs_l20Writes_1 r0 r1 a2), .int .i64 (g_Vs_l20Writes_2 r0 r1 a2)]]) : Option (Bool × RV × List (List Cell))) = _
    rw [sames_l20Writes]
  · cases hF
end Go.Proofs.YtibafhmmnoijkaaDoor.E
end
section
namespace Go.Proofs.YtibafhmmnoijkaaDoor.E
open Go
set_option maxRecDepth 100000
set_option maxHeartbeats 0
set_option linter.all false
noncomputable def Es_l20Note : Env where
  tt := mkTI Go.Proofs.Tryd.prog
  fn := fun f => match f with
    | 72 => some (mss_l20Rd_pick, FSem.wk mss_l20Rd_pick Fs_l20Rd_pick)
    | 81 => some (mss_l20Rd_oddR, FSem.wk mss_l20Rd_oddR Fs_l20Rd_oddR)
    | 92 => some (mss_l20WritesR, FSem.wk mss_l20WritesR Fs_l20WritesR)
    | 128 => some (mss_l20KeyR, FSem.wk mss_l20KeyR Fs_l20KeyR)
    | 129 => some (mss_l20WriteR, FSem.wk mss_l20WriteR Fs_l20WriteR)
    | _ => none
  bxf := fun _ => none
  mv := []
  keep := fun b => match b with
    | 0 => [(0, false), (1, false), (4, false), (5, false), (6, false)]
    | _ => []
  keepB := fun b => match b with
    | 0 => [(4, false), (5, false), (0, false)]
    | _ => []
  keepX := fun b => match b with
    | 0 => [(0, false), (1, false), (4, false), (5, false)]
    | _ => []
  keepXB := fun b => match b with
    | 0 => [(4, false), (5, false), (0, false)]
    | _ => []
theorem goodFs_l20Note : ∀ f ms F, Es_l20Note.fn f = some (ms, F) → Sound Go.Proofs.Tryd.prog f ms F := fun f ms F h => by
  unfold Es_l20Note at h
  dsimp only at h
  split at h
  · injection h with h; injection h with e1 e2; subst e1 e2; exact Sound.wk ss_l20Rd_pick
  · injection h with h; injection h with e1 e2; subst e1 e2; exact Sound.wk ss_l20Rd_oddR
  · injection h with h; injection h with e1 e2; subst e1 e2; exact Sound.wk ss_l20WritesR
  · injection h with h; injection h with e1 e2; subst e1 e2; exact Sound.wk ss_l20KeyR
  · injection h with h; injection h with e1 e2; subst e1 e2; exact Sound.wk ss_l20WriteR
  · cases h
theorem goodBs_l20Note : ∀ f ms F, Es_l20Note.bxf f = some (ms, F) → SoundB Go.Proofs.Tryd.prog f ms F := fun f ms F h => by cases h
theorem goods_l20Note : Good Go.Proofs.Tryd.prog Es_l20Note := ⟨rfl, goodFs_l20Note, goodBs_l20Note⟩
noncomputable def Os_l20Note_0 : Orc := fun _ _ => none
noncomputable def mss_l20Note : List PM := [.bx, .own]
noncomputable def lss_l20Note : List (Nat × Code) := loopsAll 0 (Go.Proofs.Tryd.f82.body.getD .skip)
noncomputable def cs_l20Note_0 : Code := (loopOf 0 (Go.Proofs.Tryd.f82.body.getD .skip)).getD .skip
theorem lseqs_l20Note : lss_l20Note = [(0, cs_l20Note_0)] := by kernel_rfl
theorem ms_l20Note_0 : ∀ p, p ∈ lss_l20Note → p.1 = 0 → p.2 = cs_l20Note_0 := by
  intro p hp
  rw [lseqs_l20Note] at hp
  simp only [List.mem_cons, List.not_mem_nil, or_false] at hp
  subst hp; simp
theorem ks_l20Note_0 : OrcOk Es_l20Note Os_l20Note_0 lss_l20Note 0 := orcOk_none
noncomputable def hs_l20Note_0 (y0 : Int) (y1 : Int) (y2 : Int) (y3 : Int) (y4 : List (ByteArray)) (y5 : List ((ByteArray) × ((Bool) × (List (Int))))) (y6 : Int) (y7 : Int) (y8 : List (ByteArray)) (y9 : List ((ByteArray) × ((Bool) × (List (Int))))) (y10 : List (Int)) (y11 : Int) : List (Pl × LV) := [(.T 0, .t (.val false [.ptr 0 0 0])), (.T 1, .t (.val false [.int .i64 y0])), (.T 4, .t (.val false [.ptr 4 0 0])), (.T 5, .t (.val false [.ptr 5 0 0])), (.T 6, .t (.val false [.int .i64 y1])), (.B 4, .b 0 false [.int .i64 y2, .int .i64 y3, .row 4 5 0, .row 4 7 0]), (.R 4 5, .r 0 (some ⟨false, .any, true, 9, .str, y4⟩)), (.R 4 7, .r 0 (some ⟨false, .any, true, 83, (.pair .str (.pair .bool (.sl 3 (.int .i64)))), y5⟩)), (.B 5, .b 0 false [.int .i64 y6, .int .i64 y7, .row 5 5 0, .row 5 7 0]), (.R 5 5, .r 0 (some ⟨false, .any, true, 9, .str, y8⟩)), (.R 5 7, .r 0 (some ⟨false, .any, false, 83, (.pair .str (.pair .bool (.sl 3 (.int .i64)))), y9⟩)), (.B 0, .b 0 false [.sl .any 5 (.int .u8) y10, .int .i64 y11])]
noncomputable def g_Ss_l20Note_0 (y0 : Int) (y2 : Int) (y3 : Int) (y4 : List (ByteArray)) (y5 : List ((ByteArray) × ((Bool) × (List (Int))))) (y6 : Int) (y7 : Int) (y9 : List ((ByteArray) × ((Bool) × (List (Int))))) (y10 : List (Int)) (y11 : Int) : ((Int) × (List (ByteArray))) → RT ((Int) × (List (ByteArray))) (((List (ByteArray))))
  | (y1, y8) => .br (true) (.br (decide (y1 < (↑(List.length y9) : Int))) (.br (decide ((0 : Int) ≤ y1 ∧ y1 < (↑(List.length y9) : Int))) (.br (decide (Int.toNat y1 < List.length y9)) (.br (decide ((List.length y8 + List.length [(at_ (Ty.pair Ty.str (Ty.pair Ty.bool (Ty.sl (nat_lit 3) (Ty.int IntKind.i64)))) y9 (Int.toNat y1)).1]) * nat_lit 16 ≤ nat_lit 140737488355328 ∧ List.length y8 + List.length [(at_ (Ty.pair Ty.str (Ty.pair Ty.bool (Ty.sl (nat_lit 3) (Ty.int IntKind.i64)))) y9 (Int.toNat y1)).1] ≤ nat_lit 9223372036854775807)) (.br (true) (.go ((IntKind.wrap IntKind.i64 (y1 + (1 : Int)), y8 ++ [(at_ (Ty.pair Ty.str (Ty.pair Ty.bool (Ty.sl (nat_lit 3) (Ty.int IntKind.i64)))) y9 (Int.toNat y1)).1]))) (.bad)) (.bad)) (.bad)) (.bad)) (.out (y8))) (.bad)
noncomputable def g_Ls_l20Note_0 (y0 : Int) (y2 : Int) (y3 : Int) (y4 : List (ByteArray)) (y5 : List ((ByteArray) × ((Bool) × (List (Int))))) (y6 : Int) (y7 : Int) (y9 : List ((ByteArray) × ((Bool) × (List (Int))))) (y10 : List (Int)) (y11 : Int) (x : (Int) × (List (ByteArray))) : Option (((List (ByteArray)))) := loopO (g_Ss_l20Note_0 y0 y2 y3 y4 y5 y6 y7 y9 y10 y11) x
noncomputable def xs_l20Note_0 (y0 : Int) (y2 : Int) (y3 : Int) (y4 : List (ByteArray)) (y5 : List ((ByteArray) × ((Bool) × (List (Int))))) (y6 : Int) (y7 : Int) (y9 : List ((ByteArray) × ((Bool) × (List (Int))))) (y10 : List (Int)) (y11 : Int) : (((List (ByteArray)))) → Ex × List (Pl × LV) := fun r => (.exit 0, [(.T 0, .t (.val false [.ptr 0 0 0])), (.T 1, .t (.val false [.int .i64 y0])), (.T 4, .t (.val false [.ptr 4 0 0])), (.T 5, .t (.val false [.ptr 5 0 0])), (.B 4, .b 0 false [.int .i64 y2, .int .i64 y3, .row 4 5 0, .row 4 7 0]), (.R 4 5, .r 0 (some ⟨false, .any, true, 9, .str, y4⟩)), (.R 4 7, .r 0 (some ⟨false, .any, true, 83, (.pair .str (.pair .bool (.sl 3 (.int .i64)))), y5⟩)), (.B 5, .b 0 false [.int .i64 y6, .int .i64 y7, .row 5 5 0, .row 5 7 0]), (.R 5 5, .r 0 (some ⟨false, .any, true, 9, .str, r⟩)), (.R 5 7, .r 0 (some ⟨false, .any, false, 83, (.pair .str (.pair .bool (.sl 3 (.int .i64)))), y9⟩)), (.B 0, .b 0 false [.sl .any 5 (.int .u8) y10, .int .i64 y11])])
noncomputable def Os_l20Note_1 : Orc := fun b h => match b, h with
  | 0, [(.T 0, .t (.val false [.ptr 0 0 0])), (.T 1, .t (.val false [.int .i64 y0])), (.T 4, .t (.val false [.ptr 4 0 0])), (.T 5, .t (.val false [.ptr 5 0 0])), (.T 6, .t (.val false [.int .i64 y1])), (.B 4, .b 0 false [.int .i64 y2, .int .i64 y3, .row 4 5 0, .row 4 7 0]), (.R 4 5, .r 0 (some ⟨false, .any, true, 9, .str, y4⟩)), (.R 4 7, .r 0 (some ⟨false, .any, true, 83, (.pair .str (.pair .bool (.sl 3 (.int .i64)))), y5⟩)), (.B 5, .b 0 false [.int .i64 y6, .int .i64 y7, .row 5 5 0, .row 5 7 0]), (.R 5 5, .r 0 (some ⟨false, .any, true, 9, .str, y8⟩)), (.R 5 7, .r 0 (some ⟨false, .any, false, 83, (.pair .str (.pair .bool (.sl 3 (.int .i64)))), y9⟩)), (.B 0, .b 0 false [.sl .any 5 (.int .u8) y10, .int .i64 y11])] => some (okO (g_Ls_l20Note_0 y0 y2 y3 y4 y5 y6 y7 y9 y10 y11 (y1, y8)), (.leaf (.exit 0) [(.T 0, .t (.val false [.ptr 0 0 0])), (.T 1, .t (.val false [.int .i64 y0])), (.T 4, .t (.val false [.ptr 4 0 0])), (.T 5, .t (.val false [.ptr 5 0 0])), (.B 4, .b 0 false [.int .i64 y2, .int .i64 y3, .row 4 5 0, .row 4 7 0]), (.R 4 5, .r 0 (some ⟨false, .any, true, 9, .str, y4⟩)), (.R 4 7, .r 0 (some ⟨false, .any, true, 83, (.pair .str (.pair .bool (.sl 3 (.int .i64)))), y5⟩)), (.B 5, .b 0 false [.int .i64 y6, .int .i64 y7, .row 5 5 0, .row 5 7 0]), (.R 5 5, .r 0 (some ⟨false, .any, true, 9, .str, (valO (g_Ls_l20Note_0 y0 y2 y3 y4 y5 y6 y7 y9 y10 y11 (y1, y8)))⟩)), (.R 5 7, .r 0 (some ⟨false, .any, false, 83, (.pair .str (.pair .bool (.sl 3 (.int .i64)))), y9⟩)), (.B 0, .b 0 false [.sl .any 5 (.int .u8) y10, .int .i64 y11])]))
  | b, h => Os_l20Note_0 b h
theorem bs_l20Note_0 (y0 : Int) (y1 : Int) (y2 : Int) (y3 : Int) (y4 : List (ByteArray)) (y5 : List ((ByteArray) × ((Bool) × (List (Int))))) (y6 : Int) (y7 : Int) (y8 : List (ByteArray)) (y9 : List ((ByteArray) × ((Bool) × (List (Int))))) (y10 : List (Int)) (y11 : Int) : Tr.bt Es_l20Note Os_l20Note_0 (exec Es_l20Note 0 cs_l20Note_0 (St.of (hs_l20Note_0 y0 y1 y2 y3 y4 y5 y6 y7 y8 y9 y10 y11)) (leafRd Es_l20Note 0)) = (g_Ss_l20Note_0 y0 y2 y3 y4 y5 y6 y7 y9 y10 y11 (y1, y8)).bt (fun ((y1, y8) : (Int) × (List (ByteArray))) => (hs_l20Note_0 y0 y1 y2 y3 y4 y5 y6 y7 y8 y9 y10 y11)) (xs_l20Note_0 y0 y2 y3 y4 y5 y6 y7 y9 y10 y11) := by kernel_rfl
theorem ks_l20Note_1 : OrcOk Es_l20Note Os_l20Note_1 lss_l20Note 1 := orc_add ks_l20Note_0 (fun n p hp h ex h' ho => by
  obtain ⟨b, c⟩ := p
  obtain ⟨xt, h1, h2⟩ := ho
  have h1 : Os_l20Note_1 b h = some (true, xt) := h1
  unfold Os_l20Note_1 at h1
  split at h1
  · injection h1 with h1
    injection h1 with e1 e2
    subst e2
    have hc : c = cs_l20Note_0 := ms_l20Note_0 _ hp rfl
    subst hc
    right
    rename_i y0 y1 y2 y3 y4 y5 y6 y7 y8 y9 y10 y11
    have key := LT_step ks_l20Note_0 hp (fun q hq => loopsAll_in _ _ _ _ hp hq) (fun ((y1, y8) : (Int) × (List (ByteArray))) => (hs_l20Note_0 y0 y1 y2 y3 y4 y5 y6 y7 y8 y9 y10 y11)) (xs_l20Note_0 y0 y2 y3 y4 y5 y6 y7 y9 y10 y11) (g_Ss_l20Note_0 y0 y2 y3 y4 y5 y6 y7 y9 y10 y11) (fun x => by first | exact bs_l20Note_0 y0 x.1 y2 y3 y4 y5 y6 y7 x.2 y9 y10 y11) n (x := (y1, y8)) (okO_some e1)
    have hx : ∀ r, XT.sel (.leaf (.exit 0) [(.T 0, .t (.val false [.ptr 0 0 0])), (.T 1, .t (.val false [.int .i64 y0])), (.T 4, .t (.val false [.ptr 4 0 0])), (.T 5, .t (.val false [.ptr 5 0 0])), (.B 4, .b 0 false [.int .i64 y2, .int .i64 y3, .row 4 5 0, .row 4 7 0]), (.R 4 5, .r 0 (some ⟨false, .any, true, 9, .str, y4⟩)), (.R 4 7, .r 0 (some ⟨false, .any, true, 83, (.pair .str (.pair .bool (.sl 3 (.int .i64)))), y5⟩)), (.B 5, .b 0 false [.int .i64 y6, .int .i64 y7, .row 5 5 0, .row 5 7 0]), (.R 5 5, .r 0 (some ⟨false, .any, true, 9, .str, r⟩)), (.R 5 7, .r 0 (some ⟨false, .any, false, 83, (.pair .str (.pair .bool (.sl 3 (.int .i64)))), y9⟩)), (.B 0, .b 0 false [.sl .any 5 (.int .u8) y10, .int .i64 y11])]) = xs_l20Note_0 y0 y2 y3 y4 y5 y6 y7 y9 y10 y11 r := fun r => by first | rfl | (rcases r with r | r <;> rfl) | (rcases r with r | r | r <;> rfl) | (rcases r with r | r | r | r <;> rfl)
    have h3 := (hx (valO (g_Ls_l20Note_0 y0 y2 y3 y4 y5 y6 y7 y9 y10 y11 (y1, y8)))).symm.trans h2
    have e3 := congrArg Prod.fst h3
    have e4 := congrArg Prod.snd h3
    simp only at e3 e4
    rw [← e3, ← e4]
    exact key
  · exact .inl ⟨xt, h1, h2⟩)
noncomputable def g_As_l20Note (r0 : List Int) (r1 : Int) (a2 : Int) : Bool := g_pickA r0 r1 (5 : Int) && (decide ((0 : Int) ≤ g_pick r0 r1 (5 : Int) ∧ g_pick r0 r1 (5 : Int) < (5 : Int)) && (decide (Int.toNat (g_pick r0 r1 (5 : Int)) < nat_lit 5) && (g_pickA r0 (IntKind.wrap IntKind.i64 (r1 + (1 : Int))) (5 : Int) && bif at_ (Ty.int IntKind.i64) [(1 : Int), (1 : Int), (2 : Int), (3 : Int), (4 : Int)] (Int.toNat (g_pick r0 r1 (5 : Int))) == (1 : Int) then g_As_l20Writes r0 (IntKind.wrap IntKind.i64 (IntKind.wrap IntKind.i64 (r1 + (1 : Int)) + (1 : Int))) (0 : Int) && (okO (g_Ls_l20Note_0 a2 (0 : Int) (0 : Int) [] [] (at_ (Ty.int IntKind.i64) [(1 : Int), (1 : Int), (2 : Int), (3 : Int), (4 : Int)] (Int.toNat (g_pick r0 r1 (5 : Int)))) (g_pick r0 (IntKind.wrap IntKind.i64 (r1 + (1 : Int))) (5 : Int)) (g_Vs_l20Writes_0 r0 (IntKind.wrap IntKind.i64 (IntKind.wrap IntKind.i64 (r1 + (1 : Int)) + (1 : Int))) (0 : Int)) r0 (g_Vs_l20Writes_2 r0 (IntKind.wrap IntKind.i64 (IntKind.wrap IntKind.i64 (r1 + (1 : Int)) + (1 : Int))) (0 : Int)) ((0 : Int), [])) && (g_pickA r0 (g_Vs_l20Writes_2 r0 (IntKind.wrap IntKind.i64 (IntKind.wrap IntKind.i64 (r1 + (1 : Int)) + (1 : Int))) (0 : Int)) (2 : Int) && bif g_pick r0 (g_Vs_l20Writes_2 r0 (IntKind.wrap IntKind.i64 (IntKind.wrap IntKind.i64 (r1 + (1 : Int)) + (1 : Int))) (0 : Int)) (2 : Int) == (0 : Int) then g_As_l20Key r0 (IntKind.wrap IntKind.i64 (g_Vs_l20Writes_2 r0 (IntKind.wrap IntKind.i64 (IntKind.wrap IntKind.i64 (r1 + (1 : Int)) + (1 : Int))) (0 : Int) + (1 : Int))) (0 : Int) && (decide ((List.length (valO (g_Ls_l20Note_0 a2 (0 : Int) (0 : Int) [] [] (at_ (Ty.int IntKind.i64) [(1 : Int), (1 : Int), (2 : Int), (3 : Int), (4 : Int)] (Int.toNat (g_pick r0 r1 (5 : Int)))) (g_pick r0 (IntKind.wrap IntKind.i64 (r1 + (1 : Int))) (5 : Int)) (g_Vs_l20Writes_0 r0 (IntKind.wrap IntKind.i64 (IntKind.wrap IntKind.i64 (r1 + (1 : Int)) + (1 : Int))) (0 : Int)) r0 (g_Vs_l20Writes_2 r0 (IntKind.wrap IntKind.i64 (IntKind.wrap IntKind.i64 (r1 + (1 : Int)) + (1 : Int))) (0 : Int)) ((0 : Int), []))) + List.length [g_Vs_l20Key_0 r0 (IntKind.wrap IntKind.i64 (g_Vs_l20Writes_2 r0 (IntKind.wrap IntKind.i64 (IntKind.wrap IntKind.i64 (r1 + (1 : Int)) + (1 : Int))) (0 : Int) + (1 : Int))) (0 : Int)]) * nat_lit 16 ≤ nat_lit 140737488355328 ∧ List.length (valO (g_Ls_l20Note_0 a2 (0 : Int) (0 : Int) [] [] (at_ (Ty.int IntKind.i64) [(1 : Int), (1 : Int), (2 : Int), (3 : Int), (4 : Int)] (Int.toNat (g_pick r0 r1 (5 : Int)))) (g_pick r0 (IntKind.wrap IntKind.i64 (r1 + (1 : Int))) (5 : Int)) (g_Vs_l20Writes_0 r0 (IntKind.wrap IntKind.i64 (IntKind.wrap IntKind.i64 (r1 + (1 : Int)) + (1 : Int))) (0 : Int)) r0 (g_Vs_l20Writes_2 r0 (IntKind.wrap IntKind.i64 (IntKind.wrap IntKind.i64 (r1 + (1 : Int)) + (1 : Int))) (0 : Int)) ((0 : Int), []))) + List.length [g_Vs_l20Key_0 r0 (IntKind.wrap IntKind.i64 (g_Vs_l20Writes_2 r0 (IntKind.wrap IntKind.i64 (IntKind.wrap IntKind.i64 (r1 + (1 : Int)) + (1 : Int))) (0 : Int) + (1 : Int))) (0 : Int)] ≤ nat_lit 9223372036854775807) && (g_As_l20Rd_odd r0 (g_Vs_l20Key_2 r0 (IntKind.wrap IntKind.i64 (g_Vs_l20Writes_2 r0 (IntKind.wrap IntKind.i64 (IntKind.wrap IntKind.i64 (r1 + (1 : Int)) + (1 : Int))) (0 : Int) + (1 : Int))) (0 : Int)) a2 && (!g_Vs_l20Rd_odd_0 r0 (g_Vs_l20Key_2 r0 (IntKind.wrap IntKind.i64 (g_Vs_l20Writes_2 r0 (IntKind.wrap IntKind.i64 (IntKind.wrap IntKind.i64 (r1 + (1 : Int)) + (1 : Int))) (0 : Int) + (1 : Int))) (0 : Int)) a2 || g_pickA r0 (g_Vs_l20Rd_odd_2 r0 (g_Vs_l20Key_2 r0 (IntKind.wrap IntKind.i64 (g_Vs_l20Writes_2 r0 (IntKind.wrap IntKind.i64 (IntKind.wrap IntKind.i64 (r1 + (1 : Int)) + (1 : Int))) (0 : Int) + (1 : Int))) (0 : Int)) a2) (5 : Int) && bif g_pick r0 (g_Vs_l20Rd_odd_2 r0 (g_Vs_l20Key_2 r0 (IntKind.wrap IntKind.i64 (g_Vs_l20Writes_2 r0 (IntKind.wrap IntKind.i64 (IntKind.wrap IntKind.i64 (r1 + (1 : Int)) + (1 : Int))) (0 : Int) + (1 : Int))) (0 : Int)) a2) (5 : Int) == (0 : Int) then g_pickA r0 (IntKind.wrap IntKind.i64 (g_Vs_l20Rd_odd_2 r0 (g_Vs_l20Key_2 r0 (IntKind.wrap IntKind.i64 (g_Vs_l20Writes_2 r0 (IntKind.wrap IntKind.i64 (IntKind.wrap IntKind.i64 (r1 + (1 : Int)) + (1 : Int))) (0 : Int) + (1 : Int))) (0 : Int)) a2 + (1 : Int))) (2 : Int) && (decide ((0 : Int) ≤ g_pick r0 (IntKind.wrap IntKind.i64 (g_Vs_l20Rd_odd_2 r0 (g_Vs_l20Key_2 r0 (IntKind.wrap IntKind.i64 (g_Vs_l20Writes_2 r0 (IntKind.wrap IntKind.i64 (IntKind.wrap IntKind.i64 (r1 + (1 : Int)) + (1 : Int))) (0 : Int) + (1 : Int))) (0 : Int)) a2 + (1 : Int))) (2 : Int) ∧ g_pick r0 (IntKind.wrap IntKind.i64 (g_Vs_l20Rd_odd_2 r0 (g_Vs_l20Key_2 r0 (IntKind.wrap IntKind.i64 (g_Vs_l20Writes_2 r0 (IntKind.wrap IntKind.i64 (IntKind.wrap IntKind.i64 (r1 + (1 : Int)) + (1 : Int))) (0 : Int) + (1 : Int))) (0 : Int)) a2 + (1 : Int))) (2 : Int) < (2 : Int)) && decide (Int.toNat (g_pick r0 (IntKind.wrap IntKind.i64 (g_Vs_l20Rd_odd_2 r0 (g_Vs_l20Key_2 r0 (IntKind.wrap IntKind.i64 (g_Vs_l20Writes_2 r0 (IntKind.wrap IntKind.i64 (IntKind.wrap IntKind.i64 (r1 + (1 : Int)) + (1 : Int))) (0 : Int) + (1 : Int))) (0 : Int)) a2 + (1 : Int))) (2 : Int)) < nat_lit 2)) else bif g_pick r0 (g_Vs_l20Rd_odd_2 r0 (g_Vs_l20Key_2 r0 (IntKind.wrap IntKind.i64 (g_Vs_l20Writes_2 r0 (IntKind.wrap IntKind.i64 (IntKind.wrap IntKind.i64 (r1 + (1 : Int)) + (1 : Int))) (0 : Int) + (1 : Int))) (0 : Int)) a2) (5 : Int) == (1 : Int) then g_pickA r0 (IntKind.wrap IntKind.i64 (g_Vs_l20Rd_odd_2 r0 (g_Vs_l20Key_2 r0 (IntKind.wrap IntKind.i64 (g_Vs_l20Writes_2 r0 (IntKind.wrap IntKind.i64 (IntKind.wrap IntKind.i64 (r1 + (1 : Int)) + (1 : Int))) (0 : Int) + (1 : Int))) (0 : Int)) a2 + (1 : Int))) (2 : Int) && (decide ((0 : Int) ≤ g_pick r0 (IntKind.wrap IntKind.i64 (g_Vs_l20Rd_odd_2 r0 (g_Vs_l20Key_2 r0 (IntKind.wrap IntKind.i64 (g_Vs_l20Writes_2 r0 (IntKind.wrap IntKind.i64 (IntKind.wrap IntKind.i64 (r1 + (1 : Int)) + (1 : Int))) (0 : Int) + (1 : Int))) (0 : Int)) a2 + (1 : Int))) (2 : Int) ∧ g_pick r0 (IntKind.wrap IntKind.i64 (g_Vs_l20Rd_odd_2 r0 (g_Vs_l20Key_2 r0 (IntKind.wrap IntKind.i64 (g_Vs_l20Writes_2 r0 (IntKind.wrap IntKind.i64 (IntKind.wrap IntKind.i64 (r1 + (1 : Int)) + (1 : Int))) (0 : Int) + (1 : Int))) (0 : Int)) a2 + (1 : Int))) (2 : Int) < (2 : Int)) && decide (Int.toNat (g_pick r0 (IntKind.wrap IntKind.i64 (g_Vs_l20Rd_odd_2 r0 (g_Vs_l20Key_2 r0 (IntKind.wrap IntKind.i64 (g_Vs_l20Writes_2 r0 (IntKind.wrap IntKind.i64 (IntKind.wrap IntKind.i64 (r1 + (1 : Int)) + (1 : Int))) (0 : Int) + (1 : Int))) (0 : Int)) a2 + (1 : Int))) (2 : Int)) < nat_lit 2)) else bif g_pick r0 (g_Vs_l20Rd_odd_2 r0 (g_Vs_l20Key_2 r0 (IntKind.wrap IntKind.i64 (g_Vs_l20Writes_2 r0 (IntKind.wrap IntKind.i64 (IntKind.wrap IntKind.i64 (r1 + (1 : Int)) + (1 : Int))) (0 : Int) + (1 : Int))) (0 : Int)) a2) (5 : Int) == (2 : Int) then decide ((List.length (valO (g_Ls_l20Note_0 a2 (0 : Int) (0 : Int) [] [] (at_ (Ty.int IntKind.i64) [(1 : Int), (1 : Int), (2 : Int), (3 : Int), (4 : Int)] (Int.toNat (g_pick r0 r1 (5 : Int)))) (g_pick r0 (IntKind.wrap IntKind.i64 (r1 + (1 : Int))) (5 : Int)) (g_Vs_l20Writes_0 r0 (IntKind.wrap IntKind.i64 (IntKind.wrap IntKind.i64 (r1 + (1 : Int)) + (1 : Int))) (0 : Int)) r0 (g_Vs_l20Writes_2 r0 (IntKind.wrap IntKind.i64 (IntKind.wrap IntKind.i64 (r1 + (1 : Int)) + (1 : Int))) (0 : Int)) ((0 : Int), [])) ++ [g_Vs_l20Key_0 r0 (IntKind.wrap IntKind.i64 (g_Vs_l20Writes_2 r0 (IntKind.wrap IntKind.i64 (IntKind.wrap IntKind.i64 (r1 + (1 : Int)) + (1 : Int))) (0 : Int) + (1 : Int))) (0 : Int)]) + nat_lit 1) * nat_lit 16 ≤ nat_lit 140737488355328 ∧ List.length (valO (g_Ls_l20Note_0 a2 (0 : Int) (0 : Int) [] [] (at_ (Ty.int IntKind.i64) [(1 : Int), (1 : Int), (2 : Int), (3 : Int), (4 : Int)] (Int.toNat (g_pick r0 r1 (5 : Int)))) (g_pick r0 (IntKind.wrap IntKind.i64 (r1 + (1 : Int))) (5 : Int)) (g_Vs_l20Writes_0 r0 (IntKind.wrap IntKind.i64 (IntKind.wrap IntKind.i64 (r1 + (1 : Int)) + (1 : Int))) (0 : Int)) r0 (g_Vs_l20Writes_2 r0 (IntKind.wrap IntKind.i64 (IntKind.wrap IntKind.i64 (r1 + (1 : Int)) + (1 : Int))) (0 : Int)) ((0 : Int), [])) ++ [g_Vs_l20Key_0 r0 (IntKind.wrap IntKind.i64 (g_Vs_l20Writes_2 r0 (IntKind.wrap IntKind.i64 (IntKind.wrap IntKind.i64 (r1 + (1 : Int)) + (1 : Int))) (0 : Int) + (1 : Int))) (0 : Int)]) + nat_lit 1 ≤ nat_lit 9223372036854775807) else bif g_pick r0 (g_Vs_l20Rd_odd_2 r0 (g_Vs_l20Key_2 r0 (IntKind.wrap IntKind.i64 (g_Vs_l20Writes_2 r0 (IntKind.wrap IntKind.i64 (IntKind.wrap IntKind.i64 (r1 + (1 : Int)) + (1 : Int))) (0 : Int) + (1 : Int))) (0 : Int)) a2) (5 : Int) == (3 : Int) then decide ((List.length (g_Vs_l20Writes_0 r0 (IntKind.wrap IntKind.i64 (IntKind.wrap IntKind.i64 (r1 + (1 : Int)) + (1 : Int))) (0 : Int)) + nat_lit 1) * nat_lit 48 ≤ nat_lit 140737488355328 ∧ List.length (g_Vs_l20Writes_0 r0 (IntKind.wrap IntKind.i64 (IntKind.wrap IntKind.i64 (r1 + (1 : Int)) + (1 : Int))) (0 : Int)) + nat_lit 1 ≤ nat_lit 9223372036854775807) else g_As_l20Write r0 (IntKind.wrap IntKind.i64 (g_Vs_l20Rd_odd_2 r0 (g_Vs_l20Key_2 r0 (IntKind.wrap IntKind.i64 (g_Vs_l20Writes_2 r0 (IntKind.wrap IntKind.i64 (IntKind.wrap IntKind.i64 (r1 + (1 : Int)) + (1 : Int))) (0 : Int) + (1 : Int))) (0 : Int)) a2 + (1 : Int))) (1 : Int) && decide ((List.length (g_Vs_l20Writes_0 r0 (IntKind.wrap IntKind.i64 (IntKind.wrap IntKind.i64 (r1 + (1 : Int)) + (1 : Int))) (0 : Int)) + List.length [(g_Vs_l20Write_0 r0 (IntKind.wrap IntKind.i64 (g_Vs_l20Rd_odd_2 r0 (g_Vs_l20Key_2 r0 (IntKind.wrap IntKind.i64 (g_Vs_l20Writes_2 r0 (IntKind.wrap IntKind.i64 (IntKind.wrap IntKind.i64 (r1 + (1 : Int)) + (1 : Int))) (0 : Int) + (1 : Int))) (0 : Int)) a2 + (1 : Int))) (1 : Int), g_Vs_l20Write_1 r0 (IntKind.wrap IntKind.i64 (g_Vs_l20Rd_odd_2 r0 (g_Vs_l20Key_2 r0 (IntKind.wrap IntKind.i64 (g_Vs_l20Writes_2 r0 (IntKind.wrap IntKind.i64 (IntKind.wrap IntKind.i64 (r1 + (1 : Int)) + (1 : Int))) (0 : Int) + (1 : Int))) (0 : Int)) a2 + (1 : Int))) (1 : Int), g_Vs_l20Write_2 r0 (IntKind.wrap IntKind.i64 (g_Vs_l20Rd_odd_2 r0 (g_Vs_l20Key_2 r0 (IntKind.wrap IntKind.i64 (g_Vs_l20Writes_2 r0 (IntKind.wrap IntKind.i64 (IntKind.wrap IntKind.i64 (r1 + (1 : Int)) + (1 : Int))) (0 : Int) + (1 : Int))) (0 : Int)) a2 + (1 : Int))) (1 : Int))]) * nat_lit 48 ≤ nat_lit 140737488355328 ∧ List.length (g_Vs_l20Writes_0 r0 (IntKind.wrap IntKind.i64 (IntKind.wrap IntKind.i64 (r1 + (1 : Int)) + (1 : Int))) (0 : Int)) + List.length [(g_Vs_l20Write_0 r0 (IntKind.wrap IntKind.i64 (g_Vs_l20Rd_odd_2 r0 (g_Vs_l20Key_2 r0 (IntKind.wrap IntKind.i64 (g_Vs_l20Writes_2 r0 (IntKind.wrap IntKind.i64 (IntKind.wrap IntKind.i64 (r1 + (1 : Int)) + (1 : Int))) (0 : Int) + (1 : Int))) (0 : Int)) a2 + (1 : Int))) (1 : Int), g_Vs_l20Write_1 r0 (IntKind.wrap IntKind.i64 (g_Vs_l20Rd_odd_2 r0 (g_Vs_l20Key_2 r0 (IntKind.wrap IntKind.i64 (g_Vs_l20Writes_2 r0 (IntKind.wrap IntKind.i64 (IntKind.wrap IntKind.i64 (r1 + (1 : Int)) + (1 : Int))) (0 : Int) + (1 : Int))) (0 : Int)) a2 + (1 : Int))) (1 : Int), g_Vs_l20Write_2 r0 (IntKind.wrap IntKind.i64 (g_Vs_l20Rd_odd_2 r0 (g_Vs_l20Key_2 r0 (IntKind.wrap IntKind.i64 (g_Vs_l20Writes_2 r0 (IntKind.wrap IntKind.i64 (IntKind.wrap IntKind.i64 (r1 + (1 : Int)) + (1 : Int))) (0 : Int) + (1 : Int))) (0 : Int)) a2 + (1 : Int))) (1 : Int))] ≤ nat_lit 9223372036854775807)))) else g_As_l20Rd_odd r0 (IntKind.wrap IntKind.i64 (g_Vs_l20Writes_2 r0 (IntKind.wrap IntKind.i64 (IntKind.wrap IntKind.i64 (r1 + (1 : Int)) + (1 : Int))) (0 : Int) + (1 : Int))) a2 && (!g_Vs_l20Rd_odd_0 r0 (IntKind.wrap IntKind.i64 (g_Vs_l20Writes_2 r0 (IntKind.wrap IntKind.i64 (IntKind.wrap IntKind.i64 (r1 + (1 : Int)) + (1 : Int))) (0 : Int) + (1 : Int))) a2 || g_pickA r0 (g_Vs_l20Rd_odd_2 r0 (IntKind.wrap IntKind.i64 (g_Vs_l20Writes_2 r0 (IntKind.wrap IntKind.i64 (IntKind.wrap IntKind.i64 (r1 + (1 : Int)) + (1 : Int))) (0 : Int) + (1 : Int))) a2) (5 : Int) && bif g_pick r0 (g_Vs_l20Rd_odd_2 r0 (IntKind.wrap IntKind.i64 (g_Vs_l20Writes_2 r0 (IntKind.wrap IntKind.i64 (IntKind.wrap IntKind.i64 (r1 + (1 : Int)) + (1 : Int))) (0 : Int) + (1 : Int))) a2) (5 : Int) == (0 : Int) then g_pickA r0 (IntKind.wrap IntKind.i64 (g_Vs_l20Rd_odd_2 r0 (IntKind.wrap IntKind.i64 (g_Vs_l20Writes_2 r0 (IntKind.wrap IntKind.i64 (IntKind.wrap IntKind.i64 (r1 + (1 : Int)) + (1 : Int))) (0 : Int) + (1 : Int))) a2 + (1 : Int))) (2 : Int) && (decide ((0 : Int) ≤ g_pick r0 (IntKind.wrap IntKind.i64 (g_Vs_l20Rd_odd_2 r0 (IntKind.wrap IntKind.i64 (g_Vs_l20Writes_2 r0 (IntKind.wrap IntKind.i64 (IntKind.wrap IntKind.i64 (r1 + (1 : Int)) + (1 : Int))) (0 : Int) + (1 : Int))) a2 + (1 : Int))) (2 : Int) ∧ g_pick r0 (IntKind.wrap IntKind.i64 (g_Vs_l20Rd_odd_2 r0 (IntKind.wrap IntKind.i64 (g_Vs_l20Writes_2 r0 (IntKind.wrap IntKind.i64 (IntKind.wrap IntKind.i64 (r1 + (1 : Int)) + (1 : Int))) (0 : Int) + (1 : Int))) a2 + (1 : Int))) (2 : Int) < (2 : Int)) && decide (Int.toNat (g_pick r0 (IntKind.wrap IntKind.i64 (g_Vs_l20Rd_odd_2 r0 (IntKind.wrap IntKind.i64 (g_Vs_l20Writes_2 r0 (IntKind.wrap IntKind.i64 (IntKind.wrap IntKind.i64 (r1 + (1 : Int)) + (1 : Int))) (0 : Int) + (1 : Int))) a2 + (1 : Int))) (2 : Int)) < nat_lit 2)) else bif g_pick r0 (g_Vs_l20Rd_odd_2 r0 (IntKind.wrap IntKind.i64 (g_Vs_l20Writes_2 r0 (IntKind.wrap IntKind.i64 (IntKind.wrap IntKind.i64 (r1 + (1 : Int)) + (1 : Int))) (0 : Int) + (1 : Int))) a2) (5 : Int) == (1 : Int) then g_pickA r0 (IntKind.wrap IntKind.i64 (g_Vs_l20Rd_odd_2 r0 (IntKind.wrap IntKind.i64 (g_Vs_l20Writes_2 r0 (IntKind.wrap IntKind.i64 (IntKind.wrap IntKind.i64 (r1 + (1 : Int)) + (1 : Int))) (0 : Int) + (1 : Int))) a2 + (1 : Int))) (2 : Int) && (decide ((0 : Int) ≤ g_pick r0 (IntKind.wrap IntKind.i64 (g_Vs_l20Rd_odd_2 r0 (IntKind.wrap IntKind.i64 (g_Vs_l20Writes_2 r0 (IntKind.wrap IntKind.i64 (IntKind.wrap IntKind.i64 (r1 + (1 : Int)) + (1 : Int))) (0 : Int) + (1 : Int))) a2 + (1 : Int))) (2 : Int) ∧ g_pick r0 (IntKind.wrap IntKind.i64 (g_Vs_l20Rd_odd_2 r0 (IntKind.wrap IntKind.i64 (g_Vs_l20Writes_2 r0 (IntKind.wrap IntKind.i64 (IntKind.wrap IntKind.i64 (r1 + (1 : Int)) + (1 : Int))) (0 : Int) + (1 : Int))) a2 + (1 : Int))) (2 : Int) < (2 : Int)) && decide (Int.toNat (g_pick r0 (IntKind.wrap IntKind.i64 (g_Vs_l20Rd_odd_2 r0 (IntKind.wrap IntKind.i64 (g_Vs_l20Writes_2 r0 (IntKind.wrap IntKind.i64 (IntKind.wrap IntKind.i64 (r1 + (1 : Int)) + (1 : Int))) (0 : Int) + (1 : Int))) a2 + (1 : Int))) (2 : Int)) < nat_lit 2)) else bif g_pick r0 (g_Vs_l20Rd_odd_2 r0 (IntKind.wrap IntKind.i64 (g_Vs_l20Writes_2 r0 (IntKind.wrap IntKind.i64 (IntKind.wrap IntKind.i64 (r1 + (1 : Int)) + (1 : Int))) (0 : Int) + (1 : Int))) a2) (5 : Int) == (2 : Int) then decide ((List.length (valO (g_Ls_l20Note_0 a2 (0 : Int) (0 : Int) [] [] (at_ (Ty.int IntKind.i64) [(1 : Int), (1 : Int), (2 : Int), (3 : Int), (4 : Int)] (Int.toNat (g_pick r0 r1 (5 : Int)))) (g_pick r0 (IntKind.wrap IntKind.i64 (r1 + (1 : Int))) (5 : Int)) (g_Vs_l20Writes_0 r0 (IntKind.wrap IntKind.i64 (IntKind.wrap IntKind.i64 (r1 + (1 : Int)) + (1 : Int))) (0 : Int)) r0 (g_Vs_l20Writes_2 r0 (IntKind.wrap IntKind.i64 (IntKind.wrap IntKind.i64 (r1 + (1 : Int)) + (1 : Int))) (0 : Int)) ((0 : Int), []))) + nat_lit 1) * nat_lit 16 ≤ nat_lit 140737488355328 ∧ List.length (valO (g_Ls_l20Note_0 a2 (0 : Int) (0 : Int) [] [] (at_ (Ty.int IntKind.i64) [(1 : Int), (1 : Int), (2 : Int), (3 : Int), (4 : Int)] (Int.toNat (g_pick r0 r1 (5 : Int)))) (g_pick r0 (IntKind.wrap IntKind.i64 (r1 + (1 : Int))) (5 : Int)) (g_Vs_l20Writes_0 r0 (IntKind.wrap IntKind.i64 (IntKind.wrap IntKind.i64 (r1 + (1 : Int)) + (1 : Int))) (0 : Int)) r0 (g_Vs_l20Writes_2 r0 (IntKind.wrap IntKind.i64 (IntKind.wrap IntKind.i64 (r1 + (1 : Int)) + (1 : Int))) (0 : Int)) ((0 : Int), []))) + nat_lit 1 ≤ nat_lit 9223372036854775807) else bif g_pick r0 (g_Vs_l20Rd_odd_2 r0 (IntKind.wrap IntKind.i64 (g_Vs_l20Writes_2 r0 (IntKind.wrap IntKind.i64 (IntKind.wrap IntKind.i64 (r1 + (1 : Int)) + (1 : Int))) (0 : Int) + (1 : Int))) a2) (5 : Int) == (3 : Int) then decide ((List.length (g_Vs_l20Writes_0 r0 (IntKind.wrap IntKind.i64 (IntKind.wrap IntKind.i64 (r1 + (1 : Int)) + (1 : Int))) (0 : Int)) + nat_lit 1) * nat_lit 48 ≤ nat_lit 140737488355328 ∧ List.length (g_Vs_l20Writes_0 r0 (IntKind.wrap IntKind.i64 (IntKind.wrap IntKind.i64 (r1 + (1 : Int)) + (1 : Int))) (0 : Int)) + nat_lit 1 ≤ nat_lit 9223372036854775807) else g_As_l20Write r0 (IntKind.wrap IntKind.i64 (g_Vs_l20Rd_odd_2 r0 (IntKind.wrap IntKind.i64 (g_Vs_l20Writes_2 r0 (IntKind.wrap IntKind.i64 (IntKind.wrap IntKind.i64 (r1 + (1 : Int)) + (1 : Int))) (0 : Int) + (1 : Int))) a2 + (1 : Int))) (1 : Int) && decide ((List.length (g_Vs_l20Writes_0 r0 (IntKind.wrap IntKind.i64 (IntKind.wrap IntKind.i64 (r1 + (1 : Int)) + (1 : Int))) (0 : Int)) + List.length [(g_Vs_l20Write_0 r0 (IntKind.wrap IntKind.i64 (g_Vs_l20Rd_odd_2 r0 (IntKind.wrap IntKind.i64 (g_Vs_l20Writes_2 r0 (IntKind.wrap IntKind.i64 (IntKind.wrap IntKind.i64 (r1 + (1 : Int)) + (1 : Int))) (0 : Int) + (1 : Int))) a2 + (1 : Int))) (1 : Int), g_Vs_l20Write_1 r0 (IntKind.wrap IntKind.i64 (g_Vs_l20Rd_odd_2 r0 (IntKind.wrap IntKind.i64 (g_Vs_l20Writes_2 r0 (IntKind.wrap IntKind.i64 (IntKind.wrap IntKind.i64 (r1 + (1 : Int)) + (1 : Int))) (0 : Int) + (1 : Int))) a2 + (1 : Int))) (1 : Int), g_Vs_l20Write_2 r0 (IntKind.wrap IntKind.i64 (g_Vs_l20Rd_odd_2 r0 (IntKind.wrap IntKind.i64 (g_Vs_l20Writes_2 r0 (IntKind.wrap IntKind.i64 (IntKind.wrap IntKind.i64 (r1 + (1 : Int)) + (1 : Int))) (0 : Int) + (1 : Int))) a2 + (1 : Int))) (1 : Int))]) * nat_lit 48 ≤ nat_lit 140737488355328 ∧ List.length (g_Vs_l20Writes_0 r0 (IntKind.wrap IntKind.i64 (IntKind.wrap IntKind.i64 (r1 + (1 : Int)) + (1 : Int))) (0 : Int)) + List.length [(g_Vs_l20Write_0 r0 (IntKind.wrap IntKind.i64 (g_Vs_l20Rd_odd_2 r0 (IntKind.wrap IntKind.i64 (g_Vs_l20Writes_2 r0 (IntKind.wrap IntKind.i64 (IntKind.wrap IntKind.i64 (r1 + (1 : Int)) + (1 : Int))) (0 : Int) + (1 : Int))) a2 + (1 : Int))) (1 : Int), g_Vs_l20Write_1 r0 (IntKind.wrap IntKind.i64 (g_Vs_l20Rd_odd_2 r0 (IntKind.wrap IntKind.i64 (g_Vs_l20Writes_2 r0 (IntKind.wrap IntKind.i64 (IntKind.wrap IntKind.i64 (r1 + (1 : Int)) + (1 : Int))) (0 : Int) + (1 : Int))) a2 + (1 : Int))) (1 : Int), g_Vs_l20Write_2 r0 (IntKind.wrap IntKind.i64 (g_Vs_l20Rd_odd_2 r0 (IntKind.wrap IntKind.i64 (g_Vs_l20Writes_2 r0 (IntKind.wrap IntKind.i64 (IntKind.wrap IntKind.i64 (r1 + (1 : Int)) + (1 : Int))) (0 : Int) + (1 : Int))) a2 + (1 : Int))) (1 : Int))] ≤ nat_lit 9223372036854775807)))) else g_As_l20Rd_odd r0 (IntKind.wrap IntKind.i64 (IntKind.wrap IntKind.i64 (r1 + (1 : Int)) + (1 : Int))) a2 && (!g_Vs_l20Rd_odd_0 r0 (IntKind.wrap IntKind.i64 (IntKind.wrap IntKind.i64 (r1 + (1 : Int)) + (1 : Int))) a2 || g_pickA r0 (g_Vs_l20Rd_odd_2 r0 (IntKind.wrap IntKind.i64 (IntKind.wrap IntKind.i64 (r1 + (1 : Int)) + (1 : Int))) a2) (5 : Int) && bif g_pick r0 (g_Vs_l20Rd_odd_2 r0 (IntKind.wrap IntKind.i64 (IntKind.wrap IntKind.i64 (r1 + (1 : Int)) + (1 : Int))) a2) (5 : Int) == (0 : Int) then g_pickA r0 (IntKind.wrap IntKind.i64 (g_Vs_l20Rd_odd_2 r0 (IntKind.wrap IntKind.i64 (IntKind.wrap IntKind.i64 (r1 + (1 : Int)) + (1 : Int))) a2 + (1 : Int))) (2 : Int) && (decide ((0 : Int) ≤ g_pick r0 (IntKind.wrap IntKind.i64 (g_Vs_l20Rd_odd_2 r0 (IntKind.wrap IntKind.i64 (IntKind.wrap IntKind.i64 (r1 + (1 : Int)) + (1 : Int))) a2 + (1 : Int))) (2 : Int) ∧ g_pick r0 (IntKind.wrap IntKind.i64 (g_Vs_l20Rd_odd_2 r0 (IntKind.wrap IntKind.i64 (IntKind.wrap IntKind.i64 (r1 + (1 : Int)) + (1 : Int))) a2 + (1 : Int))) (2 : Int) < (2 : Int)) && decide (Int.toNat (g_pick r0 (IntKind.wrap IntKind.i64 (g_Vs_l20Rd_odd_2 r0 (IntKind.wrap IntKind.i64 (IntKind.wrap IntKind.i64 (r1 + (1 : Int)) + (1 : Int))) a2 + (1 : Int))) (2 : Int)) < nat_lit 2)) else bif g_pick r0 (g_Vs_l20Rd_odd_2 r0 (IntKind.wrap IntKind.i64 (IntKind.wrap IntKind.i64 (r1 + (1 : Int)) + (1 : Int))) a2) (5 : Int) == (1 : Int) then g_pickA r0 (IntKind.wrap IntKind.i64 (g_Vs_l20Rd_odd_2 r0 (IntKind.wrap IntKind.i64 (IntKind.wrap IntKind.i64 (r1 + (1 : Int)) + (1 : Int))) a2 + (1 : Int))) (2 : Int) && (decide ((0 : Int) ≤ g_pick r0 (IntKind.wrap IntKind.i64 (g_Vs_l20Rd_odd_2 r0 (IntKind.wrap IntKind.i64 (IntKind.wrap IntKind.i64 (r1 + (1 : Int)) + (1 : Int))) a2 + (1 : Int))) (2 : Int) ∧ g_pick r0 (IntKind.wrap IntKind.i64 (g_Vs_l20Rd_odd_2 r0 (IntKind.wrap IntKind.i64 (IntKind.wrap IntKind.i64 (r1 + (1 : Int)) + (1 : Int))) a2 + (1 : Int))) (2 : Int) < (2 : Int)) && decide (Int.toNat (g_pick r0 (IntKind.wrap IntKind.i64 (g_Vs_l20Rd_odd_2 r0 (IntKind.wrap IntKind.i64 (IntKind.wrap IntKind.i64 (r1 + (1 : Int)) + (1 : Int))) a2 + (1 : Int))) (2 : Int)) < nat_lit 2)) else bif g_pick r0 (g_Vs_l20Rd_odd_2 r0 (IntKind.wrap IntKind.i64 (IntKind.wrap IntKind.i64 (r1 + (1 : Int)) + (1 : Int))) a2) (5 : Int) == (2 : Int) then true else bif g_pick r0 (g_Vs_l20Rd_odd_2 r0 (IntKind.wrap IntKind.i64 (IntKind.wrap IntKind.i64 (r1 + (1 : Int)) + (1 : Int))) a2) (5 : Int) == (3 : Int) then true else g_As_l20Write r0 (IntKind.wrap IntKind.i64 (g_Vs_l20Rd_odd_2 r0 (IntKind.wrap IntKind.i64 (IntKind.wrap IntKind.i64 (r1 + (1 : Int)) + (1 : Int))) a2 + (1 : Int))) (1 : Int) && decide ((nat_lit 0 + List.length [(g_Vs_l20Write_0 r0 (IntKind.wrap IntKind.i64 (g_Vs_l20Rd_odd_2 r0 (IntKind.wrap IntKind.i64 (IntKind.wrap IntKind.i64 (r1 + (1 : Int)) + (1 : Int))) a2 + (1 : Int))) (1 : Int), g_Vs_l20Write_1 r0 (IntKind.wrap IntKind.i64 (g_Vs_l20Rd_odd_2 r0 (IntKind.wrap IntKind.i64 (IntKind.wrap IntKind.i64 (r1 + (1 : Int)) + (1 : Int))) a2 + (1 : Int))) (1 : Int), g_Vs_l20Write_2 r0 (IntKind.wrap IntKind.i64 (g_Vs_l20Rd_odd_2 r0 (IntKind.wrap IntKind.i64 (IntKind.wrap IntKind.i64 (r1 + (1 : Int)) + (1 : Int))) a2 + (1 : Int))) (1 : Int))]) * nat_lit 48 ≤ nat_lit 140737488355328 ∧ nat_lit 0 + List.length [(g_Vs_l20Write_0 r0 (IntKind.wrap IntKind.i64 (g_Vs_l20Rd_odd_2 r0 (IntKind.wrap IntKind.i64 (IntKind.wrap IntKind.i64 (r1 + (1 : Int)) + (1 : Int))) a2 + (1 : Int))) (1 : Int), g_Vs_l20Write_1 r0 (IntKind.wrap IntKind.i64 (g_Vs_l20Rd_odd_2 r0 (IntKind.wrap IntKind.i64 (IntKind.wrap IntKind.i64 (r1 + (1 : Int)) + (1 : Int))) a2 + (1 : Int))) (1 : Int), g_Vs_l20Write_2 r0 (IntKind.wrap IntKind.i64 (g_Vs_l20Rd_odd_2 r0 (IntKind.wrap IntKind.i64 (IntKind.wrap IntKind.i64 (r1 + (1 : Int)) + (1 : Int))) a2 + (1 : Int))) (1 : Int))] ≤ nat_lit 9223372036854775807)))))
noncomputable def g_Vs_l20Note_0 (r0 : List Int) (r1 : Int) (a2 : Int) : Int := bif at_ (Ty.int IntKind.i64) [(1 : Int), (1 : Int), (2 : Int), (3 : Int), (4 : Int)] (Int.toNat (g_pick r0 r1 (5 : Int))) == (1 : Int) then bif g_pick r0 (g_Vs_l20Writes_2 r0 (IntKind.wrap IntKind.i64 (IntKind.wrap IntKind.i64 (r1 + (1 : Int)) + (1 : Int))) (0 : Int)) (2 : Int) == (0 : Int) then bif g_Vs_l20Rd_odd_0 r0 (g_Vs_l20Key_2 r0 (IntKind.wrap IntKind.i64 (g_Vs_l20Writes_2 r0 (IntKind.wrap IntKind.i64 (IntKind.wrap IntKind.i64 (r1 + (1 : Int)) + (1 : Int))) (0 : Int) + (1 : Int))) (0 : Int)) a2 then bif g_pick r0 (g_Vs_l20Rd_odd_2 r0 (g_Vs_l20Key_2 r0 (IntKind.wrap IntKind.i64 (g_Vs_l20Writes_2 r0 (IntKind.wrap IntKind.i64 (IntKind.wrap IntKind.i64 (r1 + (1 : Int)) + (1 : Int))) (0 : Int) + (1 : Int))) (0 : Int)) a2) (5 : Int) == (0 : Int) then at_ (Ty.int IntKind.i64) [(0 : Int), (5 : Int)] (Int.toNat (g_pick r0 (IntKind.wrap IntKind.i64 (g_Vs_l20Rd_odd_2 r0 (g_Vs_l20Key_2 r0 (IntKind.wrap IntKind.i64 (g_Vs_l20Writes_2 r0 (IntKind.wrap IntKind.i64 (IntKind.wrap IntKind.i64 (r1 + (1 : Int)) + (1 : Int))) (0 : Int) + (1 : Int))) (0 : Int)) a2 + (1 : Int))) (2 : Int))) else bif g_pick r0 (g_Vs_l20Rd_odd_2 r0 (g_Vs_l20Key_2 r0 (IntKind.wrap IntKind.i64 (g_Vs_l20Writes_2 r0 (IntKind.wrap IntKind.i64 (IntKind.wrap IntKind.i64 (r1 + (1 : Int)) + (1 : Int))) (0 : Int) + (1 : Int))) (0 : Int)) a2) (5 : Int) == (1 : Int) then at_ (Ty.int IntKind.i64) [(1 : Int), (1 : Int), (2 : Int), (3 : Int), (4 : Int)] (Int.toNat (g_pick r0 r1 (5 : Int))) else bif g_pick r0 (g_Vs_l20Rd_odd_2 r0 (g_Vs_l20Key_2 r0 (IntKind.wrap IntKind.i64 (g_Vs_l20Writes_2 r0 (IntKind.wrap IntKind.i64 (IntKind.wrap IntKind.i64 (r1 + (1 : Int)) + (1 : Int))) (0 : Int) + (1 : Int))) (0 : Int)) a2) (5 : Int) == (2 : Int) then at_ (Ty.int IntKind.i64) [(1 : Int), (1 : Int), (2 : Int), (3 : Int), (4 : Int)] (Int.toNat (g_pick r0 r1 (5 : Int))) else bif g_pick r0 (g_Vs_l20Rd_odd_2 r0 (g_Vs_l20Key_2 r0 (IntKind.wrap IntKind.i64 (g_Vs_l20Writes_2 r0 (IntKind.wrap IntKind.i64 (IntKind.wrap IntKind.i64 (r1 + (1 : Int)) + (1 : Int))) (0 : Int) + (1 : Int))) (0 : Int)) a2) (5 : Int) == (3 : Int) then at_ (Ty.int IntKind.i64) [(1 : Int), (1 : Int), (2 : Int), (3 : Int), (4 : Int)] (Int.toNat (g_pick r0 r1 (5 : Int))) else at_ (Ty.int IntKind.i64) [(1 : Int), (1 : Int), (2 : Int), (3 : Int), (4 : Int)] (Int.toNat (g_pick r0 r1 (5 : Int))) else at_ (Ty.int IntKind.i64) [(1 : Int), (1 : Int), (2 : Int), (3 : Int), (4 : Int)] (Int.toNat (g_pick r0 r1 (5 : Int))) else bif g_Vs_l20Rd_odd_0 r0 (IntKind.wrap IntKind.i64 (g_Vs_l20Writes_2 r0 (IntKind.wrap IntKind.i64 (IntKind.wrap IntKind.i64 (r1 + (1 : Int)) + (1 : Int))) (0 : Int) + (1 : Int))) a2 then bif g_pick r0 (g_Vs_l20Rd_odd_2 r0 (IntKind.wrap IntKind.i64 (g_Vs_l20Writes_2 r0 (IntKind.wrap IntKind.i64 (IntKind.wrap IntKind.i64 (r1 + (1 : Int)) + (1 : Int))) (0 : Int) + (1 : Int))) a2) (5 : Int) == (0 : Int) then at_ (Ty.int IntKind.i64) [(0 : Int), (5 : Int)] (Int.toNat (g_pick r0 (IntKind.wrap IntKind.i64 (g_Vs_l20Rd_odd_2 r0 (IntKind.wrap IntKind.i64 (g_Vs_l20Writes_2 r0 (IntKind.wrap IntKind.i64 (IntKind.wrap IntKind.i64 (r1 + (1 : Int)) + (1 : Int))) (0 : Int) + (1 : Int))) a2 + (1 : Int))) (2 : Int))) else bif g_pick r0 (g_Vs_l20Rd_odd_2 r0 (IntKind.wrap IntKind.i64 (g_Vs_l20Writes_2 r0 (IntKind.wrap IntKind.i64 (IntKind.wrap IntKind.i64 (r1 + (1 : Int)) + (1 : Int))) (0 : Int) + (1 : Int))) a2) (5 : Int) == (1 : Int) then at_ (Ty.int IntKind.i64) [(1 : Int), (1 : Int), (2 : Int), (3 : Int), (4 : Int)] (Int.toNat (g_pick r0 r1 (5 : Int))) else bif g_pick r0 (g_Vs_l20Rd_odd_2 r0 (IntKind.wrap IntKind.i64 (g_Vs_l20Writes_2 r0 (IntKind.wrap IntKind.i64 (IntKind.wrap IntKind.i64 (r1 + (1 : Int)) + (1 : Int))) (0 : Int) + (1 : Int))) a2) (5 : Int) == (2 : Int) then at_ (Ty.int IntKind.i64) [(1 : Int), (1 : Int), (2 : Int), (3 : Int), (4 : Int)] (Int.toNat (g_pick r0 r1 (5 : Int))) else bif g_pick r0 (g_Vs_l20Rd_odd_2 r0 (IntKind.wrap IntKind.i64 (g_Vs_l20Writes_2 r0 (IntKind.wrap IntKind.i64 (IntKind.wrap IntKind.i64 (r1 + (1 : Int)) + (1 : Int))) (0 : Int) + (1 : Int))) a2) (5 : Int) == (3 : Int) then at_ (Ty.int IntKind.i64) [(1 : Int), (1 : Int), (2 : Int), (3 : Int), (4 : Int)] (Int.toNat (g_pick r0 r1 (5 : Int))) else at_ (Ty.int IntKind.i64) [(1 : Int), (1 : Int), (2 : Int), (3 : Int), (4 : Int)] (Int.toNat (g_pick r0 r1 (5 : Int))) else at_ (Ty.int IntKind.i64) [(1 : Int), (1 : Int), (2 : Int), (3 : Int), (4 : Int)] (Int.toNat (g_pick r0 r1 (5 : Int))) else bif g_Vs_l20Rd_odd_0 r0 (IntKind.wrap IntKind.i64 (IntKind.wrap IntKind.i64 (r1 + (1 : Int)) + (1 : Int))) a2 then bif g_pick r0 (g_Vs_l20Rd_odd_2 r0 (IntKind.wrap IntKind.i64 (IntKind.wrap IntKind.i64 (r1 + (1 : Int)) + (1 : Int))) a2) (5 : Int) == (0 : Int) then at_ (Ty.int IntKind.i64) [(0 : Int), (5 : Int)] (Int.toNat (g_pick r0 (IntKind.wrap IntKind.i64 (g_Vs_l20Rd_odd_2 r0 (IntKind.wrap IntKind.i64 (IntKind.wrap IntKind.i64 (r1 + (1 : Int)) + (1 : Int))) a2 + (1 : Int))) (2 : Int))) else bif g_pick r0 (g_Vs_l20Rd_odd_2 r0 (IntKind.wrap IntKind.i64 (IntKind.wrap IntKind.i64 (r1 + (1 : Int)) + (1 : Int))) a2) (5 : Int) == (1 : Int) then at_ (Ty.int IntKind.i64) [(1 : Int), (1 : Int), (2 : Int), (3 : Int), (4 : Int)] (Int.toNat (g_pick r0 r1 (5 : Int))) else bif g_pick r0 (g_Vs_l20Rd_odd_2 r0 (IntKind.wrap IntKind.i64 (IntKind.wrap IntKind.i64 (r1 + (1 : Int)) + (1 : Int))) a2) (5 : Int) == (2 : Int) then at_ (Ty.int IntKind.i64) [(1 : Int), (1 : Int), (2 : Int), (3 : Int), (4 : Int)] (Int.toNat (g_pick r0 r1 (5 : Int))) else bif g_pick r0 (g_Vs_l20Rd_odd_2 r0 (IntKind.wrap IntKind.i64 (IntKind.wrap IntKind.i64 (r1 + (1 : Int)) + (1 : Int))) a2) (5 : Int) == (3 : Int) then at_ (Ty.int IntKind.i64) [(1 : Int), (1 : Int), (2 : Int), (3 : Int), (4 : Int)] (Int.toNat (g_pick r0 r1 (5 : Int))) else at_ (Ty.int IntKind.i64) [(1 : Int), (1 : Int), (2 : Int), (3 : Int), (4 : Int)] (Int.toNat (g_pick r0 r1 (5 : Int))) else at_ (Ty.int IntKind.i64) [(1 : Int), (1 : Int), (2 : Int), (3 : Int), (4 : Int)] (Int.toNat (g_pick r0 r1 (5 : Int)))
noncomputable def g_Vs_l20Note_1 (r0 : List Int) (r1 : Int) (a2 : Int) : Int := bif at_ (Ty.int IntKind.i64) [(1 : Int), (1 : Int), (2 : Int), (3 : Int), (4 : Int)] (Int.toNat (g_pick r0 r1 (5 : Int))) == (1 : Int) then bif g_pick r0 (g_Vs_l20Writes_2 r0 (IntKind.wrap IntKind.i64 (IntKind.wrap IntKind.i64 (r1 + (1 : Int)) + (1 : Int))) (0 : Int)) (2 : Int) == (0 : Int) then bif g_Vs_l20Rd_odd_0 r0 (g_Vs_l20Key_2 r0 (IntKind.wrap IntKind.i64 (g_Vs_l20Writes_2 r0 (IntKind.wrap IntKind.i64 (IntKind.wrap IntKind.i64 (r1 + (1 : Int)) + (1 : Int))) (0 : Int) + (1 : Int))) (0 : Int)) a2 then bif g_pick r0 (g_Vs_l20Rd_odd_2 r0 (g_Vs_l20Key_2 r0 (IntKind.wrap IntKind.i64 (g_Vs_l20Writes_2 r0 (IntKind.wrap IntKind.i64 (IntKind.wrap IntKind.i64 (r1 + (1 : Int)) + (1 : Int))) (0 : Int) + (1 : Int))) (0 : Int)) a2) (5 : Int) == (0 : Int) then g_pick r0 (IntKind.wrap IntKind.i64 (r1 + (1 : Int))) (5 : Int) else bif g_pick r0 (g_Vs_l20Rd_odd_2 r0 (g_Vs_l20Key_2 r0 (IntKind.wrap IntKind.i64 (g_Vs_l20Writes_2 r0 (IntKind.wrap IntKind.i64 (IntKind.wrap IntKind.i64 (r1 + (1 : Int)) + (1 : Int))) (0 : Int) + (1 : Int))) (0 : Int)) a2) (5 : Int) == (1 : Int) then at_ (Ty.int IntKind.i64) [(-1 : Int), (30 : Int)] (Int.toNat (g_pick r0 (IntKind.wrap IntKind.i64 (g_Vs_l20Rd_odd_2 r0 (g_Vs_l20Key_2 r0 (IntKind.wrap IntKind.i64 (g_Vs_l20Writes_2 r0 (IntKind.wrap IntKind.i64 (IntKind.wrap IntKind.i64 (r1 + (1 : Int)) + (1 : Int))) (0 : Int) + (1 : Int))) (0 : Int)) a2 + (1 : Int))) (2 : Int))) else bif g_pick r0 (g_Vs_l20Rd_odd_2 r0 (g_Vs_l20Key_2 r0 (IntKind.wrap IntKind.i64 (g_Vs_l20Writes_2 r0 (IntKind.wrap IntKind.i64 (IntKind.wrap IntKind.i64 (r1 + (1 : Int)) + (1 : Int))) (0 : Int) + (1 : Int))) (0 : Int)) a2) (5 : Int) == (2 : Int) then g_pick r0 (IntKind.wrap IntKind.i64 (r1 + (1 : Int))) (5 : Int) else bif g_pick r0 (g_Vs_l20Rd_odd_2 r0 (g_Vs_l20Key_2 r0 (IntKind.wrap IntKind.i64 (g_Vs_l20Writes_2 r0 (IntKind.wrap IntKind.i64 (IntKind.wrap IntKind.i64 (r1 + (1 : Int)) + (1 : Int))) (0 : Int) + (1 : Int))) (0 : Int)) a2) (5 : Int) == (3 : Int) then g_pick r0 (IntKind.wrap IntKind.i64 (r1 + (1 : Int))) (5 : Int) else g_pick r0 (IntKind.wrap IntKind.i64 (r1 + (1 : Int))) (5 : Int) else g_pick r0 (IntKind.wrap IntKind.i64 (r1 + (1 : Int))) (5 : Int) else bif g_Vs_l20Rd_odd_0 r0 (IntKind.wrap IntKind.i64 (g_Vs_l20Writes_2 r0 (IntKind.wrap IntKind.i64 (IntKind.wrap IntKind.i64 (r1 + (1 : Int)) + (1 : Int))) (0 : Int) + (1 : Int))) a2 then bif g_pick r0 (g_Vs_l20Rd_odd_2 r0 (IntKind.wrap IntKind.i64 (g_Vs_l20Writes_2 r0 (IntKind.wrap IntKind.i64 (IntKind.wrap IntKind.i64 (r1 + (1 : Int)) + (1 : Int))) (0 : Int) + (1 : Int))) a2) (5 : Int) == (0 : Int) then g_pick r0 (IntKind.wrap IntKind.i64 (r1 + (1 : Int))) (5 : Int) else bif g_pick r0 (g_Vs_l20Rd_odd_2 r0 (IntKind.wrap IntKind.i64 (g_Vs_l20Writes_2 r0 (IntKind.wrap IntKind.i64 (IntKind.wrap IntKind.i64 (r1 + (1 : Int)) + (1 : Int))) (0 : Int) + (1 : Int))) a2) (5 : Int) == (1 : Int) then at_ (Ty.int IntKind.i64) [(-1 : Int), (30 : Int)] (Int.toNat (g_pick r0 (IntKind.wrap IntKind.i64 (g_Vs_l20Rd_odd_2 r0 (IntKind.wrap IntKind.i64 (g_Vs_l20Writes_2 r0 (IntKind.wrap IntKind.i64 (IntKind.wrap IntKind.i64 (r1 + (1 : Int)) + (1 : Int))) (0 : Int) + (1 : Int))) a2 + (1 : Int))) (2 : Int))) else bif g_pick r0 (g_Vs_l20Rd_odd_2 r0 (IntKind.wrap IntKind.i64 (g_Vs_l20Writes_2 r0 (IntKind.wrap IntKind.i64 (IntKind.wrap IntKind.i64 (r1 + (1 : Int)) + (1 : Int))) (0 : Int) + (1 : Int))) a2) (5 : Int) == (2 : Int) then g_pick r0 (IntKind.wrap IntKind.i64 (r1 + (1 : Int))) (5 : Int) else bif g_pick r0 (g_Vs_l20Rd_odd_2 r0 (IntKind.wrap IntKind.i64 (g_Vs_l20Writes_2 r0 (IntKind.wrap IntKind.i64 (IntKind.wrap IntKind.i64 (r1 + (1 : Int)) + (1 : Int))) (0 : Int) + (1 : Int))) a2) (5 : Int) == (3 : Int) then g_pick r0 (IntKind.wrap IntKind.i64 (r1 + (1 : Int))) (5 : Int) else g_pick r0 (IntKind.wrap IntKind.i64 (r1 + (1 : Int))) (5 : Int) else g_pick r0 (IntKind.wrap IntKind.i64 (r1 + (1 : Int))) (5 : Int) else bif g_Vs_l20Rd_odd_0 r0 (IntKind.wrap IntKind.i64 (IntKind.wrap IntKind.i64 (r1 + (1 : Int)) + (1 : Int))) a2 then bif g_pick r0 (g_Vs_l20Rd_odd_2 r0 (IntKind.wrap IntKind.i64 (IntKind.wrap IntKind.i64 (r1 + (1 : Int)) + (1 : Int))) a2) (5 : Int) == (0 : Int) then g_pick r0 (IntKind.wrap IntKind.i64 (r1 + (1 : Int))) (5 : Int) else bif g_pick r0 (g_Vs_l20Rd_odd_2 r0 (IntKind.wrap IntKind.i64 (IntKind.wrap IntKind.i64 (r1 + (1 : Int)) + (1 : Int))) a2) (5 : Int) == (1 : Int) then at_ (Ty.int IntKind.i64) [(-1 : Int), (30 : Int)] (Int.toNat (g_pick r0 (IntKind.wrap IntKind.i64 (g_Vs_l20Rd_odd_2 r0 (IntKind.wrap IntKind.i64 (IntKind.wrap IntKind.i64 (r1 + (1 : Int)) + (1 : Int))) a2 + (1 : Int))) (2 : Int))) else bif g_pick r0 (g_Vs_l20Rd_odd_2 r0 (IntKind.wrap IntKind.i64 (IntKind.wrap IntKind.i64 (r1 + (1 : Int)) + (1 : Int))) a2) (5 : Int) == (2 : Int) then g_pick r0 (IntKind.wrap IntKind.i64 (r1 + (1 : Int))) (5 : Int) else bif g_pick r0 (g_Vs_l20Rd_odd_2 r0 (IntKind.wrap IntKind.i64 (IntKind.wrap IntKind.i64 (r1 + (1 : Int)) + (1 : Int))) a2) (5 : Int) == (3 : Int) then g_pick r0 (IntKind.wrap IntKind.i64 (r1 + (1 : Int))) (5 : Int) else g_pick r0 (IntKind.wrap IntKind.i64 (r1 + (1 : Int))) (5 : Int) else g_pick r0 (IntKind.wrap IntKind.i64 (r1 + (1 : Int))) (5 : Int)
noncomputable def g_Vs_l20Note_2 (r0 : List Int) (r1 : Int) (a2 : Int) : List (ByteArray) := bif at_ (Ty.int IntKind.i64) [(1 : Int), (1 : Int), (2 : Int), (3 : Int), (4 : Int)] (Int.toNat (g_pick r0 r1 (5 : Int))) == (1 : Int) then bif g_pick r0 (g_Vs_l20Writes_2 r0 (IntKind.wrap IntKind.i64 (IntKind.wrap IntKind.i64 (r1 + (1 : Int)) + (1 : Int))) (0 : Int)) (2 : Int) == (0 : Int) then bif g_Vs_l20Rd_odd_0 r0 (g_Vs_l20Key_2 r0 (IntKind.wrap IntKind.i64 (g_Vs_l20Writes_2 r0 (IntKind.wrap IntKind.i64 (IntKind.wrap IntKind.i64 (r1 + (1 : Int)) + (1 : Int))) (0 : Int) + (1 : Int))) (0 : Int)) a2 then bif g_pick r0 (g_Vs_l20Rd_odd_2 r0 (g_Vs_l20Key_2 r0 (IntKind.wrap IntKind.i64 (g_Vs_l20Writes_2 r0 (IntKind.wrap IntKind.i64 (IntKind.wrap IntKind.i64 (r1 + (1 : Int)) + (1 : Int))) (0 : Int) + (1 : Int))) (0 : Int)) a2) (5 : Int) == (0 : Int) then valO (g_Ls_l20Note_0 a2 (0 : Int) (0 : Int) [] [] (at_ (Ty.int IntKind.i64) [(1 : Int), (1 : Int), (2 : Int), (3 : Int), (4 : Int)] (Int.toNat (g_pick r0 r1 (5 : Int)))) (g_pick r0 (IntKind.wrap IntKind.i64 (r1 + (1 : Int))) (5 : Int)) (g_Vs_l20Writes_0 r0 (IntKind.wrap IntKind.i64 (IntKind.wrap IntKind.i64 (r1 + (1 : Int)) + (1 : Int))) (0 : Int)) r0 (g_Vs_l20Writes_2 r0 (IntKind.wrap IntKind.i64 (IntKind.wrap IntKind.i64 (r1 + (1 : Int)) + (1 : Int))) (0 : Int)) ((0 : Int), [])) ++ [g_Vs_l20Key_0 r0 (IntKind.wrap IntKind.i64 (g_Vs_l20Writes_2 r0 (IntKind.wrap IntKind.i64 (IntKind.wrap IntKind.i64 (r1 + (1 : Int)) + (1 : Int))) (0 : Int) + (1 : Int))) (0 : Int)] else bif g_pick r0 (g_Vs_l20Rd_odd_2 r0 (g_Vs_l20Key_2 r0 (IntKind.wrap IntKind.i64 (g_Vs_l20Writes_2 r0 (IntKind.wrap IntKind.i64 (IntKind.wrap IntKind.i64 (r1 + (1 : Int)) + (1 : Int))) (0 : Int) + (1 : Int))) (0 : Int)) a2) (5 : Int) == (1 : Int) then valO (g_Ls_l20Note_0 a2 (0 : Int) (0 : Int) [] [] (at_ (Ty.int IntKind.i64) [(1 : Int), (1 : Int), (2 : Int), (3 : Int), (4 : Int)] (Int.toNat (g_pick r0 r1 (5 : Int)))) (g_pick r0 (IntKind.wrap IntKind.i64 (r1 + (1 : Int))) (5 : Int)) (g_Vs_l20Writes_0 r0 (IntKind.wrap IntKind.i64 (IntKind.wrap IntKind.i64 (r1 + (1 : Int)) + (1 : Int))) (0 : Int)) r0 (g_Vs_l20Writes_2 r0 (IntKind.wrap IntKind.i64 (IntKind.wrap IntKind.i64 (r1 + (1 : Int)) + (1 : Int))) (0 : Int)) ((0 : Int), [])) ++ [g_Vs_l20Key_0 r0 (IntKind.wrap IntKind.i64 (g_Vs_l20Writes_2 r0 (IntKind.wrap IntKind.i64 (IntKind.wrap IntKind.i64 (r1 + (1 : Int)) + (1 : Int))) (0 : Int) + (1 : Int))) (0 : Int)] else bif g_pick r0 (g_Vs_l20Rd_odd_2 r0 (g_Vs_l20Key_2 r0 (IntKind.wrap IntKind.i64 (g_Vs_l20Writes_2 r0 (IntKind.wrap IntKind.i64 (IntKind.wrap IntKind.i64 (r1 + (1 : Int)) + (1 : Int))) (0 : Int) + (1 : Int))) (0 : Int)) a2) (5 : Int) == (2 : Int) then valO (g_Ls_l20Note_0 a2 (0 : Int) (0 : Int) [] [] (at_ (Ty.int IntKind.i64) [(1 : Int), (1 : Int), (2 : Int), (3 : Int), (4 : Int)] (Int.toNat (g_pick r0 r1 (5 : Int)))) (g_pick r0 (IntKind.wrap IntKind.i64 (r1 + (1 : Int))) (5 : Int)) (g_Vs_l20Writes_0 r0 (IntKind.wrap IntKind.i64 (IntKind.wrap IntKind.i64 (r1 + (1 : Int)) + (1 : Int))) (0 : Int)) r0 (g_Vs_l20Writes_2 r0 (IntKind.wrap IntKind.i64 (IntKind.wrap IntKind.i64 (r1 + (1 : Int)) + (1 : Int))) (0 : Int)) ((0 : Int), [])) ++ [g_Vs_l20Key_0 r0 (IntKind.wrap IntKind.i64 (g_Vs_l20Writes_2 r0 (IntKind.wrap IntKind.i64 (IntKind.wrap IntKind.i64 (r1 + (1 : Int)) + (1 : Int))) (0 : Int) + (1 : Int))) (0 : Int)] ++ [lit []] else bif g_pick r0 (g_Vs_l20Rd_odd_2 r0 (g_Vs_l20Key_2 r0 (IntKind.wrap IntKind.i64 (g_Vs_l20Writes_2 r0 (IntKind.wrap IntKind.i64 (IntKind.wrap IntKind.i64 (r1 + (1 : Int)) + (1 : Int))) (0 : Int) + (1 : Int))) (0 : Int)) a2) (5 : Int) == (3 : Int) then valO (g_Ls_l20Note_0 a2 (0 : Int) (0 : Int) [] [] (at_ (Ty.int IntKind.i64) [(1 : Int), (1 : Int), (2 : Int), (3 : Int), (4 : Int)] (Int.toNat (g_pick r0 r1 (5 : Int)))) (g_pick r0 (IntKind.wrap IntKind.i64 (r1 + (1 : Int))) (5 : Int)) (g_Vs_l20Writes_0 r0 (IntKind.wrap IntKind.i64 (IntKind.wrap IntKind.i64 (r1 + (1 : Int)) + (1 : Int))) (0 : Int)) r0 (g_Vs_l20Writes_2 r0 (IntKind.wrap IntKind.i64 (IntKind.wrap IntKind.i64 (r1 + (1 : Int)) + (1 : Int))) (0 : Int)) ((0 : Int), [])) ++ [g_Vs_l20Key_0 r0 (IntKind.wrap IntKind.i64 (g_Vs_l20Writes_2 r0 (IntKind.wrap IntKind.i64 (IntKind.wrap IntKind.i64 (r1 + (1 : Int)) + (1 : Int))) (0 : Int) + (1 : Int))) (0 : Int)] else valO (g_Ls_l20Note_0 a2 (0 : Int) (0 : Int) [] [] (at_ (Ty.int IntKind.i64) [(1 : Int), (1 : Int), (2 : Int), (3 : Int), (4 : Int)] (Int.toNat (g_pick r0 r1 (5 : Int)))) (g_pick r0 (IntKind.wrap IntKind.i64 (r1 + (1 : Int))) (5 : Int)) (g_Vs_l20Writes_0 r0 (IntKind.wrap IntKind.i64 (IntKind.wrap IntKind.i64 (r1 + (1 : Int)) + (1 : Int))) (0 : Int)) r0 (g_Vs_l20Writes_2 r0 (IntKind.wrap IntKind.i64 (IntKind.wrap IntKind.i64 (r1 + (1 : Int)) + (1 : Int))) (0 : Int)) ((0 : Int), [])) ++ [g_Vs_l20Key_0 r0 (IntKind.wrap IntKind.i64 (g_Vs_l20Writes_2 r0 (IntKind.wrap IntKind.i64 (IntKind.wrap IntKind.i64 (r1 + (1 : Int)) + (1 : Int))) (0 : Int) + (1 : Int))) (0 : Int)] else valO (g_Ls_l20Note_0 a2 (0 : Int) (0 : Int) [] [] (at_ (Ty.int IntKind.i64) [(1 : Int), (1 : Int), (2 : Int), (3 : Int), (4 : Int)] (Int.toNat (g_pick r0 r1 (5 : Int)))) (g_pick r0 (IntKind.wrap IntKind.i64 (r1 + (1 : Int))) (5 : Int)) (g_Vs_l20Writes_0 r0 (IntKind.wrap IntKind.i64 (IntKind.wrap IntKind.i64 (r1 + (1 : Int)) + (1 : Int))) (0 : Int)) r0 (g_Vs_l20Writes_2 r0 (IntKind.wrap IntKind.i64 (IntKind.wrap IntKind.i64 (r1 + (1 : Int)) + (1 : Int))) (0 : Int)) ((0 : Int), [])) ++ [g_Vs_l20Key_0 r0 (IntKind.wrap IntKind.i64 (g_Vs_l20Writes_2 r0 (IntKind.wrap IntKind.i64 (IntKind.wrap IntKind.i64 (r1 + (1 : Int)) + (1 : Int))) (0 : Int) + (1 : Int))) (0 : Int)] else bif g_Vs_l20Rd_odd_0 r0 (IntKind.wrap IntKind.i64 (g_Vs_l20Writes_2 r0 (IntKind.wrap IntKind.i64 (IntKind.wrap IntKind.i64 (r1 + (1 : Int)) + (1 : Int))) (0 : Int) + (1 : Int))) a2 then bif g_pick r0 (g_Vs_l20Rd_odd_2 r0 (IntKind.wrap IntKind.i64 (g_Vs_l20Writes_2 r0 (IntKind.wrap IntKind.i64 (IntKind.wrap IntKind.i64 (r1 + (1 : Int)) + (1 : Int))) (0 : Int) + (1 : Int))) a2) (5 : Int) == (0 : Int) then valO (g_Ls_l20Note_0 a2 (0 : Int) (0 : Int) [] [] (at_ (Ty.int IntKind.i64) [(1 : Int), (1 : Int), (2 : Int), (3 : Int), (4 : Int)] (Int.toNat (g_pick r0 r1 (5 : Int)))) (g_pick r0 (IntKind.wrap IntKind.i64 (r1 + (1 : Int))) (5 : Int)) (g_Vs_l20Writes_0 r0 (IntKind.wrap IntKind.i64 (IntKind.wrap IntKind.i64 (r1 + (1 : Int)) + (1 : Int))) (0 : Int)) r0 (g_Vs_l20Writes_2 r0 (IntKind.wrap IntKind.i64 (IntKind.wrap IntKind.i64 (r1 + (1 : Int)) + (1 : Int))) (0 : Int)) ((0 : Int), [])) else bif g_pick r0 (g_Vs_l20Rd_odd_2 r0 (IntKind.wrap IntKind.i64 (g_Vs_l20Writes_2 r0 (IntKind.wrap IntKind.i64 (IntKind.wrap IntKind.i64 (r1 + (1 : Int)) + (1 : Int))) (0 : Int) + (1 : Int))) a2) (5 : Int) == (1 : Int) then valO (g_Ls_l20Note_0 a2 (0 : Int) (0 : Int) [] [] (at_ (Ty.int IntKind.i64) [(1 : Int), (1 : Int), (2 : Int), (3 : Int), (4 : Int)] (Int.toNat (g_pick r0 r1 (5 : Int)))) (g_pick r0 (IntKind.wrap IntKind.i64 (r1 + (1 : Int))) (5 : Int)) (g_Vs_l20Writes_0 r0 (IntKind.wrap IntKind.i64 (IntKind.wrap IntKind.i64 (r1 + (1 : Int)) + (1 : Int))) (0 : Int)) r0 (g_Vs_l20Writes_2 r0 (IntKind.wrap IntKind.i64 (IntKind.wrap IntKind.i64 (r1 + (1 : Int)) + (1 : Int))) (0 : Int)) ((0 : Int), [])) else bif g_pick r0 (g_Vs_l20Rd_odd_2 r0 (IntKind.wrap IntKind.i64 (g_Vs_l20Writes_2 r0 (IntKind.wrap IntKind.i64 (IntKind.wrap IntKind.i64 (r1 + (1 : Int)) + (1 : Int))) (0 : Int) + (1 : Int))) a2) (5 : Int) == (2 : Int) then valO (g_Ls_l20Note_0 a2 (0 : Int) (0 : Int) [] [] (at_ (Ty.int IntKind.i64) [(1 : Int), (1 : Int), (2 : Int), (3 : Int), (4 : Int)] (Int.toNat (g_pick r0 r1 (5 : Int)))) (g_pick r0 (IntKind.wrap IntKind.i64 (r1 + (1 : Int))) (5 : Int)) (g_Vs_l20Writes_0 r0 (IntKind.wrap IntKind.i64 (IntKind.wrap IntKind.i64 (r1 + (1 : Int)) + (1 : Int))) (0 : Int)) r0 (g_Vs_l20Writes_2 r0 (IntKind.wrap IntKind.i64 (IntKind.wrap IntKind.i64 (r1 + (1 : Int)) + (1 : Int))) (0 : Int)) ((0 : Int), [])) ++ [lit []] else bif g_pick r0 (g_Vs_l20Rd_odd_2 r0 (IntKind.wrap IntKind.i64 (g_Vs_l20Writes_2 r0 (IntKind.wrap IntKind.i64 (IntKind.wrap IntKind.i64 (r1 + (1 : Int)) + (1 : Int))) (0 : Int) + (1 : Int))) a2) (5 : Int) == (3 : Int) then valO (g_Ls_l20Note_0 a2 (0 : Int) (0 : Int) [] [] (at_ (Ty.int IntKind.i64) [(1 : Int), (1 : Int), (2 : Int), (3 : Int), (4 : Int)] (Int.toNat (g_pick r0 r1 (5 : Int)))) (g_pick r0 (IntKind.wrap IntKind.i64 (r1 + (1 : Int))) (5 : Int)) (g_Vs_l20Writes_0 r0 (IntKind.wrap IntKind.i64 (IntKind.wrap IntKind.i64 (r1 + (1 : Int)) + (1 : Int))) (0 : Int)) r0 (g_Vs_l20Writes_2 r0 (IntKind.wrap IntKind.i64 (IntKind.wrap IntKind.i64 (r1 + (1 : Int)) + (1 : Int))) (0 : Int)) ((0 : Int), [])) else valO (g_Ls_l20Note_0 a2 (0 : Int) (0 : Int) [] [] (at_ (Ty.int IntKind.i64) [(1 : Int), (1 : Int), (2 : Int), (3 : Int), (4 : Int)] (Int.toNat (g_pick r0 r1 (5 : Int)))) (g_pick r0 (IntKind.wrap IntKind.i64 (r1 + (1 : Int))) (5 : Int)) (g_Vs_l20Writes_0 r0 (IntKind.wrap IntKind.i64 (IntKind.wrap IntKind.i64 (r1 + (1 : Int)) + (1 : Int))) (0 : Int)) r0 (g_Vs_l20Writes_2 r0 (IntKind.wrap IntKind.i64 (IntKind.wrap IntKind.i64 (r1 + (1 : Int)) + (1 : Int))) (0 : Int)) ((0 : Int), [])) else valO (g_Ls_l20Note_0 a2 (0 : Int) (0 : Int) [] [] (at_ (Ty.int IntKind.i64) [(1 : Int), (1 : Int), (2 : Int), (3 : Int), (4 : Int)] (Int.toNat (g_pick r0 r1 (5 : Int)))) (g_pick r0 (IntKind.wrap IntKind.i64 (r1 + (1 : Int))) (5 : Int)) (g_Vs_l20Writes_0 r0 (IntKind.wrap IntKind.i64 (IntKind.wrap IntKind.i64 (r1 + (1 : Int)) + (1 : Int))) (0 : Int)) r0 (g_Vs_l20Writes_2 r0 (IntKind.wrap IntKind.i64 (IntKind.wrap IntKind.i64 (r1 + (1 : Int)) + (1 : Int))) (0 : Int)) ((0 : Int), [])) else bif g_Vs_l20Rd_odd_0 r0 (IntKind.wrap IntKind.i64 (IntKind.wrap IntKind.i64 (r1 + (1 : Int)) + (1 : Int))) a2 then bif g_pick r0 (g_Vs_l20Rd_odd_2 r0 (IntKind.wrap IntKind.i64 (IntKind.wrap IntKind.i64 (r1 + (1 : Int)) + (1 : Int))) a2) (5 : Int) == (0 : Int) then [] else bif g_pick r0 (g_Vs_l20Rd_odd_2 r0 (IntKind.wrap IntKind.i64 (IntKind.wrap IntKind.i64 (r1 + (1 : Int)) + (1 : Int))) a2) (5 : Int) == (1 : Int) then [] else bif g_pick r0 (g_Vs_l20Rd_odd_2 r0 (IntKind.wrap IntKind.i64 (IntKind.wrap IntKind.i64 (r1 + (1 : Int)) + (1 : Int))) a2) (5 : Int) == (2 : Int) then [lit []] else bif g_pick r0 (g_Vs_l20Rd_odd_2 r0 (IntKind.wrap IntKind.i64 (IntKind.wrap IntKind.i64 (r1 + (1 : Int)) + (1 : Int))) a2) (5 : Int) == (3 : Int) then [] else [] else []
noncomputable def g_Vs_l20Note_3 (r0 : List Int) (r1 : Int) (a2 : Int) : List ((ByteArray) × ((Bool) × (List (Int)))) := bif at_ (Ty.int IntKind.i64) [(1 : Int), (1 : Int), (2 : Int), (3 : Int), (4 : Int)] (Int.toNat (g_pick r0 r1 (5 : Int))) == (1 : Int) then bif g_pick r0 (g_Vs_l20Writes_2 r0 (IntKind.wrap IntKind.i64 (IntKind.wrap IntKind.i64 (r1 + (1 : Int)) + (1 : Int))) (0 : Int)) (2 : Int) == (0 : Int) then bif g_Vs_l20Rd_odd_0 r0 (g_Vs_l20Key_2 r0 (IntKind.wrap IntKind.i64 (g_Vs_l20Writes_2 r0 (IntKind.wrap IntKind.i64 (IntKind.wrap IntKind.i64 (r1 + (1 : Int)) + (1 : Int))) (0 : Int) + (1 : Int))) (0 : Int)) a2 then bif g_pick r0 (g_Vs_l20Rd_odd_2 r0 (g_Vs_l20Key_2 r0 (IntKind.wrap IntKind.i64 (g_Vs_l20Writes_2 r0 (IntKind.wrap IntKind.i64 (IntKind.wrap IntKind.i64 (r1 + (1 : Int)) + (1 : Int))) (0 : Int) + (1 : Int))) (0 : Int)) a2) (5 : Int) == (0 : Int) then g_Vs_l20Writes_0 r0 (IntKind.wrap IntKind.i64 (IntKind.wrap IntKind.i64 (r1 + (1 : Int)) + (1 : Int))) (0 : Int) else bif g_pick r0 (g_Vs_l20Rd_odd_2 r0 (g_Vs_l20Key_2 r0 (IntKind.wrap IntKind.i64 (g_Vs_l20Writes_2 r0 (IntKind.wrap IntKind.i64 (IntKind.wrap IntKind.i64 (r1 + (1 : Int)) + (1 : Int))) (0 : Int) + (1 : Int))) (0 : Int)) a2) (5 : Int) == (1 : Int) then g_Vs_l20Writes_0 r0 (IntKind.wrap IntKind.i64 (IntKind.wrap IntKind.i64 (r1 + (1 : Int)) + (1 : Int))) (0 : Int) else bif g_pick r0 (g_Vs_l20Rd_odd_2 r0 (g_Vs_l20Key_2 r0 (IntKind.wrap IntKind.i64 (g_Vs_l20Writes_2 r0 (IntKind.wrap IntKind.i64 (IntKind.wrap IntKind.i64 (r1 + (1 : Int)) + (1 : Int))) (0 : Int) + (1 : Int))) (0 : Int)) a2) (5 : Int) == (2 : Int) then g_Vs_l20Writes_0 r0 (IntKind.wrap IntKind.i64 (IntKind.wrap IntKind.i64 (r1 + (1 : Int)) + (1 : Int))) (0 : Int) else bif g_pick r0 (g_Vs_l20Rd_odd_2 r0 (g_Vs_l20Key_2 r0 (IntKind.wrap IntKind.i64 (g_Vs_l20Writes_2 r0 (IntKind.wrap IntKind.i64 (IntKind.wrap IntKind.i64 (r1 + (1 : Int)) + (1 : Int))) (0 : Int) + (1 : Int))) (0 : Int)) a2) (5 : Int) == (3 : Int) then g_Vs_l20Writes_0 r0 (IntKind.wrap IntKind.i64 (IntKind.wrap IntKind.i64 (r1 + (1 : Int)) + (1 : Int))) (0 : Int) ++ [(lit [(122 : Nat), (49 : Nat)], false, [(1 : Int)])] else g_Vs_l20Writes_0 r0 (IntKind.wrap IntKind.i64 (IntKind.wrap IntKind.i64 (r1 + (1 : Int)) + (1 : Int))) (0 : Int) ++ [(g_Vs_l20Write_0 r0 (IntKind.wrap IntKind.i64 (g_Vs_l20Rd_odd_2 r0 (g_Vs_l20Key_2 r0 (IntKind.wrap IntKind.i64 (g_Vs_l20Writes_2 r0 (IntKind.wrap IntKind.i64 (IntKind.wrap IntKind.i64 (r1 + (1 : Int)) + (1 : Int))) (0 : Int) + (1 : Int))) (0 : Int)) a2 + (1 : Int))) (1 : Int), g_Vs_l20Write_1 r0 (IntKind.wrap IntKind.i64 (g_Vs_l20Rd_odd_2 r0 (g_Vs_l20Key_2 r0 (IntKind.wrap IntKind.i64 (g_Vs_l20Writes_2 r0 (IntKind.wrap IntKind.i64 (IntKind.wrap IntKind.i64 (r1 + (1 : Int)) + (1 : Int))) (0 : Int) + (1 : Int))) (0 : Int)) a2 + (1 : Int))) (1 : Int), g_Vs_l20Write_2 r0 (IntKind.wrap IntKind.i64 (g_Vs_l20Rd_odd_2 r0 (g_Vs_l20Key_2 r0 (IntKind.wrap IntKind.i64 (g_Vs_l20Writes_2 r0 (IntKind.wrap IntKind.i64 (IntKind.wrap IntKind.i64 (r1 + (1 : Int)) + (1 : Int))) (0 : Int) + (1 : Int))) (0 : Int)) a2 + (1 : Int))) (1 : Int))] else g_Vs_l20Writes_0 r0 (IntKind.wrap IntKind.i64 (IntKind.wrap IntKind.i64 (r1 + (1 : Int)) + (1 : Int))) (0 : Int) else bif g_Vs_l20Rd_odd_0 r0 (IntKind.wrap IntKind.i64 (g_Vs_l20Writes_2 r0 (IntKind.wrap IntKind.i64 (IntKind.wrap IntKind.i64 (r1 + (1 : Int)) + (1 : Int))) (0 : Int) + (1 : Int))) a2 then bif g_pick r0 (g_Vs_l20Rd_odd_2 r0 (IntKind.wrap IntKind.i64 (g_Vs_l20Writes_2 r0 (IntKind.wrap IntKind.i64 (IntKind.wrap IntKind.i64 (r1 + (1 : Int)) + (1 : Int))) (0 : Int) + (1 : Int))) a2) (5 : Int) == (0 : Int) then g_Vs_l20Writes_0 r0 (IntKind.wrap IntKind.i64 (IntKind.wrap IntKind.i64 (r1 + (1 : Int)) + (1 : Int))) (0 : Int) else bif g_pick r0 (g_Vs_l20Rd_odd_2 r0 (IntKind.wrap IntKind.i64 (g_Vs_l20Writes_2 r0 (IntKind.wrap IntKind.i64 (IntKind.wrap IntKind.i64 (r1 + (1 : Int)) + (1 : Int))) (0 : Int) + (1 : Int))) a2) (5 : Int) == (1 : Int) then g_Vs_l20Writes_0 r0 (IntKind.wrap IntKind.i64 (IntKind.wrap IntKind.i64 (r1 + (1 : Int)) + (1 : Int))) (0 : Int) else bif g_pick r0 (g_Vs_l20Rd_odd_2 r0 (IntKind.wrap IntKind.i64 (g_Vs_l20Writes_2 r0 (IntKind.wrap IntKind.i64 (IntKind.wrap IntKind.i64 (r1 + (1 : Int)) + (1 : Int))) (0 : Int) + (1 : Int))) a2) (5 : Int) == (2 : Int) then g_Vs_l20Writes_0 r0 (IntKind.wrap IntKind.i64 (IntKind.wrap IntKind.i64 (r1 + (1 : Int)) + (1 : Int))) (0 : Int) else bif g_pick r0 (g_Vs_l20Rd_odd_2 r0 (IntKind.wrap IntKind.i64 (g_Vs_l20Writes_2 r0 (IntKind.wrap IntKind.i64 (IntKind.wrap IntKind.i64 (r1 + (1 : Int)) + (1 : Int))) (0 : Int) + (1 : Int))) a2) (5 : Int) == (3 : Int) then g_Vs_l20Writes_0 r0 (IntKind.wrap IntKind.i64 (IntKind.wrap IntKind.i64 (r1 + (1 : Int)) + (1 : Int))) (0 : Int) ++ [(lit [(122 : Nat), (49 : Nat)], false, [(1 : Int)])] else g_Vs_l20Writes_0 r0 (IntKind.wrap IntKind.i64 (IntKind.wrap IntKind.i64 (r1 + (1 : Int)) + (1 : Int))) (0 : Int) ++ [(g_Vs_l20Write_0 r0 (IntKind.wrap IntKind.i64 (g_Vs_l20Rd_odd_2 r0 (IntKind.wrap IntKind.i64 (g_Vs_l20Writes_2 r0 (IntKind.wrap IntKind.i64 (IntKind.wrap IntKind.i64 (r1 + (1 : Int)) + (1 : Int))) (0 : Int) + (1 : Int))) a2 + (1 : Int))) (1 : Int), g_Vs_l20Write_1 r0 (IntKind.wrap IntKind.i64 (g_Vs_l20Rd_odd_2 r0 (IntKind.wrap IntKind.i64 (g_Vs_l20Writes_2 r0 (IntKind.wrap IntKind.i64 (IntKind.wrap IntKind.i64 (r1 + (1 : Int)) + (1 : Int))) (0 : Int) + (1 : Int))) a2 + (1 : Int))) (1 : Int), g_Vs_l20Write_2 r0 (IntKind.wrap IntKind.i64 (g_Vs_l20Rd_odd_2 r0 (IntKind.wrap IntKind.i64 (g_Vs_l20Writes_2 r0 (IntKind.wrap IntKind.i64 (IntKind.wrap IntKind.i64 (r1 + (1 : Int)) + (1 : Int))) (0 : Int) + (1 : Int))) a2 + (1 : Int))) (1 : Int))] else g_Vs_l20Writes_0 r0 (IntKind.wrap IntKind.i64 (IntKind.wrap IntKind.i64 (r1 + (1 : Int)) + (1 : Int))) (0 : Int) else bif g_Vs_l20Rd_odd_0 r0 (IntKind.wrap IntKind.i64 (IntKind.wrap IntKind.i64 (r1 + (1 : Int)) + (1 : Int))) a2 then bif g_pick r0 (g_Vs_l20Rd_odd_2 r0 (IntKind.wrap IntKind.i64 (IntKind.wrap IntKind.i64 (r1 + (1 : Int)) + (1 : Int))) a2) (5 : Int) == (0 : Int) then [] else bif g_pick r0 (g_Vs_l20Rd_odd_2 r0 (IntKind.wrap IntKind.i64 (IntKind.wrap IntKind.i64 (r1 + (1 : Int)) + (1 : Int))) a2) (5 : Int) == (1 : Int) then [] else bif g_pick r0 (g_Vs_l20Rd_odd_2 r0 (IntKind.wrap IntKind.i64 (IntKind.wrap IntKind.i64 (r1 + (1 : Int)) + (1 : Int))) a2) (5 : Int) == (2 : Int) then [] else bif g_pick r0 (g_Vs_l20Rd_odd_2 r0 (IntKind.wrap IntKind.i64 (IntKind.wrap IntKind.i64 (r1 + (1 : Int)) + (1 : Int))) a2) (5 : Int) == (3 : Int) then [(lit [(122 : Nat), (49 : Nat)], false, [(1 : Int)])] else [] ++ [(g_Vs_l20Write_0 r0 (IntKind.wrap IntKind.i64 (g_Vs_l20Rd_odd_2 r0 (IntKind.wrap IntKind.i64 (IntKind.wrap IntKind.i64 (r1 + (1 : Int)) + (1 : Int))) a2 + (1 : Int))) (1 : Int), g_Vs_l20Write_1 r0 (IntKind.wrap IntKind.i64 (g_Vs_l20Rd_odd_2 r0 (IntKind.wrap IntKind.i64 (IntKind.wrap IntKind.i64 (r1 + (1 : Int)) + (1 : Int))) a2 + (1 : Int))) (1 : Int), g_Vs_l20Write_2 r0 (IntKind.wrap IntKind.i64 (g_Vs_l20Rd_odd_2 r0 (IntKind.wrap IntKind.i64 (IntKind.wrap IntKind.i64 (r1 + (1 : Int)) + (1 : Int))) a2 + (1 : Int))) (1 : Int))] else []
noncomputable def g_Vs_l20Note_4 (r0 : List Int) (r1 : Int) (a2 : Int) : List (Int) := bif at_ (Ty.int IntKind.i64) [(1 : Int), (1 : Int), (2 : Int), (3 : Int), (4 : Int)] (Int.toNat (g_pick r0 r1 (5 : Int))) == (1 : Int) then bif g_pick r0 (g_Vs_l20Writes_2 r0 (IntKind.wrap IntKind.i64 (IntKind.wrap IntKind.i64 (r1 + (1 : Int)) + (1 : Int))) (0 : Int)) (2 : Int) == (0 : Int) then bif g_Vs_l20Rd_odd_0 r0 (g_Vs_l20Key_2 r0 (IntKind.wrap IntKind.i64 (g_Vs_l20Writes_2 r0 (IntKind.wrap IntKind.i64 (IntKind.wrap IntKind.i64 (r1 + (1 : Int)) + (1 : Int))) (0 : Int) + (1 : Int))) (0 : Int)) a2 then bif g_pick r0 (g_Vs_l20Rd_odd_2 r0 (g_Vs_l20Key_2 r0 (IntKind.wrap IntKind.i64 (g_Vs_l20Writes_2 r0 (IntKind.wrap IntKind.i64 (IntKind.wrap IntKind.i64 (r1 + (1 : Int)) + (1 : Int))) (0 : Int) + (1 : Int))) (0 : Int)) a2) (5 : Int) == (0 : Int) then r0 else bif g_pick r0 (g_Vs_l20Rd_odd_2 r0 (g_Vs_l20Key_2 r0 (IntKind.wrap IntKind.i64 (g_Vs_l20Writes_2 r0 (IntKind.wrap IntKind.i64 (IntKind.wrap IntKind.i64 (r1 + (1 : Int)) + (1 : Int))) (0 : Int) + (1 : Int))) (0 : Int)) a2) (5 : Int) == (1 : Int) then r0 else bif g_pick r0 (g_Vs_l20Rd_odd_2 r0 (g_Vs_l20Key_2 r0 (IntKind.wrap IntKind.i64 (g_Vs_l20Writes_2 r0 (IntKind.wrap IntKind.i64 (IntKind.wrap IntKind.i64 (r1 + (1 : Int)) + (1 : Int))) (0 : Int) + (1 : Int))) (0 : Int)) a2) (5 : Int) == (2 : Int) then r0 else bif g_pick r0 (g_Vs_l20Rd_odd_2 r0 (g_Vs_l20Key_2 r0 (IntKind.wrap IntKind.i64 (g_Vs_l20Writes_2 r0 (IntKind.wrap IntKind.i64 (IntKind.wrap IntKind.i64 (r1 + (1 : Int)) + (1 : Int))) (0 : Int) + (1 : Int))) (0 : Int)) a2) (5 : Int) == (3 : Int) then r0 else r0 else r0 else bif g_Vs_l20Rd_odd_0 r0 (IntKind.wrap IntKind.i64 (g_Vs_l20Writes_2 r0 (IntKind.wrap IntKind.i64 (IntKind.wrap IntKind.i64 (r1 + (1 : Int)) + (1 : Int))) (0 : Int) + (1 : Int))) a2 then bif g_pick r0 (g_Vs_l20Rd_odd_2 r0 (IntKind.wrap IntKind.i64 (g_Vs_l20Writes_2 r0 (IntKind.wrap IntKind.i64 (IntKind.wrap IntKind.i64 (r1 + (1 : Int)) + (1 : Int))) (0 : Int) + (1 : Int))) a2) (5 : Int) == (0 : Int) then r0 else bif g_pick r0 (g_Vs_l20Rd_odd_2 r0 (IntKind.wrap IntKind.i64 (g_Vs_l20Writes_2 r0 (IntKind.wrap IntKind.i64 (IntKind.wrap IntKind.i64 (r1 + (1 : Int)) + (1 : Int))) (0 : Int) + (1 : Int))) a2) (5 : Int) == (1 : Int) then r0 else bif g_pick r0 (g_Vs_l20Rd_odd_2 r0 (IntKind.wrap IntKind.i64 (g_Vs_l20Writes_2 r0 (IntKind.wrap IntKind.i64 (IntKind.wrap IntKind.i64 (r1 + (1 : Int)) + (1 : Int))) (0 : Int) + (1 : Int))) a2) (5 : Int) == (2 : Int) then r0 else bif g_pick r0 (g_Vs_l20Rd_odd_2 r0 (IntKind.wrap IntKind.i64 (g_Vs_l20Writes_2 r0 (IntKind.wrap IntKind.i64 (IntKind.wrap IntKind.i64 (r1 + (1 : Int)) + (1 : Int))) (0 : Int) + (1 : Int))) a2) (5 : Int) == (3 : Int) then r0 else r0 else r0 else bif g_Vs_l20Rd_odd_0 r0 (IntKind.wrap IntKind.i64 (IntKind.wrap IntKind.i64 (r1 + (1 : Int)) + (1 : Int))) a2 then bif g_pick r0 (g_Vs_l20Rd_odd_2 r0 (IntKind.wrap IntKind.i64 (IntKind.wrap IntKind.i64 (r1 + (1 : Int)) + (1 : Int))) a2) (5 : Int) == (0 : Int) then r0 else bif g_pick r0 (g_Vs_l20Rd_odd_2 r0 (IntKind.wrap IntKind.i64 (IntKind.wrap IntKind.i64 (r1 + (1 : Int)) + (1 : Int))) a2) (5 : Int) == (1 : Int) then r0 else bif g_pick r0 (g_Vs_l20Rd_odd_2 r0 (IntKind.wrap IntKind.i64 (IntKind.wrap IntKind.i64 (r1 + (1 : Int)) + (1 : Int))) a2) (5 : Int) == (2 : Int) then r0 else bif g_pick r0 (g_Vs_l20Rd_odd_2 r0 (IntKind.wrap IntKind.i64 (IntKind.wrap IntKind.i64 (r1 + (1 : Int)) + (1 : Int))) a2) (5 : Int) == (3 : Int) then r0 else r0 else r0
noncomputable def g_Vs_l20Note_5 (r0 : List Int) (r1 : Int) (a2 : Int) : Int := bif at_ (Ty.int IntKind.i64) [(1 : Int), (1 : Int), (2 : Int), (3 : Int), (4 : Int)] (Int.toNat (g_pick r0 r1 (5 : Int))) == (1 : Int) then bif g_pick r0 (g_Vs_l20Writes_2 r0 (IntKind.wrap IntKind.i64 (IntKind.wrap IntKind.i64 (r1 + (1 : Int)) + (1 : Int))) (0 : Int)) (2 : Int) == (0 : Int) then bif g_Vs_l20Rd_odd_0 r0 (g_Vs_l20Key_2 r0 (IntKind.wrap IntKind.i64 (g_Vs_l20Writes_2 r0 (IntKind.wrap IntKind.i64 (IntKind.wrap IntKind.i64 (r1 + (1 : Int)) + (1 : Int))) (0 : Int) + (1 : Int))) (0 : Int)) a2 then bif g_pick r0 (g_Vs_l20Rd_odd_2 r0 (g_Vs_l20Key_2 r0 (IntKind.wrap IntKind.i64 (g_Vs_l20Writes_2 r0 (IntKind.wrap IntKind.i64 (IntKind.wrap IntKind.i64 (r1 + (1 : Int)) + (1 : Int))) (0 : Int) + (1 : Int))) (0 : Int)) a2) (5 : Int) == (0 : Int) then IntKind.wrap IntKind.i64 (IntKind.wrap IntKind.i64 (g_Vs_l20Rd_odd_2 r0 (g_Vs_l20Key_2 r0 (IntKind.wrap IntKind.i64 (g_Vs_l20Writes_2 r0 (IntKind.wrap IntKind.i64 (IntKind.wrap IntKind.i64 (r1 + (1 : Int)) + (1 : Int))) (0 : Int) + (1 : Int))) (0 : Int)) a2 + (1 : Int)) + (1 : Int)) else bif g_pick r0 (g_Vs_l20Rd_odd_2 r0 (g_Vs_l20Key_2 r0 (IntKind.wrap IntKind.i64 (g_Vs_l20Writes_2 r0 (IntKind.wrap IntKind.i64 (IntKind.wrap IntKind.i64 (r1 + (1 : Int)) + (1 : Int))) (0 : Int) + (1 : Int))) (0 : Int)) a2) (5 : Int) == (1 : Int) then IntKind.wrap IntKind.i64 (IntKind.wrap IntKind.i64 (g_Vs_l20Rd_odd_2 r0 (g_Vs_l20Key_2 r0 (IntKind.wrap IntKind.i64 (g_Vs_l20Writes_2 r0 (IntKind.wrap IntKind.i64 (IntKind.wrap IntKind.i64 (r1 + (1 : Int)) + (1 : Int))) (0 : Int) + (1 : Int))) (0 : Int)) a2 + (1 : Int)) + (1 : Int)) else bif g_pick r0 (g_Vs_l20Rd_odd_2 r0 (g_Vs_l20Key_2 r0 (IntKind.wrap IntKind.i64 (g_Vs_l20Writes_2 r0 (IntKind.wrap IntKind.i64 (IntKind.wrap IntKind.i64 (r1 + (1 : Int)) + (1 : Int))) (0 : Int) + (1 : Int))) (0 : Int)) a2) (5 : Int) == (2 : Int) then IntKind.wrap IntKind.i64 (g_Vs_l20Rd_odd_2 r0 (g_Vs_l20Key_2 r0 (IntKind.wrap IntKind.i64 (g_Vs_l20Writes_2 r0 (IntKind.wrap IntKind.i64 (IntKind.wrap IntKind.i64 (r1 + (1 : Int)) + (1 : Int))) (0 : Int) + (1 : Int))) (0 : Int)) a2 + (1 : Int)) else bif g_pick r0 (g_Vs_l20Rd_odd_2 r0 (g_Vs_l20Key_2 r0 (IntKind.wrap IntKind.i64 (g_Vs_l20Writes_2 r0 (IntKind.wrap IntKind.i64 (IntKind.wrap IntKind.i64 (r1 + (1 : Int)) + (1 : Int))) (0 : Int) + (1 : Int))) (0 : Int)) a2) (5 : Int) == (3 : Int) then IntKind.wrap IntKind.i64 (g_Vs_l20Rd_odd_2 r0 (g_Vs_l20Key_2 r0 (IntKind.wrap IntKind.i64 (g_Vs_l20Writes_2 r0 (IntKind.wrap IntKind.i64 (IntKind.wrap IntKind.i64 (r1 + (1 : Int)) + (1 : Int))) (0 : Int) + (1 : Int))) (0 : Int)) a2 + (1 : Int)) else g_Vs_l20Write_4 r0 (IntKind.wrap IntKind.i64 (g_Vs_l20Rd_odd_2 r0 (g_Vs_l20Key_2 r0 (IntKind.wrap IntKind.i64 (g_Vs_l20Writes_2 r0 (IntKind.wrap IntKind.i64 (IntKind.wrap IntKind.i64 (r1 + (1 : Int)) + (1 : Int))) (0 : Int) + (1 : Int))) (0 : Int)) a2 + (1 : Int))) (1 : Int) else g_Vs_l20Rd_odd_2 r0 (g_Vs_l20Key_2 r0 (IntKind.wrap IntKind.i64 (g_Vs_l20Writes_2 r0 (IntKind.wrap IntKind.i64 (IntKind.wrap IntKind.i64 (r1 + (1 : Int)) + (1 : Int))) (0 : Int) + (1 : Int))) (0 : Int)) a2 else bif g_Vs_l20Rd_odd_0 r0 (IntKind.wrap IntKind.i64 (g_Vs_l20Writes_2 r0 (IntKind.wrap IntKind.i64 (IntKind.wrap IntKind.i64 (r1 + (1 : Int)) + (1 : Int))) (0 : Int) + (1 : Int))) a2 then bif g_pick r0 (g_Vs_l20Rd_odd_2 r0 (IntKind.wrap IntKind.i64 (g_Vs_l20Writes_2 r0 (IntKind.wrap IntKind.i64 (IntKind.wrap IntKind.i64 (r1 + (1 : Int)) + (1 : Int))) (0 : Int) + (1 : Int))) a2) (5 : Int) == (0 : Int) then IntKind.wrap IntKind.i64 (IntKind.wrap IntKind.i64 (g_Vs_l20Rd_odd_2 r0 (IntKind.wrap IntKind.i64 (g_Vs_l20Writes_2 r0 (IntKind.wrap IntKind.i64 (IntKind.wrap IntKind.i64 (r1 + (1 : Int)) + (1 : Int))) (0 : Int) + (1 : Int))) a2 + (1 : Int)) + (1 : Int)) else bif g_pick r0 (g_Vs_l20Rd_odd_2 r0 (IntKind.wrap IntKind.i64 (g_Vs_l20Writes_2 r0 (IntKind.wrap IntKind.i64 (IntKind.wrap IntKind.i64 (r1 + (1 : Int)) + (1 : Int))) (0 : Int) + (1 : Int))) a2) (5 : Int) == (1 : Int) then IntKind.wrap IntKind.i64 (IntKind.wrap IntKind.i64 (g_Vs_l20Rd_odd_2 r0 (IntKind.wrap IntKind.i64 (g_Vs_l20Writes_2 r0 (IntKind.wrap IntKind.i64 (IntKind.wrap IntKind.i64 (r1 + (1 : Int)) + (1 : Int))) (0 : Int) + (1 : Int))) a2 + (1 : Int)) + (1 : Int)) else bif g_pick r0 (g_Vs_l20Rd_odd_2 r0 (IntKind.wrap IntKind.i64 (g_Vs_l20Writes_2 r0 (IntKind.wrap IntKind.i64 (IntKind.wrap IntKind.i64 (r1 + (1 : Int)) + (1 : Int))) (0 : Int) + (1 : Int))) a2) (5 : Int) == (2 : Int) then IntKind.wrap IntKind.i64 (g_Vs_l20Rd_odd_2 r0 (IntKind.wrap IntKind.i64 (g_Vs_l20Writes_2 r0 (IntKind.wrap IntKind.i64 (IntKind.wrap IntKind.i64 (r1 + (1 : Int)) + (1 : Int))) (0 : Int) + (1 : Int))) a2 + (1 : Int)) else bif g_pick r0 (g_Vs_l20Rd_odd_2 r0 (IntKind.wrap IntKind.i64 (g_Vs_l20Writes_2 r0 (IntKind.wrap IntKind.i64 (IntKind.wrap IntKind.i64 (r1 + (1 : Int)) + (1 : Int))) (0 : Int) + (1 : Int))) a2) (5 : Int) == (3 : Int) then IntKind.wrap IntKind.i64 (g_Vs_l20Rd_odd_2 r0 (IntKind.wrap IntKind.i64 (g_Vs_l20Writes_2 r0 (IntKind.wrap IntKind.i64 (IntKind.wrap IntKind.i64 (r1 + (1 : Int)) + (1 : Int))) (0 : Int) + (1 : Int))) a2 + (1 : Int)) else g_Vs_l20Write_4 r0 (IntKind.wrap IntKind.i64 (g_Vs_l20Rd_odd_2 r0 (IntKind.wrap IntKind.i64 (g_Vs_l20Writes_2 r0 (IntKind.wrap IntKind.i64 (IntKind.wrap IntKind.i64 (r1 + (1 : Int)) + (1 : Int))) (0 : Int) + (1 : Int))) a2 + (1 : Int))) (1 : Int) else g_Vs_l20Rd_odd_2 r0 (IntKind.wrap IntKind.i64 (g_Vs_l20Writes_2 r0 (IntKind.wrap IntKind.i64 (IntKind.wrap IntKind.i64 (r1 + (1 : Int)) + (1 : Int))) (0 : Int) + (1 : Int))) a2 else bif g_Vs_l20Rd_odd_0 r0 (IntKind.wrap IntKind.i64 (IntKind.wrap IntKind.i64 (r1 + (1 : Int)) + (1 : Int))) a2 then bif g_pick r0 (g_Vs_l20Rd_odd_2 r0 (IntKind.wrap IntKind.i64 (IntKind.wrap IntKind.i64 (r1 + (1 : Int)) + (1 : Int))) a2) (5 : Int) == (0 : Int) then IntKind.wrap IntKind.i64 (IntKind.wrap IntKind.i64 (g_Vs_l20Rd_odd_2 r0 (IntKind.wrap IntKind.i64 (IntKind.wrap IntKind.i64 (r1 + (1 : Int)) + (1 : Int))) a2 + (1 : Int)) + (1 : Int)) else bif g_pick r0 (g_Vs_l20Rd_odd_2 r0 (IntKind.wrap IntKind.i64 (IntKind.wrap IntKind.i64 (r1 + (1 : Int)) + (1 : Int))) a2) (5 : Int) == (1 : Int) then IntKind.wrap IntKind.i64 (IntKind.wrap IntKind.i64 (g_Vs_l20Rd_odd_2 r0 (IntKind.wrap IntKind.i64 (IntKind.wrap IntKind.i64 (r1 + (1 : Int)) + (1 : Int))) a2 + (1 : Int)) + (1 : Int)) else bif g_pick r0 (g_Vs_l20Rd_odd_2 r0 (IntKind.wrap IntKind.i64 (IntKind.wrap IntKind.i64 (r1 + (1 : Int)) + (1 : Int))) a2) (5 : Int) == (2 : Int) then IntKind.wrap IntKind.i64 (g_Vs_l20Rd_odd_2 r0 (IntKind.wrap IntKind.i64 (IntKind.wrap IntKind.i64 (r1 + (1 : Int)) + (1 : Int))) a2 + (1 : Int)) else bif g_pick r0 (g_Vs_l20Rd_odd_2 r0 (IntKind.wrap IntKind.i64 (IntKind.wrap IntKind.i64 (r1 + (1 : Int)) + (1 : Int))) a2) (5 : Int) == (3 : Int) then IntKind.wrap IntKind.i64 (g_Vs_l20Rd_odd_2 r0 (IntKind.wrap IntKind.i64 (IntKind.wrap IntKind.i64 (r1 + (1 : Int)) + (1 : Int))) a2 + (1 : Int)) else g_Vs_l20Write_4 r0 (IntKind.wrap IntKind.i64 (g_Vs_l20Rd_odd_2 r0 (IntKind.wrap IntKind.i64 (IntKind.wrap IntKind.i64 (r1 + (1 : Int)) + (1 : Int))) a2 + (1 : Int))) (1 : Int) else g_Vs_l20Rd_odd_2 r0 (IntKind.wrap IntKind.i64 (IntKind.wrap IntKind.i64 (r1 + (1 : Int)) + (1 : Int))) a2
noncomputable def Fs_l20Note : FSem := fun ys => match ys with
  | [.val true [.sl .any 5 (.int .u8) r0, .int .i64 r1], .val false [.int .i64 a2]] => some ((g_As_l20Note r0 r1 a2), .val true [.int .i64 (g_Vs_l20Note_0 r0 r1 a2), .int .i64 (g_Vs_l20Note_1 r0 r1 a2), .sl .any 9 .str (g_Vs_l20Note_2 r0 r1 a2), .sl .any 83 (.pair .str (.pair .bool (.sl 3 (.int .i64)))) (g_Vs_l20Note_3 r0 r1 a2)], [[.sl .any 5 (.int .u8) (g_Vs_l20Note_4 r0 r1 a2), .int .i64 (g_Vs_l20Note_5 r0 r1 a2)]])
  | _ => none
theorem vs_l20Note (r0 : List Int) (r1 : Int) (a2 : Int) : collapseH .fr Es_l20Note Os_l20Note_1 (execFn Es_l20Note Go.Proofs.Tryd.f82 mss_l20Note [.val true [.sl .any 5 (.int .u8) r0, .int .i64 r1], .val false [.int .i64 a2]]) = some ((g_As_l20Note r0 r1 a2), .val true [.int .i64 (g_Vs_l20Note_0 r0 r1 a2), .int .i64 (g_Vs_l20Note_1 r0 r1 a2), .sl .any 9 .str (g_Vs_l20Note_2 r0 r1 a2), .sl .any 83 (.pair .str (.pair .bool (.sl 3 (.int .i64)))) (g_Vs_l20Note_3 r0 r1 a2)], [[.sl .any 5 (.int .u8) (g_Vs_l20Note_4 r0 r1 a2), .int .i64 (g_Vs_l20Note_5 r0 r1 a2)]]) := by kernel_rfl
theorem ss_l20Note : Sound Go.Proofs.Tryd.prog 82 mss_l20Note Fs_l20Note := by
  refine fn_gen goods_l20Note (by kernel_rfl) .fr (fn := Go.Proofs.Tryd.f82) (c := (Go.Proofs.Tryd.f82.body.getD .skip)) (o := Os_l20Note_1) (k := 1) (by kernel_rfl) (by kernel_rfl) (by kernel_rfl) (by kernel_rfl) (by decide) ks_l20Note_1 ?_
  intro ys r outs h
  unfold Fs_l20Note at h
  split at h
  · exact (vs_l20Note _ _ _).trans h
  · cases h
end Go.Proofs.YtibafhmmnoijkaaDoor.E
end
section
namespace Go.Proofs.YtibafhmmnoijkaaDoor.E
open Go
set_option maxRecDepth 100000
set_option linter.all false
noncomputable def mss_l20NoteR : List PM := mss_l20Note
theorem sames_l20Note (r0 : List Int) (r1 : Int) (a2 : Int) : g_Vs_l20Note_4 r0 r1 a2 = r0 := by
  unfold g_Vs_l20Note_4
  simp only [Bool.cond_self]
noncomputable def Fs_l20NoteR : FSem := fun ys => match ys with
  | [.val true [.sl .any 5 (.int .u8) r0, .int .i64 r1], .val false [.int .i64 a2]] => some ((g_As_l20Note r0 r1 a2), .val true [.int .i64 (g_Vs_l20Note_0 r0 r1 a2), .int .i64 (g_Vs_l20Note_1 r0 r1 a2), .sl .any 9 .str (g_Vs_l20Note_2 r0 r1 a2), .sl .any 83 (.pair .str (.pair .bool (.sl 3 (.int .i64)))) (g_Vs_l20Note_3 r0 r1 a2)], [[.sl .any 5 (.int .u8) r0, .int .i64 (g_Vs_l20Note_5 r0 r1 a2)]])
  | _ => none
theorem ss_l20NoteR : Sound Go.Proofs.Tryd.prog 82 mss_l20NoteR Fs_l20NoteR := by
  refine ⟨ss_l20Note.fn, fun w S ψ ys vs r outs hF hh hg => ss_l20Note.calls w S ψ ys vs r outs (Eq.trans ?_ hF) hh hg⟩
  unfold Fs_l20NoteR at hF ⊢
  split at hF
  · rename_i  r0 r1 a2
    show (some ((g_As_l20Note r0 r1 a2), .val true [.int .i64 (g_Vs_l20Note_0 r0 r1 a2), .int .i64 (g_Vs_l20Note_1 r0 r1 a2), .sl .any 9 .str (g_Vs_l20Note_2 r0 r1 a2), .sl .any 83 (.pair .str (.pair .bool (.sl 3 (.int .i64)))) (g_Vs_l20Note_3 r0 r1 a2)], [[.sl .any 5 (.int .u8) (g_Vs_l20Note_4 r0 r1 a2), .int .i64 (g_Vs_l20Note_5 r0 r1 a2)]]) : Option (Bool × RV × List (List Cell))) = _
    rw [sames_l20Note]
  · cases hF
end Go.Proofs.YtibafhmmnoijkaaDoor.E
end
section
namespace Go.Proofs.YtibafhmmnoijkaaDoor.E
open Go
set_option maxRecDepth 100000
set_option maxHeartbeats 0
set_option linter.all false
noncomputable def Es_l20Disk : Env where
  tt := mkTI Go.Proofs.Tryd.prog
  fn := fun f => match f with
    | 39 => some (mss_DiskAdd, FSem.wk mss_DiskAdd Fs_DiskAdd)
    | 72 => some (mss_l20Rd_pick, FSem.wk mss_l20Rd_pick Fs_l20Rd_pick)
    | 81 => some (mss_l20Rd_oddR, FSem.wk mss_l20Rd_oddR Fs_l20Rd_oddR)
    | 82 => some (mss_l20NoteR, FSem.wk mss_l20NoteR Fs_l20NoteR)
    | _ => none
  bxf := fun _ => none
  mv := []
  keep := fun b => match b with
    | 0 => [(0, false), (1, false), (4, false), (5, false), (6, false)]
    | 3 => [(0, false), (4, false), (5, false)]
    | _ => []
  keepB := fun b => match b with
    | 0 => [(4, false), (5, false), (0, false)]
    | 3 => [(4, false), (5, false), (0, false)]
    | _ => []
  keepX := fun b => match b with
    | 0 => [(0, false), (1, false), (4, false), (5, false)]
    | 3 => [(0, false), (4, false), (5, false)]
    | _ => []
  keepXB := fun b => match b with
    | 0 => [(4, false), (5, false), (0, false)]
    | 3 => [(4, false), (5, false), (0, false)]
    | _ => []
theorem goodFs_l20Disk : ∀ f ms F, Es_l20Disk.fn f = some (ms, F) → Sound Go.Proofs.Tryd.prog f ms F := fun f ms F h => by
  unfold Es_l20Disk at h
  dsimp only at h
  split at h
  · injection h with h; injection h with e1 e2; subst e1 e2; exact Sound.wk ss_DiskAdd
  · injection h with h; injection h with e1 e2; subst e1 e2; exact Sound.wk ss_l20Rd_pick
  · injection h with h; injection h with e1 e2; subst e1 e2; exact Sound.wk ss_l20Rd_oddR
  · injection h with h; injection h with e1 e2; subst e1 e2; exact Sound.wk ss_l20NoteR
  · cases h
theorem goodBs_l20Disk : ∀ f ms F, Es_l20Disk.bxf f = some (ms, F) → SoundB Go.Proofs.Tryd.prog f ms F := fun f ms F h => by cases h
theorem goods_l20Disk : Good Go.Proofs.Tryd.prog Es_l20Disk := ⟨rfl, goodFs_l20Disk, goodBs_l20Disk⟩
noncomputable def Os_l20Disk_0 : Orc := fun _ _ => none
noncomputable def mss_l20Disk : List PM := [.bx, .own]
noncomputable def lss_l20Disk : List (Nat × Code) := loopsAll 0 (Go.Proofs.Tryd.f71.body.getD .skip)
noncomputable def cs_l20Disk_0 : Code := (loopOf 0 (Go.Proofs.Tryd.f71.body.getD .skip)).getD .skip
noncomputable def cs_l20Disk_3 : Code := (loopOf 3 (Go.Proofs.Tryd.f71.body.getD .skip)).getD .skip
theorem lseqs_l20Disk : lss_l20Disk = [(0, cs_l20Disk_0), (3, cs_l20Disk_3)] := by kernel_rfl
theorem ms_l20Disk_0 : ∀ p, p ∈ lss_l20Disk → p.1 = 0 → p.2 = cs_l20Disk_0 := by
  intro p hp
  rw [lseqs_l20Disk] at hp
  simp only [List.mem_cons, List.not_mem_nil, or_false] at hp
  rcases hp with rfl | rfl <;> simp
theorem ms_l20Disk_3 : ∀ p, p ∈ lss_l20Disk → p.1 = 3 → p.2 = cs_l20Disk_3 := by
  intro p hp
  rw [lseqs_l20Disk] at hp
  simp only [List.mem_cons, List.not_mem_nil, or_false] at hp
  rcases hp with rfl | rfl <;> simp
theorem ks_l20Disk_0 : OrcOk Es_l20Disk Os_l20Disk_0 lss_l20Disk 0 := orcOk_none
noncomputable def hs_l20Disk_0 (y0 : Int) (y1 : Int) (y2 : Int) (y3 : List ((Int) × ((Int) × ((List (ByteArray)) × (List ((ByteArray) × ((Bool) × (List (Int))))))))) (y4 : Int) (y5 : List ((Int) × ((Int) × ((List (ByteArray)) × (List ((ByteArray) × ((Bool) × (List (Int))))))))) (y6 : List (Int)) (y7 : Int) : List (Pl × LV) := [(.T 0, .t (.val false [.ptr 0 0 0])), (.T 1, .t (.val false [.int .i64 y0])), (.T 4, .t (.val false [.ptr 4 0 0])), (.T 5, .t (.val false [.ptr 5 0 0])), (.T 6, .t (.val false [.int .i64 y1])), (.B 4, .b 0 false [.row 4 1 0, .int .i64 y2]), (.R 4 1, .r 0 (some ⟨false, .any, true, 59, (.pair (.int .i64) (.pair (.int .i64) (.pair (.sl 9 .str) (.sl 83 (.pair .str (.pair .bool (.sl 3 (.int .i64)))))))), y3⟩)), (.B 5, .b 0 false [.row 5 1 0, .int .i64 y4]), (.R 5 1, .r 0 (some ⟨false, .any, true, 59, (.pair (.int .i64) (.pair (.int .i64) (.pair (.sl 9 .str) (.sl 83 (.pair .str (.pair .bool (.sl 3 (.int .i64)))))))), y5⟩)), (.B 0, .b 0 false [.sl .any 5 (.int .u8) y6, .int .i64 y7])]
noncomputable def g_Ss_l20Disk_0 (y0 : Int) (y2 : Int) (y3 : List ((Int) × ((Int) × ((List (ByteArray)) × (List ((ByteArray) × ((Bool) × (List (Int))))))))) (y6 : List (Int)) : ((Int) × (Int) × (List ((Int) × ((Int) × ((List (ByteArray)) × (List ((ByteArray) × ((Bool) × (List (Int))))))))) × (Int)) → RT ((Int) × (Int) × (List ((Int) × ((Int) × ((List (ByteArray)) × (List ((ByteArray) × ((Bool) × (List (Int))))))))) × (Int)) (((Int) × (List ((Int) × ((Int) × ((List (ByteArray)) × (List ((ByteArray) × ((Bool) × (List (Int))))))))) × (Int)))
  | (y1, y4, y5, y7) => .br (true) (.br (decide (y1 > (0 : Int))) (.br (g_As_l20Note y6 y7 (0 : Int)) (.br (g_pickA y6 (g_Vs_l20Note_5 y6 y7 (0 : Int)) (2 : Int)) (.br (true) (.br (g_As_DiskAdd y5 y4 (g_Vs_l20Note_0 y6 y7 (0 : Int)) (g_Vs_l20Note_1 y6 y7 (0 : Int)) (g_Vs_l20Note_2 y6 y7 (0 : Int)) (g_Vs_l20Note_3 y6 y7 (0 : Int)) (g_pick y6 (g_Vs_l20Note_5 y6 y7 (0 : Int)) (2 : Int) == (0 : Int))) (.br (true) (.go ((IntKind.wrap IntKind.i64 (y1 - (1 : Int)), g_Vs_DiskAdd_1 y5 y4 (g_Vs_l20Note_0 y6 y7 (0 : Int)) (g_Vs_l20Note_1 y6 y7 (0 : Int)) (g_Vs_l20Note_2 y6 y7 (0 : Int)) (g_Vs_l20Note_3 y6 y7 (0 : Int)) (g_pick y6 (g_Vs_l20Note_5 y6 y7 (0 : Int)) (2 : Int) == (0 : Int)), g_Vs_DiskAdd_0 y5 y4 (g_Vs_l20Note_0 y6 y7 (0 : Int)) (g_Vs_l20Note_1 y6 y7 (0 : Int)) (g_Vs_l20Note_2 y6 y7 (0 : Int)) (g_Vs_l20Note_3 y6 y7 (0 : Int)) (g_pick y6 (g_Vs_l20Note_5 y6 y7 (0 : Int)) (2 : Int) == (0 : Int)), IntKind.wrap IntKind.i64 (g_Vs_l20Note_5 y6 y7 (0 : Int) + (1 : Int))))) (.bad)) (.bad)) (.bad)) (.bad)) (.bad)) (.out ((y4, y5, y7)))) (.bad)
noncomputable def g_Ls_l20Disk_0 (y0 : Int) (y2 : Int) (y3 : List ((Int) × ((Int) × ((List (ByteArray)) × (List ((ByteArray) × ((Bool) × (List (Int))))))))) (y6 : List (Int)) (x : (Int) × (Int) × (List ((Int) × ((Int) × ((List (ByteArray)) × (List ((ByteArray) × ((Bool) × (List (Int))))))))) × (Int)) : Option (((Int) × (List ((Int) × ((Int) × ((List (ByteArray)) × (List ((ByteArray) × ((Bool) × (List (Int))))))))) × (Int))) := loopO (g_Ss_l20Disk_0 y0 y2 y3 y6) x
noncomputable def xs_l20Disk_0 (y0 : Int) (y2 : Int) (y3 : List ((Int) × ((Int) × ((List (ByteArray)) × (List ((ByteArray) × ((Bool) × (List (Int))))))))) (y6 : List (Int)) : (((Int) × (List ((Int) × ((Int) × ((List (ByteArray)) × (List ((ByteArray) × ((Bool) × (List (Int))))))))) × (Int))) → Ex × List (Pl × LV) := fun r => (.exit 0, [(.T 0, .t (.val false [.ptr 0 0 0])), (.T 1, .t (.val false [.int .i64 y0])), (.T 4, .t (.val false [.ptr 4 0 0])), (.T 5, .t (.val false [.ptr 5 0 0])), (.B 4, .b 0 false [.row 4 1 0, .int .i64 y2]), (.R 4 1, .r 0 (some ⟨false, .any, true, 59, (.pair (.int .i64) (.pair (.int .i64) (.pair (.sl 9 .str) (.sl 83 (.pair .str (.pair .bool (.sl 3 (.int .i64)))))))), y3⟩)), (.B 5, .b 0 false [.row 5 1 0, .int .i64 r.1]), (.R 5 1, .r 0 (some ⟨false, .any, true, 59, (.pair (.int .i64) (.pair (.int .i64) (.pair (.sl 9 .str) (.sl 83 (.pair .str (.pair .bool (.sl 3 (.int .i64)))))))), r.2.1⟩)), (.B 0, .b 0 false [.sl .any 5 (.int .u8) y6, .int .i64 r.2.2])])
noncomputable def Os_l20Disk_1 : Orc := fun b h => match b, h with
  | 0, [(.T 0, .t (.val false [.ptr 0 0 0])), (.T 1, .t (.val false [.int .i64 y0])), (.T 4, .t (.val false [.ptr 4 0 0])), (.T 5, .t (.val false [.ptr 5 0 0])), (.T 6, .t (.val false [.int .i64 y1])), (.B 4, .b 0 false [.row 4 1 0, .int .i64 y2]), (.R 4 1, .r 0 (some ⟨false, .any, true, 59, (.pair (.int .i64) (.pair (.int .i64) (.pair (.sl 9 .str) (.sl 83 (.pair .str (.pair .bool (.sl 3 (.int .i64)))))))), y3⟩)), (.B 5, .b 0 false [.row 5 1 0, .int .i64 y4]), (.R 5 1, .r 0 (some ⟨false, .any, true, 59, (.pair (.int .i64) (.pair (.int .i64) (.pair (.sl 9 .str) (.sl 83 (.pair .str (.pair .bool (.sl 3 (.int .i64)))))))), y5⟩)), (.B 0, .b 0 false [.sl .any 5 (.int .u8) y6, .int .i64 y7])] => some (okO (g_Ls_l20Disk_0 y0 y2 y3 y6 (y1, y4, y5, y7)), (.leaf (.exit 0) [(.T 0, .t (.val false [.ptr 0 0 0])), (.T 1, .t (.val false [.int .i64 y0])), (.T 4, .t (.val false [.ptr 4 0 0])), (.T 5, .t (.val false [.ptr 5 0 0])), (.B 4, .b 0 false [.row 4 1 0, .int .i64 y2]), (.R 4 1, .r 0 (some ⟨false, .any, true, 59, (.pair (.int .i64) (.pair (.int .i64) (.pair (.sl 9 .str) (.sl 83 (.pair .str (.pair .bool (.sl 3 (.int .i64)))))))), y3⟩)), (.B 5, .b 0 false [.row 5 1 0, .int .i64 (valO (g_Ls_l20Disk_0 y0 y2 y3 y6 (y1, y4, y5, y7))).1]), (.R 5 1, .r 0 (some ⟨false, .any, true, 59, (.pair (.int .i64) (.pair (.int .i64) (.pair (.sl 9 .str) (.sl 83 (.pair .str (.pair .bool (.sl 3 (.int .i64)))))))), (valO (g_Ls_l20Disk_0 y0 y2 y3 y6 (y1, y4, y5, y7))).2.1⟩)), (.B 0, .b 0 false [.sl .any 5 (.int .u8) y6, .int .i64 (valO (g_Ls_l20Disk_0 y0 y2 y3 y6 (y1, y4, y5, y7))).2.2])]))
  | b, h => Os_l20Disk_0 b h
theorem bs_l20Disk_0 (y0 : Int) (y1 : Int) (y2 : Int) (y3 : List ((Int) × ((Int) × ((List (ByteArray)) × (List ((ByteArray) × ((Bool) × (List (Int))))))))) (y4 : Int) (y5 : List ((Int) × ((Int) × ((List (ByteArray)) × (List ((ByteArray) × ((Bool) × (List (Int))))))))) (y6 : List (Int)) (y7 : Int) : Tr.bt Es_l20Disk Os_l20Disk_0 (exec Es_l20Disk 0 cs_l20Disk_0 (St.of (hs_l20Disk_0 y0 y1 y2 y3 y4 y5 y6 y7)) (leafRd Es_l20Disk 0)) = (g_Ss_l20Disk_0 y0 y2 y3 y6 (y1, y4, y5, y7)).bt (fun ((y1, y4, y5, y7) : (Int) × (Int) × (List ((Int) × ((Int) × ((List (ByteArray)) × (List ((ByteArray) × ((Bool) × (List (Int))))))))) × (Int)) => (hs_l20Disk_0 y0 y1 y2 y3 y4 y5 y6 y7)) (xs_l20Disk_0 y0 y2 y3 y6) := by kernel_rfl
theorem ks_l20Disk_1 : OrcOk Es_l20Disk Os_l20Disk_1 lss_l20Disk 1 := orc_add ks_l20Disk_0 (fun n p hp h ex h' ho => by
  obtain ⟨b, c⟩ := p
  obtain ⟨xt, h1, h2⟩ := ho
  have h1 : Os_l20Disk_1 b h = some (true, xt) := h1
  unfold Os_l20Disk_1 at h1
  split at h1
  · injection h1 with h1
    injection h1 with e1 e2
    subst e2
    have hc : c = cs_l20Disk_0 := ms_l20Disk_0 _ hp rfl
    subst hc
    right
    rename_i y0 y1 y2 y3 y4 y5 y6 y7
    have key := LT_step ks_l20Disk_0 hp (fun q hq => loopsAll_in _ _ _ _ hp hq) (fun ((y1, y4, y5, y7) : (Int) × (Int) × (List ((Int) × ((Int) × ((List (ByteArray)) × (List ((ByteArray) × ((Bool) × (List (Int))))))))) × (Int)) => (hs_l20Disk_0 y0 y1 y2 y3 y4 y5 y6 y7)) (xs_l20Disk_0 y0 y2 y3 y6) (g_Ss_l20Disk_0 y0 y2 y3 y6) (fun x => by first | exact bs_l20Disk_0 y0 x.1 y2 y3 x.2.1 x.2.2.1 y6 x.2.2.2) n (x := (y1, y4, y5, y7)) (okO_some e1)
    have hx : ∀ r, XT.sel (.leaf (.exit 0) [(.T 0, .t (.val false [.ptr 0 0 0])), (.T 1, .t (.val false [.int .i64 y0])), (.T 4, .t (.val false [.ptr 4 0 0])), (.T 5, .t (.val false [.ptr 5 0 0])), (.B 4, .b 0 false [.row 4 1 0, .int .i64 y2]), (.R 4 1, .r 0 (some ⟨false, .any, true, 59, (.pair (.int .i64) (.pair (.int .i64) (.pair (.sl 9 .str) (.sl 83 (.pair .str (.pair .bool (.sl 3 (.int .i64)))))))), y3⟩)), (.B 5, .b 0 false [.row 5 1 0, .int .i64 r.1]), (.R 5 1, .r 0 (some ⟨false, .any, true, 59, (.pair (.int .i64) (.pair (.int .i64) (.pair (.sl 9 .str) (.sl 83 (.pair .str (.pair .bool (.sl 3 (.int .i64)))))))), r.2.1⟩)), (.B 0, .b 0 false [.sl .any 5 (.int .u8) y6, .int .i64 r.2.2])]) = xs_l20Disk_0 y0 y2 y3 y6 r := fun r => by first | rfl | (rcases r with r | r <;> rfl) | (rcases r with r | r | r <;> rfl) | (rcases r with r | r | r | r <;> rfl)
    have h3 := (hx (valO (g_Ls_l20Disk_0 y0 y2 y3 y6 (y1, y4, y5, y7)))).symm.trans h2
    have e3 := congrArg Prod.fst h3
    have e4 := congrArg Prod.snd h3
    simp only at e3 e4
    rw [← e3, ← e4]
    exact key
  · exact .inl ⟨xt, h1, h2⟩)
noncomputable def hs_l20Disk_3 (y0 : Int) (y1 : List ((Int) × ((Int) × ((List (ByteArray)) × (List ((ByteArray) × ((Bool) × (List (Int))))))))) (y2 : Int) (y3 : List ((Int) × ((Int) × ((List (ByteArray)) × (List ((ByteArray) × ((Bool) × (List (Int))))))))) (y4 : List (Int)) (y5 : Int) : List (Pl × LV) := [(.T 0, .t (.val false [.ptr 0 0 0])), (.T 4, .t (.val false [.ptr 4 0 0])), (.T 5, .t (.val false [.ptr 5 0 0])), (.B 4, .b 0 false [.row 4 1 0, .int .i64 y0]), (.R 4 1, .r 0 (some ⟨false, .any, true, 59, (.pair (.int .i64) (.pair (.int .i64) (.pair (.sl 9 .str) (.sl 83 (.pair .str (.pair .bool (.sl 3 (.int .i64)))))))), y1⟩)), (.B 5, .b 0 false [.row 5 1 0, .int .i64 y2]), (.R 5 1, .r 0 (some ⟨false, .any, true, 59, (.pair (.int .i64) (.pair (.int .i64) (.pair (.sl 9 .str) (.sl 83 (.pair .str (.pair .bool (.sl 3 (.int .i64)))))))), y3⟩)), (.B 0, .b 0 false [.sl .any 5 (.int .u8) y4, .int .i64 y5])]
noncomputable def g_Ss_l20Disk_3 (y0 : Int) (y1 : List ((Int) × ((Int) × ((List (ByteArray)) × (List ((ByteArray) × ((Bool) × (List (Int))))))))) (y2 : Int) (y4 : List (Int)) (y5 : Int) : ((List ((Int) × ((Int) × ((List (ByteArray)) × (List ((ByteArray) × ((Bool) × (List (Int)))))))))) → RT ((List ((Int) × ((Int) × ((List (ByteArray)) × (List ((ByteArray) × ((Bool) × (List (Int)))))))))) (((List ((Int) × ((Int) × ((List (ByteArray)) × (List ((ByteArray) × ((Bool) × (List (Int)))))))))))
  | y3 => .br (true) (.br (decide ((↑(List.length y3) : Int) ≤ (120 : Int))) (.br (decide ((List.length y3 + nat_lit 1) * nat_lit 64 ≤ nat_lit 140737488355328 ∧ List.length y3 + nat_lit 1 ≤ nat_lit 9223372036854775807)) (.go (y3 ++ [((3 : Int), (0 : Int), [], [])])) (.bad)) (.out (y3))) (.bad)
noncomputable def g_Ls_l20Disk_3 (y0 : Int) (y1 : List ((Int) × ((Int) × ((List (ByteArray)) × (List ((ByteArray) × ((Bool) × (List (Int))))))))) (y2 : Int) (y4 : List (Int)) (y5 : Int) (x : (List ((Int) × ((Int) × ((List (ByteArray)) × (List ((ByteArray) × ((Bool) × (List (Int)))))))))) : Option (((List ((Int) × ((Int) × ((List (ByteArray)) × (List ((ByteArray) × ((Bool) × (List (Int))))))))))) := loopO (g_Ss_l20Disk_3 y0 y1 y2 y4 y5) x
noncomputable def xs_l20Disk_3 (y0 : Int) (y1 : List ((Int) × ((Int) × ((List (ByteArray)) × (List ((ByteArray) × ((Bool) × (List (Int))))))))) (y2 : Int) (y4 : List (Int)) (y5 : Int) : (((List ((Int) × ((Int) × ((List (ByteArray)) × (List ((ByteArray) × ((Bool) × (List (Int))))))))))) → Ex × List (Pl × LV) := fun r => (.exit 3, [(.T 0, .t (.val false [.ptr 0 0 0])), (.T 4, .t (.val false [.ptr 4 0 0])), (.T 5, .t (.val false [.ptr 5 0 0])), (.B 4, .b 0 false [.row 4 1 0, .int .i64 y0]), (.R 4 1, .r 0 (some ⟨false, .any, true, 59, (.pair (.int .i64) (.pair (.int .i64) (.pair (.sl 9 .str) (.sl 83 (.pair .str (.pair .bool (.sl 3 (.int .i64)))))))), y1⟩)), (.B 5, .b 0 false [.row 5 1 0, .int .i64 y2]), (.R 5 1, .r 0 (some ⟨false, .any, true, 59, (.pair (.int .i64) (.pair (.int .i64) (.pair (.sl 9 .str) (.sl 83 (.pair .str (.pair .bool (.sl 3 (.int .i64)))))))), r⟩)), (.B 0, .b 0 false [.sl .any 5 (.int .u8) y4, .int .i64 y5])])
noncomputable def Os_l20Disk_2 : Orc := fun b h => match b, h with
  | 3, [(.T 0, .t (.val false [.ptr 0 0 0])), (.T 4, .t (.val false [.ptr 4 0 0])), (.T 5, .t (.val false [.ptr 5 0 0])), (.B 4, .b 0 false [.row 4 1 0, .int .i64 y0]), (.R 4 1, .r 0 (some ⟨false, .any, true, 59, (.pair (.int .i64) (.pair (.int .i64) (.pair (.sl 9 .str) (.sl 83 (.pair .str (.pair .bool (.sl 3 (.int .i64)))))))), y1⟩)), (.B 5, .b 0 false [.row 5 1 0, .int .i64 y2]), (.R 5 1, .r 0 (some ⟨false, .any, true, 59, (.pair (.int .i64) (.pair (.int .i64) (.pair (.sl 9 .str) (.sl 83 (.pair .str (.pair .bool (.sl 3 (.int .i64)))))))), y3⟩)), (.B 0, .b 0 false [.sl .any 5 (.int .u8) y4, .int .i64 y5])] => some (okO (g_Ls_l20Disk_3 y0 y1 y2 y4 y5 y3), (.leaf (.exit 3) [(.T 0, .t (.val false [.ptr 0 0 0])), (.T 4, .t (.val false [.ptr 4 0 0])), (.T 5, .t (.val false [.ptr 5 0 0])), (.B 4, .b 0 false [.row 4 1 0, .int .i64 y0]), (.R 4 1, .r 0 (some ⟨false, .any, true, 59, (.pair (.int .i64) (.pair (.int .i64) (.pair (.sl 9 .str) (.sl 83 (.pair .str (.pair .bool (.sl 3 (.int .i64)))))))), y1⟩)), (.B 5, .b 0 false [.row 5 1 0, .int .i64 y2]), (.R 5 1, .r 0 (some ⟨false, .any, true, 59, (.pair (.int .i64) (.pair (.int .i64) (.pair (.sl 9 .str) (.sl 83 (.pair .str (.pair .bool (.sl 3 (.int .i64)))))))), (valO (g_Ls_l20Disk_3 y0 y1 y2 y4 y5 y3))⟩)), (.B 0, .b 0 false [.sl .any 5 (.int .u8) y4, .int .i64 y5])]))
  | b, h => Os_l20Disk_1 b h
theorem bs_l20Disk_3 (y0 : Int) (y1 : List ((Int) × ((Int) × ((List (ByteArray)) × (List ((ByteArray) × ((Bool) × (List (Int))))))))) (y2 : Int) (y3 : List ((Int) × ((Int) × ((List (ByteArray)) × (List ((ByteArray) × ((Bool) × (List (Int))))))))) (y4 : List (Int)) (y5 : Int) : Tr.bt Es_l20Disk Os_l20Disk_1 (exec Es_l20Disk 3 cs_l20Disk_3 (St.of (hs_l20Disk_3 y0 y1 y2 y3 y4 y5)) (leafRd Es_l20Disk 3)) = (g_Ss_l20Disk_3 y0 y1 y2 y4 y5 y3).bt (fun (y3 : (List ((Int) × ((Int) × ((List (ByteArray)) × (List ((ByteArray) × ((Bool) × (List (Int)))))))))) => (hs_l20Disk_3 y0 y1 y2 y3 y4 y5)) (xs_l20Disk_3 y0 y1 y2 y4 y5) := by kernel_rfl
theorem ks_l20Disk_2 : OrcOk Es_l20Disk Os_l20Disk_2 lss_l20Disk 2 := orc_add ks_l20Disk_1 (fun n p hp h ex h' ho => by
  obtain ⟨b, c⟩ := p
  obtain ⟨xt, h1, h2⟩ := ho
  have h1 : Os_l20Disk_2 b h = some (true, xt) := h1
  unfold Os_l20Disk_2 at h1
  split at h1
  · injection h1 with h1
    injection h1 with e1 e2
    subst e2
    have hc : c = cs_l20Disk_3 := ms_l20Disk_3 _ hp rfl
    subst hc
    right
    rename_i y0 y1 y2 y3 y4 y5
    have key := LT_step ks_l20Disk_1 hp (fun q hq => loopsAll_in _ _ _ _ hp hq) (fun (y3 : (List ((Int) × ((Int) × ((List (ByteArray)) × (List ((ByteArray) × ((Bool) × (List (Int)))))))))) => (hs_l20Disk_3 y0 y1 y2 y3 y4 y5)) (xs_l20Disk_3 y0 y1 y2 y4 y5) (g_Ss_l20Disk_3 y0 y1 y2 y4 y5) (fun x => by first | exact bs_l20Disk_3 y0 y1 y2 x y4 y5) n (x := y3) (okO_some e1)
    have hx : ∀ r, XT.sel (.leaf (.exit 3) [(.T 0, .t (.val false [.ptr 0 0 0])), (.T 4, .t (.val false [.ptr 4 0 0])), (.T 5, .t (.val false [.ptr 5 0 0])), (.B 4, .b 0 false [.row 4 1 0, .int .i64 y0]), (.R 4 1, .r 0 (some ⟨false, .any, true, 59, (.pair (.int .i64) (.pair (.int .i64) (.pair (.sl 9 .str) (.sl 83 (.pair .str (.pair .bool (.sl 3 (.int .i64)))))))), y1⟩)), (.B 5, .b 0 false [.row 5 1 0, .int .i64 y2]), (.R 5 1, .r 0 (some ⟨false, .any, true, 59, (.pair (.int .i64) (.pair (.int .i64) (.pair (.sl 9 .str) (.sl 83 (.pair .str (.pair .bool (.sl 3 (.int .i64)))))))), r⟩)), (.B 0, .b 0 false [.sl .any 5 (.int .u8) y4, .int .i64 y5])]) = xs_l20Disk_3 y0 y1 y2 y4 y5 r := fun r => by first | rfl | (rcases r with r | r <;> rfl) | (rcases r with r | r | r <;> rfl) | (rcases r with r | r | r | r <;> rfl)
    have h3 := (hx (valO (g_Ls_l20Disk_3 y0 y1 y2 y4 y5 y3))).symm.trans h2
    have e3 := congrArg Prod.fst h3
    have e4 := congrArg Prod.snd h3
    simp only at e3 e4
    rw [← e3, ← e4]
    exact key
  · exact .inl ⟨xt, h1, h2⟩)
noncomputable def g_As_l20Disk (r0 : List Int) (r1 : Int) (a2 : Int) : Bool := g_pickA r0 r1 (10 : Int) && (okO (g_Ls_l20Disk_0 a2 (0 : Int) [] r0 (g_pick r0 r1 (10 : Int), (0 : Int), [], IntKind.wrap IntKind.i64 (r1 + (1 : Int)))) && (g_As_l20Rd_odd r0 (valO (g_Ls_l20Disk_0 a2 (0 : Int) [] r0 (g_pick r0 r1 (10 : Int), (0 : Int), [], IntKind.wrap IntKind.i64 (r1 + (1 : Int))))).2.2 a2 && (!g_Vs_l20Rd_odd_0 r0 (valO (g_Ls_l20Disk_0 a2 (0 : Int) [] r0 (g_pick r0 r1 (10 : Int), (0 : Int), [], IntKind.wrap IntKind.i64 (r1 + (1 : Int))))).2.2 a2 || g_pickA r0 (g_Vs_l20Rd_odd_2 r0 (valO (g_Ls_l20Disk_0 a2 (0 : Int) [] r0 (g_pick r0 r1 (10 : Int), (0 : Int), [], IntKind.wrap IntKind.i64 (r1 + (1 : Int))))).2.2 a2) (3 : Int) && bif g_pick r0 (g_Vs_l20Rd_odd_2 r0 (valO (g_Ls_l20Disk_0 a2 (0 : Int) [] r0 (g_pick r0 r1 (10 : Int), (0 : Int), [], IntKind.wrap IntKind.i64 (r1 + (1 : Int))))).2.2 a2) (3 : Int) == (0 : Int) then g_pickA r0 (IntKind.wrap IntKind.i64 (g_Vs_l20Rd_odd_2 r0 (valO (g_Ls_l20Disk_0 a2 (0 : Int) [] r0 (g_pick r0 r1 (10 : Int), (0 : Int), [], IntKind.wrap IntKind.i64 (r1 + (1 : Int))))).2.2 a2 + (1 : Int))) (2 : Int) && (decide ((0 : Int) ≤ g_pick r0 (IntKind.wrap IntKind.i64 (g_Vs_l20Rd_odd_2 r0 (valO (g_Ls_l20Disk_0 a2 (0 : Int) [] r0 (g_pick r0 r1 (10 : Int), (0 : Int), [], IntKind.wrap IntKind.i64 (r1 + (1 : Int))))).2.2 a2 + (1 : Int))) (2 : Int) ∧ g_pick r0 (IntKind.wrap IntKind.i64 (g_Vs_l20Rd_odd_2 r0 (valO (g_Ls_l20Disk_0 a2 (0 : Int) [] r0 (g_pick r0 r1 (10 : Int), (0 : Int), [], IntKind.wrap IntKind.i64 (r1 + (1 : Int))))).2.2 a2 + (1 : Int))) (2 : Int) < (↑(List.length [(-1 : Int), IntKind.wrap IntKind.i64 ((↑(List.length (valO (g_Ls_l20Disk_0 a2 (0 : Int) [] r0 (g_pick r0 r1 (10 : Int), (0 : Int), [], IntKind.wrap IntKind.i64 (r1 + (1 : Int))))).2.1) : Int) + (1 : Int))]) : Int)) && decide (Int.toNat (g_pick r0 (IntKind.wrap IntKind.i64 (g_Vs_l20Rd_odd_2 r0 (valO (g_Ls_l20Disk_0 a2 (0 : Int) [] r0 (g_pick r0 r1 (10 : Int), (0 : Int), [], IntKind.wrap IntKind.i64 (r1 + (1 : Int))))).2.2 a2 + (1 : Int))) (2 : Int)) < List.length [(-1 : Int), IntKind.wrap IntKind.i64 ((↑(List.length (valO (g_Ls_l20Disk_0 a2 (0 : Int) [] r0 (g_pick r0 r1 (10 : Int), (0 : Int), [], IntKind.wrap IntKind.i64 (r1 + (1 : Int))))).2.1) : Int) + (1 : Int))])) else bif g_pick r0 (g_Vs_l20Rd_odd_2 r0 (valO (g_Ls_l20Disk_0 a2 (0 : Int) [] r0 (g_pick r0 r1 (10 : Int), (0 : Int), [], IntKind.wrap IntKind.i64 (r1 + (1 : Int))))).2.2 a2) (3 : Int) == (1 : Int) then g_As_l20Note r0 (IntKind.wrap IntKind.i64 (g_Vs_l20Rd_odd_2 r0 (valO (g_Ls_l20Disk_0 a2 (0 : Int) [] r0 (g_pick r0 r1 (10 : Int), (0 : Int), [], IntKind.wrap IntKind.i64 (r1 + (1 : Int))))).2.2 a2 + (1 : Int))) (1 : Int) && decide ((List.length (valO (g_Ls_l20Disk_0 a2 (0 : Int) [] r0 (g_pick r0 r1 (10 : Int), (0 : Int), [], IntKind.wrap IntKind.i64 (r1 + (1 : Int))))).2.1 + List.length [(g_Vs_l20Note_0 r0 (IntKind.wrap IntKind.i64 (g_Vs_l20Rd_odd_2 r0 (valO (g_Ls_l20Disk_0 a2 (0 : Int) [] r0 (g_pick r0 r1 (10 : Int), (0 : Int), [], IntKind.wrap IntKind.i64 (r1 + (1 : Int))))).2.2 a2 + (1 : Int))) (1 : Int), g_Vs_l20Note_1 r0 (IntKind.wrap IntKind.i64 (g_Vs_l20Rd_odd_2 r0 (valO (g_Ls_l20Disk_0 a2 (0 : Int) [] r0 (g_pick r0 r1 (10 : Int), (0 : Int), [], IntKind.wrap IntKind.i64 (r1 + (1 : Int))))).2.2 a2 + (1 : Int))) (1 : Int), g_Vs_l20Note_2 r0 (IntKind.wrap IntKind.i64 (g_Vs_l20Rd_odd_2 r0 (valO (g_Ls_l20Disk_0 a2 (0 : Int) [] r0 (g_pick r0 r1 (10 : Int), (0 : Int), [], IntKind.wrap IntKind.i64 (r1 + (1 : Int))))).2.2 a2 + (1 : Int))) (1 : Int), g_Vs_l20Note_3 r0 (IntKind.wrap IntKind.i64 (g_Vs_l20Rd_odd_2 r0 (valO (g_Ls_l20Disk_0 a2 (0 : Int) [] r0 (g_pick r0 r1 (10 : Int), (0 : Int), [], IntKind.wrap IntKind.i64 (r1 + (1 : Int))))).2.2 a2 + (1 : Int))) (1 : Int))]) * nat_lit 64 ≤ nat_lit 140737488355328 ∧ List.length (valO (g_Ls_l20Disk_0 a2 (0 : Int) [] r0 (g_pick r0 r1 (10 : Int), (0 : Int), [], IntKind.wrap IntKind.i64 (r1 + (1 : Int))))).2.1 + List.length [(g_Vs_l20Note_0 r0 (IntKind.wrap IntKind.i64 (g_Vs_l20Rd_odd_2 r0 (valO (g_Ls_l20Disk_0 a2 (0 : Int) [] r0 (g_pick r0 r1 (10 : Int), (0 : Int), [], IntKind.wrap IntKind.i64 (r1 + (1 : Int))))).2.2 a2 + (1 : Int))) (1 : Int), g_Vs_l20Note_1 r0 (IntKind.wrap IntKind.i64 (g_Vs_l20Rd_odd_2 r0 (valO (g_Ls_l20Disk_0 a2 (0 : Int) [] r0 (g_pick r0 r1 (10 : Int), (0 : Int), [], IntKind.wrap IntKind.i64 (r1 + (1 : Int))))).2.2 a2 + (1 : Int))) (1 : Int), g_Vs_l20Note_2 r0 (IntKind.wrap IntKind.i64 (g_Vs_l20Rd_odd_2 r0 (valO (g_Ls_l20Disk_0 a2 (0 : Int) [] r0 (g_pick r0 r1 (10 : Int), (0 : Int), [], IntKind.wrap IntKind.i64 (r1 + (1 : Int))))).2.2 a2 + (1 : Int))) (1 : Int), g_Vs_l20Note_3 r0 (IntKind.wrap IntKind.i64 (g_Vs_l20Rd_odd_2 r0 (valO (g_Ls_l20Disk_0 a2 (0 : Int) [] r0 (g_pick r0 r1 (10 : Int), (0 : Int), [], IntKind.wrap IntKind.i64 (r1 + (1 : Int))))).2.2 a2 + (1 : Int))) (1 : Int))] ≤ nat_lit 9223372036854775807) else okO (g_Ls_l20Disk_3 (0 : Int) [] (valO (g_Ls_l20Disk_0 a2 (0 : Int) [] r0 (g_pick r0 r1 (10 : Int), (0 : Int), [], IntKind.wrap IntKind.i64 (r1 + (1 : Int))))).1 r0 (IntKind.wrap IntKind.i64 (g_Vs_l20Rd_odd_2 r0 (valO (g_Ls_l20Disk_0 a2 (0 : Int) [] r0 (g_pick r0 r1 (10 : Int), (0 : Int), [], IntKind.wrap IntKind.i64 (r1 + (1 : Int))))).2.2 a2 + (1 : Int))) (valO (g_Ls_l20Disk_0 a2 (0 : Int) [] r0 (g_pick r0 r1 (10 : Int), (0 : Int), [], IntKind.wrap IntKind.i64 (r1 + (1 : Int))))).2.1))))
noncomputable def g_Vs_l20Disk_0 (r0 : List Int) (r1 : Int) (a2 : Int) : List ((Int) × ((Int) × ((List (ByteArray)) × (List ((ByteArray) × ((Bool) × (List (Int)))))))) := bif g_Vs_l20Rd_odd_0 r0 (valO (g_Ls_l20Disk_0 a2 (0 : Int) [] r0 (g_pick r0 r1 (10 : Int), (0 : Int), [], IntKind.wrap IntKind.i64 (r1 + (1 : Int))))).2.2 a2 then bif g_pick r0 (g_Vs_l20Rd_odd_2 r0 (valO (g_Ls_l20Disk_0 a2 (0 : Int) [] r0 (g_pick r0 r1 (10 : Int), (0 : Int), [], IntKind.wrap IntKind.i64 (r1 + (1 : Int))))).2.2 a2) (3 : Int) == (0 : Int) then (valO (g_Ls_l20Disk_0 a2 (0 : Int) [] r0 (g_pick r0 r1 (10 : Int), (0 : Int), [], IntKind.wrap IntKind.i64 (r1 + (1 : Int))))).2.1 else bif g_pick r0 (g_Vs_l20Rd_odd_2 r0 (valO (g_Ls_l20Disk_0 a2 (0 : Int) [] r0 (g_pick r0 r1 (10 : Int), (0 : Int), [], IntKind.wrap IntKind.i64 (r1 + (1 : Int))))).2.2 a2) (3 : Int) == (1 : Int) then (valO (g_Ls_l20Disk_0 a2 (0 : Int) [] r0 (g_pick r0 r1 (10 : Int), (0 : Int), [], IntKind.wrap IntKind.i64 (r1 + (1 : Int))))).2.1 ++ [(g_Vs_l20Note_0 r0 (IntKind.wrap IntKind.i64 (g_Vs_l20Rd_odd_2 r0 (valO (g_Ls_l20Disk_0 a2 (0 : Int) [] r0 (g_pick r0 r1 (10 : Int), (0 : Int), [], IntKind.wrap IntKind.i64 (r1 + (1 : Int))))).2.2 a2 + (1 : Int))) (1 : Int), g_Vs_l20Note_1 r0 (IntKind.wrap IntKind.i64 (g_Vs_l20Rd_odd_2 r0 (valO (g_Ls_l20Disk_0 a2 (0 : Int) [] r0 (g_pick r0 r1 (10 : Int), (0 : Int), [], IntKind.wrap IntKind.i64 (r1 + (1 : Int))))).2.2 a2 + (1 : Int))) (1 : Int), g_Vs_l20Note_2 r0 (IntKind.wrap IntKind.i64 (g_Vs_l20Rd_odd_2 r0 (valO (g_Ls_l20Disk_0 a2 (0 : Int) [] r0 (g_pick r0 r1 (10 : Int), (0 : Int), [], IntKind.wrap IntKind.i64 (r1 + (1 : Int))))).2.2 a2 + (1 : Int))) (1 : Int), g_Vs_l20Note_3 r0 (IntKind.wrap IntKind.i64 (g_Vs_l20Rd_odd_2 r0 (valO (g_Ls_l20Disk_0 a2 (0 : Int) [] r0 (g_pick r0 r1 (10 : Int), (0 : Int), [], IntKind.wrap IntKind.i64 (r1 + (1 : Int))))).2.2 a2 + (1 : Int))) (1 : Int))] else valO (g_Ls_l20Disk_3 (0 : Int) [] (valO (g_Ls_l20Disk_0 a2 (0 : Int) [] r0 (g_pick r0 r1 (10 : Int), (0 : Int), [], IntKind.wrap IntKind.i64 (r1 + (1 : Int))))).1 r0 (IntKind.wrap IntKind.i64 (g_Vs_l20Rd_odd_2 r0 (valO (g_Ls_l20Disk_0 a2 (0 : Int) [] r0 (g_pick r0 r1 (10 : Int), (0 : Int), [], IntKind.wrap IntKind.i64 (r1 + (1 : Int))))).2.2 a2 + (1 : Int))) (valO (g_Ls_l20Disk_0 a2 (0 : Int) [] r0 (g_pick r0 r1 (10 : Int), (0 : Int), [], IntKind.wrap IntKind.i64 (r1 + (1 : Int))))).2.1) else (valO (g_Ls_l20Disk_0 a2 (0 : Int) [] r0 (g_pick r0 r1 (10 : Int), (0 : Int), [], IntKind.wrap IntKind.i64 (r1 + (1 : Int))))).2.1
noncomputable def g_Vs_l20Disk_1 (r0 : List Int) (r1 : Int) (a2 : Int) : Int := bif g_Vs_l20Rd_odd_0 r0 (valO (g_Ls_l20Disk_0 a2 (0 : Int) [] r0 (g_pick r0 r1 (10 : Int), (0 : Int), [], IntKind.wrap IntKind.i64 (r1 + (1 : Int))))).2.2 a2 then bif g_pick r0 (g_Vs_l20Rd_odd_2 r0 (valO (g_Ls_l20Disk_0 a2 (0 : Int) [] r0 (g_pick r0 r1 (10 : Int), (0 : Int), [], IntKind.wrap IntKind.i64 (r1 + (1 : Int))))).2.2 a2) (3 : Int) == (0 : Int) then at_ (Ty.int IntKind.i64) [(-1 : Int), IntKind.wrap IntKind.i64 ((↑(List.length (valO (g_Ls_l20Disk_0 a2 (0 : Int) [] r0 (g_pick r0 r1 (10 : Int), (0 : Int), [], IntKind.wrap IntKind.i64 (r1 + (1 : Int))))).2.1) : Int) + (1 : Int))] (Int.toNat (g_pick r0 (IntKind.wrap IntKind.i64 (g_Vs_l20Rd_odd_2 r0 (valO (g_Ls_l20Disk_0 a2 (0 : Int) [] r0 (g_pick r0 r1 (10 : Int), (0 : Int), [], IntKind.wrap IntKind.i64 (r1 + (1 : Int))))).2.2 a2 + (1 : Int))) (2 : Int))) else bif g_pick r0 (g_Vs_l20Rd_odd_2 r0 (valO (g_Ls_l20Disk_0 a2 (0 : Int) [] r0 (g_pick r0 r1 (10 : Int), (0 : Int), [], IntKind.wrap IntKind.i64 (r1 + (1 : Int))))).2.2 a2) (3 : Int) == (1 : Int) then (valO (g_Ls_l20Disk_0 a2 (0 : Int) [] r0 (g_pick r0 r1 (10 : Int), (0 : Int), [], IntKind.wrap IntKind.i64 (r1 + (1 : Int))))).1 else (valO (g_Ls_l20Disk_0 a2 (0 : Int) [] r0 (g_pick r0 r1 (10 : Int), (0 : Int), [], IntKind.wrap IntKind.i64 (r1 + (1 : Int))))).1 else (valO (g_Ls_l20Disk_0 a2 (0 : Int) [] r0 (g_pick r0 r1 (10 : Int), (0 : Int), [], IntKind.wrap IntKind.i64 (r1 + (1 : Int))))).1
noncomputable def g_Vs_l20Disk_2 (r0 : List Int) (r1 : Int) (a2 : Int) : List (Int) := bif g_Vs_l20Rd_odd_0 r0 (valO (g_Ls_l20Disk_0 a2 (0 : Int) [] r0 (g_pick r0 r1 (10 : Int), (0 : Int), [], IntKind.wrap IntKind.i64 (r1 + (1 : Int))))).2.2 a2 then bif g_pick r0 (g_Vs_l20Rd_odd_2 r0 (valO (g_Ls_l20Disk_0 a2 (0 : Int) [] r0 (g_pick r0 r1 (10 : Int), (0 : Int), [], IntKind.wrap IntKind.i64 (r1 + (1 : Int))))).2.2 a2) (3 : Int) == (0 : Int) then r0 else bif g_pick r0 (g_Vs_l20Rd_odd_2 r0 (valO (g_Ls_l20Disk_0 a2 (0 : Int) [] r0 (g_pick r0 r1 (10 : Int), (0 : Int), [], IntKind.wrap IntKind.i64 (r1 + (1 : Int))))).2.2 a2) (3 : Int) == (1 : Int) then r0 else r0 else r0
noncomputable def g_Vs_l20Disk_3 (r0 : List Int) (r1 : Int) (a2 : Int) : Int := bif g_Vs_l20Rd_odd_0 r0 (valO (g_Ls_l20Disk_0 a2 (0 : Int) [] r0 (g_pick r0 r1 (10 : Int), (0 : Int), [], IntKind.wrap IntKind.i64 (r1 + (1 : Int))))).2.2 a2 then bif g_pick r0 (g_Vs_l20Rd_odd_2 r0 (valO (g_Ls_l20Disk_0 a2 (0 : Int) [] r0 (g_pick r0 r1 (10 : Int), (0 : Int), [], IntKind.wrap IntKind.i64 (r1 + (1 : Int))))).2.2 a2) (3 : Int) == (0 : Int) then IntKind.wrap IntKind.i64 (IntKind.wrap IntKind.i64 (g_Vs_l20Rd_odd_2 r0 (valO (g_Ls_l20Disk_0 a2 (0 : Int) [] r0 (g_pick r0 r1 (10 : Int), (0 : Int), [], IntKind.wrap IntKind.i64 (r1 + (1 : Int))))).2.2 a2 + (1 : Int)) + (1 : Int)) else bif g_pick r0 (g_Vs_l20Rd_odd_2 r0 (valO (g_Ls_l20Disk_0 a2 (0 : Int) [] r0 (g_pick r0 r1 (10 : Int), (0 : Int), [], IntKind.wrap IntKind.i64 (r1 + (1 : Int))))).2.2 a2) (3 : Int) == (1 : Int) then g_Vs_l20Note_5 r0 (IntKind.wrap IntKind.i64 (g_Vs_l20Rd_odd_2 r0 (valO (g_Ls_l20Disk_0 a2 (0 : Int) [] r0 (g_pick r0 r1 (10 : Int), (0 : Int), [], IntKind.wrap IntKind.i64 (r1 + (1 : Int))))).2.2 a2 + (1 : Int))) (1 : Int) else IntKind.wrap IntKind.i64 (g_Vs_l20Rd_odd_2 r0 (valO (g_Ls_l20Disk_0 a2 (0 : Int) [] r0 (g_pick r0 r1 (10 : Int), (0 : Int), [], IntKind.wrap IntKind.i64 (r1 + (1 : Int))))).2.2 a2 + (1 : Int)) else g_Vs_l20Rd_odd_2 r0 (valO (g_Ls_l20Disk_0 a2 (0 : Int) [] r0 (g_pick r0 r1 (10 : Int), (0 : Int), [], IntKind.wrap IntKind.i64 (r1 + (1 : Int))))).2.2 a2
noncomputable def Fs_l20Disk : FSem := fun ys => match ys with
  | [.val true [.sl .any 5 (.int .u8) r0, .int .i64 r1], .val false [.int .i64 a2]] => some ((g_As_l20Disk r0 r1 a2), .val true [.own .any false 59 (.pair (.int .i64) (.pair (.int .i64) (.pair (.sl 9 .str) (.sl 83 (.pair .str (.pair .bool (.sl 3 (.int .i64)))))))) (g_Vs_l20Disk_0 r0 r1 a2), .int .i64 (g_Vs_l20Disk_1 r0 r1 a2)], [[.sl .any 5 (.int .u8) (g_Vs_l20Disk_2 r0 r1 a2), .int .i64 (g_Vs_l20Disk_3 r0 r1 a2)]])
  | _ => none
theorem vs_l20Disk (r0 : List Int) (r1 : Int) (a2 : Int) : collapseH .sh Es_l20Disk Os_l20Disk_2 (execFn Es_l20Disk Go.Proofs.Tryd.f71 mss_l20Disk [.val true [.sl .any 5 (.int .u8) r0, .int .i64 r1], .val false [.int .i64 a2]]) = some ((g_As_l20Disk r0 r1 a2), .val true [.own .any false 59 (.pair (.int .i64) (.pair (.int .i64) (.pair (.sl 9 .str) (.sl 83 (.pair .str (.pair .bool (.sl 3 (.int .i64)))))))) (g_Vs_l20Disk_0 r0 r1 a2), .int .i64 (g_Vs_l20Disk_1 r0 r1 a2)], [[.sl .any 5 (.int .u8) (g_Vs_l20Disk_2 r0 r1 a2), .int .i64 (g_Vs_l20Disk_3 r0 r1 a2)]]) := by kernel_rfl
theorem ss_l20Disk : Sound Go.Proofs.Tryd.prog 71 mss_l20Disk Fs_l20Disk := by
  refine fn_gen goods_l20Disk (by kernel_rfl) .sh (fn := Go.Proofs.Tryd.f71) (c := (Go.Proofs.Tryd.f71.body.getD .skip)) (o := Os_l20Disk_2) (k := 2) (by kernel_rfl) (by kernel_rfl) (by kernel_rfl) (by kernel_rfl) (by decide) ks_l20Disk_2 ?_
  intro ys r outs h
  unfold Fs_l20Disk at h
  split at h
  · exact (vs_l20Disk _ _ _).trans h
  · cases h
end Go.Proofs.YtibafhmmnoijkaaDoor.E
end
section
namespace Go.Proofs.YtibafhmmnoijkaaDoor.E
open Go
set_option maxRecDepth 100000
set_option linter.all false
noncomputable def mss_l20DiskR : List PM := mss_l20Disk
theorem sames_l20Disk (r0 : List Int) (r1 : Int) (a2 : Int) : g_Vs_l20Disk_2 r0 r1 a2 = r0 := by
  unfold g_Vs_l20Disk_2
  simp only [Bool.cond_self]
noncomputable def Fs_l20DiskR : FSem := fun ys => match ys with
  | [.val true [.sl .any 5 (.int .u8) r0, .int .i64 r1], .val false [.int .i64 a2]] => some ((g_As_l20Disk r0 r1 a2), .val true [.own .any false 59 (.pair (.int .i64) (.pair (.int .i64) (.pair (.sl 9 .str) (.sl 83 (.pair .str (.pair .bool (.sl 3 (.int .i64)))))))) (g_Vs_l20Disk_0 r0 r1 a2), .int .i64 (g_Vs_l20Disk_1 r0 r1 a2)], [[.sl .any 5 (.int .u8) r0, .int .i64 (g_Vs_l20Disk_3 r0 r1 a2)]])
  | _ => none
theorem ss_l20DiskR : Sound Go.Proofs.Tryd.prog 71 mss_l20DiskR Fs_l20DiskR := by
  refine ⟨ss_l20Disk.fn, fun w S ψ ys vs r outs hF hh hg => ss_l20Disk.calls w S ψ ys vs r outs (Eq.trans ?_ hF) hh hg⟩
  unfold Fs_l20DiskR at hF ⊢
  split at hF
  · rename_i  r0 r1 a2
    show (some ((g_As_l20Disk r0 r1 a2), .val true [.own .any false 59 (.pair (.int .i64) (.pair (.int .i64) (.pair (.sl 9 .str) (.sl 83 (.pair .str (.pair .bool (.sl 3 (.int .i64)))))))) (g_Vs_l20Disk_0 r0 r1 a2), .int .i64 (g_Vs_l20Disk_1 r0 r1 a2)], [[.sl .any 5 (.int .u8) (g_Vs_l20Disk_2 r0 r1 a2), .int .i64 (g_Vs_l20Disk_3 r0 r1 a2)]]) : Option (Bool × RV × List (List Cell))) = _
    rw [sames_l20Disk]
  · cases hF
end Go.Proofs.YtibafhmmnoijkaaDoor.E
end
section
namespace Go.Proofs.YtibafhmmnoijkaaDoor.E
open Go
set_option maxRecDepth 100000
set_option maxHeartbeats 0
set_option linter.all false
noncomputable def Es_l20Open : Env where
  tt := mkTI Go.Proofs.Tryd.prog
  fn := fun _ => none
  bxf := fun _ => none
  mv := []
  keep := fun _ => []
  keepB := fun _ => []
  keepX := fun _ => []
  keepXB := fun _ => []
theorem goodFs_l20Open : ∀ f ms F, Es_l20Open.fn f = some (ms, F) → Sound Go.Proofs.Tryd.prog f ms F := fun f ms F h => by cases h
theorem goodBs_l20Open : ∀ f ms F, Es_l20Open.bxf f = some (ms, F) → SoundB Go.Proofs.Tryd.prog f ms F := fun f ms F h => by cases h
theorem goods_l20Open : Good Go.Proofs.Tryd.prog Es_l20Open := ⟨rfl, goodFs_l20Open, goodBs_l20Open⟩
noncomputable def Os_l20Open_0 : Orc := fun _ _ => none
noncomputable def mss_l20Open : List PM := [.fz]
noncomputable def lss_l20Open : List (Nat × Code) := loopsAll 0 (Go.Proofs.Tryd.f70.body.getD .skip)

theorem ks_l20Open_0 : OrcOk Es_l20Open Os_l20Open_0 lss_l20Open 0 := orcOk_none
noncomputable def g_As_l20Open (a0 : List (Int)) : Bool := Bool.rec (!decide ((↑(List.length a0) : Int) > (2000 : Int)) && true) true (decide ((0 : Int) ≤ (2000 : Int) ∧ (2000 : Int) ≤ (↑(List.length a0) : Int)) && true)
noncomputable def g_Vs_l20Open_0 (a0 : List (Int)) : List (Int) := bif decide ((↑(List.length a0) : Int) > (2000 : Int)) then List.drop (nat_lit 0) (List.take (nat_lit 2000) a0) else a0
noncomputable def g_Vs_l20Open_1 (a0 : List (Int)) : Int := bif decide ((↑(List.length a0) : Int) > (2000 : Int)) then (0 : Int) else (0 : Int)
noncomputable def Fs_l20Open : List RV → Option (Bool × List Cell × List (List Cell)) := fun ys => match ys with
  | [.val false [.sl .any 5 (.int .u8) a0]] => some ((g_As_l20Open a0), [.sl .any 5 (.int .u8) (g_Vs_l20Open_0 a0), .int .i64 (g_Vs_l20Open_1 a0)], [])
  | _ => none
theorem vs_l20Open (a0 : List (Int)) : collapse Es_l20Open Os_l20Open_0 (execFnB Es_l20Open Go.Proofs.Tryd.f70 mss_l20Open 2 [.val false [.sl .any 5 (.int .u8) a0]]) = some ((g_As_l20Open a0), .val true [.sl .any 5 (.int .u8) (g_Vs_l20Open_0 a0), .int .i64 (g_Vs_l20Open_1 a0)], []) := by kernel_rfl
theorem ss_l20Open : SoundB Go.Proofs.Tryd.prog 70 mss_l20Open Fs_l20Open := by
  refine fn_genB goods_l20Open (by kernel_rfl) (fn := Go.Proofs.Tryd.f70) (c := (Go.Proofs.Tryd.f70.body.getD .skip)) (o := Os_l20Open_0) (k := 0) (tr := 2) (by kernel_rfl) (by kernel_rfl) (by kernel_rfl) (by kernel_rfl) (by decide) (by kernel_rfl) (by decide) ks_l20Open_0 ?_
  intro ys r outs h
  unfold Fs_l20Open at h
  split at h
  · simp only [Option.some.injEq, Prod.mk.injEq] at h
    obtain ⟨h1, h2, h3⟩ := h
    refine ⟨h3.symm, (vs_l20Open _).trans ?_⟩
    rw [h1, h2]
  · cases h
end Go.Proofs.YtibafhmmnoijkaaDoor.E
end
section
namespace Go.Proofs.YtibafhmmnoijkaaDoor.E
open Go
set_option maxRecDepth 100000
set_option maxHeartbeats 0
set_option linter.all false
noncomputable def Es_DrawPlcTick : Env where
  tt := mkTI Go.Proofs.Tryd.prog
  fn := fun f => match f with
    | 71 => some (mss_l20DiskR, FSem.wk mss_l20DiskR Fs_l20DiskR)
    | 72 => some (mss_l20Rd_pick, FSem.wk mss_l20Rd_pick Fs_l20Rd_pick)
    | _ => none
  bxf := fun f => match f with
    | 70 => some (mss_l20Open, Fs_l20Open)
    | _ => none
  mv := []
  keep := fun _ => []
  keepB := fun _ => []
  keepX := fun _ => []
  keepXB := fun _ => []
theorem goodFs_DrawPlcTick : ∀ f ms F, Es_DrawPlcTick.fn f = some (ms, F) → Sound Go.Proofs.Tryd.prog f ms F := fun f ms F h => by
  unfold Es_DrawPlcTick at h
  dsimp only at h
  split at h
  · injection h with h; injection h with e1 e2; subst e1 e2; exact Sound.wk ss_l20DiskR
  · injection h with h; injection h with e1 e2; subst e1 e2; exact Sound.wk ss_l20Rd_pick
  · cases h
theorem goodBs_DrawPlcTick : ∀ f ms F, Es_DrawPlcTick.bxf f = some (ms, F) → SoundB Go.Proofs.Tryd.prog f ms F := fun f ms F h => by
  unfold Es_DrawPlcTick at h
  dsimp only at h
  split at h
  · injection h with h; injection h with e1 e2; subst e1 e2; exact ss_l20Open
  · cases h
theorem goods_DrawPlcTick : Good Go.Proofs.Tryd.prog Es_DrawPlcTick := ⟨rfl, goodFs_DrawPlcTick, goodBs_DrawPlcTick⟩
noncomputable def Os_DrawPlcTick_0 : Orc := fun _ _ => none
noncomputable def mss_DrawPlcTick : List PM := [.fz]
noncomputable def lss_DrawPlcTick : List (Nat × Code) := loopsAll 0 (Go.Proofs.Tryd.f41.body.getD .skip)

theorem ks_DrawPlcTick_0 : OrcOk Es_DrawPlcTick Os_DrawPlcTick_0 lss_DrawPlcTick 0 := orcOk_none
noncomputable def g_As_DrawPlcTick (a0 : List (Int)) : Bool := g_As_l20Open a0 && (g_pickA (g_Vs_l20Open_0 a0) (g_Vs_l20Open_1 a0) (5 : Int) && g_As_l20Disk (g_Vs_l20Open_0 a0) (IntKind.wrap IntKind.i64 (g_Vs_l20Open_1 a0 + (1 : Int))) (9 : Int))
noncomputable def g_Vs_DrawPlcTick_0 (a0 : List (Int)) : Int := g_pick (g_Vs_l20Open_0 a0) (g_Vs_l20Open_1 a0) (5 : Int)
noncomputable def g_Vs_DrawPlcTick_1 (a0 : List (Int)) : List ((Int) × ((Int) × ((List (ByteArray)) × (List ((ByteArray) × ((Bool) × (List (Int)))))))) := g_Vs_l20Disk_0 (g_Vs_l20Open_0 a0) (IntKind.wrap IntKind.i64 (g_Vs_l20Open_1 a0 + (1 : Int))) (9 : Int)
noncomputable def g_Vs_DrawPlcTick_2 (a0 : List (Int)) : Int := g_Vs_l20Disk_1 (g_Vs_l20Open_0 a0) (IntKind.wrap IntKind.i64 (g_Vs_l20Open_1 a0 + (1 : Int))) (9 : Int)
noncomputable def Fs_DrawPlcTick : FSem := fun ys => match ys with
  | [.val false [.sl .any 5 (.int .u8) a0]] => some ((g_As_DrawPlcTick a0), .tup [(false, [.int .i64 (g_Vs_DrawPlcTick_0 a0)]), (true, [.own .any false 59 (.pair (.int .i64) (.pair (.int .i64) (.pair (.sl 9 .str) (.sl 83 (.pair .str (.pair .bool (.sl 3 (.int .i64)))))))) (g_Vs_DrawPlcTick_1 a0), .int .i64 (g_Vs_DrawPlcTick_2 a0)])], [])
  | _ => none
theorem vs_DrawPlcTick (a0 : List (Int)) : collapseH .std Es_DrawPlcTick Os_DrawPlcTick_0 (execFn Es_DrawPlcTick Go.Proofs.Tryd.f41 mss_DrawPlcTick [.val false [.sl .any 5 (.int .u8) a0]]) = some ((g_As_DrawPlcTick a0), .tup [(false, [.int .i64 (g_Vs_DrawPlcTick_0 a0)]), (true, [.own .any false 59 (.pair (.int .i64) (.pair (.int .i64) (.pair (.sl 9 .str) (.sl 83 (.pair .str (.pair .bool (.sl 3 (.int .i64)))))))) (g_Vs_DrawPlcTick_1 a0), .int .i64 (g_Vs_DrawPlcTick_2 a0)])], []) := by kernel_rfl
theorem ss_DrawPlcTick : Sound Go.Proofs.Tryd.prog 41 mss_DrawPlcTick Fs_DrawPlcTick := by
  refine fn_gen goods_DrawPlcTick (by kernel_rfl) .std (fn := Go.Proofs.Tryd.f41) (c := (Go.Proofs.Tryd.f41.body.getD .skip)) (o := Os_DrawPlcTick_0) (k := 0) (by kernel_rfl) (by kernel_rfl) (by kernel_rfl) (by kernel_rfl) (by decide) ks_DrawPlcTick_0 ?_
  intro ys r outs h
  unfold Fs_DrawPlcTick at h
  split at h
  · exact (vs_DrawPlcTick _).trans h
  · cases h
end Go.Proofs.YtibafhmmnoijkaaDoor.E
end
section
namespace Go.Proofs.YtibafhmmnoijkaaDoor.E
open Go
set_option maxRecDepth 100000
set_option maxHeartbeats 0
set_option linter.all false
noncomputable def Es_l2Is : Env where
  tt := mkTI Go.Proofs.Tryd.prog
  fn := fun _ => none
  bxf := fun _ => none
  mv := []
  keep := fun b => match b with
    | 0 => [(0, false), (1, false), (5, false)]
    | _ => []
  keepB := fun b => match b with
    | 0 => []
    | _ => []
  keepX := fun b => match b with
    | 0 => [(4, false)]
    | _ => []
  keepXB := fun b => match b with
    | 0 => []
    | _ => []
theorem goodFs_l2Is : ∀ f ms F, Es_l2Is.fn f = some (ms, F) → Sound Go.Proofs.Tryd.prog f ms F := fun f ms F h => by cases h
theorem goodBs_l2Is : ∀ f ms F, Es_l2Is.bxf f = some (ms, F) → SoundB Go.Proofs.Tryd.prog f ms F := fun f ms F h => by cases h
theorem goods_l2Is : Good Go.Proofs.Tryd.prog Es_l2Is := ⟨rfl, goodFs_l2Is, goodBs_l2Is⟩
noncomputable def Os_l2Is_0 : Orc := fun _ _ => none
noncomputable def mss_l2Is : List PM := [.rd, .own]
noncomputable def lss_l2Is : List (Nat × Code) := loopsAll 0 (Go.Proofs.Tryd.f130.body.getD .skip)
noncomputable def cs_l2Is_0 : Code := (loopOf 0 (Go.Proofs.Tryd.f130.body.getD .skip)).getD .skip
theorem lseqs_l2Is : lss_l2Is = [(0, cs_l2Is_0)] := by kernel_rfl
theorem ms_l2Is_0 : ∀ p, p ∈ lss_l2Is → p.1 = 0 → p.2 = cs_l2Is_0 := by
  intro p hp
  rw [lseqs_l2Is] at hp
  simp only [List.mem_cons, List.not_mem_nil, or_false] at hp
  subst hp; simp
theorem ks_l2Is_0 : OrcOk Es_l2Is Os_l2Is_0 lss_l2Is 0 := orcOk_none
noncomputable def hs_l2Is_0 (y0 : List (Int)) (y1 : Int) (y2 : Int) : List (Pl × LV) := [(.T 0, .t (.val false [.sl .any 3 (.int .i64) y0])), (.T 1, .t (.val false [.int .i64 y1])), (.T 5, .t (.val false [.int .i64 y2]))]
noncomputable def g_Ss_l2Is_0 (y0 : List (Int)) (y1 : Int) : ((Int)) → RT ((Int)) (((Bool)) ⊕ (Unit))
  | y2 => .br (true) (.br (decide (y2 < (↑(List.length y0) : Int))) (.br (decide ((0 : Int) ≤ y2 ∧ y2 < (↑(List.length y0) : Int))) (.br (true) (.br (at_ (Ty.int IntKind.i64) y0 (Int.toNat y2) == y1) (.out (.inl true)) (.br (true) (.go (IntKind.wrap IntKind.i64 (y2 + (1 : Int)))) (.bad))) (.bad)) (.bad)) (.out (.inr (())))) (.bad)
noncomputable def g_Ls_l2Is_0 (y0 : List (Int)) (y1 : Int) (x : (Int)) : Option (((Bool)) ⊕ (Unit)) := loopO (g_Ss_l2Is_0 y0 y1) x
noncomputable def xs_l2Is_0 (y0 : List (Int)) (y1 : Int) : (((Bool)) ⊕ (Unit)) → Ex × List (Pl × LV) := fun
  | .inl r => (.ret, [(.T 4, .t (.val false [.bool r]))])
  | .inr (r) => (.exit 0, [(.T 4, .t (.val false [.undef]))])
noncomputable def Os_l2Is_1 : Orc := fun b h => match b, h with
  | 0, [(.T 0, .t (.val false [.sl .any 3 (.int .i64) y0])), (.T 1, .t (.val false [.int .i64 y1])), (.T 5, .t (.val false [.int .i64 y2]))] => some (okO (g_Ls_l2Is_0 y0 y1 y2), (.br (isL (valO (g_Ls_l2Is_0 y0 y1 y2))) (.leaf .ret [(.T 4, .t (.val false [.bool (getL (valO (g_Ls_l2Is_0 y0 y1 y2)))]))]) (.leaf (.exit 0) [(.T 4, .t (.val false [.undef]))])))
  | b, h => Os_l2Is_0 b h
theorem bs_l2Is_0 (y0 : List (Int)) (y1 : Int) (y2 : Int) : Tr.bt Es_l2Is Os_l2Is_0 (exec Es_l2Is 0 cs_l2Is_0 (St.of (hs_l2Is_0 y0 y1 y2)) (leafRd Es_l2Is 0)) = (g_Ss_l2Is_0 y0 y1 y2).bt (fun (y2 : (Int)) => (hs_l2Is_0 y0 y1 y2)) (xs_l2Is_0 y0 y1) := by kernel_rfl
theorem ks_l2Is_1 : OrcOk Es_l2Is Os_l2Is_1 lss_l2Is 1 := orc_add ks_l2Is_0 (fun n p hp h ex h' ho => by
  obtain ⟨b, c⟩ := p
  obtain ⟨xt, h1, h2⟩ := ho
  have h1 : Os_l2Is_1 b h = some (true, xt) := h1
  unfold Os_l2Is_1 at h1
  split at h1
  · injection h1 with h1
    injection h1 with e1 e2
    subst e2
    have hc : c = cs_l2Is_0 := ms_l2Is_0 _ hp rfl
    subst hc
    right
    rename_i y0 y1 y2
    have key := LT_step ks_l2Is_0 hp (fun q hq => loopsAll_in _ _ _ _ hp hq) (fun (y2 : (Int)) => (hs_l2Is_0 y0 y1 y2)) (xs_l2Is_0 y0 y1) (g_Ss_l2Is_0 y0 y1) (fun x => by first | exact bs_l2Is_0 y0 y1 x) n (x := y2) (okO_some e1)
    have hx : ∀ r, XT.sel (.br (isL r) (.leaf .ret [(.T 4, .t (.val false [.bool (getL r)]))]) (.leaf (.exit 0) [(.T 4, .t (.val false [.undef]))])) = xs_l2Is_0 y0 y1 r := fun r => by first | rfl | (rcases r with r | r <;> rfl) | (rcases r with r | r | r <;> rfl) | (rcases r with r | r | r | r <;> rfl)
    have h3 := (hx (valO (g_Ls_l2Is_0 y0 y1 y2))).symm.trans h2
    have e3 := congrArg Prod.fst h3
    have e4 := congrArg Prod.snd h3
    simp only at e3 e4
    rw [← e3, ← e4]
    exact key
  · exact .inl ⟨xt, h1, h2⟩)
noncomputable def g_As_l2Is (a0 : List (Int)) (a1 : Int) : Bool := okO (g_Ls_l2Is_0 a0 a1 (0 : Int))
noncomputable def g_Vs_l2Is_0 (a0 : List (Int)) (a1 : Int) : Bool := bif isL (valO (g_Ls_l2Is_0 a0 a1 (0 : Int))) then getL (valO (g_Ls_l2Is_0 a0 a1 (0 : Int))) else false
noncomputable def Fs_l2Is : FSem := fun ys => match ys with
  | [.val false [.sl .any 3 (.int .i64) a0], .val false [.int .i64 a1]] => some ((g_As_l2Is a0 a1), .val false [.bool (g_Vs_l2Is_0 a0 a1)], [])
  | _ => none
theorem vs_l2Is (a0 : List (Int)) (a1 : Int) : collapseH .std Es_l2Is Os_l2Is_1 (execFn Es_l2Is Go.Proofs.Tryd.f130 mss_l2Is [.val false [.sl .any 3 (.int .i64) a0], .val false [.int .i64 a1]]) = some ((g_As_l2Is a0 a1), .val false [.bool (g_Vs_l2Is_0 a0 a1)], []) := by kernel_rfl
theorem ss_l2Is : Sound Go.Proofs.Tryd.prog 130 mss_l2Is Fs_l2Is := by
  refine fn_gen goods_l2Is (by kernel_rfl) .std (fn := Go.Proofs.Tryd.f130) (c := (Go.Proofs.Tryd.f130.body.getD .skip)) (o := Os_l2Is_1) (k := 1) (by kernel_rfl) (by kernel_rfl) (by kernel_rfl) (by kernel_rfl) (by decide) ks_l2Is_1 ?_
  intro ys r outs h
  unfold Fs_l2Is at h
  split at h
  · exact (vs_l2Is _ _).trans h
  · cases h
end Go.Proofs.YtibafhmmnoijkaaDoor.E
end
section
namespace Go.Proofs.YtibafhmmnoijkaaDoor.E
open Go
set_option maxRecDepth 100000
set_option maxHeartbeats 0
set_option linter.all false
noncomputable def Es_l2Of : Env where
  tt := mkTI Go.Proofs.Tryd.prog
  fn := fun _ => none
  bxf := fun _ => none
  mv := []
  keep := fun b => match b with
    | 0 => [(0, false), (1, false), (5, false), (6, false)]
    | _ => []
  keepB := fun b => match b with
    | 0 => []
    | _ => []
  keepX := fun b => match b with
    | 0 => [(5, false)]
    | _ => []
  keepXB := fun b => match b with
    | 0 => []
    | _ => []
theorem goodFs_l2Of : ∀ f ms F, Es_l2Of.fn f = some (ms, F) → Sound Go.Proofs.Tryd.prog f ms F := fun f ms F h => by cases h
theorem goodBs_l2Of : ∀ f ms F, Es_l2Of.bxf f = some (ms, F) → SoundB Go.Proofs.Tryd.prog f ms F := fun f ms F h => by cases h
theorem goods_l2Of : Good Go.Proofs.Tryd.prog Es_l2Of := ⟨rfl, goodFs_l2Of, goodBs_l2Of⟩
noncomputable def Os_l2Of_0 : Orc := fun _ _ => none
noncomputable def mss_l2Of : List PM := [.rd, .own]
noncomputable def lss_l2Of : List (Nat × Code) := loopsAll 0 (Go.Proofs.Tryd.f74.body.getD .skip)
noncomputable def cs_l2Of_0 : Code := (loopOf 0 (Go.Proofs.Tryd.f74.body.getD .skip)).getD .skip
theorem lseqs_l2Of : lss_l2Of = [(0, cs_l2Of_0)] := by kernel_rfl
theorem ms_l2Of_0 : ∀ p, p ∈ lss_l2Of → p.1 = 0 → p.2 = cs_l2Of_0 := by
  intro p hp
  rw [lseqs_l2Of] at hp
  simp only [List.mem_cons, List.not_mem_nil, or_false] at hp
  subst hp; simp
theorem ks_l2Of_0 : OrcOk Es_l2Of Os_l2Of_0 lss_l2Of 0 := orcOk_none
noncomputable def hs_l2Of_0 (y0 : List ((Int) × ((Int) × ((List (ByteArray)) × (List ((ByteArray) × ((Bool) × (List (Int))))))))) (y1 : Int) (y2 : Int) (y3 : Int) : List (Pl × LV) := [(.T 0, .t (.val false [.sl .any 59 (.pair (.int .i64) (.pair (.int .i64) (.pair (.sl 9 .str) (.sl 83 (.pair .str (.pair .bool (.sl 3 (.int .i64)))))))) y0])), (.T 1, .t (.val false [.int .i64 y1])), (.T 5, .t (.val false [.int .i64 y2])), (.T 6, .t (.val false [.int .i64 y3]))]
noncomputable def g_Ss_l2Of_0 (y0 : List ((Int) × ((Int) × ((List (ByteArray)) × (List ((ByteArray) × ((Bool) × (List (Int))))))))) (y1 : Int) : ((Int) × (Int)) → RT ((Int) × (Int)) (((Int)))
  | (y2, y3) => .br (true) (.br (decide (y3 < (↑(List.length y0) : Int))) (.br (decide ((0 : Int) ≤ y3 ∧ y3 < (↑(List.length y0) : Int))) (.br (true) (.br ((at_ (Ty.pair (Ty.int IntKind.i64) (Ty.pair (Ty.int IntKind.i64) (Ty.pair (Ty.sl (nat_lit 9) Ty.str) (Ty.sl (nat_lit 83) (Ty.pair Ty.str (Ty.pair Ty.bool (Ty.sl (nat_lit 3) (Ty.int IntKind.i64)))))))) y0 (Int.toNat y3)).2.1 == y1) (.br (decide ((0 : Int) ≤ y3 ∧ y3 < (↑(List.length y0) : Int))) (.br (true) (.br ((at_ (Ty.pair (Ty.int IntKind.i64) (Ty.pair (Ty.int IntKind.i64) (Ty.pair (Ty.sl (nat_lit 9) Ty.str) (Ty.sl (nat_lit 83) (Ty.pair Ty.str (Ty.pair Ty.bool (Ty.sl (nat_lit 3) (Ty.int IntKind.i64)))))))) y0 (Int.toNat y3)).1 != (4 : Int)) (.br (decide ((0 : Int) ≤ y3 ∧ y3 < (↑(List.length y0) : Int))) (.br (true) (.go (((at_ (Ty.pair (Ty.int IntKind.i64) (Ty.pair (Ty.int IntKind.i64) (Ty.pair (Ty.sl (nat_lit 9) Ty.str) (Ty.sl (nat_lit 83) (Ty.pair Ty.str (Ty.pair Ty.bool (Ty.sl (nat_lit 3) (Ty.int IntKind.i64)))))))) y0 (Int.toNat y3)).1, IntKind.wrap IntKind.i64 (y3 + (1 : Int))))) (.bad)) (.bad)) (.br (true) (.go ((y2, IntKind.wrap IntKind.i64 (y3 + (1 : Int))))) (.bad))) (.bad)) (.bad)) (.br (true) (.go ((y2, IntKind.wrap IntKind.i64 (y3 + (1 : Int))))) (.bad))) (.bad)) (.bad)) (.out (y2))) (.bad)
noncomputable def g_Ls_l2Of_0 (y0 : List ((Int) × ((Int) × ((List (ByteArray)) × (List ((ByteArray) × ((Bool) × (List (Int))))))))) (y1 : Int) (x : (Int) × (Int)) : Option (((Int))) := loopO (g_Ss_l2Of_0 y0 y1) x
noncomputable def xs_l2Of_0 (y0 : List ((Int) × ((Int) × ((List (ByteArray)) × (List ((ByteArray) × ((Bool) × (List (Int))))))))) (y1 : Int) : (((Int))) → Ex × List (Pl × LV) := fun r => (.exit 0, [(.T 5, .t (.val false [.int .i64 r]))])
noncomputable def Os_l2Of_1 : Orc := fun b h => match b, h with
  | 0, [(.T 0, .t (.val false [.sl .any 59 (.pair (.int .i64) (.pair (.int .i64) (.pair (.sl 9 .str) (.sl 83 (.pair .str (.pair .bool (.sl 3 (.int .i64)))))))) y0])), (.T 1, .t (.val false [.int .i64 y1])), (.T 5, .t (.val false [.int .i64 y2])), (.T 6, .t (.val false [.int .i64 y3]))] => some (okO (g_Ls_l2Of_0 y0 y1 (y2, y3)), (.leaf (.exit 0) [(.T 5, .t (.val false [.int .i64 (valO (g_Ls_l2Of_0 y0 y1 (y2, y3)))]))]))
  | b, h => Os_l2Of_0 b h
theorem bs_l2Of_0 (y0 : List ((Int) × ((Int) × ((List (ByteArray)) × (List ((ByteArray) × ((Bool) × (List (Int))))))))) (y1 : Int) (y2 : Int) (y3 : Int) : Tr.bt Es_l2Of Os_l2Of_0 (exec Es_l2Of 0 cs_l2Of_0 (St.of (hs_l2Of_0 y0 y1 y2 y3)) (leafRd Es_l2Of 0)) = (g_Ss_l2Of_0 y0 y1 (y2, y3)).bt (fun ((y2, y3) : (Int) × (Int)) => (hs_l2Of_0 y0 y1 y2 y3)) (xs_l2Of_0 y0 y1) := by kernel_rfl
theorem ks_l2Of_1 : OrcOk Es_l2Of Os_l2Of_1 lss_l2Of 1 := orc_add ks_l2Of_0 (fun n p hp h ex h' ho => by
  obtain ⟨b, c⟩ := p
  obtain ⟨xt, h1, h2⟩ := ho
  have h1 : Os_l2Of_1 b h = some (true, xt) := h1
  unfold Os_l2Of_1 at h1
  split at h1
  · injection h1 with h1
    injection h1 with e1 e2
    subst e2
    have hc : c = cs_l2Of_0 := ms_l2Of_0 _ hp rfl
    subst hc
    right
    rename_i y0 y1 y2 y3
    have key := LT_step ks_l2Of_0 hp (fun q hq => loopsAll_in _ _ _ _ hp hq) (fun ((y2, y3) : (Int) × (Int)) => (hs_l2Of_0 y0 y1 y2 y3)) (xs_l2Of_0 y0 y1) (g_Ss_l2Of_0 y0 y1) (fun x => by first | exact bs_l2Of_0 y0 y1 x.1 x.2) n (x := (y2, y3)) (okO_some e1)
    have hx : ∀ r, XT.sel (.leaf (.exit 0) [(.T 5, .t (.val false [.int .i64 r]))]) = xs_l2Of_0 y0 y1 r := fun r => by first | rfl | (rcases r with r | r <;> rfl) | (rcases r with r | r | r <;> rfl) | (rcases r with r | r | r | r <;> rfl)
    have h3 := (hx (valO (g_Ls_l2Of_0 y0 y1 (y2, y3)))).symm.trans h2
    have e3 := congrArg Prod.fst h3
    have e4 := congrArg Prod.snd h3
    simp only at e3 e4
    rw [← e3, ← e4]
    exact key
  · exact .inl ⟨xt, h1, h2⟩)
noncomputable def g_As_l2Of (a0 : List ((Int) × ((Int) × ((List (ByteArray)) × (List ((ByteArray) × ((Bool) × (List (Int))))))))) (a1 : Int) : Bool := okO (g_Ls_l2Of_0 a0 a1 ((0 : Int), (0 : Int)))
noncomputable def g_Vs_l2Of_0 (a0 : List ((Int) × ((Int) × ((List (ByteArray)) × (List ((ByteArray) × ((Bool) × (List (Int))))))))) (a1 : Int) : Int := valO (g_Ls_l2Of_0 a0 a1 ((0 : Int), (0 : Int)))
noncomputable def Fs_l2Of : FSem := fun ys => match ys with
  | [.val false [.sl .any 59 (.pair (.int .i64) (.pair (.int .i64) (.pair (.sl 9 .str) (.sl 83 (.pair .str (.pair .bool (.sl 3 (.int .i64)))))))) a0], .val false [.int .i64 a1]] => some ((g_As_l2Of a0 a1), .val false [.int .i64 (g_Vs_l2Of_0 a0 a1)], [])
  | _ => none
theorem vs_l2Of (a0 : List ((Int) × ((Int) × ((List (ByteArray)) × (List ((ByteArray) × ((Bool) × (List (Int))))))))) (a1 : Int) : collapseH .std Es_l2Of Os_l2Of_1 (execFn Es_l2Of Go.Proofs.Tryd.f74 mss_l2Of [.val false [.sl .any 59 (.pair (.int .i64) (.pair (.int .i64) (.pair (.sl 9 .str) (.sl 83 (.pair .str (.pair .bool (.sl 3 (.int .i64)))))))) a0], .val false [.int .i64 a1]]) = some ((g_As_l2Of a0 a1), .val false [.int .i64 (g_Vs_l2Of_0 a0 a1)], []) := by kernel_rfl
theorem ss_l2Of : Sound Go.Proofs.Tryd.prog 74 mss_l2Of Fs_l2Of := by
  refine fn_gen goods_l2Of (by kernel_rfl) .std (fn := Go.Proofs.Tryd.f74) (c := (Go.Proofs.Tryd.f74.body.getD .skip)) (o := Os_l2Of_1) (k := 1) (by kernel_rfl) (by kernel_rfl) (by kernel_rfl) (by kernel_rfl) (by decide) ks_l2Of_1 ?_
  intro ys r outs h
  unfold Fs_l2Of at h
  split at h
  · exact (vs_l2Of _ _).trans h
  · cases h
end Go.Proofs.YtibafhmmnoijkaaDoor.E
end
section
namespace Go.Proofs.YtibafhmmnoijkaaDoor.E
open Go
set_option maxRecDepth 100000
set_option maxHeartbeats 0
set_option linter.all false
noncomputable def Es_DiskOpen : Env where
  tt := mkTI Go.Proofs.Tryd.prog
  fn := fun f => match f with
    | 24 => some (mss_DiskOk, FSem.wk mss_DiskOk Fs_DiskOk)
    | 74 => some (mss_l2Of, FSem.wk mss_l2Of Fs_l2Of)
    | 130 => some (mss_l2Is, FSem.wk mss_l2Is Fs_l2Is)
    | _ => none
  bxf := fun _ => none
  mv := []
  keep := fun b => match b with
    | 0 => [(1, false), (3, false), (4, false)]
    | _ => []
  keepB := fun b => match b with
    | 0 => [(1, false)]
    | _ => []
  keepX := fun b => match b with
    | 0 => [(3, false)]
    | _ => []
  keepXB := fun b => match b with
    | 0 => []
    | _ => []
theorem goodFs_DiskOpen : ∀ f ms F, Es_DiskOpen.fn f = some (ms, F) → Sound Go.Proofs.Tryd.prog f ms F := fun f ms F h => by
  unfold Es_DiskOpen at h
  dsimp only at h
  split at h
  · injection h with h; injection h with e1 e2; subst e1 e2; exact Sound.wk ss_DiskOk
  · injection h with h; injection h with e1 e2; subst e1 e2; exact Sound.wk ss_l2Of
  · injection h with h; injection h with e1 e2; subst e1 e2; exact Sound.wk ss_l2Is
  · cases h
theorem goodBs_DiskOpen : ∀ f ms F, Es_DiskOpen.bxf f = some (ms, F) → SoundB Go.Proofs.Tryd.prog f ms F := fun f ms F h => by cases h
theorem goods_DiskOpen : Good Go.Proofs.Tryd.prog Es_DiskOpen := ⟨rfl, goodFs_DiskOpen, goodBs_DiskOpen⟩
noncomputable def Os_DiskOpen_0 : Orc := fun _ _ => none
noncomputable def mss_DiskOpen : List PM := [.rd]
noncomputable def lss_DiskOpen : List (Nat × Code) := loopsAll 0 (Go.Proofs.Tryd.f88.body.getD .skip)
noncomputable def cs_DiskOpen_0 : Code := (loopOf 0 (Go.Proofs.Tryd.f88.body.getD .skip)).getD .skip
theorem lseqs_DiskOpen : lss_DiskOpen = [(0, cs_DiskOpen_0)] := by kernel_rfl
theorem ms_DiskOpen_0 : ∀ p, p ∈ lss_DiskOpen → p.1 = 0 → p.2 = cs_DiskOpen_0 := by
  intro p hp
  rw [lseqs_DiskOpen] at hp
  simp only [List.mem_cons, List.not_mem_nil, or_false] at hp
  subst hp; simp
theorem ks_DiskOpen_0 : OrcOk Es_DiskOpen Os_DiskOpen_0 lss_DiskOpen 0 := orcOk_none
noncomputable def hs_DiskOpen_0 (y0 : List (Int)) (y1 : Int) (y2 : List ((Int) × ((Int) × ((List (ByteArray)) × (List ((ByteArray) × ((Bool) × (List (Int))))))))) (y3 : Int) : List (Pl × LV) := [(.T 1, .t (.val false [.ptr 1 0 0])), (.T 3, .t (.val false [.row 3 0 0])), (.R 3 0, .r 0 (some ⟨false, .non, true, 3, (.int .i64), y0⟩)), (.T 4, .t (.val false [.int .i64 y1])), (.B 1, .b 0 false [.sl .any 59 (.pair (.int .i64) (.pair (.int .i64) (.pair (.sl 9 .str) (.sl 83 (.pair .str (.pair .bool (.sl 3 (.int .i64)))))))) y2, .int .i64 y3])]
noncomputable def g_Ss_DiskOpen_0 (y2 : List ((Int) × ((Int) × ((List (ByteArray)) × (List ((ByteArray) × ((Bool) × (List (Int))))))))) (y3 : Int) : ((List (Int)) × (Int)) → RT ((List (Int)) × (Int)) (((List (Int))))
  | (y0, y1) => .br (true) (.br (decide (y1 < (↑(List.length y2) : Int))) (.br (decide ((0 : Int) ≤ y1 ∧ y1 < (↑(List.length y2) : Int))) (.br (true) (.br ((at_ (Ty.pair (Ty.int IntKind.i64) (Ty.pair (Ty.int IntKind.i64) (Ty.pair (Ty.sl (nat_lit 9) Ty.str) (Ty.sl (nat_lit 83) (Ty.pair Ty.str (Ty.pair Ty.bool (Ty.sl (nat_lit 3) (Ty.int IntKind.i64)))))))) y2 (Int.toNat y1)).1 == (1 : Int)) (.br (decide ((0 : Int) ≤ y1 ∧ y1 ≤ (↑(List.length y2) : Int))) (.br (g_As_l2Of (List.drop (Int.toNat y1) (List.take (List.length y2) y2)) (at_ (Ty.pair (Ty.int IntKind.i64) (Ty.pair (Ty.int IntKind.i64) (Ty.pair (Ty.sl (nat_lit 9) Ty.str) (Ty.sl (nat_lit 83) (Ty.pair Ty.str (Ty.pair Ty.bool (Ty.sl (nat_lit 3) (Ty.int IntKind.i64)))))))) y2 (Int.toNat y1)).2.1) (.br (true) (.br (g_Vs_l2Of_0 (List.drop (Int.toNat y1) (List.take (List.length y2) y2)) (at_ (Ty.pair (Ty.int IntKind.i64) (Ty.pair (Ty.int IntKind.i64) (Ty.pair (Ty.sl (nat_lit 9) Ty.str) (Ty.sl (nat_lit 83) (Ty.pair Ty.str (Ty.pair Ty.bool (Ty.sl (nat_lit 3) (Ty.int IntKind.i64)))))))) y2 (Int.toNat y1)).2.1 == (1 : Int)) (.br (g_As_l2Is y0 (at_ (Ty.pair (Ty.int IntKind.i64) (Ty.pair (Ty.int IntKind.i64) (Ty.pair (Ty.sl (nat_lit 9) Ty.str) (Ty.sl (nat_lit 83) (Ty.pair Ty.str (Ty.pair Ty.bool (Ty.sl (nat_lit 3) (Ty.int IntKind.i64)))))))) y2 (Int.toNat y1)).2.1) (.br (!g_Vs_l2Is_0 y0 (at_ (Ty.pair (Ty.int IntKind.i64) (Ty.pair (Ty.int IntKind.i64) (Ty.pair (Ty.sl (nat_lit 9) Ty.str) (Ty.sl (nat_lit 83) (Ty.pair Ty.str (Ty.pair Ty.bool (Ty.sl (nat_lit 3) (Ty.int IntKind.i64)))))))) y2 (Int.toNat y1)).2.1) (.br (decide ((List.length y0 + List.length [(at_ (Ty.pair (Ty.int IntKind.i64) (Ty.pair (Ty.int IntKind.i64) (Ty.pair (Ty.sl (nat_lit 9) Ty.str) (Ty.sl (nat_lit 83) (Ty.pair Ty.str (Ty.pair Ty.bool (Ty.sl (nat_lit 3) (Ty.int IntKind.i64)))))))) y2 (Int.toNat y1)).2.1]) * nat_lit 8 ≤ nat_lit 140737488355328 ∧ List.length y0 + List.length [(at_ (Ty.pair (Ty.int IntKind.i64) (Ty.pair (Ty.int IntKind.i64) (Ty.pair (Ty.sl (nat_lit 9) Ty.str) (Ty.sl (nat_lit 83) (Ty.pair Ty.str (Ty.pair Ty.bool (Ty.sl (nat_lit 3) (Ty.int IntKind.i64)))))))) y2 (Int.toNat y1)).2.1] ≤ nat_lit 9223372036854775807)) (.br (true) (.go ((y0 ++ [(at_ (Ty.pair (Ty.int IntKind.i64) (Ty.pair (Ty.int IntKind.i64) (Ty.pair (Ty.sl (nat_lit 9) Ty.str) (Ty.sl (nat_lit 83) (Ty.pair Ty.str (Ty.pair Ty.bool (Ty.sl (nat_lit 3) (Ty.int IntKind.i64)))))))) y2 (Int.toNat y1)).2.1], IntKind.wrap IntKind.i64 (y1 + (1 : Int))))) (.bad)) (.bad)) (.br (true) (.go ((y0, IntKind.wrap IntKind.i64 (y1 + (1 : Int))))) (.bad))) (.bad)) (.br (true) (.go ((y0, IntKind.wrap IntKind.i64 (y1 + (1 : Int))))) (.bad))) (.bad)) (.bad)) (.bad)) (.br (true) (.go ((y0, IntKind.wrap IntKind.i64 (y1 + (1 : Int))))) (.bad))) (.bad)) (.bad)) (.out (y0))) (.bad)
noncomputable def g_Ls_DiskOpen_0 (y2 : List ((Int) × ((Int) × ((List (ByteArray)) × (List ((ByteArray) × ((Bool) × (List (Int))))))))) (y3 : Int) (x : (List (Int)) × (Int)) : Option (((List (Int)))) := loopO (g_Ss_DiskOpen_0 y2 y3) x
noncomputable def xs_DiskOpen_0 (y2 : List ((Int) × ((Int) × ((List (ByteArray)) × (List ((ByteArray) × ((Bool) × (List (Int))))))))) (y3 : Int) : (((List (Int)))) → Ex × List (Pl × LV) := fun r => (.exit 0, [(.T 3, .t (.val false [.row 3 0 0])), (.R 3 0, .r 0 (some ⟨false, .non, true, 3, (.int .i64), r⟩))])
noncomputable def Os_DiskOpen_1 : Orc := fun b h => match b, h with
  | 0, [(.T 1, .t (.val false [.ptr 1 0 0])), (.T 3, .t (.val false [.row 3 0 0])), (.R 3 0, .r 0 (some ⟨false, .non, true, 3, (.int .i64), y0⟩)), (.T 4, .t (.val false [.int .i64 y1])), (.B 1, .b 0 false [.sl .any 59 (.pair (.int .i64) (.pair (.int .i64) (.pair (.sl 9 .str) (.sl 83 (.pair .str (.pair .bool (.sl 3 (.int .i64)))))))) y2, .int .i64 y3])] => some (okO (g_Ls_DiskOpen_0 y2 y3 (y0, y1)), (.leaf (.exit 0) [(.T 3, .t (.val false [.row 3 0 0])), (.R 3 0, .r 0 (some ⟨false, .non, true, 3, (.int .i64), (valO (g_Ls_DiskOpen_0 y2 y3 (y0, y1)))⟩))]))
  | b, h => Os_DiskOpen_0 b h
theorem bs_DiskOpen_0 (y0 : List (Int)) (y1 : Int) (y2 : List ((Int) × ((Int) × ((List (ByteArray)) × (List ((ByteArray) × ((Bool) × (List (Int))))))))) (y3 : Int) : Tr.bt Es_DiskOpen Os_DiskOpen_0 (exec Es_DiskOpen 0 cs_DiskOpen_0 (St.of (hs_DiskOpen_0 y0 y1 y2 y3)) (leafRd Es_DiskOpen 0)) = (g_Ss_DiskOpen_0 y2 y3 (y0, y1)).bt (fun ((y0, y1) : (List (Int)) × (Int)) => (hs_DiskOpen_0 y0 y1 y2 y3)) (xs_DiskOpen_0 y2 y3) := by kernel_rfl
theorem ks_DiskOpen_1 : OrcOk Es_DiskOpen Os_DiskOpen_1 lss_DiskOpen 1 := orc_add ks_DiskOpen_0 (fun n p hp h ex h' ho => by
  obtain ⟨b, c⟩ := p
  obtain ⟨xt, h1, h2⟩ := ho
  have h1 : Os_DiskOpen_1 b h = some (true, xt) := h1
  unfold Os_DiskOpen_1 at h1
  split at h1
  · injection h1 with h1
    injection h1 with e1 e2
    subst e2
    have hc : c = cs_DiskOpen_0 := ms_DiskOpen_0 _ hp rfl
    subst hc
    right
    rename_i y0 y1 y2 y3
    have key := LT_step ks_DiskOpen_0 hp (fun q hq => loopsAll_in _ _ _ _ hp hq) (fun ((y0, y1) : (List (Int)) × (Int)) => (hs_DiskOpen_0 y0 y1 y2 y3)) (xs_DiskOpen_0 y2 y3) (g_Ss_DiskOpen_0 y2 y3) (fun x => by first | exact bs_DiskOpen_0 x.1 x.2 y2 y3) n (x := (y0, y1)) (okO_some e1)
    have hx : ∀ r, XT.sel (.leaf (.exit 0) [(.T 3, .t (.val false [.row 3 0 0])), (.R 3 0, .r 0 (some ⟨false, .non, true, 3, (.int .i64), r⟩))]) = xs_DiskOpen_0 y2 y3 r := fun r => by first | rfl | (rcases r with r | r <;> rfl) | (rcases r with r | r | r <;> rfl) | (rcases r with r | r | r | r <;> rfl)
    have h3 := (hx (valO (g_Ls_DiskOpen_0 y2 y3 (y0, y1)))).symm.trans h2
    have e3 := congrArg Prod.fst h3
    have e4 := congrArg Prod.snd h3
    simp only at e3 e4
    rw [← e3, ← e4]
    exact key
  · exact .inl ⟨xt, h1, h2⟩)
noncomputable def g_As_DiskOpen (a0 : List ((Int) × ((Int) × ((List (ByteArray)) × (List ((ByteArray) × ((Bool) × (List (Int))))))))) (a1 : Int) : Bool := g_As_DiskOk a0 a1 && (!g_Vs_DiskOk_0 a0 a1 || okO (g_Ls_DiskOpen_0 a0 a1 ([], (0 : Int))))
noncomputable def g_Vs_DiskOpen_0 (a0 : List ((Int) × ((Int) × ((List (ByteArray)) × (List ((ByteArray) × ((Bool) × (List (Int))))))))) (a1 : Int) : List (Int) := bif !g_Vs_DiskOk_0 a0 a1 then [] else valO (g_Ls_DiskOpen_0 a0 a1 ([], (0 : Int)))
noncomputable def Fs_DiskOpen : FSem := fun ys => match ys with
  | [.val true [.sl .any 59 (.pair (.int .i64) (.pair (.int .i64) (.pair (.sl 9 .str) (.sl 83 (.pair .str (.pair .bool (.sl 3 (.int .i64)))))))) a0, .int .i64 a1]] => some ((g_As_DiskOpen a0 a1), .val false [.own .any true 3 (.int .i64) (g_Vs_DiskOpen_0 a0 a1)], [])
  | _ => none
theorem vs_DiskOpen (a0 : List ((Int) × ((Int) × ((List (ByteArray)) × (List ((ByteArray) × ((Bool) × (List (Int))))))))) (a1 : Int) : collapseH .std Es_DiskOpen Os_DiskOpen_1 (execFn Es_DiskOpen Go.Proofs.Tryd.f88 mss_DiskOpen [.val true [.sl .any 59 (.pair (.int .i64) (.pair (.int .i64) (.pair (.sl 9 .str) (.sl 83 (.pair .str (.pair .bool (.sl 3 (.int .i64)))))))) a0, .int .i64 a1]]) = some ((g_As_DiskOpen a0 a1), .val false [.own .any true 3 (.int .i64) (g_Vs_DiskOpen_0 a0 a1)], []) := by kernel_rfl
theorem ss_DiskOpen : Sound Go.Proofs.Tryd.prog 88 mss_DiskOpen Fs_DiskOpen := by
  refine fn_gen goods_DiskOpen (by kernel_rfl) .std (fn := Go.Proofs.Tryd.f88) (c := (Go.Proofs.Tryd.f88.body.getD .skip)) (o := Os_DiskOpen_1) (k := 1) (by kernel_rfl) (by kernel_rfl) (by kernel_rfl) (by kernel_rfl) (by decide) ks_DiskOpen_1 ?_
  intro ys r outs h
  unfold Fs_DiskOpen at h
  split at h
  · exact (vs_DiskOpen _ _).trans h
  · cases h
end Go.Proofs.YtibafhmmnoijkaaDoor.E
end
section
namespace Go.Proofs.YtibafhmmnoijkaaDoor.E
open Go
set_option maxRecDepth 100000
set_option maxHeartbeats 0
set_option linter.all false
noncomputable def Es_l5Back : Env where
  tt := mkTI Go.Proofs.Tryd.prog
  fn := fun _ => none
  bxf := fun _ => none
  mv := []
  keep := fun _ => []
  keepB := fun _ => []
  keepX := fun _ => []
  keepXB := fun _ => []
theorem goodFs_l5Back : ∀ f ms F, Es_l5Back.fn f = some (ms, F) → Sound Go.Proofs.Tryd.prog f ms F := fun f ms F h => by cases h
theorem goodBs_l5Back : ∀ f ms F, Es_l5Back.bxf f = some (ms, F) → SoundB Go.Proofs.Tryd.prog f ms F := fun f ms F h => by cases h
theorem goods_l5Back : Good Go.Proofs.Tryd.prog Es_l5Back := ⟨rfl, goodFs_l5Back, goodBs_l5Back⟩
noncomputable def Os_l5Back_0 : Orc := fun _ _ => none
noncomputable def mss_l5Back : List PM := [.own, .own, .own]
noncomputable def lss_l5Back : List (Nat × Code) := loopsAll 0 (Go.Proofs.Tryd.f89.body.getD .skip)

theorem ks_l5Back_0 : OrcOk Es_l5Back Os_l5Back_0 lss_l5Back 0 := orcOk_none
noncomputable def g_Vs_l5Back_0 (a0 : Int) (a1 : Int) (a2 : Int) : List ((Int) × ((Int) × ((Int) × ((Int) × ((Int) × ((Int) × ((Int) × ((Int) × ((Int) × ((Int) × (Int))))))))))) := [(a0, (0 : Int), a1, a2, (0 : Int), (0 : Int), (0 : Int), (0 : Int), (0 : Int), (0 : Int), (0 : Int))]
noncomputable def Fs_l5Back : FSem := fun ys => match ys with
  | [.val false [.int .i64 a0], .val false [.int .i64 a1], .val false [.int .i64 a2]] => some (true, .val false [.own .any true 76 (.pair (.int .i64) (.pair (.int .i64) (.pair (.int .i64) (.pair (.int .i64) (.pair (.int .i64) (.pair (.int .i64) (.pair (.int .i64) (.pair (.int .i64) (.pair (.int .i64) (.pair (.int .i64) (.int .i64))))))))))) (g_Vs_l5Back_0 a0 a1 a2)], [])
  | _ => none
theorem vs_l5Back (a0 : Int) (a1 : Int) (a2 : Int) : collapseH .std Es_l5Back Os_l5Back_0 (execFn Es_l5Back Go.Proofs.Tryd.f89 mss_l5Back [.val false [.int .i64 a0], .val false [.int .i64 a1], .val false [.int .i64 a2]]) = some (true, .val false [.own .any true 76 (.pair (.int .i64) (.pair (.int .i64) (.pair (.int .i64) (.pair (.int .i64) (.pair (.int .i64) (.pair (.int .i64) (.pair (.int .i64) (.pair (.int .i64) (.pair (.int .i64) (.pair (.int .i64) (.int .i64))))))))))) (g_Vs_l5Back_0 a0 a1 a2)], []) := by kernel_rfl
theorem ss_l5Back : Sound Go.Proofs.Tryd.prog 89 mss_l5Back Fs_l5Back := by
  refine fn_gen goods_l5Back (by kernel_rfl) .std (fn := Go.Proofs.Tryd.f89) (c := (Go.Proofs.Tryd.f89.body.getD .skip)) (o := Os_l5Back_0) (k := 0) (by kernel_rfl) (by kernel_rfl) (by kernel_rfl) (by kernel_rfl) (by decide) ks_l5Back_0 ?_
  intro ys r outs h
  unfold Fs_l5Back at h
  split at h
  · exact (vs_l5Back _ _ _).trans h
  · cases h
end Go.Proofs.YtibafhmmnoijkaaDoor.E
end
section
namespace Go.Proofs.YtibafhmmnoijkaaDoor.E
open Go
set_option maxRecDepth 100000
set_option maxHeartbeats 0
set_option linter.all false
noncomputable def Es_PlcTick : Env where
  tt := mkTI Go.Proofs.Tryd.prog
  fn := fun f => match f with
    | 63 => some (mss_l1In, FSem.wk mss_l1In Fs_l1In)
    | 88 => some (mss_DiskOpen, FSem.wk mss_DiskOpen Fs_DiskOpen)
    | 89 => some (mss_l5Back, FSem.wk mss_l5Back Fs_l5Back)
    | _ => none
  bxf := fun _ => none
  mv := []
  keep := fun b => match b with
    | 0 => [(0, false), (5, false), (6, false), (7, false)]
    | _ => []
  keepB := fun b => match b with
    | 0 => []
    | _ => []
  keepX := fun b => match b with
    | 0 => [(5, false)]
    | _ => []
  keepXB := fun b => match b with
    | 0 => []
    | _ => []
theorem goodFs_PlcTick : ∀ f ms F, Es_PlcTick.fn f = some (ms, F) → Sound Go.Proofs.Tryd.prog f ms F := fun f ms F h => by
  unfold Es_PlcTick at h
  dsimp only at h
  split at h
  · injection h with h; injection h with e1 e2; subst e1 e2; exact Sound.wk ss_l1In
  · injection h with h; injection h with e1 e2; subst e1 e2; exact Sound.wk ss_DiskOpen
  · injection h with h; injection h with e1 e2; subst e1 e2; exact Sound.wk ss_l5Back
  · cases h
theorem goodBs_PlcTick : ∀ f ms F, Es_PlcTick.bxf f = some (ms, F) → SoundB Go.Proofs.Tryd.prog f ms F := fun f ms F h => by cases h
theorem goods_PlcTick : Good Go.Proofs.Tryd.prog Es_PlcTick := ⟨rfl, goodFs_PlcTick, goodBs_PlcTick⟩
noncomputable def Os_PlcTick_0 : Orc := fun _ _ => none
noncomputable def mss_PlcTick : List PM := [.own, .rd]
noncomputable def lss_PlcTick : List (Nat × Code) := loopsAll 0 (Go.Proofs.Tryd.f44.body.getD .skip)
noncomputable def cs_PlcTick_0 : Code := (loopOf 0 (Go.Proofs.Tryd.f44.body.getD .skip)).getD .skip
theorem lseqs_PlcTick : lss_PlcTick = [(0, cs_PlcTick_0)] := by kernel_rfl
theorem ms_PlcTick_0 : ∀ p, p ∈ lss_PlcTick → p.1 = 0 → p.2 = cs_PlcTick_0 := by
  intro p hp
  rw [lseqs_PlcTick] at hp
  simp only [List.mem_cons, List.not_mem_nil, or_false] at hp
  subst hp; simp
theorem ks_PlcTick_0 : OrcOk Es_PlcTick Os_PlcTick_0 lss_PlcTick 0 := orcOk_none
noncomputable def hs_PlcTick_0 (y0 : Int) (y1 : List ((Int) × ((Int) × ((Int) × ((Int) × ((Int) × ((Int) × ((Int) × ((Int) × ((Int) × ((Int) × (Int)))))))))))) (y2 : List (Int)) (y3 : Int) : List (Pl × LV) := [(.T 0, .t (.val false [.int .i64 y0])), (.T 5, .t (.val false [.row 5 0 0])), (.R 5 0, .r 0 (some ⟨false, .non, true, 76, (.pair (.int .i64) (.pair (.int .i64) (.pair (.int .i64) (.pair (.int .i64) (.pair (.int .i64) (.pair (.int .i64) (.pair (.int .i64) (.pair (.int .i64) (.pair (.int .i64) (.pair (.int .i64) (.int .i64))))))))))), y1⟩)), (.T 6, .t (.val false [.row 6 0 0])), (.R 6 0, .r 0 (some ⟨false, .any, true, 3, (.int .i64), y2⟩)), (.T 7, .t (.val false [.int .i64 y3]))]
noncomputable def g_Ss_PlcTick_0 (y0 : Int) (y2 : List (Int)) : ((List ((Int) × ((Int) × ((Int) × ((Int) × ((Int) × ((Int) × ((Int) × ((Int) × ((Int) × ((Int) × (Int)))))))))))) × (Int)) → RT ((List ((Int) × ((Int) × ((Int) × ((Int) × ((Int) × ((Int) × ((Int) × ((Int) × ((Int) × ((Int) × (Int)))))))))))) × (Int)) (((List ((Int) × ((Int) × ((Int) × ((Int) × ((Int) × ((Int) × ((Int) × ((Int) × ((Int) × ((Int) × (Int))))))))))))))
  | (y1, y3) => .br (true) (.br (decide (y3 < (↑(List.length y2) : Int))) (.br (decide ((0 : Int) ≤ y3 ∧ y3 < (↑(List.length y2) : Int))) (.br (decide (Int.toNat y3 < List.length y2)) (.br (true) (.br (decide ((List.length y1 + List.length (g_Vs_l5Back_0 (7 : Int) y0 (at_ (Ty.int IntKind.i64) y2 (Int.toNat y3)))) * nat_lit 88 ≤ nat_lit 140737488355328 ∧ List.length y1 + List.length (g_Vs_l5Back_0 (7 : Int) y0 (at_ (Ty.int IntKind.i64) y2 (Int.toNat y3))) ≤ nat_lit 9223372036854775807)) (.br (true) (.go ((y1 ++ g_Vs_l5Back_0 (7 : Int) y0 (at_ (Ty.int IntKind.i64) y2 (Int.toNat y3)), IntKind.wrap IntKind.i64 (y3 + (1 : Int))))) (.bad)) (.bad)) (.bad)) (.bad)) (.bad)) (.out (y1))) (.bad)
noncomputable def g_Ls_PlcTick_0 (y0 : Int) (y2 : List (Int)) (x : (List ((Int) × ((Int) × ((Int) × ((Int) × ((Int) × ((Int) × ((Int) × ((Int) × ((Int) × ((Int) × (Int)))))))))))) × (Int)) : Option (((List ((Int) × ((Int) × ((Int) × ((Int) × ((Int) × ((Int) × ((Int) × ((Int) × ((Int) × ((Int) × (Int)))))))))))))) := loopO (g_Ss_PlcTick_0 y0 y2) x
noncomputable def xs_PlcTick_0 (y0 : Int) (y2 : List (Int)) : (((List ((Int) × ((Int) × ((Int) × ((Int) × ((Int) × ((Int) × ((Int) × ((Int) × ((Int) × ((Int) × (Int)))))))))))))) → Ex × List (Pl × LV) := fun r => (.exit 0, [(.T 5, .t (.val false [.row 5 0 0])), (.R 5 0, .r 0 (some ⟨false, .non, true, 76, (.pair (.int .i64) (.pair (.int .i64) (.pair (.int .i64) (.pair (.int .i64) (.pair (.int .i64) (.pair (.int .i64) (.pair (.int .i64) (.pair (.int .i64) (.pair (.int .i64) (.pair (.int .i64) (.int .i64))))))))))), r⟩))])
noncomputable def Os_PlcTick_1 : Orc := fun b h => match b, h with
  | 0, [(.T 0, .t (.val false [.int .i64 y0])), (.T 5, .t (.val false [.row 5 0 0])), (.R 5 0, .r 0 (some ⟨false, .non, true, 76, (.pair (.int .i64) (.pair (.int .i64) (.pair (.int .i64) (.pair (.int .i64) (.pair (.int .i64) (.pair (.int .i64) (.pair (.int .i64) (.pair (.int .i64) (.pair (.int .i64) (.pair (.int .i64) (.int .i64))))))))))), y1⟩)), (.T 6, .t (.val false [.row 6 0 0])), (.R 6 0, .r 0 (some ⟨false, .any, true, 3, (.int .i64), y2⟩)), (.T 7, .t (.val false [.int .i64 y3]))] => some (okO (g_Ls_PlcTick_0 y0 y2 (y1, y3)), (.leaf (.exit 0) [(.T 5, .t (.val false [.row 5 0 0])), (.R 5 0, .r 0 (some ⟨false, .non, true, 76, (.pair (.int .i64) (.pair (.int .i64) (.pair (.int .i64) (.pair (.int .i64) (.pair (.int .i64) (.pair (.int .i64) (.pair (.int .i64) (.pair (.int .i64) (.pair (.int .i64) (.pair (.int .i64) (.int .i64))))))))))), (valO (g_Ls_PlcTick_0 y0 y2 (y1, y3)))⟩))]))
  | b, h => Os_PlcTick_0 b h
theorem bs_PlcTick_0 (y0 : Int) (y1 : List ((Int) × ((Int) × ((Int) × ((Int) × ((Int) × ((Int) × ((Int) × ((Int) × ((Int) × ((Int) × (Int)))))))))))) (y2 : List (Int)) (y3 : Int) : Tr.bt Es_PlcTick Os_PlcTick_0 (exec Es_PlcTick 0 cs_PlcTick_0 (St.of (hs_PlcTick_0 y0 y1 y2 y3)) (leafRd Es_PlcTick 0)) = (g_Ss_PlcTick_0 y0 y2 (y1, y3)).bt (fun ((y1, y3) : (List ((Int) × ((Int) × ((Int) × ((Int) × ((Int) × ((Int) × ((Int) × ((Int) × ((Int) × ((Int) × (Int)))))))))))) × (Int)) => (hs_PlcTick_0 y0 y1 y2 y3)) (xs_PlcTick_0 y0 y2) := by kernel_rfl
theorem ks_PlcTick_1 : OrcOk Es_PlcTick Os_PlcTick_1 lss_PlcTick 1 := orc_add ks_PlcTick_0 (fun n p hp h ex h' ho => by
  obtain ⟨b, c⟩ := p
  obtain ⟨xt, h1, h2⟩ := ho
  have h1 : Os_PlcTick_1 b h = some (true, xt) := h1
  unfold Os_PlcTick_1 at h1
  split at h1
  · injection h1 with h1
    injection h1 with e1 e2
    subst e2
    have hc : c = cs_PlcTick_0 := ms_PlcTick_0 _ hp rfl
    subst hc
    right
    rename_i y0 y1 y2 y3
    have key := LT_step ks_PlcTick_0 hp (fun q hq => loopsAll_in _ _ _ _ hp hq) (fun ((y1, y3) : (List ((Int) × ((Int) × ((Int) × ((Int) × ((Int) × ((Int) × ((Int) × ((Int) × ((Int) × ((Int) × (Int)))))))))))) × (Int)) => (hs_PlcTick_0 y0 y1 y2 y3)) (xs_PlcTick_0 y0 y2) (g_Ss_PlcTick_0 y0 y2) (fun x => by first | exact bs_PlcTick_0 y0 x.1 y2 x.2) n (x := (y1, y3)) (okO_some e1)
    have hx : ∀ r, XT.sel (.leaf (.exit 0) [(.T 5, .t (.val false [.row 5 0 0])), (.R 5 0, .r 0 (some ⟨false, .non, true, 76, (.pair (.int .i64) (.pair (.int .i64) (.pair (.int .i64) (.pair (.int .i64) (.pair (.int .i64) (.pair (.int .i64) (.pair (.int .i64) (.pair (.int .i64) (.pair (.int .i64) (.pair (.int .i64) (.int .i64))))))))))), r⟩))]) = xs_PlcTick_0 y0 y2 r := fun r => by first | rfl | (rcases r with r | r <;> rfl) | (rcases r with r | r | r <;> rfl) | (rcases r with r | r | r | r <;> rfl)
    have h3 := (hx (valO (g_Ls_PlcTick_0 y0 y2 (y1, y3)))).symm.trans h2
    have e3 := congrArg Prod.fst h3
    have e4 := congrArg Prod.snd h3
    simp only at e3 e4
    rw [← e3, ← e4]
    exact key
  · exact .inl ⟨xt, h1, h2⟩)
noncomputable def g_As_PlcTick (a0 : Int) (a1 : List ((Int) × ((Int) × ((List (ByteArray)) × (List ((ByteArray) × ((Bool) × (List (Int))))))))) (a2 : Int) : Bool := g_As_l1In a0 (1 : Int) (3 : Int) && (!g_Vs_l1In_0 a0 (1 : Int) (3 : Int) || g_As_DiskOpen a1 a2 && okO (g_Ls_PlcTick_0 a0 (g_Vs_DiskOpen_0 a1 a2) ([], (0 : Int))))
noncomputable def g_Vs_PlcTick_0 (a0 : Int) (a1 : List ((Int) × ((Int) × ((List (ByteArray)) × (List ((ByteArray) × ((Bool) × (List (Int))))))))) (a2 : Int) : List ((Int) × ((Int) × ((Int) × ((Int) × ((Int) × ((Int) × ((Int) × ((Int) × ((Int) × ((Int) × (Int))))))))))) := bif !g_Vs_l1In_0 a0 (1 : Int) (3 : Int) then [] else valO (g_Ls_PlcTick_0 a0 (g_Vs_DiskOpen_0 a1 a2) ([], (0 : Int)))
noncomputable def Fs_PlcTick : FSem := fun ys => match ys with
  | [.val false [.int .i64 a0], .val true [.sl .any 59 (.pair (.int .i64) (.pair (.int .i64) (.pair (.sl 9 .str) (.sl 83 (.pair .str (.pair .bool (.sl 3 (.int .i64)))))))) a1, .int .i64 a2]] => some ((g_As_PlcTick a0 a1 a2), .val false [.own .any true 76 (.pair (.int .i64) (.pair (.int .i64) (.pair (.int .i64) (.pair (.int .i64) (.pair (.int .i64) (.pair (.int .i64) (.pair (.int .i64) (.pair (.int .i64) (.pair (.int .i64) (.pair (.int .i64) (.int .i64))))))))))) (g_Vs_PlcTick_0 a0 a1 a2)], [])
  | _ => none
theorem vs_PlcTick (a0 : Int) (a1 : List ((Int) × ((Int) × ((List (ByteArray)) × (List ((ByteArray) × ((Bool) × (List (Int))))))))) (a2 : Int) : collapseH .std Es_PlcTick Os_PlcTick_1 (execFn Es_PlcTick Go.Proofs.Tryd.f44 mss_PlcTick [.val false [.int .i64 a0], .val true [.sl .any 59 (.pair (.int .i64) (.pair (.int .i64) (.pair (.sl 9 .str) (.sl 83 (.pair .str (.pair .bool (.sl 3 (.int .i64)))))))) a1, .int .i64 a2]]) = some ((g_As_PlcTick a0 a1 a2), .val false [.own .any true 76 (.pair (.int .i64) (.pair (.int .i64) (.pair (.int .i64) (.pair (.int .i64) (.pair (.int .i64) (.pair (.int .i64) (.pair (.int .i64) (.pair (.int .i64) (.pair (.int .i64) (.pair (.int .i64) (.int .i64))))))))))) (g_Vs_PlcTick_0 a0 a1 a2)], []) := by kernel_rfl
theorem ss_PlcTick : Sound Go.Proofs.Tryd.prog 44 mss_PlcTick Fs_PlcTick := by
  refine fn_gen goods_PlcTick (by kernel_rfl) .std (fn := Go.Proofs.Tryd.f44) (c := (Go.Proofs.Tryd.f44.body.getD .skip)) (o := Os_PlcTick_1) (k := 1) (by kernel_rfl) (by kernel_rfl) (by kernel_rfl) (by kernel_rfl) (by decide) ks_PlcTick_1 ?_
  intro ys r outs h
  unfold Fs_PlcTick at h
  split at h
  · exact (vs_PlcTick _ _ _).trans h
  · cases h
end Go.Proofs.YtibafhmmnoijkaaDoor.E
end
section
namespace Go.Proofs.YtibafhmmnoijkaaDoor.E
open Go
set_option maxRecDepth 100000
set_option maxHeartbeats 0
set_option linter.all false
noncomputable def Ew_jaMsgs : Env where
  tt := mkTI Go.Proofs.Tryd.prog
  fn := fun _ => none
  bxf := fun _ => none
  mv := []
  keep := fun b => match b with
    | 0 => [(0, false), (1, false), (5, false)]
    | _ => []
  keepB := fun b => match b with
    | 0 => []
    | _ => []
  keepX := fun b => match b with
    | 0 => [(4, false)]
    | _ => []
  keepXB := fun b => match b with
    | 0 => []
    | _ => []
theorem goodFw_jaMsgs : ∀ f ms F, Ew_jaMsgs.fn f = some (ms, F) → Sound Go.Proofs.Tryd.prog f ms F := fun f ms F h => by cases h
theorem goodBw_jaMsgs : ∀ f ms F, Ew_jaMsgs.bxf f = some (ms, F) → SoundB Go.Proofs.Tryd.prog f ms F := fun f ms F h => by cases h
theorem goodw_jaMsgs : Good Go.Proofs.Tryd.prog Ew_jaMsgs := ⟨rfl, goodFw_jaMsgs, goodBw_jaMsgs⟩
noncomputable def Ow_jaMsgs_0 : Orc := fun _ _ => none
noncomputable def msw_jaMsgs : List PM := [.rd, .rd]
noncomputable def lsw_jaMsgs : List (Nat × Code) := loopsAll 0 (Go.Proofs.Tryd.f43.body.getD .skip)
noncomputable def cw_jaMsgs_0 : Code := (loopOf 0 (Go.Proofs.Tryd.f43.body.getD .skip)).getD .skip
theorem lseqw_jaMsgs : lsw_jaMsgs = [(0, cw_jaMsgs_0)] := by kernel_rfl
theorem mw_jaMsgs_0 : ∀ p, p ∈ lsw_jaMsgs → p.1 = 0 → p.2 = cw_jaMsgs_0 := by
  intro p hp
  rw [lseqw_jaMsgs] at hp
  simp only [List.mem_cons, List.not_mem_nil, or_false] at hp
  subst hp; simp
theorem kw_jaMsgs_0 : OrcOk Ew_jaMsgs Ow_jaMsgs_0 lsw_jaMsgs 0 := orcOk_none
noncomputable def hw_jaMsgs_0 (y0 : List ((Int) × ((Int) × ((Int) × ((Int) × ((Int) × ((Int) × ((Int) × ((Int) × ((Int) × ((Int) × (Int)))))))))))) (y1 : List ((Int) × ((Int) × ((Int) × ((Int) × ((Int) × ((Int) × ((Int) × ((Int) × ((Int) × ((Int) × (Int)))))))))))) (y2 : Int) : List (Pl × LV) := [(.T 0, .t (.val false [.sl .any 76 (.pair (.int .i64) (.pair (.int .i64) (.pair (.int .i64) (.pair (.int .i64) (.pair (.int .i64) (.pair (.int .i64) (.pair (.int .i64) (.pair (.int .i64) (.pair (.int .i64) (.pair (.int .i64) (.int .i64))))))))))) y0])), (.T 1, .t (.val false [.sl .any 76 (.pair (.int .i64) (.pair (.int .i64) (.pair (.int .i64) (.pair (.int .i64) (.pair (.int .i64) (.pair (.int .i64) (.pair (.int .i64) (.pair (.int .i64) (.pair (.int .i64) (.pair (.int .i64) (.int .i64))))))))))) y1])), (.T 5, .t (.val false [.int .i64 y2]))]
noncomputable def g_Sw_jaMsgs_0 (y0 : List ((Int) × ((Int) × ((Int) × ((Int) × ((Int) × ((Int) × ((Int) × ((Int) × ((Int) × ((Int) × (Int)))))))))))) (y1 : List ((Int) × ((Int) × ((Int) × ((Int) × ((Int) × ((Int) × ((Int) × ((Int) × ((Int) × ((Int) × (Int)))))))))))) : ((Int)) → RT ((Int)) (((Bool)) ⊕ (Unit))
  | y2 => .br (true) (.br (decide (y2 < (↑(List.length y0) : Int))) (.br (decide ((0 : Int) ≤ y2 ∧ y2 < (↑(List.length y0) : Int))) (.br (decide ((0 : Int) ≤ y2 ∧ y2 < (↑(List.length y1) : Int))) (.br (!((at_ (Ty.pair (Ty.int IntKind.i64) (Ty.pair (Ty.int IntKind.i64) (Ty.pair (Ty.int IntKind.i64) (Ty.pair (Ty.int IntKind.i64) (Ty.pair (Ty.int IntKind.i64) (Ty.pair (Ty.int IntKind.i64) (Ty.pair (Ty.int IntKind.i64) (Ty.pair (Ty.int IntKind.i64) (Ty.pair (Ty.int IntKind.i64) (Ty.pair (Ty.int IntKind.i64) (Ty.int IntKind.i64))))))))))) y0 (Int.toNat y2)).1 == (at_ (Ty.pair (Ty.int IntKind.i64) (Ty.pair (Ty.int IntKind.i64) (Ty.pair (Ty.int IntKind.i64) (Ty.pair (Ty.int IntKind.i64) (Ty.pair (Ty.int IntKind.i64) (Ty.pair (Ty.int IntKind.i64) (Ty.pair (Ty.int IntKind.i64) (Ty.pair (Ty.int IntKind.i64) (Ty.pair (Ty.int IntKind.i64) (Ty.pair (Ty.int IntKind.i64) (Ty.int IntKind.i64))))))))))) y1 (Int.toNat y2)).1 && ((at_ (Ty.pair (Ty.int IntKind.i64) (Ty.pair (Ty.int IntKind.i64) (Ty.pair (Ty.int IntKind.i64) (Ty.pair (Ty.int IntKind.i64) (Ty.pair (Ty.int IntKind.i64) (Ty.pair (Ty.int IntKind.i64) (Ty.pair (Ty.int IntKind.i64) (Ty.pair (Ty.int IntKind.i64) (Ty.pair (Ty.int IntKind.i64) (Ty.pair (Ty.int IntKind.i64) (Ty.int IntKind.i64))))))))))) y0 (Int.toNat y2)).2.1 == (at_ (Ty.pair (Ty.int IntKind.i64) (Ty.pair (Ty.int IntKind.i64) (Ty.pair (Ty.int IntKind.i64) (Ty.pair (Ty.int IntKind.i64) (Ty.pair (Ty.int IntKind.i64) (Ty.pair (Ty.int IntKind.i64) (Ty.pair (Ty.int IntKind.i64) (Ty.pair (Ty.int IntKind.i64) (Ty.pair (Ty.int IntKind.i64) (Ty.pair (Ty.int IntKind.i64) (Ty.int IntKind.i64))))))))))) y1 (Int.toNat y2)).2.1 && ((at_ (Ty.pair (Ty.int IntKind.i64) (Ty.pair (Ty.int IntKind.i64) (Ty.pair (Ty.int IntKind.i64) (Ty.pair (Ty.int IntKind.i64) (Ty.pair (Ty.int IntKind.i64) (Ty.pair (Ty.int IntKind.i64) (Ty.pair (Ty.int IntKind.i64) (Ty.pair (Ty.int IntKind.i64) (Ty.pair (Ty.int IntKind.i64) (Ty.pair (Ty.int IntKind.i64) (Ty.int IntKind.i64))))))))))) y0 (Int.toNat y2)).2.2.1 == (at_ (Ty.pair (Ty.int IntKind.i64) (Ty.pair (Ty.int IntKind.i64) (Ty.pair (Ty.int IntKind.i64) (Ty.pair (Ty.int IntKind.i64) (Ty.pair (Ty.int IntKind.i64) (Ty.pair (Ty.int IntKind.i64) (Ty.pair (Ty.int IntKind.i64) (Ty.pair (Ty.int IntKind.i64) (Ty.pair (Ty.int IntKind.i64) (Ty.pair (Ty.int IntKind.i64) (Ty.int IntKind.i64))))))))))) y1 (Int.toNat y2)).2.2.1 && ((at_ (Ty.pair (Ty.int IntKind.i64) (Ty.pair (Ty.int IntKind.i64) (Ty.pair (Ty.int IntKind.i64) (Ty.pair (Ty.int IntKind.i64) (Ty.pair (Ty.int IntKind.i64) (Ty.pair (Ty.int IntKind.i64) (Ty.pair (Ty.int IntKind.i64) (Ty.pair (Ty.int IntKind.i64) (Ty.pair (Ty.int IntKind.i64) (Ty.pair (Ty.int IntKind.i64) (Ty.int IntKind.i64))))))))))) y0 (Int.toNat y2)).2.2.2.1 == (at_ (Ty.pair (Ty.int IntKind.i64) (Ty.pair (Ty.int IntKind.i64) (Ty.pair (Ty.int IntKind.i64) (Ty.pair (Ty.int IntKind.i64) (Ty.pair (Ty.int IntKind.i64) (Ty.pair (Ty.int IntKind.i64) (Ty.pair (Ty.int IntKind.i64) (Ty.pair (Ty.int IntKind.i64) (Ty.pair (Ty.int IntKind.i64) (Ty.pair (Ty.int IntKind.i64) (Ty.int IntKind.i64))))))))))) y1 (Int.toNat y2)).2.2.2.1 && ((at_ (Ty.pair (Ty.int IntKind.i64) (Ty.pair (Ty.int IntKind.i64) (Ty.pair (Ty.int IntKind.i64) (Ty.pair (Ty.int IntKind.i64) (Ty.pair (Ty.int IntKind.i64) (Ty.pair (Ty.int IntKind.i64) (Ty.pair (Ty.int IntKind.i64) (Ty.pair (Ty.int IntKind.i64) (Ty.pair (Ty.int IntKind.i64) (Ty.pair (Ty.int IntKind.i64) (Ty.int IntKind.i64))))))))))) y0 (Int.toNat y2)).2.2.2.2.1 == (at_ (Ty.pair (Ty.int IntKind.i64) (Ty.pair (Ty.int IntKind.i64) (Ty.pair (Ty.int IntKind.i64) (Ty.pair (Ty.int IntKind.i64) (Ty.pair (Ty.int IntKind.i64) (Ty.pair (Ty.int IntKind.i64) (Ty.pair (Ty.int IntKind.i64) (Ty.pair (Ty.int IntKind.i64) (Ty.pair (Ty.int IntKind.i64) (Ty.pair (Ty.int IntKind.i64) (Ty.int IntKind.i64))))))))))) y1 (Int.toNat y2)).2.2.2.2.1 && ((at_ (Ty.pair (Ty.int IntKind.i64) (Ty.pair (Ty.int IntKind.i64) (Ty.pair (Ty.int IntKind.i64) (Ty.pair (Ty.int IntKind.i64) (Ty.pair (Ty.int IntKind.i64) (Ty.pair (Ty.int IntKind.i64) (Ty.pair (Ty.int IntKind.i64) (Ty.pair (Ty.int IntKind.i64) (Ty.pair (Ty.int IntKind.i64) (Ty.pair (Ty.int IntKind.i64) (Ty.int IntKind.i64))))))))))) y0 (Int.toNat y2)).2.2.2.2.2.1 == (at_ (Ty.pair (Ty.int IntKind.i64) (Ty.pair (Ty.int IntKind.i64) (Ty.pair (Ty.int IntKind.i64) (Ty.pair (Ty.int IntKind.i64) (Ty.pair (Ty.int IntKind.i64) (Ty.pair (Ty.int IntKind.i64) (Ty.pair (Ty.int IntKind.i64) (Ty.pair (Ty.int IntKind.i64) (Ty.pair (Ty.int IntKind.i64) (Ty.pair (Ty.int IntKind.i64) (Ty.int IntKind.i64))))))))))) y1 (Int.toNat y2)).2.2.2.2.2.1 && ((at_ (Ty.pair (Ty.int IntKind.i64) (Ty.pair (Ty.int IntKind.i64) (Ty.pair (Ty.int IntKind.i64) (Ty.pair (Ty.int IntKind.i64) (Ty.pair (Ty.int IntKind.i64) (Ty.pair (Ty.int IntKind.i64) (Ty.pair (Ty.int IntKind.i64) (Ty.pair (Ty.int IntKind.i64) (Ty.pair (Ty.int IntKind.i64) (Ty.pair (Ty.int IntKind.i64) (Ty.int IntKind.i64))))))))))) y0 (Int.toNat y2)).2.2.2.2.2.2.1 == (at_ (Ty.pair (Ty.int IntKind.i64) (Ty.pair (Ty.int IntKind.i64) (Ty.pair (Ty.int IntKind.i64) (Ty.pair (Ty.int IntKind.i64) (Ty.pair (Ty.int IntKind.i64) (Ty.pair (Ty.int IntKind.i64) (Ty.pair (Ty.int IntKind.i64) (Ty.pair (Ty.int IntKind.i64) (Ty.pair (Ty.int IntKind.i64) (Ty.pair (Ty.int IntKind.i64) (Ty.int IntKind.i64))))))))))) y1 (Int.toNat y2)).2.2.2.2.2.2.1 && ((at_ (Ty.pair (Ty.int IntKind.i64) (Ty.pair (Ty.int IntKind.i64) (Ty.pair (Ty.int IntKind.i64) (Ty.pair (Ty.int IntKind.i64) (Ty.pair (Ty.int IntKind.i64) (Ty.pair (Ty.int IntKind.i64) (Ty.pair (Ty.int IntKind.i64) (Ty.pair (Ty.int IntKind.i64) (Ty.pair (Ty.int IntKind.i64) (Ty.pair (Ty.int IntKind.i64) (Ty.int IntKind.i64))))))))))) y0 (Int.toNat y2)).2.2.2.2.2.2.2.1 == (at_ (Ty.pair (Ty.int IntKind.i64) (Ty.pair (Ty.int IntKind.i64) (Ty.pair (Ty.int IntKind.i64) (Ty.pair (Ty.int IntKind.i64) (Ty.pair (Ty.int IntKind.i64) (Ty.pair (Ty.int IntKind.i64) (Ty.pair (Ty.int IntKind.i64) (Ty.pair (Ty.int IntKind.i64) (Ty.pair (Ty.int IntKind.i64) (Ty.pair (Ty.int IntKind.i64) (Ty.int IntKind.i64))))))))))) y1 (Int.toNat y2)).2.2.2.2.2.2.2.1 && ((at_ (Ty.pair (Ty.int IntKind.i64) (Ty.pair (Ty.int IntKind.i64) (Ty.pair (Ty.int IntKind.i64) (Ty.pair (Ty.int IntKind.i64) (Ty.pair (Ty.int IntKind.i64) (Ty.pair (Ty.int IntKind.i64) (Ty.pair (Ty.int IntKind.i64) (Ty.pair (Ty.int IntKind.i64) (Ty.pair (Ty.int IntKind.i64) (Ty.pair (Ty.int IntKind.i64) (Ty.int IntKind.i64))))))))))) y0 (Int.toNat y2)).2.2.2.2.2.2.2.2.1 == (at_ (Ty.pair (Ty.int IntKind.i64) (Ty.pair (Ty.int IntKind.i64) (Ty.pair (Ty.int IntKind.i64) (Ty.pair (Ty.int IntKind.i64) (Ty.pair (Ty.int IntKind.i64) (Ty.pair (Ty.int IntKind.i64) (Ty.pair (Ty.int IntKind.i64) (Ty.pair (Ty.int IntKind.i64) (Ty.pair (Ty.int IntKind.i64) (Ty.pair (Ty.int IntKind.i64) (Ty.int IntKind.i64))))))))))) y1 (Int.toNat y2)).2.2.2.2.2.2.2.2.1 && ((at_ (Ty.pair (Ty.int IntKind.i64) (Ty.pair (Ty.int IntKind.i64) (Ty.pair (Ty.int IntKind.i64) (Ty.pair (Ty.int IntKind.i64) (Ty.pair (Ty.int IntKind.i64) (Ty.pair (Ty.int IntKind.i64) (Ty.pair (Ty.int IntKind.i64) (Ty.pair (Ty.int IntKind.i64) (Ty.pair (Ty.int IntKind.i64) (Ty.pair (Ty.int IntKind.i64) (Ty.int IntKind.i64))))))))))) y0 (Int.toNat y2)).2.2.2.2.2.2.2.2.2.1 == (at_ (Ty.pair (Ty.int IntKind.i64) (Ty.pair (Ty.int IntKind.i64) (Ty.pair (Ty.int IntKind.i64) (Ty.pair (Ty.int IntKind.i64) (Ty.pair (Ty.int IntKind.i64) (Ty.pair (Ty.int IntKind.i64) (Ty.pair (Ty.int IntKind.i64) (Ty.pair (Ty.int IntKind.i64) (Ty.pair (Ty.int IntKind.i64) (Ty.pair (Ty.int IntKind.i64) (Ty.int IntKind.i64))))))))))) y1 (Int.toNat y2)).2.2.2.2.2.2.2.2.2.1 && ((at_ (Ty.pair (Ty.int IntKind.i64) (Ty.pair (Ty.int IntKind.i64) (Ty.pair (Ty.int IntKind.i64) (Ty.pair (Ty.int IntKind.i64) (Ty.pair (Ty.int IntKind.i64) (Ty.pair (Ty.int IntKind.i64) (Ty.pair (Ty.int IntKind.i64) (Ty.pair (Ty.int IntKind.i64) (Ty.pair (Ty.int IntKind.i64) (Ty.pair (Ty.int IntKind.i64) (Ty.int IntKind.i64))))))))))) y0 (Int.toNat y2)).2.2.2.2.2.2.2.2.2.2 == (at_ (Ty.pair (Ty.int IntKind.i64) (Ty.pair (Ty.int IntKind.i64) (Ty.pair (Ty.int IntKind.i64) (Ty.pair (Ty.int IntKind.i64) (Ty.pair (Ty.int IntKind.i64) (Ty.pair (Ty.int IntKind.i64) (Ty.pair (Ty.int IntKind.i64) (Ty.pair (Ty.int IntKind.i64) (Ty.pair (Ty.int IntKind.i64) (Ty.pair (Ty.int IntKind.i64) (Ty.int IntKind.i64))))))))))) y1 (Int.toNat y2)).2.2.2.2.2.2.2.2.2.2 && true)))))))))))) (.out (.inl false)) (.br (true) (.go (IntKind.wrap IntKind.i64 (y2 + (1 : Int)))) (.bad))) (.bad)) (.bad)) (.out (.inr (())))) (.bad)
noncomputable def g_Lw_jaMsgs_0 (y0 : List ((Int) × ((Int) × ((Int) × ((Int) × ((Int) × ((Int) × ((Int) × ((Int) × ((Int) × ((Int) × (Int)))))))))))) (y1 : List ((Int) × ((Int) × ((Int) × ((Int) × ((Int) × ((Int) × ((Int) × ((Int) × ((Int) × ((Int) × (Int)))))))))))) (x : (Int)) : Option (((Bool)) ⊕ (Unit)) := loopO (g_Sw_jaMsgs_0 y0 y1) x
noncomputable def xw_jaMsgs_0 (y0 : List ((Int) × ((Int) × ((Int) × ((Int) × ((Int) × ((Int) × ((Int) × ((Int) × ((Int) × ((Int) × (Int)))))))))))) (y1 : List ((Int) × ((Int) × ((Int) × ((Int) × ((Int) × ((Int) × ((Int) × ((Int) × ((Int) × ((Int) × (Int)))))))))))) : (((Bool)) ⊕ (Unit)) → Ex × List (Pl × LV) := fun
  | .inl r => (.ret, [(.T 4, .t (.val false [.bool r]))])
  | .inr (r) => (.exit 0, [(.T 4, .t (.val false [.undef]))])
noncomputable def Ow_jaMsgs_1 : Orc := fun b h => match b, h with
  | 0, [(.T 0, .t (.val false [.sl .any 76 (.pair (.int .i64) (.pair (.int .i64) (.pair (.int .i64) (.pair (.int .i64) (.pair (.int .i64) (.pair (.int .i64) (.pair (.int .i64) (.pair (.int .i64) (.pair (.int .i64) (.pair (.int .i64) (.int .i64))))))))))) y0])), (.T 1, .t (.val false [.sl .any 76 (.pair (.int .i64) (.pair (.int .i64) (.pair (.int .i64) (.pair (.int .i64) (.pair (.int .i64) (.pair (.int .i64) (.pair (.int .i64) (.pair (.int .i64) (.pair (.int .i64) (.pair (.int .i64) (.int .i64))))))))))) y1])), (.T 5, .t (.val false [.int .i64 y2]))] => some (okO (g_Lw_jaMsgs_0 y0 y1 y2), (.br (isL (valO (g_Lw_jaMsgs_0 y0 y1 y2))) (.leaf .ret [(.T 4, .t (.val false [.bool (getL (valO (g_Lw_jaMsgs_0 y0 y1 y2)))]))]) (.leaf (.exit 0) [(.T 4, .t (.val false [.undef]))])))
  | b, h => Ow_jaMsgs_0 b h
theorem bw_jaMsgs_0 (y0 : List ((Int) × ((Int) × ((Int) × ((Int) × ((Int) × ((Int) × ((Int) × ((Int) × ((Int) × ((Int) × (Int)))))))))))) (y1 : List ((Int) × ((Int) × ((Int) × ((Int) × ((Int) × ((Int) × ((Int) × ((Int) × ((Int) × ((Int) × (Int)))))))))))) (y2 : Int) : Tr.bt Ew_jaMsgs Ow_jaMsgs_0 (exec Ew_jaMsgs 0 cw_jaMsgs_0 (St.of (hw_jaMsgs_0 y0 y1 y2)) (leafRd Ew_jaMsgs 0)) = (g_Sw_jaMsgs_0 y0 y1 y2).bt (fun (y2 : (Int)) => (hw_jaMsgs_0 y0 y1 y2)) (xw_jaMsgs_0 y0 y1) := by kernel_rfl
theorem kw_jaMsgs_1 : OrcOk Ew_jaMsgs Ow_jaMsgs_1 lsw_jaMsgs 1 := orc_add kw_jaMsgs_0 (fun n p hp h ex h' ho => by
  obtain ⟨b, c⟩ := p
  obtain ⟨xt, h1, h2⟩ := ho
  have h1 : Ow_jaMsgs_1 b h = some (true, xt) := h1
  unfold Ow_jaMsgs_1 at h1
  split at h1
  · injection h1 with h1
    injection h1 with e1 e2
    subst e2
    have hc : c = cw_jaMsgs_0 := mw_jaMsgs_0 _ hp rfl
    subst hc
    right
    rename_i y0 y1 y2
    have key := LT_step kw_jaMsgs_0 hp (fun q hq => loopsAll_in _ _ _ _ hp hq) (fun (y2 : (Int)) => (hw_jaMsgs_0 y0 y1 y2)) (xw_jaMsgs_0 y0 y1) (g_Sw_jaMsgs_0 y0 y1) (fun x => by first | exact bw_jaMsgs_0 y0 y1 x) n (x := y2) (okO_some e1)
    have hx : ∀ r, XT.sel (.br (isL r) (.leaf .ret [(.T 4, .t (.val false [.bool (getL r)]))]) (.leaf (.exit 0) [(.T 4, .t (.val false [.undef]))])) = xw_jaMsgs_0 y0 y1 r := fun r => by first | rfl | (rcases r with r | r <;> rfl) | (rcases r with r | r | r <;> rfl) | (rcases r with r | r | r | r <;> rfl)
    have h3 := (hx (valO (g_Lw_jaMsgs_0 y0 y1 y2))).symm.trans h2
    have e3 := congrArg Prod.fst h3
    have e4 := congrArg Prod.snd h3
    simp only at e3 e4
    rw [← e3, ← e4]
    exact key
  · exact .inl ⟨xt, h1, h2⟩)
noncomputable def g_Aw_jaMsgs (a0 : List ((Int) × ((Int) × ((Int) × ((Int) × ((Int) × ((Int) × ((Int) × ((Int) × ((Int) × ((Int) × (Int)))))))))))) (a1 : List ((Int) × ((Int) × ((Int) × ((Int) × ((Int) × ((Int) × ((Int) × ((Int) × ((Int) × ((Int) × (Int)))))))))))) : Bool := (↑(List.length a0) : Int) != (↑(List.length a1) : Int) || okO (g_Lw_jaMsgs_0 a0 a1 (0 : Int))
noncomputable def g_Vw_jaMsgs_0 (a0 : List ((Int) × ((Int) × ((Int) × ((Int) × ((Int) × ((Int) × ((Int) × ((Int) × ((Int) × ((Int) × (Int)))))))))))) (a1 : List ((Int) × ((Int) × ((Int) × ((Int) × ((Int) × ((Int) × ((Int) × ((Int) × ((Int) × ((Int) × (Int)))))))))))) : Bool := bif (↑(List.length a0) : Int) != (↑(List.length a1) : Int) then false else bif isL (valO (g_Lw_jaMsgs_0 a0 a1 (0 : Int))) then getL (valO (g_Lw_jaMsgs_0 a0 a1 (0 : Int))) else true
noncomputable def Fw_jaMsgs : FSem := fun ys => match ys with
  | [.val false [.sl .any 76 (.pair (.int .i64) (.pair (.int .i64) (.pair (.int .i64) (.pair (.int .i64) (.pair (.int .i64) (.pair (.int .i64) (.pair (.int .i64) (.pair (.int .i64) (.pair (.int .i64) (.pair (.int .i64) (.int .i64))))))))))) a0], .val false [.sl .any 76 (.pair (.int .i64) (.pair (.int .i64) (.pair (.int .i64) (.pair (.int .i64) (.pair (.int .i64) (.pair (.int .i64) (.pair (.int .i64) (.pair (.int .i64) (.pair (.int .i64) (.pair (.int .i64) (.int .i64))))))))))) a1]] => some ((g_Aw_jaMsgs a0 a1), .val false [.bool (g_Vw_jaMsgs_0 a0 a1)], [])
  | _ => none
theorem vw_jaMsgs (a0 : List ((Int) × ((Int) × ((Int) × ((Int) × ((Int) × ((Int) × ((Int) × ((Int) × ((Int) × ((Int) × (Int)))))))))))) (a1 : List ((Int) × ((Int) × ((Int) × ((Int) × ((Int) × ((Int) × ((Int) × ((Int) × ((Int) × ((Int) × (Int)))))))))))) : collapseH .std Ew_jaMsgs Ow_jaMsgs_1 (execFn Ew_jaMsgs Go.Proofs.Tryd.f43 msw_jaMsgs [.val false [.sl .any 76 (.pair (.int .i64) (.pair (.int .i64) (.pair (.int .i64) (.pair (.int .i64) (.pair (.int .i64) (.pair (.int .i64) (.pair (.int .i64) (.pair (.int .i64) (.pair (.int .i64) (.pair (.int .i64) (.int .i64))))))))))) a0], .val false [.sl .any 76 (.pair (.int .i64) (.pair (.int .i64) (.pair (.int .i64) (.pair (.int .i64) (.pair (.int .i64) (.pair (.int .i64) (.pair (.int .i64) (.pair (.int .i64) (.pair (.int .i64) (.pair (.int .i64) (.int .i64))))))))))) a1]]) = some ((g_Aw_jaMsgs a0 a1), .val false [.bool (g_Vw_jaMsgs_0 a0 a1)], []) := by kernel_rfl
theorem sw_jaMsgs : Sound Go.Proofs.Tryd.prog 43 msw_jaMsgs Fw_jaMsgs := by
  refine fn_gen goodw_jaMsgs (by kernel_rfl) .std (fn := Go.Proofs.Tryd.f43) (c := (Go.Proofs.Tryd.f43.body.getD .skip)) (o := Ow_jaMsgs_1) (k := 1) (by kernel_rfl) (by kernel_rfl) (by kernel_rfl) (by kernel_rfl) (by decide) kw_jaMsgs_1 ?_
  intro ys r outs h
  unfold Fw_jaMsgs at h
  split at h
  · exact (vw_jaMsgs _ _).trans h
  · cases h
end Go.Proofs.YtibafhmmnoijkaaDoor.E
end
section
namespace Go.Proofs.YtibafhmmnoijkaaDoor.E
open Go
set_option maxRecDepth 100000
set_option maxHeartbeats 0
set_option linter.all false
noncomputable def Ew_jaOk : Env where
  tt := mkTI Go.Proofs.Tryd.prog
  fn := fun f => match f with
    | 75 => some (msi_WrtOk, FSem.wk msi_WrtOk Fi_WrtOk)
    | _ => none
  bxf := fun _ => none
  mv := []
  keep := fun _ => []
  keepB := fun _ => []
  keepX := fun _ => []
  keepXB := fun _ => []
theorem goodFw_jaOk : ∀ f ms F, Ew_jaOk.fn f = some (ms, F) → Sound Go.Proofs.Tryd.prog f ms F := fun f ms F h => by
  unfold Ew_jaOk at h
  dsimp only at h
  split at h
  · injection h with h; injection h with e1 e2; subst e1 e2; exact Sound.wk si_WrtOk
  · cases h
theorem goodBw_jaOk : ∀ f ms F, Ew_jaOk.bxf f = some (ms, F) → SoundB Go.Proofs.Tryd.prog f ms F := fun f ms F h => by cases h
theorem goodw_jaOk : Good Go.Proofs.Tryd.prog Ew_jaOk := ⟨rfl, goodFw_jaOk, goodBw_jaOk⟩
noncomputable def Ow_jaOk_0 : Orc := fun _ _ => none
noncomputable def msw_jaOk : List PM := []
noncomputable def lsw_jaOk : List (Nat × Code) := loopsAll 0 (Go.Proofs.Tryd.f31.body.getD .skip)

theorem kw_jaOk_0 : OrcOk Ew_jaOk Ow_jaOk_0 lsw_jaOk 0 := orcOk_none
noncomputable def g_Aw_jaOk : Bool := g_Ai_WrtOk (lit [(97 : Nat), (49 : Nat)]) false [(1 : Int)]
noncomputable def g_Vw_jaOk_0 : Bool := g_Vi_WrtOk_0 (lit [(97 : Nat), (49 : Nat)]) false [(1 : Int)]
noncomputable def Fw_jaOk : FSem := fun ys => match ys with
  | [] => some (g_Aw_jaOk, .val false [.bool g_Vw_jaOk_0], [])
  | _ => none
theorem vw_jaOk : collapseH .std Ew_jaOk Ow_jaOk_0 (execFn Ew_jaOk Go.Proofs.Tryd.f31 msw_jaOk []) = some (g_Aw_jaOk, .val false [.bool g_Vw_jaOk_0], []) := by kernel_rfl
theorem sw_jaOk : Sound Go.Proofs.Tryd.prog 31 msw_jaOk Fw_jaOk := by
  refine fn_gen goodw_jaOk (by kernel_rfl) .std (fn := Go.Proofs.Tryd.f31) (c := (Go.Proofs.Tryd.f31.body.getD .skip)) (o := Ow_jaOk_0) (k := 0) (by kernel_rfl) (by kernel_rfl) (by kernel_rfl) (by kernel_rfl) (by decide) kw_jaOk_0 ?_
  intro ys r outs h
  unfold Fw_jaOk at h
  split at h
  · exact (vw_jaOk).trans h
  · cases h
end Go.Proofs.YtibafhmmnoijkaaDoor.E
end
section
namespace Go.Proofs.YtibafhmmnoijkaaDoor.E
open Go
set_option maxRecDepth 100000
set_option maxHeartbeats 0
set_option linter.all false
noncomputable def Ew_FnPlcTick : Env where
  tt := mkTI Go.Proofs.Tryd.prog
  fn := fun f => match f with
    | 24 => some (mss_DiskOk, FSem.wk mss_DiskOk Fs_DiskOk)
    | 31 => some (msw_jaOk, FSem.wk msw_jaOk Fw_jaOk)
    | 41 => some (mss_DrawPlcTick, FSem.wk mss_DrawPlcTick Fs_DrawPlcTick)
    | 42 => some (msi_PlcTick, FSem.wk msi_PlcTick Fi_PlcTick)
    | 43 => some (msw_jaMsgs, FSem.wk msw_jaMsgs Fw_jaMsgs)
    | 44 => some (mss_PlcTick, FSem.wk mss_PlcTick Fs_PlcTick)
    | 45 => some (msi_DiskOpen, FSem.wk msi_DiskOpen Fi_DiskOpen)
    | _ => none
  bxf := fun _ => none
  mv := []
  keep := fun b => match b with
    | 0 => [(3, false), (5, false), (6, false), (7, false)]
    | _ => []
  keepB := fun b => match b with
    | 0 => []
    | _ => []
  keepX := fun b => match b with
    | 0 => [(2, false)]
    | _ => []
  keepXB := fun b => match b with
    | 0 => []
    | _ => []
theorem goodFw_FnPlcTick : ∀ f ms F, Ew_FnPlcTick.fn f = some (ms, F) → Sound Go.Proofs.Tryd.prog f ms F := fun f ms F h => by
  unfold Ew_FnPlcTick at h
  dsimp only at h
  split at h
  · injection h with h; injection h with e1 e2; subst e1 e2; exact Sound.wk ss_DiskOk
  · injection h with h; injection h with e1 e2; subst e1 e2; exact Sound.wk sw_jaOk
  · injection h with h; injection h with e1 e2; subst e1 e2; exact Sound.wk ss_DrawPlcTick
  · injection h with h; injection h with e1 e2; subst e1 e2; exact Sound.wk si_PlcTick
  · injection h with h; injection h with e1 e2; subst e1 e2; exact Sound.wk sw_jaMsgs
  · injection h with h; injection h with e1 e2; subst e1 e2; exact Sound.wk ss_PlcTick
  · injection h with h; injection h with e1 e2; subst e1 e2; exact Sound.wk si_DiskOpen
  · cases h
theorem goodBw_FnPlcTick : ∀ f ms F, Ew_FnPlcTick.bxf f = some (ms, F) → SoundB Go.Proofs.Tryd.prog f ms F := fun f ms F h => by cases h
theorem goodw_FnPlcTick : Good Go.Proofs.Tryd.prog Ew_FnPlcTick := ⟨rfl, goodFw_FnPlcTick, goodBw_FnPlcTick⟩
noncomputable def Ow_FnPlcTick_0 : Orc := fun _ _ => none
noncomputable def msw_FnPlcTick : List PM := [.rd]
noncomputable def lsw_FnPlcTick : List (Nat × Code) := loopsAll 0 (Go.Proofs.Tryd.f9.body.getD .skip)
noncomputable def cw_FnPlcTick_0 : Code := (loopOf 0 (Go.Proofs.Tryd.f9.body.getD .skip)).getD .skip
theorem lseqw_FnPlcTick : lsw_FnPlcTick = [(0, cw_FnPlcTick_0)] := by kernel_rfl
theorem mw_FnPlcTick_0 : ∀ p, p ∈ lsw_FnPlcTick → p.1 = 0 → p.2 = cw_FnPlcTick_0 := by
  intro p hp
  rw [lseqw_FnPlcTick] at hp
  simp only [List.mem_cons, List.not_mem_nil, or_false] at hp
  subst hp; simp
theorem kw_FnPlcTick_0 : OrcOk Ew_FnPlcTick Ow_FnPlcTick_0 lsw_FnPlcTick 0 := orcOk_none
noncomputable def hw_FnPlcTick_0 (y0 : Int) (y1 : List ((Int) × ((Int) × ((Int) × ((Int) × ((Int) × ((Int) × ((Int) × ((Int) × ((Int) × ((Int) × (Int)))))))))))) (y2 : List (Int)) (y3 : Int) : List (Pl × LV) := [(.T 3, .t (.val false [.int .i64 y0])), (.T 5, .t (.val false [.row 5 0 0])), (.R 5 0, .r 0 (some ⟨false, .any, true, 76, (.pair (.int .i64) (.pair (.int .i64) (.pair (.int .i64) (.pair (.int .i64) (.pair (.int .i64) (.pair (.int .i64) (.pair (.int .i64) (.pair (.int .i64) (.pair (.int .i64) (.pair (.int .i64) (.int .i64))))))))))), y1⟩)), (.T 6, .t (.val false [.row 6 0 0])), (.R 6 0, .r 0 (some ⟨false, .any, true, 3, (.int .i64), y2⟩)), (.T 7, .t (.val false [.int .i64 y3]))]
noncomputable def g_Sw_FnPlcTick_0 (y0 : Int) (y1 : List ((Int) × ((Int) × ((Int) × ((Int) × ((Int) × ((Int) × ((Int) × ((Int) × ((Int) × ((Int) × (Int)))))))))))) (y2 : List (Int)) : ((Int)) → RT ((Int)) (((Bool)) ⊕ (Unit))
  | y3 => .br (true) (.br (decide (y3 < (↑(List.length y1) : Int))) (.br (decide ((0 : Int) ≤ y3 ∧ y3 < (↑(List.length y1) : Int))) (.br (decide (Int.toNat y3 < List.length y1)) (.br (decide ((0 : Int) ≤ y3 ∧ y3 < (↑(List.length y2) : Int))) (.br (decide (Int.toNat y3 < List.length y2)) (.br (!((at_ (Ty.pair (Ty.int IntKind.i64) (Ty.pair (Ty.int IntKind.i64) (Ty.pair (Ty.int IntKind.i64) (Ty.pair (Ty.int IntKind.i64) (Ty.pair (Ty.int IntKind.i64) (Ty.pair (Ty.int IntKind.i64) (Ty.pair (Ty.int IntKind.i64) (Ty.pair (Ty.int IntKind.i64) (Ty.pair (Ty.int IntKind.i64) (Ty.pair (Ty.int IntKind.i64) (Ty.int IntKind.i64))))))))))) y1 (Int.toNat y3)).1 == (7 : Int) && ((at_ (Ty.pair (Ty.int IntKind.i64) (Ty.pair (Ty.int IntKind.i64) (Ty.pair (Ty.int IntKind.i64) (Ty.pair (Ty.int IntKind.i64) (Ty.pair (Ty.int IntKind.i64) (Ty.pair (Ty.int IntKind.i64) (Ty.pair (Ty.int IntKind.i64) (Ty.pair (Ty.int IntKind.i64) (Ty.pair (Ty.int IntKind.i64) (Ty.pair (Ty.int IntKind.i64) (Ty.int IntKind.i64))))))))))) y1 (Int.toNat y3)).2.1 == (0 : Int) && ((at_ (Ty.pair (Ty.int IntKind.i64) (Ty.pair (Ty.int IntKind.i64) (Ty.pair (Ty.int IntKind.i64) (Ty.pair (Ty.int IntKind.i64) (Ty.pair (Ty.int IntKind.i64) (Ty.pair (Ty.int IntKind.i64) (Ty.pair (Ty.int IntKind.i64) (Ty.pair (Ty.int IntKind.i64) (Ty.pair (Ty.int IntKind.i64) (Ty.pair (Ty.int IntKind.i64) (Ty.int IntKind.i64))))))))))) y1 (Int.toNat y3)).2.2.1 == y0 && ((at_ (Ty.pair (Ty.int IntKind.i64) (Ty.pair (Ty.int IntKind.i64) (Ty.pair (Ty.int IntKind.i64) (Ty.pair (Ty.int IntKind.i64) (Ty.pair (Ty.int IntKind.i64) (Ty.pair (Ty.int IntKind.i64) (Ty.pair (Ty.int IntKind.i64) (Ty.pair (Ty.int IntKind.i64) (Ty.pair (Ty.int IntKind.i64) (Ty.pair (Ty.int IntKind.i64) (Ty.int IntKind.i64))))))))))) y1 (Int.toNat y3)).2.2.2.1 == at_ (Ty.int IntKind.i64) y2 (Int.toNat y3) && ((at_ (Ty.pair (Ty.int IntKind.i64) (Ty.pair (Ty.int IntKind.i64) (Ty.pair (Ty.int IntKind.i64) (Ty.pair (Ty.int IntKind.i64) (Ty.pair (Ty.int IntKind.i64) (Ty.pair (Ty.int IntKind.i64) (Ty.pair (Ty.int IntKind.i64) (Ty.pair (Ty.int IntKind.i64) (Ty.pair (Ty.int IntKind.i64) (Ty.pair (Ty.int IntKind.i64) (Ty.int IntKind.i64))))))))))) y1 (Int.toNat y3)).2.2.2.2.1 == (0 : Int) && ((at_ (Ty.pair (Ty.int IntKind.i64) (Ty.pair (Ty.int IntKind.i64) (Ty.pair (Ty.int IntKind.i64) (Ty.pair (Ty.int IntKind.i64) (Ty.pair (Ty.int IntKind.i64) (Ty.pair (Ty.int IntKind.i64) (Ty.pair (Ty.int IntKind.i64) (Ty.pair (Ty.int IntKind.i64) (Ty.pair (Ty.int IntKind.i64) (Ty.pair (Ty.int IntKind.i64) (Ty.int IntKind.i64))))))))))) y1 (Int.toNat y3)).2.2.2.2.2.1 == (0 : Int) && ((at_ (Ty.pair (Ty.int IntKind.i64) (Ty.pair (Ty.int IntKind.i64) (Ty.pair (Ty.int IntKind.i64) (Ty.pair (Ty.int IntKind.i64) (Ty.pair (Ty.int IntKind.i64) (Ty.pair (Ty.int IntKind.i64) (Ty.pair (Ty.int IntKind.i64) (Ty.pair (Ty.int IntKind.i64) (Ty.pair (Ty.int IntKind.i64) (Ty.pair (Ty.int IntKind.i64) (Ty.int IntKind.i64))))))))))) y1 (Int.toNat y3)).2.2.2.2.2.2.1 == (0 : Int) && ((at_ (Ty.pair (Ty.int IntKind.i64) (Ty.pair (Ty.int IntKind.i64) (Ty.pair (Ty.int IntKind.i64) (Ty.pair (Ty.int IntKind.i64) (Ty.pair (Ty.int IntKind.i64) (Ty.pair (Ty.int IntKind.i64) (Ty.pair (Ty.int IntKind.i64) (Ty.pair (Ty.int IntKind.i64) (Ty.pair (Ty.int IntKind.i64) (Ty.pair (Ty.int IntKind.i64) (Ty.int IntKind.i64))))))))))) y1 (Int.toNat y3)).2.2.2.2.2.2.2.1 == (0 : Int) && ((at_ (Ty.pair (Ty.int IntKind.i64) (Ty.pair (Ty.int IntKind.i64) (Ty.pair (Ty.int IntKind.i64) (Ty.pair (Ty.int IntKind.i64) (Ty.pair (Ty.int IntKind.i64) (Ty.pair (Ty.int IntKind.i64) (Ty.pair (Ty.int IntKind.i64) (Ty.pair (Ty.int IntKind.i64) (Ty.pair (Ty.int IntKind.i64) (Ty.pair (Ty.int IntKind.i64) (Ty.int IntKind.i64))))))))))) y1 (Int.toNat y3)).2.2.2.2.2.2.2.2.1 == (0 : Int) && ((at_ (Ty.pair (Ty.int IntKind.i64) (Ty.pair (Ty.int IntKind.i64) (Ty.pair (Ty.int IntKind.i64) (Ty.pair (Ty.int IntKind.i64) (Ty.pair (Ty.int IntKind.i64) (Ty.pair (Ty.int IntKind.i64) (Ty.pair (Ty.int IntKind.i64) (Ty.pair (Ty.int IntKind.i64) (Ty.pair (Ty.int IntKind.i64) (Ty.pair (Ty.int IntKind.i64) (Ty.int IntKind.i64))))))))))) y1 (Int.toNat y3)).2.2.2.2.2.2.2.2.2.1 == (0 : Int) && ((at_ (Ty.pair (Ty.int IntKind.i64) (Ty.pair (Ty.int IntKind.i64) (Ty.pair (Ty.int IntKind.i64) (Ty.pair (Ty.int IntKind.i64) (Ty.pair (Ty.int IntKind.i64) (Ty.pair (Ty.int IntKind.i64) (Ty.pair (Ty.int IntKind.i64) (Ty.pair (Ty.int IntKind.i64) (Ty.pair (Ty.int IntKind.i64) (Ty.pair (Ty.int IntKind.i64) (Ty.int IntKind.i64))))))))))) y1 (Int.toNat y3)).2.2.2.2.2.2.2.2.2.2 == (0 : Int) && true)))))))))))) (.out (.inl false)) (.br (true) (.go (IntKind.wrap IntKind.i64 (y3 + (1 : Int)))) (.bad))) (.bad)) (.bad)) (.bad)) (.bad)) (.out (.inr (())))) (.bad)
noncomputable def g_Lw_FnPlcTick_0 (y0 : Int) (y1 : List ((Int) × ((Int) × ((Int) × ((Int) × ((Int) × ((Int) × ((Int) × ((Int) × ((Int) × ((Int) × (Int)))))))))))) (y2 : List (Int)) (x : (Int)) : Option (((Bool)) ⊕ (Unit)) := loopO (g_Sw_FnPlcTick_0 y0 y1 y2) x
noncomputable def xw_FnPlcTick_0 (y0 : Int) (y1 : List ((Int) × ((Int) × ((Int) × ((Int) × ((Int) × ((Int) × ((Int) × ((Int) × ((Int) × ((Int) × (Int)))))))))))) (y2 : List (Int)) : (((Bool)) ⊕ (Unit)) → Ex × List (Pl × LV) := fun
  | .inl r => (.ret, [(.T 2, .t (.val false [.bool r]))])
  | .inr (r) => (.exit 0, [(.T 2, .t (.val false [.undef]))])
noncomputable def Ow_FnPlcTick_1 : Orc := fun b h => match b, h with
  | 0, [(.T 3, .t (.val false [.int .i64 y0])), (.T 5, .t (.val false [.row 5 0 0])), (.R 5 0, .r 0 (some ⟨false, .any, true, 76, (.pair (.int .i64) (.pair (.int .i64) (.pair (.int .i64) (.pair (.int .i64) (.pair (.int .i64) (.pair (.int .i64) (.pair (.int .i64) (.pair (.int .i64) (.pair (.int .i64) (.pair (.int .i64) (.int .i64))))))))))), y1⟩)), (.T 6, .t (.val false [.row 6 0 0])), (.R 6 0, .r 0 (some ⟨false, .any, true, 3, (.int .i64), y2⟩)), (.T 7, .t (.val false [.int .i64 y3]))] => some (okO (g_Lw_FnPlcTick_0 y0 y1 y2 y3), (.br (isL (valO (g_Lw_FnPlcTick_0 y0 y1 y2 y3))) (.leaf .ret [(.T 2, .t (.val false [.bool (getL (valO (g_Lw_FnPlcTick_0 y0 y1 y2 y3)))]))]) (.leaf (.exit 0) [(.T 2, .t (.val false [.undef]))])))
  | b, h => Ow_FnPlcTick_0 b h
theorem bw_FnPlcTick_0 (y0 : Int) (y1 : List ((Int) × ((Int) × ((Int) × ((Int) × ((Int) × ((Int) × ((Int) × ((Int) × ((Int) × ((Int) × (Int)))))))))))) (y2 : List (Int)) (y3 : Int) : Tr.bt Ew_FnPlcTick Ow_FnPlcTick_0 (exec Ew_FnPlcTick 0 cw_FnPlcTick_0 (St.of (hw_FnPlcTick_0 y0 y1 y2 y3)) (leafRd Ew_FnPlcTick 0)) = (g_Sw_FnPlcTick_0 y0 y1 y2 y3).bt (fun (y3 : (Int)) => (hw_FnPlcTick_0 y0 y1 y2 y3)) (xw_FnPlcTick_0 y0 y1 y2) := by kernel_rfl
theorem kw_FnPlcTick_1 : OrcOk Ew_FnPlcTick Ow_FnPlcTick_1 lsw_FnPlcTick 1 := orc_add kw_FnPlcTick_0 (fun n p hp h ex h' ho => by
  obtain ⟨b, c⟩ := p
  obtain ⟨xt, h1, h2⟩ := ho
  have h1 : Ow_FnPlcTick_1 b h = some (true, xt) := h1
  unfold Ow_FnPlcTick_1 at h1
  split at h1
  · injection h1 with h1
    injection h1 with e1 e2
    subst e2
    have hc : c = cw_FnPlcTick_0 := mw_FnPlcTick_0 _ hp rfl
    subst hc
    right
    rename_i y0 y1 y2 y3
    have key := LT_step kw_FnPlcTick_0 hp (fun q hq => loopsAll_in _ _ _ _ hp hq) (fun (y3 : (Int)) => (hw_FnPlcTick_0 y0 y1 y2 y3)) (xw_FnPlcTick_0 y0 y1 y2) (g_Sw_FnPlcTick_0 y0 y1 y2) (fun x => by first | exact bw_FnPlcTick_0 y0 y1 y2 x) n (x := y3) (okO_some e1)
    have hx : ∀ r, XT.sel (.br (isL r) (.leaf .ret [(.T 2, .t (.val false [.bool (getL r)]))]) (.leaf (.exit 0) [(.T 2, .t (.val false [.undef]))])) = xw_FnPlcTick_0 y0 y1 y2 r := fun r => by first | rfl | (rcases r with r | r <;> rfl) | (rcases r with r | r | r <;> rfl) | (rcases r with r | r | r | r <;> rfl)
    have h3 := (hx (valO (g_Lw_FnPlcTick_0 y0 y1 y2 y3))).symm.trans h2
    have e3 := congrArg Prod.fst h3
    have e4 := congrArg Prod.snd h3
    simp only at e3 e4
    rw [← e3, ← e4]
    exact key
  · exact .inl ⟨xt, h1, h2⟩)
noncomputable def g_Aw_FnPlcTick (a0 : List (Int)) : Bool := decide ((↑(List.length a0) : Int) > (1048576 : Int)) || g_As_DrawPlcTick a0 && (g_Ai_PlcTick (g_Vs_DrawPlcTick_0 a0) (g_Vs_DrawPlcTick_1 a0) (g_Vs_DrawPlcTick_2 a0) && (g_As_PlcTick (g_Vs_DrawPlcTick_0 a0) (g_Vs_DrawPlcTick_1 a0) (g_Vs_DrawPlcTick_2 a0) && (g_Aw_jaMsgs (g_Vi_PlcTick_0 (g_Vs_DrawPlcTick_0 a0) (g_Vs_DrawPlcTick_1 a0) (g_Vs_DrawPlcTick_2 a0)) (g_Vs_PlcTick_0 (g_Vs_DrawPlcTick_0 a0) (g_Vs_DrawPlcTick_1 a0) (g_Vs_DrawPlcTick_2 a0)) && (!g_Vw_jaMsgs_0 (g_Vi_PlcTick_0 (g_Vs_DrawPlcTick_0 a0) (g_Vs_DrawPlcTick_1 a0) (g_Vs_DrawPlcTick_2 a0)) (g_Vs_PlcTick_0 (g_Vs_DrawPlcTick_0 a0) (g_Vs_DrawPlcTick_1 a0) (g_Vs_DrawPlcTick_2 a0)) || g_As_DiskOk (g_Vs_DrawPlcTick_1 a0) (g_Vs_DrawPlcTick_2 a0) && bif !g_Vs_DiskOk_0 (g_Vs_DrawPlcTick_1 a0) (g_Vs_DrawPlcTick_2 a0) then !(↑(List.length (g_Vi_PlcTick_0 (g_Vs_DrawPlcTick_0 a0) (g_Vs_DrawPlcTick_1 a0) (g_Vs_DrawPlcTick_2 a0))) : Int) == (0 : Int) || g_Aw_jaOk else bif decide (g_Vs_DrawPlcTick_0 a0 < (1 : Int)) then !(↑(List.length (g_Vi_PlcTick_0 (g_Vs_DrawPlcTick_0 a0) (g_Vs_DrawPlcTick_1 a0) (g_Vs_DrawPlcTick_2 a0))) : Int) == (0 : Int) || g_Aw_jaOk else bif decide (g_Vs_DrawPlcTick_0 a0 > (3 : Int)) then !(↑(List.length (g_Vi_PlcTick_0 (g_Vs_DrawPlcTick_0 a0) (g_Vs_DrawPlcTick_1 a0) (g_Vs_DrawPlcTick_2 a0))) : Int) == (0 : Int) || g_Aw_jaOk else g_Ai_DiskOpen (g_Vs_DrawPlcTick_1 a0) (g_Vs_DrawPlcTick_2 a0) && ((↑(List.length (g_Vi_DiskOpen_0 (g_Vs_DrawPlcTick_1 a0) (g_Vs_DrawPlcTick_2 a0))) : Int) != (↑(List.length (g_Vi_PlcTick_0 (g_Vs_DrawPlcTick_0 a0) (g_Vs_DrawPlcTick_1 a0) (g_Vs_DrawPlcTick_2 a0))) : Int) || okO (g_Lw_FnPlcTick_0 (g_Vs_DrawPlcTick_0 a0) (g_Vi_PlcTick_0 (g_Vs_DrawPlcTick_0 a0) (g_Vs_DrawPlcTick_1 a0) (g_Vs_DrawPlcTick_2 a0)) (g_Vi_DiskOpen_0 (g_Vs_DrawPlcTick_1 a0) (g_Vs_DrawPlcTick_2 a0)) (0 : Int)) && (isL (valO (g_Lw_FnPlcTick_0 (g_Vs_DrawPlcTick_0 a0) (g_Vi_PlcTick_0 (g_Vs_DrawPlcTick_0 a0) (g_Vs_DrawPlcTick_1 a0) (g_Vs_DrawPlcTick_2 a0)) (g_Vi_DiskOpen_0 (g_Vs_DrawPlcTick_1 a0) (g_Vs_DrawPlcTick_2 a0)) (0 : Int))) || g_Aw_jaOk))))))
noncomputable def g_Vw_FnPlcTick_0 (a0 : List (Int)) : Bool := bif decide ((↑(List.length a0) : Int) > (1048576 : Int)) then true else bif !g_Vw_jaMsgs_0 (g_Vi_PlcTick_0 (g_Vs_DrawPlcTick_0 a0) (g_Vs_DrawPlcTick_1 a0) (g_Vs_DrawPlcTick_2 a0)) (g_Vs_PlcTick_0 (g_Vs_DrawPlcTick_0 a0) (g_Vs_DrawPlcTick_1 a0) (g_Vs_DrawPlcTick_2 a0)) then false else bif !g_Vs_DiskOk_0 (g_Vs_DrawPlcTick_1 a0) (g_Vs_DrawPlcTick_2 a0) then bif (↑(List.length (g_Vi_PlcTick_0 (g_Vs_DrawPlcTick_0 a0) (g_Vs_DrawPlcTick_1 a0) (g_Vs_DrawPlcTick_2 a0))) : Int) == (0 : Int) then g_Vw_jaOk_0 else false else bif decide (g_Vs_DrawPlcTick_0 a0 < (1 : Int)) then bif (↑(List.length (g_Vi_PlcTick_0 (g_Vs_DrawPlcTick_0 a0) (g_Vs_DrawPlcTick_1 a0) (g_Vs_DrawPlcTick_2 a0))) : Int) == (0 : Int) then g_Vw_jaOk_0 else false else bif decide (g_Vs_DrawPlcTick_0 a0 > (3 : Int)) then bif (↑(List.length (g_Vi_PlcTick_0 (g_Vs_DrawPlcTick_0 a0) (g_Vs_DrawPlcTick_1 a0) (g_Vs_DrawPlcTick_2 a0))) : Int) == (0 : Int) then g_Vw_jaOk_0 else false else bif (↑(List.length (g_Vi_DiskOpen_0 (g_Vs_DrawPlcTick_1 a0) (g_Vs_DrawPlcTick_2 a0))) : Int) != (↑(List.length (g_Vi_PlcTick_0 (g_Vs_DrawPlcTick_0 a0) (g_Vs_DrawPlcTick_1 a0) (g_Vs_DrawPlcTick_2 a0))) : Int) then false else bif isL (valO (g_Lw_FnPlcTick_0 (g_Vs_DrawPlcTick_0 a0) (g_Vi_PlcTick_0 (g_Vs_DrawPlcTick_0 a0) (g_Vs_DrawPlcTick_1 a0) (g_Vs_DrawPlcTick_2 a0)) (g_Vi_DiskOpen_0 (g_Vs_DrawPlcTick_1 a0) (g_Vs_DrawPlcTick_2 a0)) (0 : Int))) then getL (valO (g_Lw_FnPlcTick_0 (g_Vs_DrawPlcTick_0 a0) (g_Vi_PlcTick_0 (g_Vs_DrawPlcTick_0 a0) (g_Vs_DrawPlcTick_1 a0) (g_Vs_DrawPlcTick_2 a0)) (g_Vi_DiskOpen_0 (g_Vs_DrawPlcTick_1 a0) (g_Vs_DrawPlcTick_2 a0)) (0 : Int))) else g_Vw_jaOk_0
noncomputable def Fw_FnPlcTick : FSem := fun ys => match ys with
  | [.val false [.sl .any 5 (.int .u8) a0]] => some ((g_Aw_FnPlcTick a0), .val false [.bool (g_Vw_FnPlcTick_0 a0)], [])
  | _ => none
theorem vw_FnPlcTick (a0 : List (Int)) : collapseH .std Ew_FnPlcTick Ow_FnPlcTick_1 (execFn Ew_FnPlcTick Go.Proofs.Tryd.f9 msw_FnPlcTick [.val false [.sl .any 5 (.int .u8) a0]]) = some ((g_Aw_FnPlcTick a0), .val false [.bool (g_Vw_FnPlcTick_0 a0)], []) := by kernel_rfl
theorem sw_FnPlcTick : Sound Go.Proofs.Tryd.prog 9 msw_FnPlcTick Fw_FnPlcTick := by
  refine fn_gen goodw_FnPlcTick (by kernel_rfl) .std (fn := Go.Proofs.Tryd.f9) (c := (Go.Proofs.Tryd.f9.body.getD .skip)) (o := Ow_FnPlcTick_1) (k := 1) (by kernel_rfl) (by kernel_rfl) (by kernel_rfl) (by kernel_rfl) (by decide) kw_FnPlcTick_1 ?_
  intro ys r outs h
  unfold Fw_FnPlcTick at h
  split at h
  · exact (vw_FnPlcTick _).trans h
  · cases h
end Go.Proofs.YtibafhmmnoijkaaDoor.E
end
section
namespace Go.Proofs.YtibafhmmnoijkaaDoor.E
open Go
set_option maxRecDepth 100000
set_option maxHeartbeats 0
set_option linter.all false
noncomputable def Eslices_Clone_int_int_a : Env where
  tt := mkTI Go.Proofs.Tryd.prog
  fn := fun _ => none
  bxf := fun _ => none
  mv := []
  keep := fun _ => []
  keepB := fun _ => []
  keepX := fun _ => []
  keepXB := fun _ => []
theorem goodFslices_Clone_int_int_a : ∀ f ms F, Eslices_Clone_int_int_a.fn f = some (ms, F) → Sound Go.Proofs.Tryd.prog f ms F := fun f ms F h => by cases h
theorem goodBslices_Clone_int_int_a : ∀ f ms F, Eslices_Clone_int_int_a.bxf f = some (ms, F) → SoundB Go.Proofs.Tryd.prog f ms F := fun f ms F h => by cases h
theorem goodslices_Clone_int_int_a : Good Go.Proofs.Tryd.prog Eslices_Clone_int_int_a := ⟨rfl, goodFslices_Clone_int_int_a, goodBslices_Clone_int_int_a⟩
noncomputable def Oslices_Clone_int_int_a_0 : Orc := fun _ _ => none
noncomputable def msslices_Clone_int_int_a : List PM := [.rd]
noncomputable def lsslices_Clone_int_int_a : List (Nat × Code) := loopsAll 0 (Go.Proofs.Tryd.f112.body.getD .skip)

theorem kslices_Clone_int_int_a_0 : OrcOk Eslices_Clone_int_int_a Oslices_Clone_int_int_a_0 lsslices_Clone_int_int_a 0 := orcOk_none
noncomputable def g_Vslices_Clone_int_int_a_0 : List (Int) := []
noncomputable def Fslices_Clone_int_int_a : FSem := fun ys => match ys with
  | [.val false [.nil 3 (.int .i64)]] => some (true, .val false [.own .any true 3 (.int .i64) g_Vslices_Clone_int_int_a_0], [])
  | _ => none
theorem vslices_Clone_int_int_a : collapseH .std Eslices_Clone_int_int_a Oslices_Clone_int_int_a_0 (execFn Eslices_Clone_int_int_a Go.Proofs.Tryd.f112 msslices_Clone_int_int_a [.val false [.nil 3 (.int .i64)]]) = some (true, .val false [.own .any true 3 (.int .i64) g_Vslices_Clone_int_int_a_0], []) := by kernel_rfl
theorem sslices_Clone_int_int_a : Sound Go.Proofs.Tryd.prog 112 msslices_Clone_int_int_a Fslices_Clone_int_int_a := by
  refine fn_gen goodslices_Clone_int_int_a (by kernel_rfl) .std (fn := Go.Proofs.Tryd.f112) (c := (Go.Proofs.Tryd.f112.body.getD .skip)) (o := Oslices_Clone_int_int_a_0) (k := 0) (by kernel_rfl) (by kernel_rfl) (by kernel_rfl) (by kernel_rfl) (by decide) kslices_Clone_int_int_a_0 ?_
  intro ys r outs h
  unfold Fslices_Clone_int_int_a at h
  split at h
  · exact (vslices_Clone_int_int_a).trans h
  · cases h
end Go.Proofs.YtibafhmmnoijkaaDoor.E
end
section
namespace Go.Proofs.YtibafhmmnoijkaaDoor.E
open Go
set_option maxRecDepth 100000
set_option maxHeartbeats 0
set_option linter.all false
noncomputable def Eslices_Clone_int_int_b : Env where
  tt := mkTI Go.Proofs.Tryd.prog
  fn := fun _ => none
  bxf := fun _ => none
  mv := []
  keep := fun _ => []
  keepB := fun _ => []
  keepX := fun _ => []
  keepXB := fun _ => []
theorem goodFslices_Clone_int_int_b : ∀ f ms F, Eslices_Clone_int_int_b.fn f = some (ms, F) → Sound Go.Proofs.Tryd.prog f ms F := fun f ms F h => by cases h
theorem goodBslices_Clone_int_int_b : ∀ f ms F, Eslices_Clone_int_int_b.bxf f = some (ms, F) → SoundB Go.Proofs.Tryd.prog f ms F := fun f ms F h => by cases h
theorem goodslices_Clone_int_int_b : Good Go.Proofs.Tryd.prog Eslices_Clone_int_int_b := ⟨rfl, goodFslices_Clone_int_int_b, goodBslices_Clone_int_int_b⟩
noncomputable def Oslices_Clone_int_int_b_0 : Orc := fun _ _ => none
noncomputable def msslices_Clone_int_int_b : List PM := [.rd]
noncomputable def lsslices_Clone_int_int_b : List (Nat × Code) := loopsAll 0 (Go.Proofs.Tryd.f112.body.getD .skip)

theorem kslices_Clone_int_int_b_0 : OrcOk Eslices_Clone_int_int_b Oslices_Clone_int_int_b_0 lsslices_Clone_int_int_b 0 := orcOk_none
noncomputable def g_Aslices_Clone_int_int_b (a0 : List (Int)) : Bool := decide ((nat_lit 0 + List.length a0) * nat_lit 8 ≤ nat_lit 140737488355328 ∧ nat_lit 0 + List.length a0 ≤ nat_lit 9223372036854775807)
noncomputable def g_Vslices_Clone_int_int_b_0 (a0 : List (Int)) : List (Int) := [] ++ a0
noncomputable def Fslices_Clone_int_int_b : FSem := fun ys => match ys with
  | [.val false [.sl .non 3 (.int .i64) a0]] => some ((g_Aslices_Clone_int_int_b a0), .val false [.own .any true 3 (.int .i64) (g_Vslices_Clone_int_int_b_0 a0)], [])
  | _ => none
theorem vslices_Clone_int_int_b (a0 : List (Int)) : collapseH .std Eslices_Clone_int_int_b Oslices_Clone_int_int_b_0 (execFn Eslices_Clone_int_int_b Go.Proofs.Tryd.f112 msslices_Clone_int_int_b [.val false [.sl .non 3 (.int .i64) a0]]) = some ((g_Aslices_Clone_int_int_b a0), .val false [.own .any true 3 (.int .i64) (g_Vslices_Clone_int_int_b_0 a0)], []) := by kernel_rfl
theorem sslices_Clone_int_int_b : Sound Go.Proofs.Tryd.prog 112 msslices_Clone_int_int_b Fslices_Clone_int_int_b := by
  refine fn_gen goodslices_Clone_int_int_b (by kernel_rfl) .std (fn := Go.Proofs.Tryd.f112) (c := (Go.Proofs.Tryd.f112.body.getD .skip)) (o := Oslices_Clone_int_int_b_0) (k := 0) (by kernel_rfl) (by kernel_rfl) (by kernel_rfl) (by kernel_rfl) (by decide) kslices_Clone_int_int_b_0 ?_
  intro ys r outs h
  unfold Fslices_Clone_int_int_b at h
  split at h
  · exact (vslices_Clone_int_int_b _).trans h
  · cases h
end Go.Proofs.YtibafhmmnoijkaaDoor.E
end
section
namespace Go.Proofs.YtibafhmmnoijkaaDoor.E
open Go
set_option maxRecDepth 100000
set_option linter.all false
def msslices_Clone_int_int : List PM := [.rd]
noncomputable def Fslices_Clone_int_int : FSem := fun ys => match ys with
  | [.val false [.sl .any 3 (.int .i64) a0]] => some ((g_Aslices_Clone_int_int_b a0), .val false [.own .any true 3 (.int .i64) a0], [])
  | _ => none
theorem sslices_Clone_int_int : Sound Go.Proofs.Tryd.prog 112 msslices_Clone_int_int Fslices_Clone_int_int := by
  refine sound_cases (el := 3) (e := (.int .i64)) sslices_Clone_int_int_a sslices_Clone_int_int_b (fun ys r outs h => ?_)
  unfold Fslices_Clone_int_int at h
  split at h
  · rename_i a0
    simp only [Option.some.injEq, Prod.mk.injEq] at h
    obtain ⟨h1, rfl, rfl⟩ := h
    refine ⟨a0, rfl, fun e => ?_, ?_⟩
    · subst e
      rfl
    · show some ((g_Aslices_Clone_int_int_b a0), RV.val false [Cell.own .any true 3 (.int .i64) ([] ++ a0)], []) = _
      rw [h1, List.nil_append]
  · cases h
end Go.Proofs.YtibafhmmnoijkaaDoor.E
end
section
namespace Go.Proofs.YtibafhmmnoijkaaDoor.E
open Go
set_option maxRecDepth 100000
set_option maxHeartbeats 0
set_option linter.all false
noncomputable def Ei_writesOf : Env where
  tt := mkTI Go.Proofs.Tryd.prog
  fn := fun f => match f with
    | 112 => some (msslices_Clone_int_int, FSem.wk msslices_Clone_int_int Fslices_Clone_int_int)
    | _ => none
  bxf := fun _ => none
  mv := []
  keep := fun b => match b with
    | 0 => [(3, false), (6, false), (7, false), (8, false)]
    | _ => []
  keepB := fun b => match b with
    | 0 => []
    | _ => []
  keepX := fun b => match b with
    | 0 => [(3, false)]
    | _ => []
  keepXB := fun b => match b with
    | 0 => []
    | _ => []
theorem goodFi_writesOf : ∀ f ms F, Ei_writesOf.fn f = some (ms, F) → Sound Go.Proofs.Tryd.prog f ms F := fun f ms F h => by
  unfold Ei_writesOf at h
  dsimp only at h
  split at h
  · injection h with h; injection h with e1 e2; subst e1 e2; exact Sound.wk sslices_Clone_int_int
  · cases h
theorem goodBi_writesOf : ∀ f ms F, Ei_writesOf.bxf f = some (ms, F) → SoundB Go.Proofs.Tryd.prog f ms F := fun f ms F h => by cases h
theorem goodi_writesOf : Good Go.Proofs.Tryd.prog Ei_writesOf := ⟨rfl, goodFi_writesOf, goodBi_writesOf⟩
noncomputable def Oi_writesOf_0 : Orc := fun _ _ => none
noncomputable def msi_writesOf : List PM := [.rd]
noncomputable def lsi_writesOf : List (Nat × Code) := loopsAll 0 (Go.Proofs.Tryd.f159.body.getD .skip)
noncomputable def ci_writesOf_0 : Code := (loopOf 0 (Go.Proofs.Tryd.f159.body.getD .skip)).getD .skip
theorem lseqi_writesOf : lsi_writesOf = [(0, ci_writesOf_0)] := by kernel_rfl
theorem mi_writesOf_0 : ∀ p, p ∈ lsi_writesOf → p.1 = 0 → p.2 = ci_writesOf_0 := by
  intro p hp
  rw [lseqi_writesOf] at hp
  simp only [List.mem_cons, List.not_mem_nil, or_false] at hp
  subst hp; simp
theorem ki_writesOf_0 : OrcOk Ei_writesOf Oi_writesOf_0 lsi_writesOf 0 := orcOk_none
noncomputable def hi_writesOf_0 (y0 : List ((ByteArray) × ((Bool) × (List (Int))))) (y1 : List ((ByteArray) × ((Bool) × (List (Int))))) (y2 : Int) (y3 : Int) : List (Pl × LV) := [(.T 3, .t (.val false [.row 3 0 0])), (.R 3 0, .r 0 (some ⟨false, .any, true, 83, (.pair .str (.pair .bool (.sl 3 (.int .i64)))), y0⟩)), (.T 6, .t (.val false [.sl .any 83 (.pair .str (.pair .bool (.sl 3 (.int .i64)))) y1])), (.T 7, .t (.val false [.int .i64 y2])), (.T 8, .t (.val false [.int .i64 y3]))]
noncomputable def g_Si_writesOf_0 (y1 : List ((ByteArray) × ((Bool) × (List (Int))))) (y2 : Int) : ((List ((ByteArray) × ((Bool) × (List (Int))))) × (Int)) → RT ((List ((ByteArray) × ((Bool) × (List (Int))))) × (Int)) (((List ((ByteArray) × ((Bool) × (List (Int)))))))
  | (y0, y3) => .br (true) (.br (decide (y3 < y2)) (.br (decide ((0 : Int) ≤ y3 ∧ y3 < (↑(List.length y1) : Int))) (.br (g_Aslices_Clone_int_int_b (at_ (Ty.pair Ty.str (Ty.pair Ty.bool (Ty.sl (nat_lit 3) (Ty.int IntKind.i64)))) y1 (Int.toNat y3)).2.2) (.br (decide ((List.length y0 + List.length [((at_ (Ty.pair Ty.str (Ty.pair Ty.bool (Ty.sl (nat_lit 3) (Ty.int IntKind.i64)))) y1 (Int.toNat y3)).1, (at_ (Ty.pair Ty.str (Ty.pair Ty.bool (Ty.sl (nat_lit 3) (Ty.int IntKind.i64)))) y1 (Int.toNat y3)).2.1, (at_ (Ty.pair Ty.str (Ty.pair Ty.bool (Ty.sl (nat_lit 3) (Ty.int IntKind.i64)))) y1 (Int.toNat y3)).2.2)]) * nat_lit 48 ≤ nat_lit 140737488355328 ∧ List.length y0 + List.length [((at_ (Ty.pair Ty.str (Ty.pair Ty.bool (Ty.sl (nat_lit 3) (Ty.int IntKind.i64)))) y1 (Int.toNat y3)).1, (at_ (Ty.pair Ty.str (Ty.pair Ty.bool (Ty.sl (nat_lit 3) (Ty.int IntKind.i64)))) y1 (Int.toNat y3)).2.1, (at_ (Ty.pair Ty.str (Ty.pair Ty.bool (Ty.sl (nat_lit 3) (Ty.int IntKind.i64)))) y1 (Int.toNat y3)).2.2)] ≤ nat_lit 9223372036854775807)) (.br (true) (.go ((y0 ++ [((at_ (Ty.pair Ty.str (Ty.pair Ty.bool (Ty.sl (nat_lit 3) (Ty.int IntKind.i64)))) y1 (Int.toNat y3)).1, (at_ (Ty.pair Ty.str (Ty.pair Ty.bool (Ty.sl (nat_lit 3) (Ty.int IntKind.i64)))) y1 (Int.toNat y3)).2.1, (at_ (Ty.pair Ty.str (Ty.pair Ty.bool (Ty.sl (nat_lit 3) (Ty.int IntKind.i64)))) y1 (Int.toNat y3)).2.2)], IntKind.wrap IntKind.i64 (y3 + (1 : Int))))) (.bad)) (.bad)) (.bad)) (.bad)) (.out (y0))) (.bad)
noncomputable def g_Li_writesOf_0 (y1 : List ((ByteArray) × ((Bool) × (List (Int))))) (y2 : Int) (x : (List ((ByteArray) × ((Bool) × (List (Int))))) × (Int)) : Option (((List ((ByteArray) × ((Bool) × (List (Int))))))) := loopO (g_Si_writesOf_0 y1 y2) x
noncomputable def xi_writesOf_0 (y1 : List ((ByteArray) × ((Bool) × (List (Int))))) (y2 : Int) : (((List ((ByteArray) × ((Bool) × (List (Int))))))) → Ex × List (Pl × LV) := fun r => (.exit 0, [(.T 3, .t (.val false [.row 3 0 0])), (.R 3 0, .r 0 (some ⟨false, .any, true, 83, (.pair .str (.pair .bool (.sl 3 (.int .i64)))), r⟩))])
noncomputable def Oi_writesOf_1 : Orc := fun b h => match b, h with
  | 0, [(.T 3, .t (.val false [.row 3 0 0])), (.R 3 0, .r 0 (some ⟨false, .any, true, 83, (.pair .str (.pair .bool (.sl 3 (.int .i64)))), y0⟩)), (.T 6, .t (.val false [.sl .any 83 (.pair .str (.pair .bool (.sl 3 (.int .i64)))) y1])), (.T 7, .t (.val false [.int .i64 y2])), (.T 8, .t (.val false [.int .i64 y3]))] => some (okO (g_Li_writesOf_0 y1 y2 (y0, y3)), (.leaf (.exit 0) [(.T 3, .t (.val false [.row 3 0 0])), (.R 3 0, .r 0 (some ⟨false, .any, true, 83, (.pair .str (.pair .bool (.sl 3 (.int .i64)))), (valO (g_Li_writesOf_0 y1 y2 (y0, y3)))⟩))]))
  | b, h => Oi_writesOf_0 b h
theorem bi_writesOf_0 (y0 : List ((ByteArray) × ((Bool) × (List (Int))))) (y1 : List ((ByteArray) × ((Bool) × (List (Int))))) (y2 : Int) (y3 : Int) : Tr.bt Ei_writesOf Oi_writesOf_0 (exec Ei_writesOf 0 ci_writesOf_0 (St.of (hi_writesOf_0 y0 y1 y2 y3)) (leafRd Ei_writesOf 0)) = (g_Si_writesOf_0 y1 y2 (y0, y3)).bt (fun ((y0, y3) : (List ((ByteArray) × ((Bool) × (List (Int))))) × (Int)) => (hi_writesOf_0 y0 y1 y2 y3)) (xi_writesOf_0 y1 y2) := by kernel_rfl
theorem ki_writesOf_1 : OrcOk Ei_writesOf Oi_writesOf_1 lsi_writesOf 1 := orc_add ki_writesOf_0 (fun n p hp h ex h' ho => by
  obtain ⟨b, c⟩ := p
  obtain ⟨xt, h1, h2⟩ := ho
  have h1 : Oi_writesOf_1 b h = some (true, xt) := h1
  unfold Oi_writesOf_1 at h1
  split at h1
  · injection h1 with h1
    injection h1 with e1 e2
    subst e2
    have hc : c = ci_writesOf_0 := mi_writesOf_0 _ hp rfl
    subst hc
    right
    rename_i y0 y1 y2 y3
    have key := LT_step ki_writesOf_0 hp (fun q hq => loopsAll_in _ _ _ _ hp hq) (fun ((y0, y3) : (List ((ByteArray) × ((Bool) × (List (Int))))) × (Int)) => (hi_writesOf_0 y0 y1 y2 y3)) (xi_writesOf_0 y1 y2) (g_Si_writesOf_0 y1 y2) (fun x => by first | exact bi_writesOf_0 x.1 y1 y2 x.2) n (x := (y0, y3)) (okO_some e1)
    have hx : ∀ r, XT.sel (.leaf (.exit 0) [(.T 3, .t (.val false [.row 3 0 0])), (.R 3 0, .r 0 (some ⟨false, .any, true, 83, (.pair .str (.pair .bool (.sl 3 (.int .i64)))), r⟩))]) = xi_writesOf_0 y1 y2 r := fun r => by first | rfl | (rcases r with r | r <;> rfl) | (rcases r with r | r | r <;> rfl) | (rcases r with r | r | r | r <;> rfl)
    have h3 := (hx (valO (g_Li_writesOf_0 y1 y2 (y0, y3)))).symm.trans h2
    have e3 := congrArg Prod.fst h3
    have e4 := congrArg Prod.snd h3
    simp only at e3 e4
    rw [← e3, ← e4]
    exact key
  · exact .inl ⟨xt, h1, h2⟩)
noncomputable def g_Ai_writesOf (a0 : List ((ByteArray) × ((Bool) × (List (Int))))) : Bool := okO (g_Li_writesOf_0 a0 (↑(List.length a0) : Int) ([], (0 : Int)))
noncomputable def g_Vi_writesOf_0 (a0 : List ((ByteArray) × ((Bool) × (List (Int))))) : List ((ByteArray) × ((Bool) × (List (Int)))) := valO (g_Li_writesOf_0 a0 (↑(List.length a0) : Int) ([], (0 : Int)))
noncomputable def Fi_writesOf : FSem := fun ys => match ys with
  | [.val false [.sl .any 83 (.pair .str (.pair .bool (.sl 3 (.int .i64)))) a0]] => some ((g_Ai_writesOf a0), .val false [.own .any true 83 (.pair .str (.pair .bool (.sl 3 (.int .i64)))) (g_Vi_writesOf_0 a0)], [])
  | _ => none
theorem vi_writesOf (a0 : List ((ByteArray) × ((Bool) × (List (Int))))) : collapseH .std Ei_writesOf Oi_writesOf_1 (execFn Ei_writesOf Go.Proofs.Tryd.f159 msi_writesOf [.val false [.sl .any 83 (.pair .str (.pair .bool (.sl 3 (.int .i64)))) a0]]) = some ((g_Ai_writesOf a0), .val false [.own .any true 83 (.pair .str (.pair .bool (.sl 3 (.int .i64)))) (g_Vi_writesOf_0 a0)], []) := by kernel_rfl
theorem si_writesOf : Sound Go.Proofs.Tryd.prog 159 msi_writesOf Fi_writesOf := by
  refine fn_gen goodi_writesOf (by kernel_rfl) .std (fn := Go.Proofs.Tryd.f159) (c := (Go.Proofs.Tryd.f159.body.getD .skip)) (o := Oi_writesOf_1) (k := 1) (by kernel_rfl) (by kernel_rfl) (by kernel_rfl) (by kernel_rfl) (by decide) ki_writesOf_1 ?_
  intro ys r outs h
  unfold Fi_writesOf at h
  split at h
  · exact (vi_writesOf _).trans h
  · cases h
end Go.Proofs.YtibafhmmnoijkaaDoor.E
end
section
namespace Go.Proofs.YtibafhmmnoijkaaDoor.E
open Go
set_option maxRecDepth 100000
set_option maxHeartbeats 0
set_option linter.all false
noncomputable def Eslices_Clone_string_string_a : Env where
  tt := mkTI Go.Proofs.Tryd.prog
  fn := fun _ => none
  bxf := fun _ => none
  mv := []
  keep := fun _ => []
  keepB := fun _ => []
  keepX := fun _ => []
  keepXB := fun _ => []
theorem goodFslices_Clone_string_string_a : ∀ f ms F, Eslices_Clone_string_string_a.fn f = some (ms, F) → Sound Go.Proofs.Tryd.prog f ms F := fun f ms F h => by cases h
theorem goodBslices_Clone_string_string_a : ∀ f ms F, Eslices_Clone_string_string_a.bxf f = some (ms, F) → SoundB Go.Proofs.Tryd.prog f ms F := fun f ms F h => by cases h
theorem goodslices_Clone_string_string_a : Good Go.Proofs.Tryd.prog Eslices_Clone_string_string_a := ⟨rfl, goodFslices_Clone_string_string_a, goodBslices_Clone_string_string_a⟩
noncomputable def Oslices_Clone_string_string_a_0 : Orc := fun _ _ => none
noncomputable def msslices_Clone_string_string_a : List PM := [.rd]
noncomputable def lsslices_Clone_string_string_a : List (Nat × Code) := loopsAll 0 (Go.Proofs.Tryd.f158.body.getD .skip)

theorem kslices_Clone_string_string_a_0 : OrcOk Eslices_Clone_string_string_a Oslices_Clone_string_string_a_0 lsslices_Clone_string_string_a 0 := orcOk_none
noncomputable def g_Vslices_Clone_string_string_a_0 : List (ByteArray) := []
noncomputable def Fslices_Clone_string_string_a : FSem := fun ys => match ys with
  | [.val false [.nil 9 .str]] => some (true, .val false [.own .any true 9 .str g_Vslices_Clone_string_string_a_0], [])
  | _ => none
theorem vslices_Clone_string_string_a : collapseH .std Eslices_Clone_string_string_a Oslices_Clone_string_string_a_0 (execFn Eslices_Clone_string_string_a Go.Proofs.Tryd.f158 msslices_Clone_string_string_a [.val false [.nil 9 .str]]) = some (true, .val false [.own .any true 9 .str g_Vslices_Clone_string_string_a_0], []) := by kernel_rfl
theorem sslices_Clone_string_string_a : Sound Go.Proofs.Tryd.prog 158 msslices_Clone_string_string_a Fslices_Clone_string_string_a := by
  refine fn_gen goodslices_Clone_string_string_a (by kernel_rfl) .std (fn := Go.Proofs.Tryd.f158) (c := (Go.Proofs.Tryd.f158.body.getD .skip)) (o := Oslices_Clone_string_string_a_0) (k := 0) (by kernel_rfl) (by kernel_rfl) (by kernel_rfl) (by kernel_rfl) (by decide) kslices_Clone_string_string_a_0 ?_
  intro ys r outs h
  unfold Fslices_Clone_string_string_a at h
  split at h
  · exact (vslices_Clone_string_string_a).trans h
  · cases h
end Go.Proofs.YtibafhmmnoijkaaDoor.E
end
section
namespace Go.Proofs.YtibafhmmnoijkaaDoor.E
open Go
set_option maxRecDepth 100000
set_option maxHeartbeats 0
set_option linter.all false
noncomputable def Eslices_Clone_string_string_b : Env where
  tt := mkTI Go.Proofs.Tryd.prog
  fn := fun _ => none
  bxf := fun _ => none
  mv := []
  keep := fun _ => []
  keepB := fun _ => []
  keepX := fun _ => []
  keepXB := fun _ => []
theorem goodFslices_Clone_string_string_b : ∀ f ms F, Eslices_Clone_string_string_b.fn f = some (ms, F) → Sound Go.Proofs.Tryd.prog f ms F := fun f ms F h => by cases h
theorem goodBslices_Clone_string_string_b : ∀ f ms F, Eslices_Clone_string_string_b.bxf f = some (ms, F) → SoundB Go.Proofs.Tryd.prog f ms F := fun f ms F h => by cases h
theorem goodslices_Clone_string_string_b : Good Go.Proofs.Tryd.prog Eslices_Clone_string_string_b := ⟨rfl, goodFslices_Clone_string_string_b, goodBslices_Clone_string_string_b⟩
noncomputable def Oslices_Clone_string_string_b_0 : Orc := fun _ _ => none
noncomputable def msslices_Clone_string_string_b : List PM := [.rd]
noncomputable def lsslices_Clone_string_string_b : List (Nat × Code) := loopsAll 0 (Go.Proofs.Tryd.f158.body.getD .skip)

theorem kslices_Clone_string_string_b_0 : OrcOk Eslices_Clone_string_string_b Oslices_Clone_string_string_b_0 lsslices_Clone_string_string_b 0 := orcOk_none
noncomputable def g_Aslices_Clone_string_string_b (a0 : List (ByteArray)) : Bool := decide ((nat_lit 0 + List.length a0) * nat_lit 16 ≤ nat_lit 140737488355328 ∧ nat_lit 0 + List.length a0 ≤ nat_lit 9223372036854775807)
noncomputable def g_Vslices_Clone_string_string_b_0 (a0 : List (ByteArray)) : List (ByteArray) := [] ++ a0
noncomputable def Fslices_Clone_string_string_b : FSem := fun ys => match ys with
  | [.val false [.sl .non 9 .str a0]] => some ((g_Aslices_Clone_string_string_b a0), .val false [.own .any true 9 .str (g_Vslices_Clone_string_string_b_0 a0)], [])
  | _ => none
theorem vslices_Clone_string_string_b (a0 : List (ByteArray)) : collapseH .std Eslices_Clone_string_string_b Oslices_Clone_string_string_b_0 (execFn Eslices_Clone_string_string_b Go.Proofs.Tryd.f158 msslices_Clone_string_string_b [.val false [.sl .non 9 .str a0]]) = some ((g_Aslices_Clone_string_string_b a0), .val false [.own .any true 9 .str (g_Vslices_Clone_string_string_b_0 a0)], []) := by kernel_rfl
theorem sslices_Clone_string_string_b : Sound Go.Proofs.Tryd.prog 158 msslices_Clone_string_string_b Fslices_Clone_string_string_b := by
  refine fn_gen goodslices_Clone_string_string_b (by kernel_rfl) .std (fn := Go.Proofs.Tryd.f158) (c := (Go.Proofs.Tryd.f158.body.getD .skip)) (o := Oslices_Clone_string_string_b_0) (k := 0) (by kernel_rfl) (by kernel_rfl) (by kernel_rfl) (by kernel_rfl) (by decide) kslices_Clone_string_string_b_0 ?_
  intro ys r outs h
  unfold Fslices_Clone_string_string_b at h
  split at h
  · exact (vslices_Clone_string_string_b _).trans h
  · cases h
end Go.Proofs.YtibafhmmnoijkaaDoor.E
end
section
namespace Go.Proofs.YtibafhmmnoijkaaDoor.E
open Go
set_option maxRecDepth 100000
set_option linter.all false
def msslices_Clone_string_string : List PM := [.rd]
noncomputable def Fslices_Clone_string_string : FSem := fun ys => match ys with
  | [.val false [.sl .any 9 .str a0]] => some ((g_Aslices_Clone_string_string_b a0), .val false [.own .any true 9 .str a0], [])
  | _ => none
theorem sslices_Clone_string_string : Sound Go.Proofs.Tryd.prog 158 msslices_Clone_string_string Fslices_Clone_string_string := by
  refine sound_cases (el := 9) (e := .str) sslices_Clone_string_string_a sslices_Clone_string_string_b (fun ys r outs h => ?_)
  unfold Fslices_Clone_string_string at h
  split at h
  · rename_i a0
    simp only [Option.some.injEq, Prod.mk.injEq] at h
    obtain ⟨h1, rfl, rfl⟩ := h
    refine ⟨a0, rfl, fun e => ?_, ?_⟩
    · subst e
      rfl
    · show some ((g_Aslices_Clone_string_string_b a0), RV.val false [Cell.own .any true 9 .str ([] ++ a0)], []) = _
      rw [h1, List.nil_append]
  · cases h
end Go.Proofs.YtibafhmmnoijkaaDoor.E
end
section
namespace Go.Proofs.YtibafhmmnoijkaaDoor.E
open Go
set_option maxRecDepth 100000
set_option maxHeartbeats 0
set_option linter.all false
noncomputable def Ei_LogNote_copied : Env where
  tt := mkTI Go.Proofs.Tryd.prog
  fn := fun f => match f with
    | 158 => some (msslices_Clone_string_string, FSem.wk msslices_Clone_string_string Fslices_Clone_string_string)
    | 159 => some (msi_writesOf, FSem.wk msi_writesOf Fi_writesOf)
    | _ => none
  bxf := fun _ => none
  mv := []
  keep := fun _ => []
  keepB := fun _ => []
  keepX := fun _ => []
  keepXB := fun _ => []
theorem goodFi_LogNote_copied : ∀ f ms F, Ei_LogNote_copied.fn f = some (ms, F) → Sound Go.Proofs.Tryd.prog f ms F := fun f ms F h => by
  unfold Ei_LogNote_copied at h
  dsimp only at h
  split at h
  · injection h with h; injection h with e1 e2; subst e1 e2; exact Sound.wk sslices_Clone_string_string
  · injection h with h; injection h with e1 e2; subst e1 e2; exact Sound.wk si_writesOf
  · cases h
theorem goodBi_LogNote_copied : ∀ f ms F, Ei_LogNote_copied.bxf f = some (ms, F) → SoundB Go.Proofs.Tryd.prog f ms F := fun f ms F h => by cases h
theorem goodi_LogNote_copied : Good Go.Proofs.Tryd.prog Ei_LogNote_copied := ⟨rfl, goodFi_LogNote_copied, goodBi_LogNote_copied⟩
noncomputable def Oi_LogNote_copied_0 : Orc := fun _ _ => none
noncomputable def msi_LogNote_copied : List PM := [.rd]
noncomputable def lsi_LogNote_copied : List (Nat × Code) := loopsAll 0 (Go.Proofs.Tryd.f125.body.getD .skip)

theorem ki_LogNote_copied_0 : OrcOk Ei_LogNote_copied Oi_LogNote_copied_0 lsi_LogNote_copied 0 := orcOk_none
noncomputable def g_Ai_LogNote_copied (a0 : Int) (a1 : Int) (a2 : List (ByteArray)) (a3 : List ((ByteArray) × ((Bool) × (List (Int))))) : Bool := g_Aslices_Clone_string_string_b a2 && g_Ai_writesOf a3
noncomputable def Fi_LogNote_copied : FSem := fun ys => match ys with
  | [.val true [.int .i64 a0, .int .i64 a1, .sl .any 9 .str a2, .sl .any 83 (.pair .str (.pair .bool (.sl 3 (.int .i64)))) a3]] => some ((g_Ai_LogNote_copied a0 a1 a2 a3), .val true [.int .i64 a0, .int .i64 a1, .own .any true 9 .str a2, .own .any true 83 (.pair .str (.pair .bool (.sl 3 (.int .i64)))) (g_Vi_writesOf_0 a3)], [])
  | _ => none
theorem vi_LogNote_copied (a0 : Int) (a1 : Int) (a2 : List (ByteArray)) (a3 : List ((ByteArray) × ((Bool) × (List (Int))))) : collapseH .std Ei_LogNote_copied Oi_LogNote_copied_0 (execFn Ei_LogNote_copied Go.Proofs.Tryd.f125 msi_LogNote_copied [.val true [.int .i64 a0, .int .i64 a1, .sl .any 9 .str a2, .sl .any 83 (.pair .str (.pair .bool (.sl 3 (.int .i64)))) a3]]) = some ((g_Ai_LogNote_copied a0 a1 a2 a3), .val true [.int .i64 a0, .int .i64 a1, .own .any true 9 .str a2, .own .any true 83 (.pair .str (.pair .bool (.sl 3 (.int .i64)))) (g_Vi_writesOf_0 a3)], []) := by kernel_rfl
theorem si_LogNote_copied : Sound Go.Proofs.Tryd.prog 125 msi_LogNote_copied Fi_LogNote_copied := by
  refine fn_gen goodi_LogNote_copied (by kernel_rfl) .std (fn := Go.Proofs.Tryd.f125) (c := (Go.Proofs.Tryd.f125.body.getD .skip)) (o := Oi_LogNote_copied_0) (k := 0) (by kernel_rfl) (by kernel_rfl) (by kernel_rfl) (by kernel_rfl) (by decide) ki_LogNote_copied_0 ?_
  intro ys r outs h
  unfold Fi_LogNote_copied at h
  split at h
  · exact (vi_LogNote_copied _ _ _ _).trans h
  · cases h
end Go.Proofs.YtibafhmmnoijkaaDoor.E
end
section
namespace Go.Proofs.YtibafhmmnoijkaaDoor.E
open Go
set_option maxRecDepth 100000
set_option maxHeartbeats 0
set_option linter.all false
noncomputable def Ei_LogDisk_add : Env where
  tt := mkTI Go.Proofs.Tryd.prog
  fn := fun f => match f with
    | 125 => some (msi_LogNote_copied, FSem.wk msi_LogNote_copied Fi_LogNote_copied)
    | _ => none
  bxf := fun _ => none
  mv := []
  keep := fun _ => []
  keepB := fun _ => []
  keepX := fun _ => []
  keepXB := fun _ => []
theorem goodFi_LogDisk_add : ∀ f ms F, Ei_LogDisk_add.fn f = some (ms, F) → Sound Go.Proofs.Tryd.prog f ms F := fun f ms F h => by
  unfold Ei_LogDisk_add at h
  dsimp only at h
  split at h
  · injection h with h; injection h with e1 e2; subst e1 e2; exact Sound.wk si_LogNote_copied
  · cases h
theorem goodBi_LogDisk_add : ∀ f ms F, Ei_LogDisk_add.bxf f = some (ms, F) → SoundB Go.Proofs.Tryd.prog f ms F := fun f ms F h => by cases h
theorem goodi_LogDisk_add : Good Go.Proofs.Tryd.prog Ei_LogDisk_add := ⟨rfl, goodFi_LogDisk_add, goodBi_LogDisk_add⟩
noncomputable def Oi_LogDisk_add_0 : Orc := fun _ _ => none
noncomputable def msi_LogDisk_add : List PM := [.bx, .rd, .own]
noncomputable def lsi_LogDisk_add : List (Nat × Code) := loopsAll 0 (Go.Proofs.Tryd.f77.body.getD .skip)

theorem ki_LogDisk_add_0 : OrcOk Ei_LogDisk_add Oi_LogDisk_add_0 lsi_LogDisk_add 0 := orcOk_none
noncomputable def g_Ai_LogDisk_add (a0 : List ((Int) × ((Int) × ((List (ByteArray)) × (List ((ByteArray) × ((Bool) × (List (Int))))))))) (a1 : Int) (a2 : Int) (a3 : Int) (a4 : List (ByteArray)) (a5 : List ((ByteArray) × ((Bool) × (List (Int))))) (a6 : Bool) : Bool := (↑(List.length a0) : Int) == (120 : Int) || g_Ai_LogNote_copied a2 a3 a4 a5 && decide ((List.length a0 + List.length [(a2, a3, a4, g_Vi_writesOf_0 a5)]) * nat_lit 64 ≤ nat_lit 140737488355328 ∧ List.length a0 + List.length [(a2, a3, a4, g_Vi_writesOf_0 a5)] ≤ nat_lit 9223372036854775807)
noncomputable def g_Vi_LogDisk_add_0 (a0 : List ((Int) × ((Int) × ((List (ByteArray)) × (List ((ByteArray) × ((Bool) × (List (Int))))))))) (a1 : Int) (a2 : Int) (a3 : Int) (a4 : List (ByteArray)) (a5 : List ((ByteArray) × ((Bool) × (List (Int))))) (a6 : Bool) : Bool := bif (↑(List.length a0) : Int) == (120 : Int) then false else bif a6 then true else true
noncomputable def g_Vi_LogDisk_add_1 (a0 : List ((Int) × ((Int) × ((List (ByteArray)) × (List ((ByteArray) × ((Bool) × (List (Int))))))))) (a1 : Int) (a2 : Int) (a3 : Int) (a4 : List (ByteArray)) (a5 : List ((ByteArray) × ((Bool) × (List (Int))))) (a6 : Bool) : List ((Int) × ((Int) × ((List (ByteArray)) × (List ((ByteArray) × ((Bool) × (List (Int)))))))) := bif (↑(List.length a0) : Int) == (120 : Int) then a0 else bif a6 then a0 ++ [(a2, a3, a4, g_Vi_writesOf_0 a5)] else a0 ++ [(a2, a3, a4, g_Vi_writesOf_0 a5)]
noncomputable def g_Vi_LogDisk_add_2 (a0 : List ((Int) × ((Int) × ((List (ByteArray)) × (List ((ByteArray) × ((Bool) × (List (Int))))))))) (a1 : Int) (a2 : Int) (a3 : Int) (a4 : List (ByteArray)) (a5 : List ((ByteArray) × ((Bool) × (List (Int))))) (a6 : Bool) : Int := bif (↑(List.length a0) : Int) == (120 : Int) then a1 else bif a6 then (↑(List.length (a0 ++ [(a2, a3, a4, g_Vi_writesOf_0 a5)])) : Int) else a1
noncomputable def Fi_LogDisk_add : FSem := fun ys => match ys with
  | [.val true [.own .any true 59 (.pair (.int .i64) (.pair (.int .i64) (.pair (.sl 9 .str) (.sl 83 (.pair .str (.pair .bool (.sl 3 (.int .i64)))))))) a0, .int .i64 a1], .val true [.int .i64 a2, .int .i64 a3, .sl .any 9 .str a4, .sl .any 83 (.pair .str (.pair .bool (.sl 3 (.int .i64)))) a5], .val false [.bool a6]] => some ((g_Ai_LogDisk_add a0 a1 a2 a3 a4 a5 a6), .val false [.bool (g_Vi_LogDisk_add_0 a0 a1 a2 a3 a4 a5 a6)], [[.own .any true 59 (.pair (.int .i64) (.pair (.int .i64) (.pair (.sl 9 .str) (.sl 83 (.pair .str (.pair .bool (.sl 3 (.int .i64)))))))) (g_Vi_LogDisk_add_1 a0 a1 a2 a3 a4 a5 a6), .int .i64 (g_Vi_LogDisk_add_2 a0 a1 a2 a3 a4 a5 a6)]])
  | _ => none
theorem vi_LogDisk_add (a0 : List ((Int) × ((Int) × ((List (ByteArray)) × (List ((ByteArray) × ((Bool) × (List (Int))))))))) (a1 : Int) (a2 : Int) (a3 : Int) (a4 : List (ByteArray)) (a5 : List ((ByteArray) × ((Bool) × (List (Int))))) (a6 : Bool) : collapseH .std Ei_LogDisk_add Oi_LogDisk_add_0 (execFn Ei_LogDisk_add Go.Proofs.Tryd.f77 msi_LogDisk_add [.val true [.own .any true 59 (.pair (.int .i64) (.pair (.int .i64) (.pair (.sl 9 .str) (.sl 83 (.pair .str (.pair .bool (.sl 3 (.int .i64)))))))) a0, .int .i64 a1], .val true [.int .i64 a2, .int .i64 a3, .sl .any 9 .str a4, .sl .any 83 (.pair .str (.pair .bool (.sl 3 (.int .i64)))) a5], .val false [.bool a6]]) = some ((g_Ai_LogDisk_add a0 a1 a2 a3 a4 a5 a6), .val false [.bool (g_Vi_LogDisk_add_0 a0 a1 a2 a3 a4 a5 a6)], [[.own .any true 59 (.pair (.int .i64) (.pair (.int .i64) (.pair (.sl 9 .str) (.sl 83 (.pair .str (.pair .bool (.sl 3 (.int .i64)))))))) (g_Vi_LogDisk_add_1 a0 a1 a2 a3 a4 a5 a6), .int .i64 (g_Vi_LogDisk_add_2 a0 a1 a2 a3 a4 a5 a6)]]) := by kernel_rfl
theorem si_LogDisk_add : Sound Go.Proofs.Tryd.prog 77 msi_LogDisk_add Fi_LogDisk_add := by
  refine fn_gen goodi_LogDisk_add (by kernel_rfl) .std (fn := Go.Proofs.Tryd.f77) (c := (Go.Proofs.Tryd.f77.body.getD .skip)) (o := Oi_LogDisk_add_0) (k := 0) (by kernel_rfl) (by kernel_rfl) (by kernel_rfl) (by kernel_rfl) (by decide) ki_LogDisk_add_0 ?_
  intro ys r outs h
  unfold Fi_LogDisk_add at h
  split at h
  · exact (vi_LogDisk_add _ _ _ _ _ _ _).trans h
  · cases h
end Go.Proofs.YtibafhmmnoijkaaDoor.E
end
section
namespace Go.Proofs.YtibafhmmnoijkaaDoor.E
open Go
set_option maxRecDepth 100000
set_option maxHeartbeats 0
set_option linter.all false
noncomputable def Ei_LogDisk_copied : Env where
  tt := mkTI Go.Proofs.Tryd.prog
  fn := fun f => match f with
    | 125 => some (msi_LogNote_copied, FSem.wk msi_LogNote_copied Fi_LogNote_copied)
    | _ => none
  bxf := fun _ => none
  mv := []
  keep := fun b => match b with
    | 0 => [(2, false), (3, false), (10, false), (11, false), (12, false)]
    | _ => []
  keepB := fun b => match b with
    | 0 => [(2, false), (3, false)]
    | _ => []
  keepX := fun b => match b with
    | 0 => [(2, false), (3, false)]
    | _ => []
  keepXB := fun b => match b with
    | 0 => [(2, false), (3, false)]
    | _ => []
theorem goodFi_LogDisk_copied : ∀ f ms F, Ei_LogDisk_copied.fn f = some (ms, F) → Sound Go.Proofs.Tryd.prog f ms F := fun f ms F h => by
  unfold Ei_LogDisk_copied at h
  dsimp only at h
  split at h
  · injection h with h; injection h with e1 e2; subst e1 e2; exact Sound.wk si_LogNote_copied
  · cases h
theorem goodBi_LogDisk_copied : ∀ f ms F, Ei_LogDisk_copied.bxf f = some (ms, F) → SoundB Go.Proofs.Tryd.prog f ms F := fun f ms F h => by cases h
theorem goodi_LogDisk_copied : Good Go.Proofs.Tryd.prog Ei_LogDisk_copied := ⟨rfl, goodFi_LogDisk_copied, goodBi_LogDisk_copied⟩
noncomputable def Oi_LogDisk_copied_0 : Orc := fun _ _ => none
noncomputable def msi_LogDisk_copied : List PM := [.rd]
noncomputable def lsi_LogDisk_copied : List (Nat × Code) := loopsAll 0 (Go.Proofs.Tryd.f76.body.getD .skip)
noncomputable def ci_LogDisk_copied_0 : Code := (loopOf 0 (Go.Proofs.Tryd.f76.body.getD .skip)).getD .skip
theorem lseqi_LogDisk_copied : lsi_LogDisk_copied = [(0, ci_LogDisk_copied_0)] := by kernel_rfl
theorem mi_LogDisk_copied_0 : ∀ p, p ∈ lsi_LogDisk_copied → p.1 = 0 → p.2 = ci_LogDisk_copied_0 := by
  intro p hp
  rw [lseqi_LogDisk_copied] at hp
  simp only [List.mem_cons, List.not_mem_nil, or_false] at hp
  subst hp; simp
theorem ki_LogDisk_copied_0 : OrcOk Ei_LogDisk_copied Oi_LogDisk_copied_0 lsi_LogDisk_copied 0 := orcOk_none
noncomputable def hi_LogDisk_copied_0 (y0 : List ((Int) × ((Int) × ((List (ByteArray)) × (List ((ByteArray) × ((Bool) × (List (Int))))))))) (y1 : Int) (y2 : Int) (y3 : Int) (y4 : List ((Int) × ((Int) × ((List (ByteArray)) × (List ((ByteArray) × ((Bool) × (List (Int))))))))) (y5 : Int) (y6 : List ((Int) × ((Int) × ((List (ByteArray)) × (List ((ByteArray) × ((Bool) × (List (Int))))))))) : List (Pl × LV) := [(.T 2, .t (.val false [.ptr 2 0 0])), (.T 3, .t (.val false [.ptr 3 0 0])), (.T 10, .t (.val false [.sl .any 59 (.pair (.int .i64) (.pair (.int .i64) (.pair (.sl 9 .str) (.sl 83 (.pair .str (.pair .bool (.sl 3 (.int .i64)))))))) y0])), (.T 11, .t (.val false [.int .i64 y1])), (.T 12, .t (.val false [.int .i64 y2])), (.B 2, .b 0 false [.row 2 1 0, .int .i64 y3]), (.R 2 1, .r 0 (some ⟨false, .any, true, 59, (.pair (.int .i64) (.pair (.int .i64) (.pair (.sl 9 .str) (.sl 83 (.pair .str (.pair .bool (.sl 3 (.int .i64)))))))), y4⟩)), (.B 3, .b 0 false [.row 3 1 0, .int .i64 y5]), (.R 3 1, .r 0 (some ⟨false, .any, true, 59, (.pair (.int .i64) (.pair (.int .i64) (.pair (.sl 9 .str) (.sl 83 (.pair .str (.pair .bool (.sl 3 (.int .i64)))))))), y6⟩))]
noncomputable def g_Si_LogDisk_copied_0 (y0 : List ((Int) × ((Int) × ((List (ByteArray)) × (List ((ByteArray) × ((Bool) × (List (Int))))))))) (y1 : Int) (y3 : Int) (y4 : List ((Int) × ((Int) × ((List (ByteArray)) × (List ((ByteArray) × ((Bool) × (List (Int))))))))) (y5 : Int) : ((Int) × (List ((Int) × ((Int) × ((List (ByteArray)) × (List ((ByteArray) × ((Bool) × (List (Int)))))))))) → RT ((Int) × (List ((Int) × ((Int) × ((List (ByteArray)) × (List ((ByteArray) × ((Bool) × (List (Int)))))))))) (((List ((Int) × ((Int) × ((List (ByteArray)) × (List ((ByteArray) × ((Bool) × (List (Int)))))))))))
  | (y2, y6) => .br (true) (.br (decide (y2 < y1)) (.br (decide ((0 : Int) ≤ y2 ∧ y2 < (↑(List.length y0) : Int))) (.br (g_Ai_LogNote_copied (at_ (Ty.pair (Ty.int IntKind.i64) (Ty.pair (Ty.int IntKind.i64) (Ty.pair (Ty.sl (nat_lit 9) Ty.str) (Ty.sl (nat_lit 83) (Ty.pair Ty.str (Ty.pair Ty.bool (Ty.sl (nat_lit 3) (Ty.int IntKind.i64)))))))) y0 (Int.toNat y2)).1 (at_ (Ty.pair (Ty.int IntKind.i64) (Ty.pair (Ty.int IntKind.i64) (Ty.pair (Ty.sl (nat_lit 9) Ty.str) (Ty.sl (nat_lit 83) (Ty.pair Ty.str (Ty.pair Ty.bool (Ty.sl (nat_lit 3) (Ty.int IntKind.i64)))))))) y0 (Int.toNat y2)).2.1 (at_ (Ty.pair (Ty.int IntKind.i64) (Ty.pair (Ty.int IntKind.i64) (Ty.pair (Ty.sl (nat_lit 9) Ty.str) (Ty.sl (nat_lit 83) (Ty.pair Ty.str (Ty.pair Ty.bool (Ty.sl (nat_lit 3) (Ty.int IntKind.i64)))))))) y0 (Int.toNat y2)).2.2.1 (at_ (Ty.pair (Ty.int IntKind.i64) (Ty.pair (Ty.int IntKind.i64) (Ty.pair (Ty.sl (nat_lit 9) Ty.str) (Ty.sl (nat_lit 83) (Ty.pair Ty.str (Ty.pair Ty.bool (Ty.sl (nat_lit 3) (Ty.int IntKind.i64)))))))) y0 (Int.toNat y2)).2.2.2) (.br (decide ((List.length y6 + List.length [((at_ (Ty.pair (Ty.int IntKind.i64) (Ty.pair (Ty.int IntKind.i64) (Ty.pair (Ty.sl (nat_lit 9) Ty.str) (Ty.sl (nat_lit 83) (Ty.pair Ty.str (Ty.pair Ty.bool (Ty.sl (nat_lit 3) (Ty.int IntKind.i64)))))))) y0 (Int.toNat y2)).1, (at_ (Ty.pair (Ty.int IntKind.i64) (Ty.pair (Ty.int IntKind.i64) (Ty.pair (Ty.sl (nat_lit 9) Ty.str) (Ty.sl (nat_lit 83) (Ty.pair Ty.str (Ty.pair Ty.bool (Ty.sl (nat_lit 3) (Ty.int IntKind.i64)))))))) y0 (Int.toNat y2)).2.1, (at_ (Ty.pair (Ty.int IntKind.i64) (Ty.pair (Ty.int IntKind.i64) (Ty.pair (Ty.sl (nat_lit 9) Ty.str) (Ty.sl (nat_lit 83) (Ty.pair Ty.str (Ty.pair Ty.bool (Ty.sl (nat_lit 3) (Ty.int IntKind.i64)))))))) y0 (Int.toNat y2)).2.2.1, g_Vi_writesOf_0 (at_ (Ty.pair (Ty.int IntKind.i64) (Ty.pair (Ty.int IntKind.i64) (Ty.pair (Ty.sl (nat_lit 9) Ty.str) (Ty.sl (nat_lit 83) (Ty.pair Ty.str (Ty.pair Ty.bool (Ty.sl (nat_lit 3) (Ty.int IntKind.i64)))))))) y0 (Int.toNat y2)).2.2.2)]) * nat_lit 64 ≤ nat_lit 140737488355328 ∧ List.length y6 + List.length [((at_ (Ty.pair (Ty.int IntKind.i64) (Ty.pair (Ty.int IntKind.i64) (Ty.pair (Ty.sl (nat_lit 9) Ty.str) (Ty.sl (nat_lit 83) (Ty.pair Ty.str (Ty.pair Ty.bool (Ty.sl (nat_lit 3) (Ty.int IntKind.i64)))))))) y0 (Int.toNat y2)).1, (at_ (Ty.pair (Ty.int IntKind.i64) (Ty.pair (Ty.int IntKind.i64) (Ty.pair (Ty.sl (nat_lit 9) Ty.str) (Ty.sl (nat_lit 83) (Ty.pair Ty.str (Ty.pair Ty.bool (Ty.sl (nat_lit 3) (Ty.int IntKind.i64)))))))) y0 (Int.toNat y2)).2.1, (at_ (Ty.pair (Ty.int IntKind.i64) (Ty.pair (Ty.int IntKind.i64) (Ty.pair (Ty.sl (nat_lit 9) Ty.str) (Ty.sl (nat_lit 83) (Ty.pair Ty.str (Ty.pair Ty.bool (Ty.sl (nat_lit 3) (Ty.int IntKind.i64)))))))) y0 (Int.toNat y2)).2.2.1, g_Vi_writesOf_0 (at_ (Ty.pair (Ty.int IntKind.i64) (Ty.pair (Ty.int IntKind.i64) (Ty.pair (Ty.sl (nat_lit 9) Ty.str) (Ty.sl (nat_lit 83) (Ty.pair Ty.str (Ty.pair Ty.bool (Ty.sl (nat_lit 3) (Ty.int IntKind.i64)))))))) y0 (Int.toNat y2)).2.2.2)] ≤ nat_lit 9223372036854775807)) (.br (true) (.go ((IntKind.wrap IntKind.i64 (y2 + (1 : Int)), y6 ++ [((at_ (Ty.pair (Ty.int IntKind.i64) (Ty.pair (Ty.int IntKind.i64) (Ty.pair (Ty.sl (nat_lit 9) Ty.str) (Ty.sl (nat_lit 83) (Ty.pair Ty.str (Ty.pair Ty.bool (Ty.sl (nat_lit 3) (Ty.int IntKind.i64)))))))) y0 (Int.toNat y2)).1, (at_ (Ty.pair (Ty.int IntKind.i64) (Ty.pair (Ty.int IntKind.i64) (Ty.pair (Ty.sl (nat_lit 9) Ty.str) (Ty.sl (nat_lit 83) (Ty.pair Ty.str (Ty.pair Ty.bool (Ty.sl (nat_lit 3) (Ty.int IntKind.i64)))))))) y0 (Int.toNat y2)).2.1, (at_ (Ty.pair (Ty.int IntKind.i64) (Ty.pair (Ty.int IntKind.i64) (Ty.pair (Ty.sl (nat_lit 9) Ty.str) (Ty.sl (nat_lit 83) (Ty.pair Ty.str (Ty.pair Ty.bool (Ty.sl (nat_lit 3) (Ty.int IntKind.i64)))))))) y0 (Int.toNat y2)).2.2.1, g_Vi_writesOf_0 (at_ (Ty.pair (Ty.int IntKind.i64) (Ty.pair (Ty.int IntKind.i64) (Ty.pair (Ty.sl (nat_lit 9) Ty.str) (Ty.sl (nat_lit 83) (Ty.pair Ty.str (Ty.pair Ty.bool (Ty.sl (nat_lit 3) (Ty.int IntKind.i64)))))))) y0 (Int.toNat y2)).2.2.2)]))) (.bad)) (.bad)) (.bad)) (.bad)) (.out (y6))) (.bad)
noncomputable def g_Li_LogDisk_copied_0 (y0 : List ((Int) × ((Int) × ((List (ByteArray)) × (List ((ByteArray) × ((Bool) × (List (Int))))))))) (y1 : Int) (y3 : Int) (y4 : List ((Int) × ((Int) × ((List (ByteArray)) × (List ((ByteArray) × ((Bool) × (List (Int))))))))) (y5 : Int) (x : (Int) × (List ((Int) × ((Int) × ((List (ByteArray)) × (List ((ByteArray) × ((Bool) × (List (Int)))))))))) : Option (((List ((Int) × ((Int) × ((List (ByteArray)) × (List ((ByteArray) × ((Bool) × (List (Int))))))))))) := loopO (g_Si_LogDisk_copied_0 y0 y1 y3 y4 y5) x
noncomputable def xi_LogDisk_copied_0 (y0 : List ((Int) × ((Int) × ((List (ByteArray)) × (List ((ByteArray) × ((Bool) × (List (Int))))))))) (y1 : Int) (y3 : Int) (y4 : List ((Int) × ((Int) × ((List (ByteArray)) × (List ((ByteArray) × ((Bool) × (List (Int))))))))) (y5 : Int) : (((List ((Int) × ((Int) × ((List (ByteArray)) × (List ((ByteArray) × ((Bool) × (List (Int))))))))))) → Ex × List (Pl × LV) := fun r => (.exit 0, [(.T 2, .t (.val false [.ptr 2 0 0])), (.T 3, .t (.val false [.ptr 3 0 0])), (.B 2, .b 0 false [.row 2 1 0, .int .i64 y3]), (.R 2 1, .r 0 (some ⟨false, .any, true, 59, (.pair (.int .i64) (.pair (.int .i64) (.pair (.sl 9 .str) (.sl 83 (.pair .str (.pair .bool (.sl 3 (.int .i64)))))))), y4⟩)), (.B 3, .b 0 false [.row 3 1 0, .int .i64 y5]), (.R 3 1, .r 0 (some ⟨false, .any, true, 59, (.pair (.int .i64) (.pair (.int .i64) (.pair (.sl 9 .str) (.sl 83 (.pair .str (.pair .bool (.sl 3 (.int .i64)))))))), r⟩))])
noncomputable def Oi_LogDisk_copied_1 : Orc := fun b h => match b, h with
  | 0, [(.T 2, .t (.val false [.ptr 2 0 0])), (.T 3, .t (.val false [.ptr 3 0 0])), (.T 10, .t (.val false [.sl .any 59 (.pair (.int .i64) (.pair (.int .i64) (.pair (.sl 9 .str) (.sl 83 (.pair .str (.pair .bool (.sl 3 (.int .i64)))))))) y0])), (.T 11, .t (.val false [.int .i64 y1])), (.T 12, .t (.val false [.int .i64 y2])), (.B 2, .b 0 false [.row 2 1 0, .int .i64 y3]), (.R 2 1, .r 0 (some ⟨false, .any, true, 59, (.pair (.int .i64) (.pair (.int .i64) (.pair (.sl 9 .str) (.sl 83 (.pair .str (.pair .bool (.sl 3 (.int .i64)))))))), y4⟩)), (.B 3, .b 0 false [.row 3 1 0, .int .i64 y5]), (.R 3 1, .r 0 (some ⟨false, .any, true, 59, (.pair (.int .i64) (.pair (.int .i64) (.pair (.sl 9 .str) (.sl 83 (.pair .str (.pair .bool (.sl 3 (.int .i64)))))))), y6⟩))] => some (okO (g_Li_LogDisk_copied_0 y0 y1 y3 y4 y5 (y2, y6)), (.leaf (.exit 0) [(.T 2, .t (.val false [.ptr 2 0 0])), (.T 3, .t (.val false [.ptr 3 0 0])), (.B 2, .b 0 false [.row 2 1 0, .int .i64 y3]), (.R 2 1, .r 0 (some ⟨false, .any, true, 59, (.pair (.int .i64) (.pair (.int .i64) (.pair (.sl 9 .str) (.sl 83 (.pair .str (.pair .bool (.sl 3 (.int .i64)))))))), y4⟩)), (.B 3, .b 0 false [.row 3 1 0, .int .i64 y5]), (.R 3 1, .r 0 (some ⟨false, .any, true, 59, (.pair (.int .i64) (.pair (.int .i64) (.pair (.sl 9 .str) (.sl 83 (.pair .str (.pair .bool (.sl 3 (.int .i64)))))))), (valO (g_Li_LogDisk_copied_0 y0 y1 y3 y4 y5 (y2, y6)))⟩))]))
  | b, h => Oi_LogDisk_copied_0 b h
theorem bi_LogDisk_copied_0 (y0 : List ((Int) × ((Int) × ((List (ByteArray)) × (List ((ByteArray) × ((Bool) × (List (Int))))))))) (y1 : Int) (y2 : Int) (y3 : Int) (y4 : List ((Int) × ((Int) × ((List (ByteArray)) × (List ((ByteArray) × ((Bool) × (List (Int))))))))) (y5 : Int) (y6 : List ((Int) × ((Int) × ((List (ByteArray)) × (List ((ByteArray) × ((Bool) × (List (Int))))))))) : Tr.bt Ei_LogDisk_copied Oi_LogDisk_copied_0 (exec Ei_LogDisk_copied 0 ci_LogDisk_copied_0 (St.of (hi_LogDisk_copied_0 y0 y1 y2 y3 y4 y5 y6)) (leafRd Ei_LogDisk_copied 0)) = (g_Si_LogDisk_copied_0 y0 y1 y3 y4 y5 (y2, y6)).bt (fun ((y2, y6) : (Int) × (List ((Int) × ((Int) × ((List (ByteArray)) × (List ((ByteArray) × ((Bool) × (List (Int)))))))))) => (hi_LogDisk_copied_0 y0 y1 y2 y3 y4 y5 y6)) (xi_LogDisk_copied_0 y0 y1 y3 y4 y5) := by kernel_rfl
theorem ki_LogDisk_copied_1 : OrcOk Ei_LogDisk_copied Oi_LogDisk_copied_1 lsi_LogDisk_copied 1 := orc_add ki_LogDisk_copied_0 (fun n p hp h ex h' ho => by
  obtain ⟨b, c⟩ := p
  obtain ⟨xt, h1, h2⟩ := ho
  have h1 : Oi_LogDisk_copied_1 b h = some (true, xt) := h1
  unfold Oi_LogDisk_copied_1 at h1
  split at h1
  · injection h1 with h1
    injection h1 with e1 e2
    subst e2
    have hc : c = ci_LogDisk_copied_0 := mi_LogDisk_copied_0 _ hp rfl
    subst hc
    right
    rename_i y0 y1 y2 y3 y4 y5 y6
    have key := LT_step ki_LogDisk_copied_0 hp (fun q hq => loopsAll_in _ _ _ _ hp hq) (fun ((y2, y6) : (Int) × (List ((Int) × ((Int) × ((List (ByteArray)) × (List ((ByteArray) × ((Bool) × (List (Int)))))))))) => (hi_LogDisk_copied_0 y0 y1 y2 y3 y4 y5 y6)) (xi_LogDisk_copied_0 y0 y1 y3 y4 y5) (g_Si_LogDisk_copied_0 y0 y1 y3 y4 y5) (fun x => by first | exact bi_LogDisk_copied_0 y0 y1 x.1 y3 y4 y5 x.2) n (x := (y2, y6)) (okO_some e1)
    have hx : ∀ r, XT.sel (.leaf (.exit 0) [(.T 2, .t (.val false [.ptr 2 0 0])), (.T 3, .t (.val false [.ptr 3 0 0])), (.B 2, .b 0 false [.row 2 1 0, .int .i64 y3]), (.R 2 1, .r 0 (some ⟨false, .any, true, 59, (.pair (.int .i64) (.pair (.int .i64) (.pair (.sl 9 .str) (.sl 83 (.pair .str (.pair .bool (.sl 3 (.int .i64)))))))), y4⟩)), (.B 3, .b 0 false [.row 3 1 0, .int .i64 y5]), (.R 3 1, .r 0 (some ⟨false, .any, true, 59, (.pair (.int .i64) (.pair (.int .i64) (.pair (.sl 9 .str) (.sl 83 (.pair .str (.pair .bool (.sl 3 (.int .i64)))))))), r⟩))]) = xi_LogDisk_copied_0 y0 y1 y3 y4 y5 r := fun r => by first | rfl | (rcases r with r | r <;> rfl) | (rcases r with r | r | r <;> rfl) | (rcases r with r | r | r | r <;> rfl)
    have h3 := (hx (valO (g_Li_LogDisk_copied_0 y0 y1 y3 y4 y5 (y2, y6)))).symm.trans h2
    have e3 := congrArg Prod.fst h3
    have e4 := congrArg Prod.snd h3
    simp only at e3 e4
    rw [← e3, ← e4]
    exact key
  · exact .inl ⟨xt, h1, h2⟩)
noncomputable def g_Ai_LogDisk_copied (a0 : List ((Int) × ((Int) × ((List (ByteArray)) × (List ((ByteArray) × ((Bool) × (List (Int))))))))) (a1 : Int) : Bool := okO (g_Li_LogDisk_copied_0 a0 (↑(List.length a0) : Int) (0 : Int) [] a1 ((0 : Int), []))
noncomputable def g_Vi_LogDisk_copied_0 (a0 : List ((Int) × ((Int) × ((List (ByteArray)) × (List ((ByteArray) × ((Bool) × (List (Int))))))))) (a1 : Int) : List ((Int) × ((Int) × ((List (ByteArray)) × (List ((ByteArray) × ((Bool) × (List (Int)))))))) := valO (g_Li_LogDisk_copied_0 a0 (↑(List.length a0) : Int) (0 : Int) [] a1 ((0 : Int), []))
noncomputable def Fi_LogDisk_copied : FSem := fun ys => match ys with
  | [.val true [.sl .any 59 (.pair (.int .i64) (.pair (.int .i64) (.pair (.sl 9 .str) (.sl 83 (.pair .str (.pair .bool (.sl 3 (.int .i64)))))))) a0, .int .i64 a1]] => some ((g_Ai_LogDisk_copied a0 a1), .val true [.own .any true 59 (.pair (.int .i64) (.pair (.int .i64) (.pair (.sl 9 .str) (.sl 83 (.pair .str (.pair .bool (.sl 3 (.int .i64)))))))) (g_Vi_LogDisk_copied_0 a0 a1), .int .i64 a1], [])
  | _ => none
theorem vi_LogDisk_copied (a0 : List ((Int) × ((Int) × ((List (ByteArray)) × (List ((ByteArray) × ((Bool) × (List (Int))))))))) (a1 : Int) : collapseH .std Ei_LogDisk_copied Oi_LogDisk_copied_1 (execFn Ei_LogDisk_copied Go.Proofs.Tryd.f76 msi_LogDisk_copied [.val true [.sl .any 59 (.pair (.int .i64) (.pair (.int .i64) (.pair (.sl 9 .str) (.sl 83 (.pair .str (.pair .bool (.sl 3 (.int .i64)))))))) a0, .int .i64 a1]]) = some ((g_Ai_LogDisk_copied a0 a1), .val true [.own .any true 59 (.pair (.int .i64) (.pair (.int .i64) (.pair (.sl 9 .str) (.sl 83 (.pair .str (.pair .bool (.sl 3 (.int .i64)))))))) (g_Vi_LogDisk_copied_0 a0 a1), .int .i64 a1], []) := by kernel_rfl
theorem si_LogDisk_copied : Sound Go.Proofs.Tryd.prog 76 msi_LogDisk_copied Fi_LogDisk_copied := by
  refine fn_gen goodi_LogDisk_copied (by kernel_rfl) .std (fn := Go.Proofs.Tryd.f76) (c := (Go.Proofs.Tryd.f76.body.getD .skip)) (o := Oi_LogDisk_copied_1) (k := 1) (by kernel_rfl) (by kernel_rfl) (by kernel_rfl) (by kernel_rfl) (by decide) ki_LogDisk_copied_1 ?_
  intro ys r outs h
  unfold Fi_LogDisk_copied at h
  split at h
  · exact (vi_LogDisk_copied _ _).trans h
  · cases h
end Go.Proofs.YtibafhmmnoijkaaDoor.E
end
