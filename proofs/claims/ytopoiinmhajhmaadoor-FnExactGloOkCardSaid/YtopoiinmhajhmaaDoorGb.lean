/- What the functions that are reached do, by the engine: for the proof (laws.FnExactGloOk): part 2. No conditions. -/
import Derived.Test.YtopoiinmhajhmaaDoorGa
import Derived.Test.YtopoiinmhajhmaaDoorProg
set_option linter.all false
section
namespace Go.Proofs.YtopoiinmhajhmaaDoor.E
open Go
set_option maxRecDepth 100000
set_option maxHeartbeats 0
set_option linter.all false
noncomputable def Ew_FnExactGloOk : Env where
  tt := mkTI Go.Proofs.Tryd.prog
  fn := fun f => match f with
    | 47 => some (msw_szStoStoreS, FSem.wk msw_szStoStoreS Fw_szStoStoreS)
    | 48 => some (mss_GloOk, FSem.wk mss_GloOk Fs_GloOk)
    | 49 => some (msw_toStoStoreS, FSem.wk msw_toStoStoreS Fw_toStoStoreS)
    | 50 => some (msi_GloOk, FSem.wk msi_GloOk Fi_GloOk)
    | 51 => some (msw_eqStoStoreS, FSem.wk msw_eqStoStoreS Fw_eqStoStoreS)
    | _ => none
  mv := []
  keep := fun _ => []
  keepB := fun _ => []
  keepX := fun _ => []
  keepXB := fun _ => []
theorem goodw_FnExactGloOk : Good Go.Proofs.Tryd.prog Ew_FnExactGloOk := ⟨rfl, fun f ms F h => by
  unfold Ew_FnExactGloOk at h
  dsimp only at h
  split at h
  · injection h with h; injection h with e1 e2; subst e1 e2; exact Sound.wk sw_szStoStoreS
  · injection h with h; injection h with e1 e2; subst e1 e2; exact Sound.wk ss_GloOk
  · injection h with h; injection h with e1 e2; subst e1 e2; exact Sound.wk sw_toStoStoreS
  · injection h with h; injection h with e1 e2; subst e1 e2; exact Sound.wk si_GloOk
  · injection h with h; injection h with e1 e2; subst e1 e2; exact Sound.wk sw_eqStoStoreS
  · cases h⟩
noncomputable def Ow_FnExactGloOk_0 : Orc := fun _ _ => none
noncomputable def msw_FnExactGloOk : List PM := [.rd]
noncomputable def lsw_FnExactGloOk : List (Nat × Code) := loopsAll 0 (Go.Proofs.Tryd.f12.body.getD .skip)

theorem kw_FnExactGloOk_0 : OrcOk Ew_FnExactGloOk Ow_FnExactGloOk_0 lsw_FnExactGloOk 0 := orcOk_none
noncomputable def g_Aw_FnExactGloOk (a0 : List (List ((ByteArray) × (List (Int))))) : Bool := g_Aw_szStoStoreS a0 (1048576 : Int) && (decide (g_Vw_szStoStoreS_0 a0 (1048576 : Int) < (0 : Int)) || g_Aw_toStoStoreS a0 && (g_As_GloOk (g_Vw_toStoStoreS_0 a0) && (g_Aw_toStoStoreS a0 && (g_Ai_GloOk (g_Vw_toStoStoreS_0 a0) && (!g_Vi_GloOk_0 (g_Vw_toStoStoreS_0 a0) == g_Vs_GloOk_0 (g_Vw_toStoStoreS_0 a0) || g_Aw_toStoStoreS a0 && g_Aw_eqStoStoreS (g_Vw_toStoStoreS_0 a0) (g_Vw_toStoStoreS_0 a0))))))
noncomputable def g_Vw_FnExactGloOk_0 (a0 : List (List ((ByteArray) × (List (Int))))) : Bool := bif decide (g_Vw_szStoStoreS_0 a0 (1048576 : Int) < (0 : Int)) then true else bif !g_Vi_GloOk_0 (g_Vw_toStoStoreS_0 a0) == g_Vs_GloOk_0 (g_Vw_toStoStoreS_0 a0) then false else bif !g_Vw_eqStoStoreS_0 (g_Vw_toStoStoreS_0 a0) (g_Vw_toStoStoreS_0 a0) then false else true
noncomputable def Fw_FnExactGloOk : FSem := fun ys => match ys with
  | [.val false [.sl .any 47 (.sl 124 (.pair .str (.sl 3 (.int .i64)))) a0]] => some ((g_Aw_FnExactGloOk a0), .val false [.bool (g_Vw_FnExactGloOk_0 a0)], [])
  | _ => none
theorem vw_FnExactGloOk (a0 : List (List ((ByteArray) × (List (Int))))) : collapseH .std Ew_FnExactGloOk Ow_FnExactGloOk_0 (execFn Ew_FnExactGloOk Go.Proofs.Tryd.f12 msw_FnExactGloOk [.val false [.sl .any 47 (.sl 124 (.pair .str (.sl 3 (.int .i64)))) a0]]) = some ((g_Aw_FnExactGloOk a0), .val false [.bool (g_Vw_FnExactGloOk_0 a0)], []) := by kernel_rfl
theorem sw_FnExactGloOk : Sound Go.Proofs.Tryd.prog 12 msw_FnExactGloOk Fw_FnExactGloOk := by
  refine fn_gen goodw_FnExactGloOk (by kernel_rfl) .std (fn := Go.Proofs.Tryd.f12) (c := (Go.Proofs.Tryd.f12.body.getD .skip)) (o := Ow_FnExactGloOk_0) (k := 0) (by kernel_rfl) (by kernel_rfl) (by kernel_rfl) (by kernel_rfl) (by decide) kw_FnExactGloOk_0 ?_
  intro ys r outs h
  unfold Fw_FnExactGloOk at h
  split at h
  · exact (vw_FnExactGloOk _).trans h
  · cases h
end Go.Proofs.YtopoiinmhajhmaaDoor.E
end
section
namespace Go.Proofs.YtopoiinmhajhmaaDoor.E
open Go
set_option maxRecDepth 100000
set_option maxHeartbeats 0
set_option linter.all false
noncomputable def Ei_WrtOk : Env where
  tt := mkTI Go.Proofs.Tryd.prog
  fn := fun f => match f with
    | 66 => some (msi_keyOk, FSem.wk msi_keyOk Fi_keyOk)
    | 67 => some (msi_valOk, FSem.wk msi_valOk Fi_valOk)
    | _ => none
  mv := []
  keep := fun _ => []
  keepB := fun _ => []
  keepX := fun _ => []
  keepXB := fun _ => []
theorem goodi_WrtOk : Good Go.Proofs.Tryd.prog Ei_WrtOk := ⟨rfl, fun f ms F h => by
  unfold Ei_WrtOk at h
  dsimp only at h
  split at h
  · injection h with h; injection h with e1 e2; subst e1 e2; exact Sound.wk si_keyOk
  · injection h with h; injection h with e1 e2; subst e1 e2; exact Sound.wk si_valOk
  · cases h⟩
noncomputable def Oi_WrtOk_0 : Orc := fun _ _ => none
noncomputable def msi_WrtOk : List PM := [.rd]
noncomputable def lsi_WrtOk : List (Nat × Code) := loopsAll 0 (Go.Proofs.Tryd.f22.body.getD .skip)

theorem ki_WrtOk_0 : OrcOk Ei_WrtOk Oi_WrtOk_0 lsi_WrtOk 0 := orcOk_none
noncomputable def g_Ai_WrtOk (a0 : ByteArray) (a1 : Bool) (a2 : List (Int)) : Bool := bif a1 then g_Ai_keyOk a0 && (!g_Vi_keyOk_0 a0 || true) else g_Ai_keyOk a0 && (!g_Vi_keyOk_0 a0 || g_Ai_valOk a2)
noncomputable def g_Vi_WrtOk_0 (a0 : ByteArray) (a1 : Bool) (a2 : List (Int)) : Bool := bif a1 then bif g_Vi_keyOk_0 a0 then (↑(List.length a2) : Int) == (0 : Int) else false else bif g_Vi_keyOk_0 a0 then g_Vi_valOk_0 a2 else false
noncomputable def Fi_WrtOk : FSem := fun ys => match ys with
  | [.val true [.str a0, .bool a1, .sl .any 3 (.int .i64) a2]] => some ((g_Ai_WrtOk a0 a1 a2), .val false [.bool (g_Vi_WrtOk_0 a0 a1 a2)], [])
  | _ => none
theorem vi_WrtOk (a0 : ByteArray) (a1 : Bool) (a2 : List (Int)) : collapseH .std Ei_WrtOk Oi_WrtOk_0 (execFn Ei_WrtOk Go.Proofs.Tryd.f22 msi_WrtOk [.val true [.str a0, .bool a1, .sl .any 3 (.int .i64) a2]]) = some ((g_Ai_WrtOk a0 a1 a2), .val false [.bool (g_Vi_WrtOk_0 a0 a1 a2)], []) := by kernel_rfl
theorem si_WrtOk : Sound Go.Proofs.Tryd.prog 22 msi_WrtOk Fi_WrtOk := by
  refine fn_gen goodi_WrtOk (by kernel_rfl) .std (fn := Go.Proofs.Tryd.f22) (c := (Go.Proofs.Tryd.f22.body.getD .skip)) (o := Oi_WrtOk_0) (k := 0) (by kernel_rfl) (by kernel_rfl) (by kernel_rfl) (by kernel_rfl) (by decide) ki_WrtOk_0 ?_
  intro ys r outs h
  unfold Fi_WrtOk at h
  split at h
  · exact (vi_WrtOk _ _ _).trans h
  · cases h
end Go.Proofs.YtopoiinmhajhmaaDoor.E
end
section
namespace Go.Proofs.YtopoiinmhajhmaaDoor.E
open Go
set_option maxRecDepth 100000
set_option maxHeartbeats 0
set_option linter.all false
noncomputable def Es_WrtOk : Env where
  tt := mkTI Go.Proofs.Tryd.prog
  fn := fun f => match f with
    | 63 => some (mss_l1Key, FSem.wk mss_l1Key Fs_l1Key)
    | 64 => some (mss_l1Val, FSem.wk mss_l1Val Fs_l1Val)
    | _ => none
  mv := []
  keep := fun _ => []
  keepB := fun _ => []
  keepX := fun _ => []
  keepXB := fun _ => []
theorem goods_WrtOk : Good Go.Proofs.Tryd.prog Es_WrtOk := ⟨rfl, fun f ms F h => by
  unfold Es_WrtOk at h
  dsimp only at h
  split at h
  · injection h with h; injection h with e1 e2; subst e1 e2; exact Sound.wk ss_l1Key
  · injection h with h; injection h with e1 e2; subst e1 e2; exact Sound.wk ss_l1Val
  · cases h⟩
noncomputable def Os_WrtOk_0 : Orc := fun _ _ => none
noncomputable def mss_WrtOk : List PM := [.rd]
noncomputable def lss_WrtOk : List (Nat × Code) := loopsAll 0 (Go.Proofs.Tryd.f20.body.getD .skip)

theorem ks_WrtOk_0 : OrcOk Es_WrtOk Os_WrtOk_0 lss_WrtOk 0 := orcOk_none
noncomputable def g_As_WrtOk (a0 : ByteArray) (a1 : Bool) (a2 : List (Int)) : Bool := bif a1 then g_As_l1Key a0 && (!g_Vs_l1Key_0 a0 || true) else g_As_l1Key a0 && (!g_Vs_l1Key_0 a0 || g_As_l1Val a2)
noncomputable def g_Vs_WrtOk_0 (a0 : ByteArray) (a1 : Bool) (a2 : List (Int)) : Bool := bif a1 then bif g_Vs_l1Key_0 a0 then (↑(List.length a2) : Int) == (0 : Int) else false else bif g_Vs_l1Key_0 a0 then g_Vs_l1Val_0 a2 else false
noncomputable def Fs_WrtOk : FSem := fun ys => match ys with
  | [.val true [.str a0, .bool a1, .sl .any 3 (.int .i64) a2]] => some ((g_As_WrtOk a0 a1 a2), .val false [.bool (g_Vs_WrtOk_0 a0 a1 a2)], [])
  | _ => none
theorem vs_WrtOk (a0 : ByteArray) (a1 : Bool) (a2 : List (Int)) : collapseH .std Es_WrtOk Os_WrtOk_0 (execFn Es_WrtOk Go.Proofs.Tryd.f20 mss_WrtOk [.val true [.str a0, .bool a1, .sl .any 3 (.int .i64) a2]]) = some ((g_As_WrtOk a0 a1 a2), .val false [.bool (g_Vs_WrtOk_0 a0 a1 a2)], []) := by kernel_rfl
theorem ss_WrtOk : Sound Go.Proofs.Tryd.prog 20 mss_WrtOk Fs_WrtOk := by
  refine fn_gen goods_WrtOk (by kernel_rfl) .std (fn := Go.Proofs.Tryd.f20) (c := (Go.Proofs.Tryd.f20.body.getD .skip)) (o := Os_WrtOk_0) (k := 0) (by kernel_rfl) (by kernel_rfl) (by kernel_rfl) (by kernel_rfl) (by decide) ks_WrtOk_0 ?_
  intro ys r outs h
  unfold Fs_WrtOk at h
  split at h
  · exact (vs_WrtOk _ _ _).trans h
  · cases h
end Go.Proofs.YtopoiinmhajhmaaDoor.E
end
section
namespace Go.Proofs.YtopoiinmhajhmaaDoor.E
open Go
set_option maxRecDepth 100000
set_option maxHeartbeats 0
set_option linter.all false
noncomputable def Ew_szStoWrite : Env where
  tt := mkTI Go.Proofs.Tryd.prog
  fn := fun f => match f with
    | 62 => some (msw_szIntS, FSem.wk msw_szIntS Fw_szIntS)
    | _ => none
  mv := []
  keep := fun _ => []
  keepB := fun _ => []
  keepX := fun _ => []
  keepXB := fun _ => []
theorem goodw_szStoWrite : Good Go.Proofs.Tryd.prog Ew_szStoWrite := ⟨rfl, fun f ms F h => by
  unfold Ew_szStoWrite at h
  dsimp only at h
  split at h
  · injection h with h; injection h with e1 e2; subst e1 e2; exact Sound.wk sw_szIntS
  · cases h⟩
noncomputable def Ow_szStoWrite_0 : Orc := fun _ _ => none
noncomputable def msw_szStoWrite : List PM := [.rd, .own]
noncomputable def lsw_szStoWrite : List (Nat × Code) := loopsAll 0 (Go.Proofs.Tryd.f19.body.getD .skip)

theorem kw_szStoWrite_0 : OrcOk Ew_szStoWrite Ow_szStoWrite_0 lsw_szStoWrite 0 := orcOk_none
noncomputable def g_Aw_szStoWrite (a0 : ByteArray) (a1 : Bool) (a2 : List (Int)) (a3 : Int) : Bool := decide (IntKind.wrap IntKind.i64 (a3 - (↑(ByteArray.size a0) : Int)) < (0 : Int)) || true
noncomputable def g_Vw_szStoWrite_0 (a0 : ByteArray) (a1 : Bool) (a2 : List (Int)) (a3 : Int) : Int := bif decide (IntKind.wrap IntKind.i64 (a3 - (↑(ByteArray.size a0) : Int)) < (0 : Int)) then (-1 : Int) else bif decide (g_Vw_szIntS_0 a2 (IntKind.wrap IntKind.i64 (a3 - (↑(ByteArray.size a0) : Int))) < (0 : Int)) then (-1 : Int) else g_Vw_szIntS_0 a2 (IntKind.wrap IntKind.i64 (a3 - (↑(ByteArray.size a0) : Int)))
noncomputable def Fw_szStoWrite : FSem := fun ys => match ys with
  | [.val true [.str a0, .bool a1, .sl .any 3 (.int .i64) a2], .val false [.int .i64 a3]] => some ((g_Aw_szStoWrite a0 a1 a2 a3), .val false [.int .i64 (g_Vw_szStoWrite_0 a0 a1 a2 a3)], [])
  | _ => none
theorem vw_szStoWrite (a0 : ByteArray) (a1 : Bool) (a2 : List (Int)) (a3 : Int) : collapseH .std Ew_szStoWrite Ow_szStoWrite_0 (execFn Ew_szStoWrite Go.Proofs.Tryd.f19 msw_szStoWrite [.val true [.str a0, .bool a1, .sl .any 3 (.int .i64) a2], .val false [.int .i64 a3]]) = some ((g_Aw_szStoWrite a0 a1 a2 a3), .val false [.int .i64 (g_Vw_szStoWrite_0 a0 a1 a2 a3)], []) := by kernel_rfl
theorem sw_szStoWrite : Sound Go.Proofs.Tryd.prog 19 msw_szStoWrite Fw_szStoWrite := by
  refine fn_gen goodw_szStoWrite (by kernel_rfl) .std (fn := Go.Proofs.Tryd.f19) (c := (Go.Proofs.Tryd.f19.body.getD .skip)) (o := Ow_szStoWrite_0) (k := 0) (by kernel_rfl) (by kernel_rfl) (by kernel_rfl) (by kernel_rfl) (by decide) kw_szStoWrite_0 ?_
  intro ys r outs h
  unfold Fw_szStoWrite at h
  split at h
  · exact (vw_szStoWrite _ _ _ _).trans h
  · cases h
end Go.Proofs.YtopoiinmhajhmaaDoor.E
end
section
namespace Go.Proofs.YtopoiinmhajhmaaDoor.E
open Go
set_option maxRecDepth 100000
set_option maxHeartbeats 0
set_option linter.all false
noncomputable def Ew_szStoWriteS : Env where
  tt := mkTI Go.Proofs.Tryd.prog
  fn := fun f => match f with
    | 19 => some (msw_szStoWrite, FSem.wk msw_szStoWrite Fw_szStoWrite)
    | _ => none
  mv := []
  keep := fun b => match b with
    | 0 => [(0, false), (1, false), (5, false)]
    | _ => []
  keepB := fun b => match b with
    | 0 => []
    | _ => []
  keepX := fun b => match b with
    | 0 => [(1, false), (4, false)]
    | _ => []
  keepXB := fun b => match b with
    | 0 => []
    | _ => []
theorem goodw_szStoWriteS : Good Go.Proofs.Tryd.prog Ew_szStoWriteS := ⟨rfl, fun f ms F h => by
  unfold Ew_szStoWriteS at h
  dsimp only at h
  split at h
  · injection h with h; injection h with e1 e2; subst e1 e2; exact Sound.wk sw_szStoWrite
  · cases h⟩
noncomputable def Ow_szStoWriteS_0 : Orc := fun _ _ => none
noncomputable def msw_szStoWriteS : List PM := [.rd, .own]
noncomputable def lsw_szStoWriteS : List (Nat × Code) := loopsAll 0 (Go.Proofs.Tryd.f91.body.getD .skip)
noncomputable def cw_szStoWriteS_0 : Code := (loopOf 0 (Go.Proofs.Tryd.f91.body.getD .skip)).getD .skip
theorem lseqw_szStoWriteS : lsw_szStoWriteS = [(0, cw_szStoWriteS_0)] := by kernel_rfl
theorem mw_szStoWriteS_0 : ∀ p, p ∈ lsw_szStoWriteS → p.1 = 0 → p.2 = cw_szStoWriteS_0 := by
  intro p hp
  rw [lseqw_szStoWriteS] at hp
  simp only [List.mem_cons, List.not_mem_nil, or_false] at hp
  subst hp; simp
theorem kw_szStoWriteS_0 : OrcOk Ew_szStoWriteS Ow_szStoWriteS_0 lsw_szStoWriteS 0 := orcOk_none
noncomputable def hw_szStoWriteS_0 (y0 : List ((ByteArray) × ((Bool) × (List (Int))))) (y1 : Int) (y2 : Int) : List (Pl × LV) := [(.T 0, .t (.val false [.sl .any 29 (.pair .str (.pair .bool (.sl 3 (.int .i64)))) y0])), (.T 1, .t (.val false [.int .i64 y1])), (.T 5, .t (.val false [.int .i64 y2]))]
noncomputable def g_Sw_szStoWriteS_0 (y0 : List ((ByteArray) × ((Bool) × (List (Int))))) : ((Int) × (Int)) → RT ((Int) × (Int)) (((Int) × (Int)) ⊕ ((Int)))
  | (y1, y2) => .br (true) (.br (decide (y2 < (↑(List.length y0) : Int))) (.br (decide ((0 : Int) ≤ y2 ∧ y2 < (↑(List.length y0) : Int))) (.br (g_Aw_szStoWrite (at_ (Ty.pair Ty.str (Ty.pair Ty.bool (Ty.sl (nat_lit 3) (Ty.int IntKind.i64)))) y0 (Int.toNat y2)).1 (at_ (Ty.pair Ty.str (Ty.pair Ty.bool (Ty.sl (nat_lit 3) (Ty.int IntKind.i64)))) y0 (Int.toNat y2)).2.1 (at_ (Ty.pair Ty.str (Ty.pair Ty.bool (Ty.sl (nat_lit 3) (Ty.int IntKind.i64)))) y0 (Int.toNat y2)).2.2 y1) (.br (true) (.br (decide (g_Vw_szStoWrite_0 (at_ (Ty.pair Ty.str (Ty.pair Ty.bool (Ty.sl (nat_lit 3) (Ty.int IntKind.i64)))) y0 (Int.toNat y2)).1 (at_ (Ty.pair Ty.str (Ty.pair Ty.bool (Ty.sl (nat_lit 3) (Ty.int IntKind.i64)))) y0 (Int.toNat y2)).2.1 (at_ (Ty.pair Ty.str (Ty.pair Ty.bool (Ty.sl (nat_lit 3) (Ty.int IntKind.i64)))) y0 (Int.toNat y2)).2.2 y1 < (0 : Int))) (.out (.inl ((g_Vw_szStoWrite_0 (at_ (Ty.pair Ty.str (Ty.pair Ty.bool (Ty.sl (nat_lit 3) (Ty.int IntKind.i64)))) y0 (Int.toNat y2)).1 (at_ (Ty.pair Ty.str (Ty.pair Ty.bool (Ty.sl (nat_lit 3) (Ty.int IntKind.i64)))) y0 (Int.toNat y2)).2.1 (at_ (Ty.pair Ty.str (Ty.pair Ty.bool (Ty.sl (nat_lit 3) (Ty.int IntKind.i64)))) y0 (Int.toNat y2)).2.2 y1, (-1 : Int))))) (.br (true) (.go ((g_Vw_szStoWrite_0 (at_ (Ty.pair Ty.str (Ty.pair Ty.bool (Ty.sl (nat_lit 3) (Ty.int IntKind.i64)))) y0 (Int.toNat y2)).1 (at_ (Ty.pair Ty.str (Ty.pair Ty.bool (Ty.sl (nat_lit 3) (Ty.int IntKind.i64)))) y0 (Int.toNat y2)).2.1 (at_ (Ty.pair Ty.str (Ty.pair Ty.bool (Ty.sl (nat_lit 3) (Ty.int IntKind.i64)))) y0 (Int.toNat y2)).2.2 y1, IntKind.wrap IntKind.i64 (y2 + (1 : Int))))) (.bad))) (.bad)) (.bad)) (.bad)) (.out (.inr (y1)))) (.bad)
noncomputable def g_Lw_szStoWriteS_0 (y0 : List ((ByteArray) × ((Bool) × (List (Int))))) (x : (Int) × (Int)) : Option (((Int) × (Int)) ⊕ ((Int))) := loopO (g_Sw_szStoWriteS_0 y0) x
noncomputable def xw_szStoWriteS_0 (y0 : List ((ByteArray) × ((Bool) × (List (Int))))) : (((Int) × (Int)) ⊕ ((Int))) → Ex × List (Pl × LV) := fun
  | .inl r => (.ret, [(.T 1, .t (.val false [.int .i64 r.1])), (.T 4, .t (.val false [.int .i64 r.2]))])
  | .inr (r) => (.exit 0, [(.T 1, .t (.val false [.int .i64 r])), (.T 4, .t (.val false [.undef]))])
noncomputable def Ow_szStoWriteS_1 : Orc := fun b h => match b, h with
  | 0, [(.T 0, .t (.val false [.sl .any 29 (.pair .str (.pair .bool (.sl 3 (.int .i64)))) y0])), (.T 1, .t (.val false [.int .i64 y1])), (.T 5, .t (.val false [.int .i64 y2]))] => some (okO (g_Lw_szStoWriteS_0 y0 (y1, y2)), (.br (isL (valO (g_Lw_szStoWriteS_0 y0 (y1, y2)))) (.leaf .ret [(.T 1, .t (.val false [.int .i64 (getL (valO (g_Lw_szStoWriteS_0 y0 (y1, y2)))).1])), (.T 4, .t (.val false [.int .i64 (getL (valO (g_Lw_szStoWriteS_0 y0 (y1, y2)))).2]))]) (.leaf (.exit 0) [(.T 1, .t (.val false [.int .i64 (getR (valO (g_Lw_szStoWriteS_0 y0 (y1, y2))))])), (.T 4, .t (.val false [.undef]))])))
  | b, h => Ow_szStoWriteS_0 b h
theorem bw_szStoWriteS_0 (y0 : List ((ByteArray) × ((Bool) × (List (Int))))) (y1 : Int) (y2 : Int) : Tr.bt Ew_szStoWriteS Ow_szStoWriteS_0 (exec Ew_szStoWriteS 0 cw_szStoWriteS_0 (St.of (hw_szStoWriteS_0 y0 y1 y2)) (leafRd Ew_szStoWriteS 0)) = (g_Sw_szStoWriteS_0 y0 (y1, y2)).bt (fun ((y1, y2) : (Int) × (Int)) => (hw_szStoWriteS_0 y0 y1 y2)) (xw_szStoWriteS_0 y0) := by kernel_rfl
theorem kw_szStoWriteS_1 : OrcOk Ew_szStoWriteS Ow_szStoWriteS_1 lsw_szStoWriteS 1 := orc_add kw_szStoWriteS_0 (fun n p hp h ex h' ho => by
  obtain ⟨b, c⟩ := p
  obtain ⟨xt, h1, h2⟩ := ho
  have h1 : Ow_szStoWriteS_1 b h = some (true, xt) := h1
  unfold Ow_szStoWriteS_1 at h1
  split at h1
  · injection h1 with h1
    injection h1 with e1 e2
    subst e2
    have hc : c = cw_szStoWriteS_0 := mw_szStoWriteS_0 _ hp rfl
    subst hc
    right
    rename_i y0 y1 y2
    have key := LT_step kw_szStoWriteS_0 hp (fun q hq => loopsAll_in _ _ _ _ hp hq) (fun ((y1, y2) : (Int) × (Int)) => (hw_szStoWriteS_0 y0 y1 y2)) (xw_szStoWriteS_0 y0) (g_Sw_szStoWriteS_0 y0) (fun x => by first | exact bw_szStoWriteS_0 y0 x.1 x.2) n (x := (y1, y2)) (okO_some e1)
    have hx : ∀ r, XT.sel (.br (isL r) (.leaf .ret [(.T 1, .t (.val false [.int .i64 (getL r).1])), (.T 4, .t (.val false [.int .i64 (getL r).2]))]) (.leaf (.exit 0) [(.T 1, .t (.val false [.int .i64 (getR r)])), (.T 4, .t (.val false [.undef]))])) = xw_szStoWriteS_0 y0 r := fun r => by first | rfl | (rcases r with r | r <;> rfl) | (rcases r with r | r | r <;> rfl) | (rcases r with r | r | r | r <;> rfl)
    have h3 := (hx (valO (g_Lw_szStoWriteS_0 y0 (y1, y2)))).symm.trans h2
    have e3 := congrArg Prod.fst h3
    have e4 := congrArg Prod.snd h3
    simp only at e3 e4
    rw [← e3, ← e4]
    exact key
  · exact .inl ⟨xt, h1, h2⟩)
noncomputable def g_Aw_szStoWriteS (a0 : List ((ByteArray) × ((Bool) × (List (Int))))) (a1 : Int) : Bool := decide (IntKind.wrap IntKind.i64 (a1 - (↑(List.length a0) : Int)) < (0 : Int)) || okO (g_Lw_szStoWriteS_0 a0 (IntKind.wrap IntKind.i64 (a1 - (↑(List.length a0) : Int)), (0 : Int)))
noncomputable def g_Vw_szStoWriteS_0 (a0 : List ((ByteArray) × ((Bool) × (List (Int))))) (a1 : Int) : Int := bif decide (IntKind.wrap IntKind.i64 (a1 - (↑(List.length a0) : Int)) < (0 : Int)) then (-1 : Int) else bif isL (valO (g_Lw_szStoWriteS_0 a0 (IntKind.wrap IntKind.i64 (a1 - (↑(List.length a0) : Int)), (0 : Int)))) then (getL (valO (g_Lw_szStoWriteS_0 a0 (IntKind.wrap IntKind.i64 (a1 - (↑(List.length a0) : Int)), (0 : Int))))).2 else getR (valO (g_Lw_szStoWriteS_0 a0 (IntKind.wrap IntKind.i64 (a1 - (↑(List.length a0) : Int)), (0 : Int))))
noncomputable def Fw_szStoWriteS : FSem := fun ys => match ys with
  | [.val false [.sl .any 29 (.pair .str (.pair .bool (.sl 3 (.int .i64)))) a0], .val false [.int .i64 a1]] => some ((g_Aw_szStoWriteS a0 a1), .val false [.int .i64 (g_Vw_szStoWriteS_0 a0 a1)], [])
  | _ => none
theorem vw_szStoWriteS (a0 : List ((ByteArray) × ((Bool) × (List (Int))))) (a1 : Int) : collapseH .std Ew_szStoWriteS Ow_szStoWriteS_1 (execFn Ew_szStoWriteS Go.Proofs.Tryd.f91 msw_szStoWriteS [.val false [.sl .any 29 (.pair .str (.pair .bool (.sl 3 (.int .i64)))) a0], .val false [.int .i64 a1]]) = some ((g_Aw_szStoWriteS a0 a1), .val false [.int .i64 (g_Vw_szStoWriteS_0 a0 a1)], []) := by kernel_rfl
theorem sw_szStoWriteS : Sound Go.Proofs.Tryd.prog 91 msw_szStoWriteS Fw_szStoWriteS := by
  refine fn_gen goodw_szStoWriteS (by kernel_rfl) .std (fn := Go.Proofs.Tryd.f91) (c := (Go.Proofs.Tryd.f91.body.getD .skip)) (o := Ow_szStoWriteS_1) (k := 1) (by kernel_rfl) (by kernel_rfl) (by kernel_rfl) (by kernel_rfl) (by decide) kw_szStoWriteS_1 ?_
  intro ys r outs h
  unfold Fw_szStoWriteS at h
  split at h
  · exact (vw_szStoWriteS _ _).trans h
  · cases h
end Go.Proofs.YtopoiinmhajhmaaDoor.E
end
section
namespace Go.Proofs.YtopoiinmhajhmaaDoor.E
open Go
set_option maxRecDepth 100000
set_option maxHeartbeats 0
set_option linter.all false
noncomputable def Ew_szStringS : Env where
  tt := mkTI Go.Proofs.Tryd.prog
  fn := fun _ => none
  mv := []
  keep := fun b => match b with
    | 0 => [(0, false), (1, false), (5, false)]
    | _ => []
  keepB := fun b => match b with
    | 0 => []
    | _ => []
  keepX := fun b => match b with
    | 0 => [(1, false), (4, false)]
    | _ => []
  keepXB := fun b => match b with
    | 0 => []
    | _ => []
theorem goodw_szStringS : Good Go.Proofs.Tryd.prog Ew_szStringS := ⟨rfl, fun f ms F h => by cases h⟩
noncomputable def Ow_szStringS_0 : Orc := fun _ _ => none
noncomputable def msw_szStringS : List PM := [.rd, .own]
noncomputable def lsw_szStringS : List (Nat × Code) := loopsAll 0 (Go.Proofs.Tryd.f90.body.getD .skip)
noncomputable def cw_szStringS_0 : Code := (loopOf 0 (Go.Proofs.Tryd.f90.body.getD .skip)).getD .skip
theorem lseqw_szStringS : lsw_szStringS = [(0, cw_szStringS_0)] := by kernel_rfl
theorem mw_szStringS_0 : ∀ p, p ∈ lsw_szStringS → p.1 = 0 → p.2 = cw_szStringS_0 := by
  intro p hp
  rw [lseqw_szStringS] at hp
  simp only [List.mem_cons, List.not_mem_nil, or_false] at hp
  subst hp; simp
theorem kw_szStringS_0 : OrcOk Ew_szStringS Ow_szStringS_0 lsw_szStringS 0 := orcOk_none
noncomputable def hw_szStringS_0 (y0 : List (ByteArray)) (y1 : Int) (y2 : Int) : List (Pl × LV) := [(.T 0, .t (.val false [.sl .any 9 .str y0])), (.T 1, .t (.val false [.int .i64 y1])), (.T 5, .t (.val false [.int .i64 y2]))]
noncomputable def g_Sw_szStringS_0 (y0 : List (ByteArray)) : ((Int) × (Int)) → RT ((Int) × (Int)) (((Int) × (Int)) ⊕ ((Int)))
  | (y1, y2) => .br (true) (.br (decide (y2 < (↑(List.length y0) : Int))) (.br (decide ((0 : Int) ≤ y2 ∧ y2 < (↑(List.length y0) : Int))) (.br (true) (.br (true) (.br (decide (IntKind.wrap IntKind.i64 (y1 - (↑(ByteArray.size (at_ Ty.str y0 (Int.toNat y2))) : Int)) < (0 : Int))) (.out (.inl ((IntKind.wrap IntKind.i64 (y1 - (↑(ByteArray.size (at_ Ty.str y0 (Int.toNat y2))) : Int)), (-1 : Int))))) (.br (true) (.go ((IntKind.wrap IntKind.i64 (y1 - (↑(ByteArray.size (at_ Ty.str y0 (Int.toNat y2))) : Int)), IntKind.wrap IntKind.i64 (y2 + (1 : Int))))) (.bad))) (.bad)) (.bad)) (.bad)) (.out (.inr (y1)))) (.bad)
noncomputable def g_Lw_szStringS_0 (y0 : List (ByteArray)) (x : (Int) × (Int)) : Option (((Int) × (Int)) ⊕ ((Int))) := loopO (g_Sw_szStringS_0 y0) x
noncomputable def xw_szStringS_0 (y0 : List (ByteArray)) : (((Int) × (Int)) ⊕ ((Int))) → Ex × List (Pl × LV) := fun
  | .inl r => (.ret, [(.T 1, .t (.val false [.int .i64 r.1])), (.T 4, .t (.val false [.int .i64 r.2]))])
  | .inr (r) => (.exit 0, [(.T 1, .t (.val false [.int .i64 r])), (.T 4, .t (.val false [.undef]))])
noncomputable def Ow_szStringS_1 : Orc := fun b h => match b, h with
  | 0, [(.T 0, .t (.val false [.sl .any 9 .str y0])), (.T 1, .t (.val false [.int .i64 y1])), (.T 5, .t (.val false [.int .i64 y2]))] => some (okO (g_Lw_szStringS_0 y0 (y1, y2)), (.br (isL (valO (g_Lw_szStringS_0 y0 (y1, y2)))) (.leaf .ret [(.T 1, .t (.val false [.int .i64 (getL (valO (g_Lw_szStringS_0 y0 (y1, y2)))).1])), (.T 4, .t (.val false [.int .i64 (getL (valO (g_Lw_szStringS_0 y0 (y1, y2)))).2]))]) (.leaf (.exit 0) [(.T 1, .t (.val false [.int .i64 (getR (valO (g_Lw_szStringS_0 y0 (y1, y2))))])), (.T 4, .t (.val false [.undef]))])))
  | b, h => Ow_szStringS_0 b h
theorem bw_szStringS_0 (y0 : List (ByteArray)) (y1 : Int) (y2 : Int) : Tr.bt Ew_szStringS Ow_szStringS_0 (exec Ew_szStringS 0 cw_szStringS_0 (St.of (hw_szStringS_0 y0 y1 y2)) (leafRd Ew_szStringS 0)) = (g_Sw_szStringS_0 y0 (y1, y2)).bt (fun ((y1, y2) : (Int) × (Int)) => (hw_szStringS_0 y0 y1 y2)) (xw_szStringS_0 y0) := by kernel_rfl
theorem kw_szStringS_1 : OrcOk Ew_szStringS Ow_szStringS_1 lsw_szStringS 1 := orc_add kw_szStringS_0 (fun n p hp h ex h' ho => by
  obtain ⟨b, c⟩ := p
  obtain ⟨xt, h1, h2⟩ := ho
  have h1 : Ow_szStringS_1 b h = some (true, xt) := h1
  unfold Ow_szStringS_1 at h1
  split at h1
  · injection h1 with h1
    injection h1 with e1 e2
    subst e2
    have hc : c = cw_szStringS_0 := mw_szStringS_0 _ hp rfl
    subst hc
    right
    rename_i y0 y1 y2
    have key := LT_step kw_szStringS_0 hp (fun q hq => loopsAll_in _ _ _ _ hp hq) (fun ((y1, y2) : (Int) × (Int)) => (hw_szStringS_0 y0 y1 y2)) (xw_szStringS_0 y0) (g_Sw_szStringS_0 y0) (fun x => by first | exact bw_szStringS_0 y0 x.1 x.2) n (x := (y1, y2)) (okO_some e1)
    have hx : ∀ r, XT.sel (.br (isL r) (.leaf .ret [(.T 1, .t (.val false [.int .i64 (getL r).1])), (.T 4, .t (.val false [.int .i64 (getL r).2]))]) (.leaf (.exit 0) [(.T 1, .t (.val false [.int .i64 (getR r)])), (.T 4, .t (.val false [.undef]))])) = xw_szStringS_0 y0 r := fun r => by first | rfl | (rcases r with r | r <;> rfl) | (rcases r with r | r | r <;> rfl) | (rcases r with r | r | r | r <;> rfl)
    have h3 := (hx (valO (g_Lw_szStringS_0 y0 (y1, y2)))).symm.trans h2
    have e3 := congrArg Prod.fst h3
    have e4 := congrArg Prod.snd h3
    simp only at e3 e4
    rw [← e3, ← e4]
    exact key
  · exact .inl ⟨xt, h1, h2⟩)
noncomputable def g_Aw_szStringS (a0 : List (ByteArray)) (a1 : Int) : Bool := decide (IntKind.wrap IntKind.i64 (a1 - (↑(List.length a0) : Int)) < (0 : Int)) || okO (g_Lw_szStringS_0 a0 (IntKind.wrap IntKind.i64 (a1 - (↑(List.length a0) : Int)), (0 : Int)))
noncomputable def g_Vw_szStringS_0 (a0 : List (ByteArray)) (a1 : Int) : Int := bif decide (IntKind.wrap IntKind.i64 (a1 - (↑(List.length a0) : Int)) < (0 : Int)) then (-1 : Int) else bif isL (valO (g_Lw_szStringS_0 a0 (IntKind.wrap IntKind.i64 (a1 - (↑(List.length a0) : Int)), (0 : Int)))) then (getL (valO (g_Lw_szStringS_0 a0 (IntKind.wrap IntKind.i64 (a1 - (↑(List.length a0) : Int)), (0 : Int))))).2 else getR (valO (g_Lw_szStringS_0 a0 (IntKind.wrap IntKind.i64 (a1 - (↑(List.length a0) : Int)), (0 : Int))))
noncomputable def Fw_szStringS : FSem := fun ys => match ys with
  | [.val false [.sl .any 9 .str a0], .val false [.int .i64 a1]] => some ((g_Aw_szStringS a0 a1), .val false [.int .i64 (g_Vw_szStringS_0 a0 a1)], [])
  | _ => none
theorem vw_szStringS (a0 : List (ByteArray)) (a1 : Int) : collapseH .std Ew_szStringS Ow_szStringS_1 (execFn Ew_szStringS Go.Proofs.Tryd.f90 msw_szStringS [.val false [.sl .any 9 .str a0], .val false [.int .i64 a1]]) = some ((g_Aw_szStringS a0 a1), .val false [.int .i64 (g_Vw_szStringS_0 a0 a1)], []) := by kernel_rfl
theorem sw_szStringS : Sound Go.Proofs.Tryd.prog 90 msw_szStringS Fw_szStringS := by
  refine fn_gen goodw_szStringS (by kernel_rfl) .std (fn := Go.Proofs.Tryd.f90) (c := (Go.Proofs.Tryd.f90.body.getD .skip)) (o := Ow_szStringS_1) (k := 1) (by kernel_rfl) (by kernel_rfl) (by kernel_rfl) (by kernel_rfl) (by decide) kw_szStringS_1 ?_
  intro ys r outs h
  unfold Fw_szStringS at h
  split at h
  · exact (vw_szStringS _ _).trans h
  · cases h
end Go.Proofs.YtopoiinmhajhmaaDoor.E
end
section
namespace Go.Proofs.YtopoiinmhajhmaaDoor.E
open Go
set_option maxRecDepth 100000
set_option maxHeartbeats 0
set_option linter.all false
noncomputable def Ew_szLogNote : Env where
  tt := mkTI Go.Proofs.Tryd.prog
  fn := fun f => match f with
    | 90 => some (msw_szStringS, FSem.wk msw_szStringS Fw_szStringS)
    | 91 => some (msw_szStoWriteS, FSem.wk msw_szStoWriteS Fw_szStoWriteS)
    | _ => none
  mv := []
  keep := fun _ => []
  keepB := fun _ => []
  keepX := fun _ => []
  keepXB := fun _ => []
theorem goodw_szLogNote : Good Go.Proofs.Tryd.prog Ew_szLogNote := ⟨rfl, fun f ms F h => by
  unfold Ew_szLogNote at h
  dsimp only at h
  split at h
  · injection h with h; injection h with e1 e2; subst e1 e2; exact Sound.wk sw_szStringS
  · injection h with h; injection h with e1 e2; subst e1 e2; exact Sound.wk sw_szStoWriteS
  · cases h⟩
noncomputable def Ow_szLogNote_0 : Orc := fun _ _ => none
noncomputable def msw_szLogNote : List PM := [.rd, .own]
noncomputable def lsw_szLogNote : List (Nat × Code) := loopsAll 0 (Go.Proofs.Tryd.f52.body.getD .skip)

theorem kw_szLogNote_0 : OrcOk Ew_szLogNote Ow_szLogNote_0 lsw_szLogNote 0 := orcOk_none
noncomputable def g_Aw_szLogNote (a0 : Int) (a1 : Int) (a2 : List (ByteArray)) (a3 : List ((ByteArray) × ((Bool) × (List (Int))))) (a4 : Int) : Bool := g_Aw_szStringS a2 a4 && (decide (g_Vw_szStringS_0 a2 a4 < (0 : Int)) || g_Aw_szStoWriteS a3 (g_Vw_szStringS_0 a2 a4) && true)
noncomputable def g_Vw_szLogNote_0 (a0 : Int) (a1 : Int) (a2 : List (ByteArray)) (a3 : List ((ByteArray) × ((Bool) × (List (Int))))) (a4 : Int) : Int := bif decide (g_Vw_szStringS_0 a2 a4 < (0 : Int)) then (-1 : Int) else bif decide (g_Vw_szStoWriteS_0 a3 (g_Vw_szStringS_0 a2 a4) < (0 : Int)) then (-1 : Int) else g_Vw_szStoWriteS_0 a3 (g_Vw_szStringS_0 a2 a4)
noncomputable def Fw_szLogNote : FSem := fun ys => match ys with
  | [.val true [.int .i64 a0, .int .i64 a1, .sl .any 9 .str a2, .sl .any 29 (.pair .str (.pair .bool (.sl 3 (.int .i64)))) a3], .val false [.int .i64 a4]] => some ((g_Aw_szLogNote a0 a1 a2 a3 a4), .val false [.int .i64 (g_Vw_szLogNote_0 a0 a1 a2 a3 a4)], [])
  | _ => none
theorem vw_szLogNote (a0 : Int) (a1 : Int) (a2 : List (ByteArray)) (a3 : List ((ByteArray) × ((Bool) × (List (Int))))) (a4 : Int) : collapseH .std Ew_szLogNote Ow_szLogNote_0 (execFn Ew_szLogNote Go.Proofs.Tryd.f52 msw_szLogNote [.val true [.int .i64 a0, .int .i64 a1, .sl .any 9 .str a2, .sl .any 29 (.pair .str (.pair .bool (.sl 3 (.int .i64)))) a3], .val false [.int .i64 a4]]) = some ((g_Aw_szLogNote a0 a1 a2 a3 a4), .val false [.int .i64 (g_Vw_szLogNote_0 a0 a1 a2 a3 a4)], []) := by kernel_rfl
theorem sw_szLogNote : Sound Go.Proofs.Tryd.prog 52 msw_szLogNote Fw_szLogNote := by
  refine fn_gen goodw_szLogNote (by kernel_rfl) .std (fn := Go.Proofs.Tryd.f52) (c := (Go.Proofs.Tryd.f52.body.getD .skip)) (o := Ow_szLogNote_0) (k := 0) (by kernel_rfl) (by kernel_rfl) (by kernel_rfl) (by kernel_rfl) (by decide) kw_szLogNote_0 ?_
  intro ys r outs h
  unfold Fw_szLogNote at h
  split at h
  · exact (vw_szLogNote _ _ _ _ _).trans h
  · cases h
end Go.Proofs.YtopoiinmhajhmaaDoor.E
end
section
namespace Go.Proofs.YtopoiinmhajhmaaDoor.E
open Go
set_option maxRecDepth 100000
set_option maxHeartbeats 0
set_option linter.all false
noncomputable def Ew_toStoWrite : Env where
  tt := mkTI Go.Proofs.Tryd.prog
  fn := fun f => match f with
    | 65 => some (msw_toIntS, FSem.wk msw_toIntS Fw_toIntS)
    | _ => none
  mv := []
  keep := fun _ => []
  keepB := fun _ => []
  keepX := fun _ => []
  keepXB := fun _ => []
theorem goodw_toStoWrite : Good Go.Proofs.Tryd.prog Ew_toStoWrite := ⟨rfl, fun f ms F h => by
  unfold Ew_toStoWrite at h
  dsimp only at h
  split at h
  · injection h with h; injection h with e1 e2; subst e1 e2; exact Sound.wk sw_toIntS
  · cases h⟩
noncomputable def Ow_toStoWrite_0 : Orc := fun _ _ => none
noncomputable def msw_toStoWrite : List PM := [.rd]
noncomputable def lsw_toStoWrite : List (Nat × Code) := loopsAll 0 (Go.Proofs.Tryd.f21.body.getD .skip)

theorem kw_toStoWrite_0 : OrcOk Ew_toStoWrite Ow_toStoWrite_0 lsw_toStoWrite 0 := orcOk_none
noncomputable def g_Aw_toStoWrite (a0 : ByteArray) (a1 : Bool) (a2 : List (Int)) : Bool := g_Aw_toIntS a2
noncomputable def Fw_toStoWrite : FSem := fun ys => match ys with
  | [.val true [.str a0, .bool a1, .sl .any 3 (.int .i64) a2]] => some ((g_Aw_toStoWrite a0 a1 a2), .val true [.str a0, .bool a1, .own .any true 3 (.int .i64) (g_Vw_toIntS_0 a2)], [])
  | _ => none
theorem vw_toStoWrite (a0 : ByteArray) (a1 : Bool) (a2 : List (Int)) : collapseH .std Ew_toStoWrite Ow_toStoWrite_0 (execFn Ew_toStoWrite Go.Proofs.Tryd.f21 msw_toStoWrite [.val true [.str a0, .bool a1, .sl .any 3 (.int .i64) a2]]) = some ((g_Aw_toStoWrite a0 a1 a2), .val true [.str a0, .bool a1, .own .any true 3 (.int .i64) (g_Vw_toIntS_0 a2)], []) := by kernel_rfl
theorem sw_toStoWrite : Sound Go.Proofs.Tryd.prog 21 msw_toStoWrite Fw_toStoWrite := by
  refine fn_gen goodw_toStoWrite (by kernel_rfl) .std (fn := Go.Proofs.Tryd.f21) (c := (Go.Proofs.Tryd.f21.body.getD .skip)) (o := Ow_toStoWrite_0) (k := 0) (by kernel_rfl) (by kernel_rfl) (by kernel_rfl) (by kernel_rfl) (by decide) kw_toStoWrite_0 ?_
  intro ys r outs h
  unfold Fw_toStoWrite at h
  split at h
  · exact (vw_toStoWrite _ _ _).trans h
  · cases h
end Go.Proofs.YtopoiinmhajhmaaDoor.E
end
section
namespace Go.Proofs.YtopoiinmhajhmaaDoor.E
open Go
set_option maxRecDepth 100000
set_option maxHeartbeats 0
set_option linter.all false
noncomputable def Ew_toStoWriteS : Env where
  tt := mkTI Go.Proofs.Tryd.prog
  fn := fun f => match f with
    | 21 => some (msw_toStoWrite, FSem.wk msw_toStoWrite Fw_toStoWrite)
    | _ => none
  mv := []
  keep := fun b => match b with
    | 0 => [(0, false), (3, false), (4, false)]
    | _ => []
  keepB := fun b => match b with
    | 0 => []
    | _ => []
  keepX := fun b => match b with
    | 0 => [(3, false)]
    | _ => []
  keepXB := fun b => match b with
    | 0 => []
    | _ => []
theorem goodw_toStoWriteS : Good Go.Proofs.Tryd.prog Ew_toStoWriteS := ⟨rfl, fun f ms F h => by
  unfold Ew_toStoWriteS at h
  dsimp only at h
  split at h
  · injection h with h; injection h with e1 e2; subst e1 e2; exact Sound.wk sw_toStoWrite
  · cases h⟩
noncomputable def Ow_toStoWriteS_0 : Orc := fun _ _ => none
noncomputable def msw_toStoWriteS : List PM := [.rd]
noncomputable def lsw_toStoWriteS : List (Nat × Code) := loopsAll 0 (Go.Proofs.Tryd.f93.body.getD .skip)
noncomputable def cw_toStoWriteS_0 : Code := (loopOf 0 (Go.Proofs.Tryd.f93.body.getD .skip)).getD .skip
theorem lseqw_toStoWriteS : lsw_toStoWriteS = [(0, cw_toStoWriteS_0)] := by kernel_rfl
theorem mw_toStoWriteS_0 : ∀ p, p ∈ lsw_toStoWriteS → p.1 = 0 → p.2 = cw_toStoWriteS_0 := by
  intro p hp
  rw [lseqw_toStoWriteS] at hp
  simp only [List.mem_cons, List.not_mem_nil, or_false] at hp
  subst hp; simp
theorem kw_toStoWriteS_0 : OrcOk Ew_toStoWriteS Ow_toStoWriteS_0 lsw_toStoWriteS 0 := orcOk_none
noncomputable def hw_toStoWriteS_0 (y0 : List ((ByteArray) × ((Bool) × (List (Int))))) (y1 : List ((ByteArray) × ((Bool) × (List (Int))))) (y2 : Int) : List (Pl × LV) := [(.T 0, .t (.val false [.sl .any 29 (.pair .str (.pair .bool (.sl 3 (.int .i64)))) y0])), (.T 3, .t (.val false [.row 3 0 0])), (.R 3 0, .r 0 (some ⟨false, .non, true, 32, (.pair .str (.pair .bool (.sl 3 (.int .i64)))), y1⟩)), (.T 4, .t (.val false [.int .i64 y2]))]
noncomputable def g_Sw_toStoWriteS_0 (y0 : List ((ByteArray) × ((Bool) × (List (Int))))) : ((List ((ByteArray) × ((Bool) × (List (Int))))) × (Int)) → RT ((List ((ByteArray) × ((Bool) × (List (Int))))) × (Int)) (((List ((ByteArray) × ((Bool) × (List (Int)))))))
  | (y1, y2) => .br (true) (.br (decide (y2 < (↑(List.length y0) : Int))) (.br (decide ((0 : Int) ≤ y2 ∧ y2 < (↑(List.length y0) : Int))) (.br (g_Aw_toStoWrite (at_ (Ty.pair Ty.str (Ty.pair Ty.bool (Ty.sl (nat_lit 3) (Ty.int IntKind.i64)))) y0 (Int.toNat y2)).1 (at_ (Ty.pair Ty.str (Ty.pair Ty.bool (Ty.sl (nat_lit 3) (Ty.int IntKind.i64)))) y0 (Int.toNat y2)).2.1 (at_ (Ty.pair Ty.str (Ty.pair Ty.bool (Ty.sl (nat_lit 3) (Ty.int IntKind.i64)))) y0 (Int.toNat y2)).2.2) (.br (decide ((0 : Int) ≤ y2 ∧ y2 < (↑(List.length y1) : Int))) (.br (decide (Int.toNat y2 < List.length y1)) (.br (true) (.go ((List.set y1 (Int.toNat y2) ((at_ (Ty.pair Ty.str (Ty.pair Ty.bool (Ty.sl (nat_lit 3) (Ty.int IntKind.i64)))) y0 (Int.toNat y2)).1, (at_ (Ty.pair Ty.str (Ty.pair Ty.bool (Ty.sl (nat_lit 3) (Ty.int IntKind.i64)))) y0 (Int.toNat y2)).2.1, g_Vw_toIntS_0 (at_ (Ty.pair Ty.str (Ty.pair Ty.bool (Ty.sl (nat_lit 3) (Ty.int IntKind.i64)))) y0 (Int.toNat y2)).2.2), IntKind.wrap IntKind.i64 (y2 + (1 : Int))))) (.bad)) (.bad)) (.bad)) (.bad)) (.bad)) (.out (y1))) (.bad)
noncomputable def g_Lw_toStoWriteS_0 (y0 : List ((ByteArray) × ((Bool) × (List (Int))))) (x : (List ((ByteArray) × ((Bool) × (List (Int))))) × (Int)) : Option (((List ((ByteArray) × ((Bool) × (List (Int))))))) := loopO (g_Sw_toStoWriteS_0 y0) x
noncomputable def xw_toStoWriteS_0 (y0 : List ((ByteArray) × ((Bool) × (List (Int))))) : (((List ((ByteArray) × ((Bool) × (List (Int))))))) → Ex × List (Pl × LV) := fun r => (.exit 0, [(.T 3, .t (.val false [.row 3 0 0])), (.R 3 0, .r 0 (some ⟨false, .non, true, 32, (.pair .str (.pair .bool (.sl 3 (.int .i64)))), r⟩))])
noncomputable def Ow_toStoWriteS_1 : Orc := fun b h => match b, h with
  | 0, [(.T 0, .t (.val false [.sl .any 29 (.pair .str (.pair .bool (.sl 3 (.int .i64)))) y0])), (.T 3, .t (.val false [.row 3 0 0])), (.R 3 0, .r 0 (some ⟨false, .non, true, 32, (.pair .str (.pair .bool (.sl 3 (.int .i64)))), y1⟩)), (.T 4, .t (.val false [.int .i64 y2]))] => some (okO (g_Lw_toStoWriteS_0 y0 (y1, y2)), (.leaf (.exit 0) [(.T 3, .t (.val false [.row 3 0 0])), (.R 3 0, .r 0 (some ⟨false, .non, true, 32, (.pair .str (.pair .bool (.sl 3 (.int .i64)))), (valO (g_Lw_toStoWriteS_0 y0 (y1, y2)))⟩))]))
  | b, h => Ow_toStoWriteS_0 b h
theorem bw_toStoWriteS_0 (y0 : List ((ByteArray) × ((Bool) × (List (Int))))) (y1 : List ((ByteArray) × ((Bool) × (List (Int))))) (y2 : Int) : Tr.bt Ew_toStoWriteS Ow_toStoWriteS_0 (exec Ew_toStoWriteS 0 cw_toStoWriteS_0 (St.of (hw_toStoWriteS_0 y0 y1 y2)) (leafRd Ew_toStoWriteS 0)) = (g_Sw_toStoWriteS_0 y0 (y1, y2)).bt (fun ((y1, y2) : (List ((ByteArray) × ((Bool) × (List (Int))))) × (Int)) => (hw_toStoWriteS_0 y0 y1 y2)) (xw_toStoWriteS_0 y0) := by kernel_rfl
theorem kw_toStoWriteS_1 : OrcOk Ew_toStoWriteS Ow_toStoWriteS_1 lsw_toStoWriteS 1 := orc_add kw_toStoWriteS_0 (fun n p hp h ex h' ho => by
  obtain ⟨b, c⟩ := p
  obtain ⟨xt, h1, h2⟩ := ho
  have h1 : Ow_toStoWriteS_1 b h = some (true, xt) := h1
  unfold Ow_toStoWriteS_1 at h1
  split at h1
  · injection h1 with h1
    injection h1 with e1 e2
    subst e2
    have hc : c = cw_toStoWriteS_0 := mw_toStoWriteS_0 _ hp rfl
    subst hc
    right
    rename_i y0 y1 y2
    have key := LT_step kw_toStoWriteS_0 hp (fun q hq => loopsAll_in _ _ _ _ hp hq) (fun ((y1, y2) : (List ((ByteArray) × ((Bool) × (List (Int))))) × (Int)) => (hw_toStoWriteS_0 y0 y1 y2)) (xw_toStoWriteS_0 y0) (g_Sw_toStoWriteS_0 y0) (fun x => by first | exact bw_toStoWriteS_0 y0 x.1 x.2) n (x := (y1, y2)) (okO_some e1)
    have hx : ∀ r, XT.sel (.leaf (.exit 0) [(.T 3, .t (.val false [.row 3 0 0])), (.R 3 0, .r 0 (some ⟨false, .non, true, 32, (.pair .str (.pair .bool (.sl 3 (.int .i64)))), r⟩))]) = xw_toStoWriteS_0 y0 r := fun r => by first | rfl | (rcases r with r | r <;> rfl) | (rcases r with r | r | r <;> rfl) | (rcases r with r | r | r | r <;> rfl)
    have h3 := (hx (valO (g_Lw_toStoWriteS_0 y0 (y1, y2)))).symm.trans h2
    have e3 := congrArg Prod.fst h3
    have e4 := congrArg Prod.snd h3
    simp only at e3 e4
    rw [← e3, ← e4]
    exact key
  · exact .inl ⟨xt, h1, h2⟩)
noncomputable def g_Aw_toStoWriteS (a0 : List ((ByteArray) × ((Bool) × (List (Int))))) : Bool := decide ((↑(List.length a0) : Int) = (↑(List.length a0) : Int) ∧ (0 : Int) ≤ (↑(List.length a0) : Int) ∧ (↑(List.length a0) : Int) ≤ (9223372036854775807 : Int) ∧ (48 : Int) * (↑(List.length a0) : Int) ≤ (281474976710656 : Int)) && okO (g_Lw_toStoWriteS_0 a0 (List.replicate (Int.toNat (↑(List.length a0) : Int)) (lit [], false, []), (0 : Int)))
noncomputable def g_Vw_toStoWriteS_0 (a0 : List ((ByteArray) × ((Bool) × (List (Int))))) : List ((ByteArray) × ((Bool) × (List (Int)))) := valO (g_Lw_toStoWriteS_0 a0 (List.replicate (Int.toNat (↑(List.length a0) : Int)) (lit [], false, []), (0 : Int)))
noncomputable def Fw_toStoWriteS : FSem := fun ys => match ys with
  | [.val false [.sl .any 29 (.pair .str (.pair .bool (.sl 3 (.int .i64)))) a0]] => some ((g_Aw_toStoWriteS a0), .val false [.own .any true 32 (.pair .str (.pair .bool (.sl 3 (.int .i64)))) (g_Vw_toStoWriteS_0 a0)], [])
  | _ => none
theorem vw_toStoWriteS (a0 : List ((ByteArray) × ((Bool) × (List (Int))))) : collapseH .std Ew_toStoWriteS Ow_toStoWriteS_1 (execFn Ew_toStoWriteS Go.Proofs.Tryd.f93 msw_toStoWriteS [.val false [.sl .any 29 (.pair .str (.pair .bool (.sl 3 (.int .i64)))) a0]]) = some ((g_Aw_toStoWriteS a0), .val false [.own .any true 32 (.pair .str (.pair .bool (.sl 3 (.int .i64)))) (g_Vw_toStoWriteS_0 a0)], []) := by kernel_rfl
theorem sw_toStoWriteS : Sound Go.Proofs.Tryd.prog 93 msw_toStoWriteS Fw_toStoWriteS := by
  refine fn_gen goodw_toStoWriteS (by kernel_rfl) .std (fn := Go.Proofs.Tryd.f93) (c := (Go.Proofs.Tryd.f93.body.getD .skip)) (o := Ow_toStoWriteS_1) (k := 1) (by kernel_rfl) (by kernel_rfl) (by kernel_rfl) (by kernel_rfl) (by decide) kw_toStoWriteS_1 ?_
  intro ys r outs h
  unfold Fw_toStoWriteS at h
  split at h
  · exact (vw_toStoWriteS _).trans h
  · cases h
end Go.Proofs.YtopoiinmhajhmaaDoor.E
end
section
namespace Go.Proofs.YtopoiinmhajhmaaDoor.E
open Go
set_option maxRecDepth 100000
set_option maxHeartbeats 0
set_option linter.all false
noncomputable def Ew_toStringS : Env where
  tt := mkTI Go.Proofs.Tryd.prog
  fn := fun _ => none
  mv := []
  keep := fun b => match b with
    | 0 => [(0, false), (3, false), (4, false)]
    | _ => []
  keepB := fun b => match b with
    | 0 => []
    | _ => []
  keepX := fun b => match b with
    | 0 => [(3, false)]
    | _ => []
  keepXB := fun b => match b with
    | 0 => []
    | _ => []
theorem goodw_toStringS : Good Go.Proofs.Tryd.prog Ew_toStringS := ⟨rfl, fun f ms F h => by cases h⟩
noncomputable def Ow_toStringS_0 : Orc := fun _ _ => none
noncomputable def msw_toStringS : List PM := [.rd]
noncomputable def lsw_toStringS : List (Nat × Code) := loopsAll 0 (Go.Proofs.Tryd.f92.body.getD .skip)
noncomputable def cw_toStringS_0 : Code := (loopOf 0 (Go.Proofs.Tryd.f92.body.getD .skip)).getD .skip
theorem lseqw_toStringS : lsw_toStringS = [(0, cw_toStringS_0)] := by kernel_rfl
theorem mw_toStringS_0 : ∀ p, p ∈ lsw_toStringS → p.1 = 0 → p.2 = cw_toStringS_0 := by
  intro p hp
  rw [lseqw_toStringS] at hp
  simp only [List.mem_cons, List.not_mem_nil, or_false] at hp
  subst hp; simp
theorem kw_toStringS_0 : OrcOk Ew_toStringS Ow_toStringS_0 lsw_toStringS 0 := orcOk_none
noncomputable def hw_toStringS_0 (y0 : List (ByteArray)) (y1 : List (ByteArray)) (y2 : Int) : List (Pl × LV) := [(.T 0, .t (.val false [.sl .any 9 .str y0])), (.T 3, .t (.val false [.row 3 0 0])), (.R 3 0, .r 0 (some ⟨false, .non, true, 9, .str, y1⟩)), (.T 4, .t (.val false [.int .i64 y2]))]
noncomputable def g_Sw_toStringS_0 (y0 : List (ByteArray)) : ((List (ByteArray)) × (Int)) → RT ((List (ByteArray)) × (Int)) (((List (ByteArray))))
  | (y1, y2) => .br (true) (.br (decide (y2 < (↑(List.length y0) : Int))) (.br (decide ((0 : Int) ≤ y2 ∧ y2 < (↑(List.length y0) : Int))) (.br (decide ((0 : Int) ≤ y2 ∧ y2 < (↑(List.length y1) : Int))) (.br (decide (Int.toNat y2 < List.length y1)) (.br (true) (.go ((List.set y1 (Int.toNat y2) (at_ Ty.str y0 (Int.toNat y2)), IntKind.wrap IntKind.i64 (y2 + (1 : Int))))) (.bad)) (.bad)) (.bad)) (.bad)) (.out (y1))) (.bad)
noncomputable def g_Lw_toStringS_0 (y0 : List (ByteArray)) (x : (List (ByteArray)) × (Int)) : Option (((List (ByteArray)))) := loopO (g_Sw_toStringS_0 y0) x
noncomputable def xw_toStringS_0 (y0 : List (ByteArray)) : (((List (ByteArray)))) → Ex × List (Pl × LV) := fun r => (.exit 0, [(.T 3, .t (.val false [.row 3 0 0])), (.R 3 0, .r 0 (some ⟨false, .non, true, 9, .str, r⟩))])
noncomputable def Ow_toStringS_1 : Orc := fun b h => match b, h with
  | 0, [(.T 0, .t (.val false [.sl .any 9 .str y0])), (.T 3, .t (.val false [.row 3 0 0])), (.R 3 0, .r 0 (some ⟨false, .non, true, 9, .str, y1⟩)), (.T 4, .t (.val false [.int .i64 y2]))] => some (okO (g_Lw_toStringS_0 y0 (y1, y2)), (.leaf (.exit 0) [(.T 3, .t (.val false [.row 3 0 0])), (.R 3 0, .r 0 (some ⟨false, .non, true, 9, .str, (valO (g_Lw_toStringS_0 y0 (y1, y2)))⟩))]))
  | b, h => Ow_toStringS_0 b h
theorem bw_toStringS_0 (y0 : List (ByteArray)) (y1 : List (ByteArray)) (y2 : Int) : Tr.bt Ew_toStringS Ow_toStringS_0 (exec Ew_toStringS 0 cw_toStringS_0 (St.of (hw_toStringS_0 y0 y1 y2)) (leafRd Ew_toStringS 0)) = (g_Sw_toStringS_0 y0 (y1, y2)).bt (fun ((y1, y2) : (List (ByteArray)) × (Int)) => (hw_toStringS_0 y0 y1 y2)) (xw_toStringS_0 y0) := by kernel_rfl
theorem kw_toStringS_1 : OrcOk Ew_toStringS Ow_toStringS_1 lsw_toStringS 1 := orc_add kw_toStringS_0 (fun n p hp h ex h' ho => by
  obtain ⟨b, c⟩ := p
  obtain ⟨xt, h1, h2⟩ := ho
  have h1 : Ow_toStringS_1 b h = some (true, xt) := h1
  unfold Ow_toStringS_1 at h1
  split at h1
  · injection h1 with h1
    injection h1 with e1 e2
    subst e2
    have hc : c = cw_toStringS_0 := mw_toStringS_0 _ hp rfl
    subst hc
    right
    rename_i y0 y1 y2
    have key := LT_step kw_toStringS_0 hp (fun q hq => loopsAll_in _ _ _ _ hp hq) (fun ((y1, y2) : (List (ByteArray)) × (Int)) => (hw_toStringS_0 y0 y1 y2)) (xw_toStringS_0 y0) (g_Sw_toStringS_0 y0) (fun x => by first | exact bw_toStringS_0 y0 x.1 x.2) n (x := (y1, y2)) (okO_some e1)
    have hx : ∀ r, XT.sel (.leaf (.exit 0) [(.T 3, .t (.val false [.row 3 0 0])), (.R 3 0, .r 0 (some ⟨false, .non, true, 9, .str, r⟩))]) = xw_toStringS_0 y0 r := fun r => by first | rfl | (rcases r with r | r <;> rfl) | (rcases r with r | r | r <;> rfl) | (rcases r with r | r | r | r <;> rfl)
    have h3 := (hx (valO (g_Lw_toStringS_0 y0 (y1, y2)))).symm.trans h2
    have e3 := congrArg Prod.fst h3
    have e4 := congrArg Prod.snd h3
    simp only at e3 e4
    rw [← e3, ← e4]
    exact key
  · exact .inl ⟨xt, h1, h2⟩)
noncomputable def g_Aw_toStringS (a0 : List (ByteArray)) : Bool := decide ((↑(List.length a0) : Int) = (↑(List.length a0) : Int) ∧ (0 : Int) ≤ (↑(List.length a0) : Int) ∧ (↑(List.length a0) : Int) ≤ (9223372036854775807 : Int) ∧ (16 : Int) * (↑(List.length a0) : Int) ≤ (281474976710656 : Int)) && okO (g_Lw_toStringS_0 a0 (List.replicate (Int.toNat (↑(List.length a0) : Int)) (lit []), (0 : Int)))
noncomputable def g_Vw_toStringS_0 (a0 : List (ByteArray)) : List (ByteArray) := valO (g_Lw_toStringS_0 a0 (List.replicate (Int.toNat (↑(List.length a0) : Int)) (lit []), (0 : Int)))
noncomputable def Fw_toStringS : FSem := fun ys => match ys with
  | [.val false [.sl .any 9 .str a0]] => some ((g_Aw_toStringS a0), .val false [.own .any true 9 .str (g_Vw_toStringS_0 a0)], [])
  | _ => none
theorem vw_toStringS (a0 : List (ByteArray)) : collapseH .std Ew_toStringS Ow_toStringS_1 (execFn Ew_toStringS Go.Proofs.Tryd.f92 msw_toStringS [.val false [.sl .any 9 .str a0]]) = some ((g_Aw_toStringS a0), .val false [.own .any true 9 .str (g_Vw_toStringS_0 a0)], []) := by kernel_rfl
theorem sw_toStringS : Sound Go.Proofs.Tryd.prog 92 msw_toStringS Fw_toStringS := by
  refine fn_gen goodw_toStringS (by kernel_rfl) .std (fn := Go.Proofs.Tryd.f92) (c := (Go.Proofs.Tryd.f92.body.getD .skip)) (o := Ow_toStringS_1) (k := 1) (by kernel_rfl) (by kernel_rfl) (by kernel_rfl) (by kernel_rfl) (by decide) kw_toStringS_1 ?_
  intro ys r outs h
  unfold Fw_toStringS at h
  split at h
  · exact (vw_toStringS _).trans h
  · cases h
end Go.Proofs.YtopoiinmhajhmaaDoor.E
end
section
namespace Go.Proofs.YtopoiinmhajhmaaDoor.E
open Go
set_option maxRecDepth 100000
set_option maxHeartbeats 0
set_option linter.all false
noncomputable def Ew_toLogNote : Env where
  tt := mkTI Go.Proofs.Tryd.prog
  fn := fun f => match f with
    | 92 => some (msw_toStringS, FSem.wk msw_toStringS Fw_toStringS)
    | 93 => some (msw_toStoWriteS, FSem.wk msw_toStoWriteS Fw_toStoWriteS)
    | _ => none
  mv := []
  keep := fun _ => []
  keepB := fun _ => []
  keepX := fun _ => []
  keepXB := fun _ => []
theorem goodw_toLogNote : Good Go.Proofs.Tryd.prog Ew_toLogNote := ⟨rfl, fun f ms F h => by
  unfold Ew_toLogNote at h
  dsimp only at h
  split at h
  · injection h with h; injection h with e1 e2; subst e1 e2; exact Sound.wk sw_toStringS
  · injection h with h; injection h with e1 e2; subst e1 e2; exact Sound.wk sw_toStoWriteS
  · cases h⟩
noncomputable def Ow_toLogNote_0 : Orc := fun _ _ => none
noncomputable def msw_toLogNote : List PM := [.rd]
noncomputable def lsw_toLogNote : List (Nat × Code) := loopsAll 0 (Go.Proofs.Tryd.f53.body.getD .skip)

theorem kw_toLogNote_0 : OrcOk Ew_toLogNote Ow_toLogNote_0 lsw_toLogNote 0 := orcOk_none
noncomputable def g_Aw_toLogNote (a0 : Int) (a1 : Int) (a2 : List (ByteArray)) (a3 : List ((ByteArray) × ((Bool) × (List (Int))))) : Bool := g_Aw_toStringS a2 && g_Aw_toStoWriteS a3
noncomputable def Fw_toLogNote : FSem := fun ys => match ys with
  | [.val true [.int .i64 a0, .int .i64 a1, .sl .any 9 .str a2, .sl .any 29 (.pair .str (.pair .bool (.sl 3 (.int .i64)))) a3]] => some ((g_Aw_toLogNote a0 a1 a2 a3), .val true [.int .i64 a0, .int .i64 a1, .own .any true 9 .str (g_Vw_toStringS_0 a2), .own .any true 32 (.pair .str (.pair .bool (.sl 3 (.int .i64)))) (g_Vw_toStoWriteS_0 a3)], [])
  | _ => none
theorem vw_toLogNote (a0 : Int) (a1 : Int) (a2 : List (ByteArray)) (a3 : List ((ByteArray) × ((Bool) × (List (Int))))) : collapseH .std Ew_toLogNote Ow_toLogNote_0 (execFn Ew_toLogNote Go.Proofs.Tryd.f53 msw_toLogNote [.val true [.int .i64 a0, .int .i64 a1, .sl .any 9 .str a2, .sl .any 29 (.pair .str (.pair .bool (.sl 3 (.int .i64)))) a3]]) = some ((g_Aw_toLogNote a0 a1 a2 a3), .val true [.int .i64 a0, .int .i64 a1, .own .any true 9 .str (g_Vw_toStringS_0 a2), .own .any true 32 (.pair .str (.pair .bool (.sl 3 (.int .i64)))) (g_Vw_toStoWriteS_0 a3)], []) := by kernel_rfl
theorem sw_toLogNote : Sound Go.Proofs.Tryd.prog 53 msw_toLogNote Fw_toLogNote := by
  refine fn_gen goodw_toLogNote (by kernel_rfl) .std (fn := Go.Proofs.Tryd.f53) (c := (Go.Proofs.Tryd.f53.body.getD .skip)) (o := Ow_toLogNote_0) (k := 0) (by kernel_rfl) (by kernel_rfl) (by kernel_rfl) (by kernel_rfl) (by decide) kw_toLogNote_0 ?_
  intro ys r outs h
  unfold Fw_toLogNote at h
  split at h
  · exact (vw_toLogNote _ _ _ _).trans h
  · cases h
end Go.Proofs.YtopoiinmhajhmaaDoor.E
end
section
namespace Go.Proofs.YtopoiinmhajhmaaDoor.E
open Go
set_option maxRecDepth 100000
set_option maxHeartbeats 0
set_option linter.all false
noncomputable def Ew_eqStoWrite : Env where
  tt := mkTI Go.Proofs.Tryd.prog
  fn := fun f => match f with
    | 68 => some (msw_eqIntS, FSem.wk msw_eqIntS Fw_eqIntS)
    | _ => none
  mv := []
  keep := fun _ => []
  keepB := fun _ => []
  keepX := fun _ => []
  keepXB := fun _ => []
theorem goodw_eqStoWrite : Good Go.Proofs.Tryd.prog Ew_eqStoWrite := ⟨rfl, fun f ms F h => by
  unfold Ew_eqStoWrite at h
  dsimp only at h
  split at h
  · injection h with h; injection h with e1 e2; subst e1 e2; exact Sound.wk sw_eqIntS
  · cases h⟩
noncomputable def Ow_eqStoWrite_0 : Orc := fun _ _ => none
noncomputable def msw_eqStoWrite : List PM := [.rd, .rd]
noncomputable def lsw_eqStoWrite : List (Nat × Code) := loopsAll 0 (Go.Proofs.Tryd.f23.body.getD .skip)

theorem kw_eqStoWrite_0 : OrcOk Ew_eqStoWrite Ow_eqStoWrite_0 lsw_eqStoWrite 0 := orcOk_none
noncomputable def g_Aw_eqStoWrite (a0 : ByteArray) (a1 : Bool) (a2 : List (Int)) (a3 : ByteArray) (a4 : Bool) (a5 : List (Int)) : Bool := !ByteArray.toList a0 == ByteArray.toList a3 || (!a1 == a4 || g_Aw_eqIntS a2 a5)
noncomputable def g_Vw_eqStoWrite_0 (a0 : ByteArray) (a1 : Bool) (a2 : List (Int)) (a3 : ByteArray) (a4 : Bool) (a5 : List (Int)) : Bool := bif !ByteArray.toList a0 == ByteArray.toList a3 then false else bif !a1 == a4 then false else bif !g_Vw_eqIntS_0 a2 a5 then false else true
noncomputable def Fw_eqStoWrite : FSem := fun ys => match ys with
  | [.val true [.str a0, .bool a1, .sl .any 3 (.int .i64) a2], .val true [.str a3, .bool a4, .sl .any 3 (.int .i64) a5]] => some ((g_Aw_eqStoWrite a0 a1 a2 a3 a4 a5), .val false [.bool (g_Vw_eqStoWrite_0 a0 a1 a2 a3 a4 a5)], [])
  | _ => none
theorem vw_eqStoWrite (a0 : ByteArray) (a1 : Bool) (a2 : List (Int)) (a3 : ByteArray) (a4 : Bool) (a5 : List (Int)) : collapseH .std Ew_eqStoWrite Ow_eqStoWrite_0 (execFn Ew_eqStoWrite Go.Proofs.Tryd.f23 msw_eqStoWrite [.val true [.str a0, .bool a1, .sl .any 3 (.int .i64) a2], .val true [.str a3, .bool a4, .sl .any 3 (.int .i64) a5]]) = some ((g_Aw_eqStoWrite a0 a1 a2 a3 a4 a5), .val false [.bool (g_Vw_eqStoWrite_0 a0 a1 a2 a3 a4 a5)], []) := by kernel_rfl
theorem sw_eqStoWrite : Sound Go.Proofs.Tryd.prog 23 msw_eqStoWrite Fw_eqStoWrite := by
  refine fn_gen goodw_eqStoWrite (by kernel_rfl) .std (fn := Go.Proofs.Tryd.f23) (c := (Go.Proofs.Tryd.f23.body.getD .skip)) (o := Ow_eqStoWrite_0) (k := 0) (by kernel_rfl) (by kernel_rfl) (by kernel_rfl) (by kernel_rfl) (by decide) kw_eqStoWrite_0 ?_
  intro ys r outs h
  unfold Fw_eqStoWrite at h
  split at h
  · exact (vw_eqStoWrite _ _ _ _ _ _).trans h
  · cases h
end Go.Proofs.YtopoiinmhajhmaaDoor.E
end
section
namespace Go.Proofs.YtopoiinmhajhmaaDoor.E
open Go
set_option maxRecDepth 100000
set_option maxHeartbeats 0
set_option linter.all false
noncomputable def Ew_eqStoWriteS : Env where
  tt := mkTI Go.Proofs.Tryd.prog
  fn := fun f => match f with
    | 23 => some (msw_eqStoWrite, FSem.wk msw_eqStoWrite Fw_eqStoWrite)
    | _ => none
  mv := []
  keep := fun b => match b with
    | 0 => [(0, false), (1, false), (5, false)]
    | _ => []
  keepB := fun b => match b with
    | 0 => []
    | _ => []
  keepX := fun b => match b with
    | 0 => [(4, false)]
    | _ => []
  keepXB := fun b => match b with
    | 0 => []
    | _ => []
theorem goodw_eqStoWriteS : Good Go.Proofs.Tryd.prog Ew_eqStoWriteS := ⟨rfl, fun f ms F h => by
  unfold Ew_eqStoWriteS at h
  dsimp only at h
  split at h
  · injection h with h; injection h with e1 e2; subst e1 e2; exact Sound.wk sw_eqStoWrite
  · cases h⟩
noncomputable def Ow_eqStoWriteS_0 : Orc := fun _ _ => none
noncomputable def msw_eqStoWriteS : List PM := [.rd, .rd]
noncomputable def lsw_eqStoWriteS : List (Nat × Code) := loopsAll 0 (Go.Proofs.Tryd.f95.body.getD .skip)
noncomputable def cw_eqStoWriteS_0 : Code := (loopOf 0 (Go.Proofs.Tryd.f95.body.getD .skip)).getD .skip
theorem lseqw_eqStoWriteS : lsw_eqStoWriteS = [(0, cw_eqStoWriteS_0)] := by kernel_rfl
theorem mw_eqStoWriteS_0 : ∀ p, p ∈ lsw_eqStoWriteS → p.1 = 0 → p.2 = cw_eqStoWriteS_0 := by
  intro p hp
  rw [lseqw_eqStoWriteS] at hp
  simp only [List.mem_cons, List.not_mem_nil, or_false] at hp
  subst hp; simp
theorem kw_eqStoWriteS_0 : OrcOk Ew_eqStoWriteS Ow_eqStoWriteS_0 lsw_eqStoWriteS 0 := orcOk_none
noncomputable def hw_eqStoWriteS_0 (y0 : List ((ByteArray) × ((Bool) × (List (Int))))) (y1 : List ((ByteArray) × ((Bool) × (List (Int))))) (y2 : Int) : List (Pl × LV) := [(.T 0, .t (.val false [.sl .any 32 (.pair .str (.pair .bool (.sl 3 (.int .i64)))) y0])), (.T 1, .t (.val false [.sl .any 32 (.pair .str (.pair .bool (.sl 3 (.int .i64)))) y1])), (.T 5, .t (.val false [.int .i64 y2]))]
noncomputable def g_Sw_eqStoWriteS_0 (y0 : List ((ByteArray) × ((Bool) × (List (Int))))) (y1 : List ((ByteArray) × ((Bool) × (List (Int))))) : ((Int)) → RT ((Int)) (((Bool)) ⊕ (Unit))
  | y2 => .br (true) (.br (decide (y2 < (↑(List.length y0) : Int))) (.br (decide ((0 : Int) ≤ y2 ∧ y2 < (↑(List.length y0) : Int))) (.br (decide ((0 : Int) ≤ y2 ∧ y2 < (↑(List.length y1) : Int))) (.br (g_Aw_eqStoWrite (at_ (Ty.pair Ty.str (Ty.pair Ty.bool (Ty.sl (nat_lit 3) (Ty.int IntKind.i64)))) y0 (Int.toNat y2)).1 (at_ (Ty.pair Ty.str (Ty.pair Ty.bool (Ty.sl (nat_lit 3) (Ty.int IntKind.i64)))) y0 (Int.toNat y2)).2.1 (at_ (Ty.pair Ty.str (Ty.pair Ty.bool (Ty.sl (nat_lit 3) (Ty.int IntKind.i64)))) y0 (Int.toNat y2)).2.2 (at_ (Ty.pair Ty.str (Ty.pair Ty.bool (Ty.sl (nat_lit 3) (Ty.int IntKind.i64)))) y1 (Int.toNat y2)).1 (at_ (Ty.pair Ty.str (Ty.pair Ty.bool (Ty.sl (nat_lit 3) (Ty.int IntKind.i64)))) y1 (Int.toNat y2)).2.1 (at_ (Ty.pair Ty.str (Ty.pair Ty.bool (Ty.sl (nat_lit 3) (Ty.int IntKind.i64)))) y1 (Int.toNat y2)).2.2) (.br (!g_Vw_eqStoWrite_0 (at_ (Ty.pair Ty.str (Ty.pair Ty.bool (Ty.sl (nat_lit 3) (Ty.int IntKind.i64)))) y0 (Int.toNat y2)).1 (at_ (Ty.pair Ty.str (Ty.pair Ty.bool (Ty.sl (nat_lit 3) (Ty.int IntKind.i64)))) y0 (Int.toNat y2)).2.1 (at_ (Ty.pair Ty.str (Ty.pair Ty.bool (Ty.sl (nat_lit 3) (Ty.int IntKind.i64)))) y0 (Int.toNat y2)).2.2 (at_ (Ty.pair Ty.str (Ty.pair Ty.bool (Ty.sl (nat_lit 3) (Ty.int IntKind.i64)))) y1 (Int.toNat y2)).1 (at_ (Ty.pair Ty.str (Ty.pair Ty.bool (Ty.sl (nat_lit 3) (Ty.int IntKind.i64)))) y1 (Int.toNat y2)).2.1 (at_ (Ty.pair Ty.str (Ty.pair Ty.bool (Ty.sl (nat_lit 3) (Ty.int IntKind.i64)))) y1 (Int.toNat y2)).2.2) (.out (.inl false)) (.br (true) (.go (IntKind.wrap IntKind.i64 (y2 + (1 : Int)))) (.bad))) (.bad)) (.bad)) (.bad)) (.out (.inr (())))) (.bad)
noncomputable def g_Lw_eqStoWriteS_0 (y0 : List ((ByteArray) × ((Bool) × (List (Int))))) (y1 : List ((ByteArray) × ((Bool) × (List (Int))))) (x : (Int)) : Option (((Bool)) ⊕ (Unit)) := loopO (g_Sw_eqStoWriteS_0 y0 y1) x
noncomputable def xw_eqStoWriteS_0 (y0 : List ((ByteArray) × ((Bool) × (List (Int))))) (y1 : List ((ByteArray) × ((Bool) × (List (Int))))) : (((Bool)) ⊕ (Unit)) → Ex × List (Pl × LV) := fun
  | .inl r => (.ret, [(.T 4, .t (.val false [.bool r]))])
  | .inr (r) => (.exit 0, [(.T 4, .t (.val false [.undef]))])
noncomputable def Ow_eqStoWriteS_1 : Orc := fun b h => match b, h with
  | 0, [(.T 0, .t (.val false [.sl .any 32 (.pair .str (.pair .bool (.sl 3 (.int .i64)))) y0])), (.T 1, .t (.val false [.sl .any 32 (.pair .str (.pair .bool (.sl 3 (.int .i64)))) y1])), (.T 5, .t (.val false [.int .i64 y2]))] => some (okO (g_Lw_eqStoWriteS_0 y0 y1 y2), (.br (isL (valO (g_Lw_eqStoWriteS_0 y0 y1 y2))) (.leaf .ret [(.T 4, .t (.val false [.bool (getL (valO (g_Lw_eqStoWriteS_0 y0 y1 y2)))]))]) (.leaf (.exit 0) [(.T 4, .t (.val false [.undef]))])))
  | b, h => Ow_eqStoWriteS_0 b h
theorem bw_eqStoWriteS_0 (y0 : List ((ByteArray) × ((Bool) × (List (Int))))) (y1 : List ((ByteArray) × ((Bool) × (List (Int))))) (y2 : Int) : Tr.bt Ew_eqStoWriteS Ow_eqStoWriteS_0 (exec Ew_eqStoWriteS 0 cw_eqStoWriteS_0 (St.of (hw_eqStoWriteS_0 y0 y1 y2)) (leafRd Ew_eqStoWriteS 0)) = (g_Sw_eqStoWriteS_0 y0 y1 y2).bt (fun (y2 : (Int)) => (hw_eqStoWriteS_0 y0 y1 y2)) (xw_eqStoWriteS_0 y0 y1) := by kernel_rfl
theorem kw_eqStoWriteS_1 : OrcOk Ew_eqStoWriteS Ow_eqStoWriteS_1 lsw_eqStoWriteS 1 := orc_add kw_eqStoWriteS_0 (fun n p hp h ex h' ho => by
  obtain ⟨b, c⟩ := p
  obtain ⟨xt, h1, h2⟩ := ho
  have h1 : Ow_eqStoWriteS_1 b h = some (true, xt) := h1
  unfold Ow_eqStoWriteS_1 at h1
  split at h1
  · injection h1 with h1
    injection h1 with e1 e2
    subst e2
    have hc : c = cw_eqStoWriteS_0 := mw_eqStoWriteS_0 _ hp rfl
    subst hc
    right
    rename_i y0 y1 y2
    have key := LT_step kw_eqStoWriteS_0 hp (fun q hq => loopsAll_in _ _ _ _ hp hq) (fun (y2 : (Int)) => (hw_eqStoWriteS_0 y0 y1 y2)) (xw_eqStoWriteS_0 y0 y1) (g_Sw_eqStoWriteS_0 y0 y1) (fun x => by first | exact bw_eqStoWriteS_0 y0 y1 x) n (x := y2) (okO_some e1)
    have hx : ∀ r, XT.sel (.br (isL r) (.leaf .ret [(.T 4, .t (.val false [.bool (getL r)]))]) (.leaf (.exit 0) [(.T 4, .t (.val false [.undef]))])) = xw_eqStoWriteS_0 y0 y1 r := fun r => by first | rfl | (rcases r with r | r <;> rfl) | (rcases r with r | r | r <;> rfl) | (rcases r with r | r | r | r <;> rfl)
    have h3 := (hx (valO (g_Lw_eqStoWriteS_0 y0 y1 y2))).symm.trans h2
    have e3 := congrArg Prod.fst h3
    have e4 := congrArg Prod.snd h3
    simp only at e3 e4
    rw [← e3, ← e4]
    exact key
  · exact .inl ⟨xt, h1, h2⟩)
noncomputable def g_Aw_eqStoWriteS (a0 : List ((ByteArray) × ((Bool) × (List (Int))))) (a1 : List ((ByteArray) × ((Bool) × (List (Int))))) : Bool := (↑(List.length a0) : Int) != (↑(List.length a1) : Int) || okO (g_Lw_eqStoWriteS_0 a0 a1 (0 : Int))
noncomputable def g_Vw_eqStoWriteS_0 (a0 : List ((ByteArray) × ((Bool) × (List (Int))))) (a1 : List ((ByteArray) × ((Bool) × (List (Int))))) : Bool := bif (↑(List.length a0) : Int) != (↑(List.length a1) : Int) then false else bif isL (valO (g_Lw_eqStoWriteS_0 a0 a1 (0 : Int))) then getL (valO (g_Lw_eqStoWriteS_0 a0 a1 (0 : Int))) else true
noncomputable def Fw_eqStoWriteS : FSem := fun ys => match ys with
  | [.val false [.sl .any 32 (.pair .str (.pair .bool (.sl 3 (.int .i64)))) a0], .val false [.sl .any 32 (.pair .str (.pair .bool (.sl 3 (.int .i64)))) a1]] => some ((g_Aw_eqStoWriteS a0 a1), .val false [.bool (g_Vw_eqStoWriteS_0 a0 a1)], [])
  | _ => none
theorem vw_eqStoWriteS (a0 : List ((ByteArray) × ((Bool) × (List (Int))))) (a1 : List ((ByteArray) × ((Bool) × (List (Int))))) : collapseH .std Ew_eqStoWriteS Ow_eqStoWriteS_1 (execFn Ew_eqStoWriteS Go.Proofs.Tryd.f95 msw_eqStoWriteS [.val false [.sl .any 32 (.pair .str (.pair .bool (.sl 3 (.int .i64)))) a0], .val false [.sl .any 32 (.pair .str (.pair .bool (.sl 3 (.int .i64)))) a1]]) = some ((g_Aw_eqStoWriteS a0 a1), .val false [.bool (g_Vw_eqStoWriteS_0 a0 a1)], []) := by kernel_rfl
theorem sw_eqStoWriteS : Sound Go.Proofs.Tryd.prog 95 msw_eqStoWriteS Fw_eqStoWriteS := by
  refine fn_gen goodw_eqStoWriteS (by kernel_rfl) .std (fn := Go.Proofs.Tryd.f95) (c := (Go.Proofs.Tryd.f95.body.getD .skip)) (o := Ow_eqStoWriteS_1) (k := 1) (by kernel_rfl) (by kernel_rfl) (by kernel_rfl) (by kernel_rfl) (by decide) kw_eqStoWriteS_1 ?_
  intro ys r outs h
  unfold Fw_eqStoWriteS at h
  split at h
  · exact (vw_eqStoWriteS _ _).trans h
  · cases h
end Go.Proofs.YtopoiinmhajhmaaDoor.E
end
section
namespace Go.Proofs.YtopoiinmhajhmaaDoor.E
open Go
set_option maxRecDepth 100000
set_option maxHeartbeats 0
set_option linter.all false
noncomputable def Ew_eqStringS : Env where
  tt := mkTI Go.Proofs.Tryd.prog
  fn := fun _ => none
  mv := []
  keep := fun b => match b with
    | 0 => [(0, false), (1, false), (5, false)]
    | _ => []
  keepB := fun b => match b with
    | 0 => []
    | _ => []
  keepX := fun b => match b with
    | 0 => [(4, false)]
    | _ => []
  keepXB := fun b => match b with
    | 0 => []
    | _ => []
theorem goodw_eqStringS : Good Go.Proofs.Tryd.prog Ew_eqStringS := ⟨rfl, fun f ms F h => by cases h⟩
noncomputable def Ow_eqStringS_0 : Orc := fun _ _ => none
noncomputable def msw_eqStringS : List PM := [.rd, .rd]
noncomputable def lsw_eqStringS : List (Nat × Code) := loopsAll 0 (Go.Proofs.Tryd.f94.body.getD .skip)
noncomputable def cw_eqStringS_0 : Code := (loopOf 0 (Go.Proofs.Tryd.f94.body.getD .skip)).getD .skip
theorem lseqw_eqStringS : lsw_eqStringS = [(0, cw_eqStringS_0)] := by kernel_rfl
theorem mw_eqStringS_0 : ∀ p, p ∈ lsw_eqStringS → p.1 = 0 → p.2 = cw_eqStringS_0 := by
  intro p hp
  rw [lseqw_eqStringS] at hp
  simp only [List.mem_cons, List.not_mem_nil, or_false] at hp
  subst hp; simp
theorem kw_eqStringS_0 : OrcOk Ew_eqStringS Ow_eqStringS_0 lsw_eqStringS 0 := orcOk_none
noncomputable def hw_eqStringS_0 (y0 : List (ByteArray)) (y1 : List (ByteArray)) (y2 : Int) : List (Pl × LV) := [(.T 0, .t (.val false [.sl .any 9 .str y0])), (.T 1, .t (.val false [.sl .any 9 .str y1])), (.T 5, .t (.val false [.int .i64 y2]))]
noncomputable def g_Sw_eqStringS_0 (y0 : List (ByteArray)) (y1 : List (ByteArray)) : ((Int)) → RT ((Int)) (((Bool)) ⊕ (Unit))
  | y2 => .br (true) (.br (decide (y2 < (↑(List.length y0) : Int))) (.br (decide ((0 : Int) ≤ y2 ∧ y2 < (↑(List.length y0) : Int))) (.br (decide ((0 : Int) ≤ y2 ∧ y2 < (↑(List.length y1) : Int))) (.br (true) (.br (!ByteArray.toList (at_ Ty.str y0 (Int.toNat y2)) == ByteArray.toList (at_ Ty.str y1 (Int.toNat y2))) (.out (.inl false)) (.br (true) (.go (IntKind.wrap IntKind.i64 (y2 + (1 : Int)))) (.bad))) (.bad)) (.bad)) (.bad)) (.out (.inr (())))) (.bad)
noncomputable def g_Lw_eqStringS_0 (y0 : List (ByteArray)) (y1 : List (ByteArray)) (x : (Int)) : Option (((Bool)) ⊕ (Unit)) := loopO (g_Sw_eqStringS_0 y0 y1) x
noncomputable def xw_eqStringS_0 (y0 : List (ByteArray)) (y1 : List (ByteArray)) : (((Bool)) ⊕ (Unit)) → Ex × List (Pl × LV) := fun
  | .inl r => (.ret, [(.T 4, .t (.val false [.bool r]))])
  | .inr (r) => (.exit 0, [(.T 4, .t (.val false [.undef]))])
noncomputable def Ow_eqStringS_1 : Orc := fun b h => match b, h with
  | 0, [(.T 0, .t (.val false [.sl .any 9 .str y0])), (.T 1, .t (.val false [.sl .any 9 .str y1])), (.T 5, .t (.val false [.int .i64 y2]))] => some (okO (g_Lw_eqStringS_0 y0 y1 y2), (.br (isL (valO (g_Lw_eqStringS_0 y0 y1 y2))) (.leaf .ret [(.T 4, .t (.val false [.bool (getL (valO (g_Lw_eqStringS_0 y0 y1 y2)))]))]) (.leaf (.exit 0) [(.T 4, .t (.val false [.undef]))])))
  | b, h => Ow_eqStringS_0 b h
theorem bw_eqStringS_0 (y0 : List (ByteArray)) (y1 : List (ByteArray)) (y2 : Int) : Tr.bt Ew_eqStringS Ow_eqStringS_0 (exec Ew_eqStringS 0 cw_eqStringS_0 (St.of (hw_eqStringS_0 y0 y1 y2)) (leafRd Ew_eqStringS 0)) = (g_Sw_eqStringS_0 y0 y1 y2).bt (fun (y2 : (Int)) => (hw_eqStringS_0 y0 y1 y2)) (xw_eqStringS_0 y0 y1) := by kernel_rfl
theorem kw_eqStringS_1 : OrcOk Ew_eqStringS Ow_eqStringS_1 lsw_eqStringS 1 := orc_add kw_eqStringS_0 (fun n p hp h ex h' ho => by
  obtain ⟨b, c⟩ := p
  obtain ⟨xt, h1, h2⟩ := ho
  have h1 : Ow_eqStringS_1 b h = some (true, xt) := h1
  unfold Ow_eqStringS_1 at h1
  split at h1
  · injection h1 with h1
    injection h1 with e1 e2
    subst e2
    have hc : c = cw_eqStringS_0 := mw_eqStringS_0 _ hp rfl
    subst hc
    right
    rename_i y0 y1 y2
    have key := LT_step kw_eqStringS_0 hp (fun q hq => loopsAll_in _ _ _ _ hp hq) (fun (y2 : (Int)) => (hw_eqStringS_0 y0 y1 y2)) (xw_eqStringS_0 y0 y1) (g_Sw_eqStringS_0 y0 y1) (fun x => by first | exact bw_eqStringS_0 y0 y1 x) n (x := y2) (okO_some e1)
    have hx : ∀ r, XT.sel (.br (isL r) (.leaf .ret [(.T 4, .t (.val false [.bool (getL r)]))]) (.leaf (.exit 0) [(.T 4, .t (.val false [.undef]))])) = xw_eqStringS_0 y0 y1 r := fun r => by first | rfl | (rcases r with r | r <;> rfl) | (rcases r with r | r | r <;> rfl) | (rcases r with r | r | r | r <;> rfl)
    have h3 := (hx (valO (g_Lw_eqStringS_0 y0 y1 y2))).symm.trans h2
    have e3 := congrArg Prod.fst h3
    have e4 := congrArg Prod.snd h3
    simp only at e3 e4
    rw [← e3, ← e4]
    exact key
  · exact .inl ⟨xt, h1, h2⟩)
noncomputable def g_Aw_eqStringS (a0 : List (ByteArray)) (a1 : List (ByteArray)) : Bool := (↑(List.length a0) : Int) != (↑(List.length a1) : Int) || okO (g_Lw_eqStringS_0 a0 a1 (0 : Int))
noncomputable def g_Vw_eqStringS_0 (a0 : List (ByteArray)) (a1 : List (ByteArray)) : Bool := bif (↑(List.length a0) : Int) != (↑(List.length a1) : Int) then false else bif isL (valO (g_Lw_eqStringS_0 a0 a1 (0 : Int))) then getL (valO (g_Lw_eqStringS_0 a0 a1 (0 : Int))) else true
noncomputable def Fw_eqStringS : FSem := fun ys => match ys with
  | [.val false [.sl .any 9 .str a0], .val false [.sl .any 9 .str a1]] => some ((g_Aw_eqStringS a0 a1), .val false [.bool (g_Vw_eqStringS_0 a0 a1)], [])
  | _ => none
theorem vw_eqStringS (a0 : List (ByteArray)) (a1 : List (ByteArray)) : collapseH .std Ew_eqStringS Ow_eqStringS_1 (execFn Ew_eqStringS Go.Proofs.Tryd.f94 msw_eqStringS [.val false [.sl .any 9 .str a0], .val false [.sl .any 9 .str a1]]) = some ((g_Aw_eqStringS a0 a1), .val false [.bool (g_Vw_eqStringS_0 a0 a1)], []) := by kernel_rfl
theorem sw_eqStringS : Sound Go.Proofs.Tryd.prog 94 msw_eqStringS Fw_eqStringS := by
  refine fn_gen goodw_eqStringS (by kernel_rfl) .std (fn := Go.Proofs.Tryd.f94) (c := (Go.Proofs.Tryd.f94.body.getD .skip)) (o := Ow_eqStringS_1) (k := 1) (by kernel_rfl) (by kernel_rfl) (by kernel_rfl) (by kernel_rfl) (by decide) kw_eqStringS_1 ?_
  intro ys r outs h
  unfold Fw_eqStringS at h
  split at h
  · exact (vw_eqStringS _ _).trans h
  · cases h
end Go.Proofs.YtopoiinmhajhmaaDoor.E
end
section
namespace Go.Proofs.YtopoiinmhajhmaaDoor.E
open Go
set_option maxRecDepth 100000
set_option maxHeartbeats 0
set_option linter.all false
noncomputable def Ew_eqLogNote : Env where
  tt := mkTI Go.Proofs.Tryd.prog
  fn := fun f => match f with
    | 94 => some (msw_eqStringS, FSem.wk msw_eqStringS Fw_eqStringS)
    | 95 => some (msw_eqStoWriteS, FSem.wk msw_eqStoWriteS Fw_eqStoWriteS)
    | _ => none
  mv := []
  keep := fun _ => []
  keepB := fun _ => []
  keepX := fun _ => []
  keepXB := fun _ => []
theorem goodw_eqLogNote : Good Go.Proofs.Tryd.prog Ew_eqLogNote := ⟨rfl, fun f ms F h => by
  unfold Ew_eqLogNote at h
  dsimp only at h
  split at h
  · injection h with h; injection h with e1 e2; subst e1 e2; exact Sound.wk sw_eqStringS
  · injection h with h; injection h with e1 e2; subst e1 e2; exact Sound.wk sw_eqStoWriteS
  · cases h⟩
noncomputable def Ow_eqLogNote_0 : Orc := fun _ _ => none
noncomputable def msw_eqLogNote : List PM := [.rd, .rd]
noncomputable def lsw_eqLogNote : List (Nat × Code) := loopsAll 0 (Go.Proofs.Tryd.f54.body.getD .skip)

theorem kw_eqLogNote_0 : OrcOk Ew_eqLogNote Ow_eqLogNote_0 lsw_eqLogNote 0 := orcOk_none
noncomputable def g_Aw_eqLogNote (a0 : Int) (a1 : Int) (a2 : List (ByteArray)) (a3 : List ((ByteArray) × ((Bool) × (List (Int))))) (a4 : Int) (a5 : Int) (a6 : List (ByteArray)) (a7 : List ((ByteArray) × ((Bool) × (List (Int))))) : Bool := a0 != a4 || (a1 != a5 || g_Aw_eqStringS a2 a6 && (!g_Vw_eqStringS_0 a2 a6 || g_Aw_eqStoWriteS a3 a7))
noncomputable def g_Vw_eqLogNote_0 (a0 : Int) (a1 : Int) (a2 : List (ByteArray)) (a3 : List ((ByteArray) × ((Bool) × (List (Int))))) (a4 : Int) (a5 : Int) (a6 : List (ByteArray)) (a7 : List ((ByteArray) × ((Bool) × (List (Int))))) : Bool := bif a0 != a4 then false else bif a1 != a5 then false else bif !g_Vw_eqStringS_0 a2 a6 then false else bif !g_Vw_eqStoWriteS_0 a3 a7 then false else true
noncomputable def Fw_eqLogNote : FSem := fun ys => match ys with
  | [.val true [.int .i64 a0, .int .i64 a1, .sl .any 9 .str a2, .sl .any 32 (.pair .str (.pair .bool (.sl 3 (.int .i64)))) a3], .val true [.int .i64 a4, .int .i64 a5, .sl .any 9 .str a6, .sl .any 32 (.pair .str (.pair .bool (.sl 3 (.int .i64)))) a7]] => some ((g_Aw_eqLogNote a0 a1 a2 a3 a4 a5 a6 a7), .val false [.bool (g_Vw_eqLogNote_0 a0 a1 a2 a3 a4 a5 a6 a7)], [])
  | _ => none
theorem vw_eqLogNote (a0 : Int) (a1 : Int) (a2 : List (ByteArray)) (a3 : List ((ByteArray) × ((Bool) × (List (Int))))) (a4 : Int) (a5 : Int) (a6 : List (ByteArray)) (a7 : List ((ByteArray) × ((Bool) × (List (Int))))) : collapseH .std Ew_eqLogNote Ow_eqLogNote_0 (execFn Ew_eqLogNote Go.Proofs.Tryd.f54 msw_eqLogNote [.val true [.int .i64 a0, .int .i64 a1, .sl .any 9 .str a2, .sl .any 32 (.pair .str (.pair .bool (.sl 3 (.int .i64)))) a3], .val true [.int .i64 a4, .int .i64 a5, .sl .any 9 .str a6, .sl .any 32 (.pair .str (.pair .bool (.sl 3 (.int .i64)))) a7]]) = some ((g_Aw_eqLogNote a0 a1 a2 a3 a4 a5 a6 a7), .val false [.bool (g_Vw_eqLogNote_0 a0 a1 a2 a3 a4 a5 a6 a7)], []) := by kernel_rfl
theorem sw_eqLogNote : Sound Go.Proofs.Tryd.prog 54 msw_eqLogNote Fw_eqLogNote := by
  refine fn_gen goodw_eqLogNote (by kernel_rfl) .std (fn := Go.Proofs.Tryd.f54) (c := (Go.Proofs.Tryd.f54.body.getD .skip)) (o := Ow_eqLogNote_0) (k := 0) (by kernel_rfl) (by kernel_rfl) (by kernel_rfl) (by kernel_rfl) (by decide) kw_eqLogNote_0 ?_
  intro ys r outs h
  unfold Fw_eqLogNote at h
  split at h
  · exact (vw_eqLogNote _ _ _ _ _ _ _ _).trans h
  · cases h
end Go.Proofs.YtopoiinmhajhmaaDoor.E
end
