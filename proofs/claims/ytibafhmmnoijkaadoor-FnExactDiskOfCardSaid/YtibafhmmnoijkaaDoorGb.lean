/- What the functions that are reached do, by the engine: for the proof (laws.FnExactDiskOf): part 2. No conditions. -/
import Derived.Test.YtibafhmmnoijkaaDoorGa
import Derived.Test.YtibafhmmnoijkaaDoorProg
set_option linter.all false
section
namespace Go.Proofs.YtibafhmmnoijkaaDoor.E
open Go
set_option maxRecDepth 100000
set_option maxHeartbeats 0
set_option linter.all false
noncomputable def Ew_toIntS : Env where
  tt := mkTI Go.Proofs.Tryd.prog
  fn := fun _ => none
  bxf := fun _ => none
  mv := []
  keep := fun b => match b with
    | 0 => [(0, false), (3, false), (4, false)]
    | _ => []
  keepB := fun b => match b with
    | 0 => []
    | _ => []
  keepX := fun b => match b with
    | 0 => [(3, false)]
    | _ => []
  keepXB := fun b => match b with
    | 0 => []
    | _ => []
theorem goodFw_toIntS : ∀ f ms F, Ew_toIntS.fn f = some (ms, F) → Sound Go.Proofs.Tryd.prog f ms F := fun f ms F h => by cases h
theorem goodBw_toIntS : ∀ f ms F, Ew_toIntS.bxf f = some (ms, F) → SoundB Go.Proofs.Tryd.prog f ms F := fun f ms F h => by cases h
theorem goodw_toIntS : Good Go.Proofs.Tryd.prog Ew_toIntS := ⟨rfl, goodFw_toIntS, goodBw_toIntS⟩
noncomputable def Ow_toIntS_0 : Orc := fun _ _ => none
noncomputable def msw_toIntS : List PM := [.rd]
noncomputable def lsw_toIntS : List (Nat × Code) := loopsAll 0 (Go.Proofs.Tryd.f142.body.getD .skip)
noncomputable def cw_toIntS_0 : Code := (loopOf 0 (Go.Proofs.Tryd.f142.body.getD .skip)).getD .skip
theorem lseqw_toIntS : lsw_toIntS = [(0, cw_toIntS_0)] := by kernel_rfl
theorem mw_toIntS_0 : ∀ p, p ∈ lsw_toIntS → p.1 = 0 → p.2 = cw_toIntS_0 := by
  intro p hp
  rw [lseqw_toIntS] at hp
  simp only [List.mem_cons, List.not_mem_nil, or_false] at hp
  subst hp; simp
theorem kw_toIntS_0 : OrcOk Ew_toIntS Ow_toIntS_0 lsw_toIntS 0 := orcOk_none
noncomputable def hw_toIntS_0 (y0 : List (Int)) (y1 : List (Int)) (y2 : Int) : List (Pl × LV) := [(.T 0, .t (.val false [.sl .any 3 (.int .i64) y0])), (.T 3, .t (.val false [.row 3 0 0])), (.R 3 0, .r 0 (some ⟨false, .non, true, 3, (.int .i64), y1⟩)), (.T 4, .t (.val false [.int .i64 y2]))]
noncomputable def g_Sw_toIntS_0 (y0 : List (Int)) : ((List (Int)) × (Int)) → RT ((List (Int)) × (Int)) (((List (Int))))
  | (y1, y2) => .br (true) (.br (decide (y2 < (↑(List.length y0) : Int))) (.br (decide ((0 : Int) ≤ y2 ∧ y2 < (↑(List.length y0) : Int))) (.br (decide ((0 : Int) ≤ y2 ∧ y2 < (↑(List.length y1) : Int))) (.br (decide (Int.toNat y2 < List.length y1)) (.br (true) (.go ((List.set y1 (Int.toNat y2) (at_ (Ty.int IntKind.i64) y0 (Int.toNat y2)), IntKind.wrap IntKind.i64 (y2 + (1 : Int))))) (.bad)) (.bad)) (.bad)) (.bad)) (.out (y1))) (.bad)
noncomputable def g_Lw_toIntS_0 (y0 : List (Int)) (x : (List (Int)) × (Int)) : Option (((List (Int)))) := loopO (g_Sw_toIntS_0 y0) x
noncomputable def xw_toIntS_0 (y0 : List (Int)) : (((List (Int)))) → Ex × List (Pl × LV) := fun r => (.exit 0, [(.T 3, .t (.val false [.row 3 0 0])), (.R 3 0, .r 0 (some ⟨false, .non, true, 3, (.int .i64), r⟩))])
noncomputable def Ow_toIntS_1 : Orc := fun b h => match b, h with
  | 0, [(.T 0, .t (.val false [.sl .any 3 (.int .i64) y0])), (.T 3, .t (.val false [.row 3 0 0])), (.R 3 0, .r 0 (some ⟨false, .non, true, 3, (.int .i64), y1⟩)), (.T 4, .t (.val false [.int .i64 y2]))] => some (okO (g_Lw_toIntS_0 y0 (y1, y2)), (.leaf (.exit 0) [(.T 3, .t (.val false [.row 3 0 0])), (.R 3 0, .r 0 (some ⟨false, .non, true, 3, (.int .i64), (valO (g_Lw_toIntS_0 y0 (y1, y2)))⟩))]))
  | b, h => Ow_toIntS_0 b h
theorem bw_toIntS_0 (y0 : List (Int)) (y1 : List (Int)) (y2 : Int) : Tr.bt Ew_toIntS Ow_toIntS_0 (exec Ew_toIntS 0 cw_toIntS_0 (St.of (hw_toIntS_0 y0 y1 y2)) (leafRd Ew_toIntS 0)) = (g_Sw_toIntS_0 y0 (y1, y2)).bt (fun ((y1, y2) : (List (Int)) × (Int)) => (hw_toIntS_0 y0 y1 y2)) (xw_toIntS_0 y0) := by kernel_rfl
theorem kw_toIntS_1 : OrcOk Ew_toIntS Ow_toIntS_1 lsw_toIntS 1 := orc_add kw_toIntS_0 (fun n p hp h ex h' ho => by
  obtain ⟨b, c⟩ := p
  obtain ⟨xt, h1, h2⟩ := ho
  have h1 : Ow_toIntS_1 b h = some (true, xt) := h1
  unfold Ow_toIntS_1 at h1
  split at h1
  · injection h1 with h1
    injection h1 with e1 e2
    subst e2
    have hc : c = cw_toIntS_0 := mw_toIntS_0 _ hp rfl
    subst hc
    right
    rename_i y0 y1 y2
    have key := LT_step kw_toIntS_0 hp (fun q hq => loopsAll_in _ _ _ _ hp hq) (fun ((y1, y2) : (List (Int)) × (Int)) => (hw_toIntS_0 y0 y1 y2)) (xw_toIntS_0 y0) (g_Sw_toIntS_0 y0) (fun x => by first | exact bw_toIntS_0 y0 x.1 x.2) n (x := (y1, y2)) (okO_some e1)
    have hx : ∀ r, XT.sel (.leaf (.exit 0) [(.T 3, .t (.val false [.row 3 0 0])), (.R 3 0, .r 0 (some ⟨false, .non, true, 3, (.int .i64), r⟩))]) = xw_toIntS_0 y0 r := fun r => by first | rfl | (rcases r with r | r <;> rfl) | (rcases r with r | r | r <;> rfl) | (rcases r with r | r | r | r <;> rfl)
    have h3 := (hx (valO (g_Lw_toIntS_0 y0 (y1, y2)))).symm.trans h2
    have e3 := congrArg Prod.fst h3
    have e4 := congrArg Prod.snd h3
    simp only at e3 e4
    rw [← e3, ← e4]
    exact key
  · exact .inl ⟨xt, h1, h2⟩)
noncomputable def g_Aw_toIntS (a0 : List (Int)) : Bool := decide ((↑(List.length a0) : Int) = (↑(List.length a0) : Int) ∧ (0 : Int) ≤ (↑(List.length a0) : Int) ∧ (↑(List.length a0) : Int) ≤ (9223372036854775807 : Int) ∧ (8 : Int) * (↑(List.length a0) : Int) ≤ (281474976710656 : Int)) && okO (g_Lw_toIntS_0 a0 (List.replicate (Int.toNat (↑(List.length a0) : Int)) (0 : Int), (0 : Int)))
noncomputable def g_Vw_toIntS_0 (a0 : List (Int)) : List (Int) := valO (g_Lw_toIntS_0 a0 (List.replicate (Int.toNat (↑(List.length a0) : Int)) (0 : Int), (0 : Int)))
noncomputable def Fw_toIntS : FSem := fun ys => match ys with
  | [.val false [.sl .any 3 (.int .i64) a0]] => some ((g_Aw_toIntS a0), .val false [.own .any true 3 (.int .i64) (g_Vw_toIntS_0 a0)], [])
  | _ => none
theorem vw_toIntS (a0 : List (Int)) : collapseH .std Ew_toIntS Ow_toIntS_1 (execFn Ew_toIntS Go.Proofs.Tryd.f142 msw_toIntS [.val false [.sl .any 3 (.int .i64) a0]]) = some ((g_Aw_toIntS a0), .val false [.own .any true 3 (.int .i64) (g_Vw_toIntS_0 a0)], []) := by kernel_rfl
theorem sw_toIntS : Sound Go.Proofs.Tryd.prog 142 msw_toIntS Fw_toIntS := by
  refine fn_gen goodw_toIntS (by kernel_rfl) .std (fn := Go.Proofs.Tryd.f142) (c := (Go.Proofs.Tryd.f142.body.getD .skip)) (o := Ow_toIntS_1) (k := 1) (by kernel_rfl) (by kernel_rfl) (by kernel_rfl) (by kernel_rfl) (by decide) kw_toIntS_1 ?_
  intro ys r outs h
  unfold Fw_toIntS at h
  split at h
  · exact (vw_toIntS _).trans h
  · cases h
end Go.Proofs.YtibafhmmnoijkaaDoor.E
end
section
namespace Go.Proofs.YtibafhmmnoijkaaDoor.E
open Go
set_option maxRecDepth 100000
set_option maxHeartbeats 0
set_option linter.all false
noncomputable def Ew_toStoWrite : Env where
  tt := mkTI Go.Proofs.Tryd.prog
  fn := fun f => match f with
    | 142 => some (msw_toIntS, FSem.wk msw_toIntS Fw_toIntS)
    | _ => none
  bxf := fun _ => none
  mv := []
  keep := fun _ => []
  keepB := fun _ => []
  keepX := fun _ => []
  keepXB := fun _ => []
theorem goodFw_toStoWrite : ∀ f ms F, Ew_toStoWrite.fn f = some (ms, F) → Sound Go.Proofs.Tryd.prog f ms F := fun f ms F h => by
  unfold Ew_toStoWrite at h
  dsimp only at h
  split at h
  · injection h with h; injection h with e1 e2; subst e1 e2; exact Sound.wk sw_toIntS
  · cases h
theorem goodBw_toStoWrite : ∀ f ms F, Ew_toStoWrite.bxf f = some (ms, F) → SoundB Go.Proofs.Tryd.prog f ms F := fun f ms F h => by cases h
theorem goodw_toStoWrite : Good Go.Proofs.Tryd.prog Ew_toStoWrite := ⟨rfl, goodFw_toStoWrite, goodBw_toStoWrite⟩
noncomputable def Ow_toStoWrite_0 : Orc := fun _ _ => none
noncomputable def msw_toStoWrite : List PM := [.rd]
noncomputable def lsw_toStoWrite : List (Nat × Code) := loopsAll 0 (Go.Proofs.Tryd.f177.body.getD .skip)

theorem kw_toStoWrite_0 : OrcOk Ew_toStoWrite Ow_toStoWrite_0 lsw_toStoWrite 0 := orcOk_none
noncomputable def g_Aw_toStoWrite (a0 : ByteArray) (a1 : Bool) (a2 : List (Int)) : Bool := g_Aw_toIntS a2
noncomputable def Fw_toStoWrite : FSem := fun ys => match ys with
  | [.val true [.str a0, .bool a1, .sl .any 3 (.int .i64) a2]] => some ((g_Aw_toStoWrite a0 a1 a2), .val true [.str a0, .bool a1, .own .any true 3 (.int .i64) (g_Vw_toIntS_0 a2)], [])
  | _ => none
theorem vw_toStoWrite (a0 : ByteArray) (a1 : Bool) (a2 : List (Int)) : collapseH .std Ew_toStoWrite Ow_toStoWrite_0 (execFn Ew_toStoWrite Go.Proofs.Tryd.f177 msw_toStoWrite [.val true [.str a0, .bool a1, .sl .any 3 (.int .i64) a2]]) = some ((g_Aw_toStoWrite a0 a1 a2), .val true [.str a0, .bool a1, .own .any true 3 (.int .i64) (g_Vw_toIntS_0 a2)], []) := by kernel_rfl
theorem sw_toStoWrite : Sound Go.Proofs.Tryd.prog 177 msw_toStoWrite Fw_toStoWrite := by
  refine fn_gen goodw_toStoWrite (by kernel_rfl) .std (fn := Go.Proofs.Tryd.f177) (c := (Go.Proofs.Tryd.f177.body.getD .skip)) (o := Ow_toStoWrite_0) (k := 0) (by kernel_rfl) (by kernel_rfl) (by kernel_rfl) (by kernel_rfl) (by decide) kw_toStoWrite_0 ?_
  intro ys r outs h
  unfold Fw_toStoWrite at h
  split at h
  · exact (vw_toStoWrite _ _ _).trans h
  · cases h
end Go.Proofs.YtibafhmmnoijkaaDoor.E
end
section
namespace Go.Proofs.YtibafhmmnoijkaaDoor.E
open Go
set_option maxRecDepth 100000
set_option maxHeartbeats 0
set_option linter.all false
noncomputable def Ew_toStoWriteS : Env where
  tt := mkTI Go.Proofs.Tryd.prog
  fn := fun f => match f with
    | 177 => some (msw_toStoWrite, FSem.wk msw_toStoWrite Fw_toStoWrite)
    | _ => none
  bxf := fun _ => none
  mv := []
  keep := fun b => match b with
    | 0 => [(0, false), (3, false), (4, false)]
    | _ => []
  keepB := fun b => match b with
    | 0 => []
    | _ => []
  keepX := fun b => match b with
    | 0 => [(3, false)]
    | _ => []
  keepXB := fun b => match b with
    | 0 => []
    | _ => []
theorem goodFw_toStoWriteS : ∀ f ms F, Ew_toStoWriteS.fn f = some (ms, F) → Sound Go.Proofs.Tryd.prog f ms F := fun f ms F h => by
  unfold Ew_toStoWriteS at h
  dsimp only at h
  split at h
  · injection h with h; injection h with e1 e2; subst e1 e2; exact Sound.wk sw_toStoWrite
  · cases h
theorem goodBw_toStoWriteS : ∀ f ms F, Ew_toStoWriteS.bxf f = some (ms, F) → SoundB Go.Proofs.Tryd.prog f ms F := fun f ms F h => by cases h
theorem goodw_toStoWriteS : Good Go.Proofs.Tryd.prog Ew_toStoWriteS := ⟨rfl, goodFw_toStoWriteS, goodBw_toStoWriteS⟩
noncomputable def Ow_toStoWriteS_0 : Orc := fun _ _ => none
noncomputable def msw_toStoWriteS : List PM := [.rd]
noncomputable def lsw_toStoWriteS : List (Nat × Code) := loopsAll 0 (Go.Proofs.Tryd.f152.body.getD .skip)
noncomputable def cw_toStoWriteS_0 : Code := (loopOf 0 (Go.Proofs.Tryd.f152.body.getD .skip)).getD .skip
theorem lseqw_toStoWriteS : lsw_toStoWriteS = [(0, cw_toStoWriteS_0)] := by kernel_rfl
theorem mw_toStoWriteS_0 : ∀ p, p ∈ lsw_toStoWriteS → p.1 = 0 → p.2 = cw_toStoWriteS_0 := by
  intro p hp
  rw [lseqw_toStoWriteS] at hp
  simp only [List.mem_cons, List.not_mem_nil, or_false] at hp
  subst hp; simp
theorem kw_toStoWriteS_0 : OrcOk Ew_toStoWriteS Ow_toStoWriteS_0 lsw_toStoWriteS 0 := orcOk_none
noncomputable def hw_toStoWriteS_0 (y0 : List ((ByteArray) × ((Bool) × (List (Int))))) (y1 : List ((ByteArray) × ((Bool) × (List (Int))))) (y2 : Int) : List (Pl × LV) := [(.T 0, .t (.val false [.sl .any 194 (.pair .str (.pair .bool (.sl 3 (.int .i64)))) y0])), (.T 3, .t (.val false [.row 3 0 0])), (.R 3 0, .r 0 (some ⟨false, .non, true, 83, (.pair .str (.pair .bool (.sl 3 (.int .i64)))), y1⟩)), (.T 4, .t (.val false [.int .i64 y2]))]
noncomputable def g_Sw_toStoWriteS_0 (y0 : List ((ByteArray) × ((Bool) × (List (Int))))) : ((List ((ByteArray) × ((Bool) × (List (Int))))) × (Int)) → RT ((List ((ByteArray) × ((Bool) × (List (Int))))) × (Int)) (((List ((ByteArray) × ((Bool) × (List (Int)))))))
  | (y1, y2) => .br (true) (.br (decide (y2 < (↑(List.length y0) : Int))) (.br (decide ((0 : Int) ≤ y2 ∧ y2 < (↑(List.length y0) : Int))) (.br (g_Aw_toStoWrite (at_ (Ty.pair Ty.str (Ty.pair Ty.bool (Ty.sl (nat_lit 3) (Ty.int IntKind.i64)))) y0 (Int.toNat y2)).1 (at_ (Ty.pair Ty.str (Ty.pair Ty.bool (Ty.sl (nat_lit 3) (Ty.int IntKind.i64)))) y0 (Int.toNat y2)).2.1 (at_ (Ty.pair Ty.str (Ty.pair Ty.bool (Ty.sl (nat_lit 3) (Ty.int IntKind.i64)))) y0 (Int.toNat y2)).2.2) (.br (decide ((0 : Int) ≤ y2 ∧ y2 < (↑(List.length y1) : Int))) (.br (decide (Int.toNat y2 < List.length y1)) (.br (true) (.go ((List.set y1 (Int.toNat y2) ((at_ (Ty.pair Ty.str (Ty.pair Ty.bool (Ty.sl (nat_lit 3) (Ty.int IntKind.i64)))) y0 (Int.toNat y2)).1, (at_ (Ty.pair Ty.str (Ty.pair Ty.bool (Ty.sl (nat_lit 3) (Ty.int IntKind.i64)))) y0 (Int.toNat y2)).2.1, g_Vw_toIntS_0 (at_ (Ty.pair Ty.str (Ty.pair Ty.bool (Ty.sl (nat_lit 3) (Ty.int IntKind.i64)))) y0 (Int.toNat y2)).2.2), IntKind.wrap IntKind.i64 (y2 + (1 : Int))))) (.bad)) (.bad)) (.bad)) (.bad)) (.bad)) (.out (y1))) (.bad)
noncomputable def g_Lw_toStoWriteS_0 (y0 : List ((ByteArray) × ((Bool) × (List (Int))))) (x : (List ((ByteArray) × ((Bool) × (List (Int))))) × (Int)) : Option (((List ((ByteArray) × ((Bool) × (List (Int))))))) := loopO (g_Sw_toStoWriteS_0 y0) x
noncomputable def xw_toStoWriteS_0 (y0 : List ((ByteArray) × ((Bool) × (List (Int))))) : (((List ((ByteArray) × ((Bool) × (List (Int))))))) → Ex × List (Pl × LV) := fun r => (.exit 0, [(.T 3, .t (.val false [.row 3 0 0])), (.R 3 0, .r 0 (some ⟨false, .non, true, 83, (.pair .str (.pair .bool (.sl 3 (.int .i64)))), r⟩))])
noncomputable def Ow_toStoWriteS_1 : Orc := fun b h => match b, h with
  | 0, [(.T 0, .t (.val false [.sl .any 194 (.pair .str (.pair .bool (.sl 3 (.int .i64)))) y0])), (.T 3, .t (.val false [.row 3 0 0])), (.R 3 0, .r 0 (some ⟨false, .non, true, 83, (.pair .str (.pair .bool (.sl 3 (.int .i64)))), y1⟩)), (.T 4, .t (.val false [.int .i64 y2]))] => some (okO (g_Lw_toStoWriteS_0 y0 (y1, y2)), (.leaf (.exit 0) [(.T 3, .t (.val false [.row 3 0 0])), (.R 3 0, .r 0 (some ⟨false, .non, true, 83, (.pair .str (.pair .bool (.sl 3 (.int .i64)))), (valO (g_Lw_toStoWriteS_0 y0 (y1, y2)))⟩))]))
  | b, h => Ow_toStoWriteS_0 b h
theorem bw_toStoWriteS_0 (y0 : List ((ByteArray) × ((Bool) × (List (Int))))) (y1 : List ((ByteArray) × ((Bool) × (List (Int))))) (y2 : Int) : Tr.bt Ew_toStoWriteS Ow_toStoWriteS_0 (exec Ew_toStoWriteS 0 cw_toStoWriteS_0 (St.of (hw_toStoWriteS_0 y0 y1 y2)) (leafRd Ew_toStoWriteS 0)) = (g_Sw_toStoWriteS_0 y0 (y1, y2)).bt (fun ((y1, y2) : (List ((ByteArray) × ((Bool) × (List (Int))))) × (Int)) => (hw_toStoWriteS_0 y0 y1 y2)) (xw_toStoWriteS_0 y0) := by kernel_rfl
theorem kw_toStoWriteS_1 : OrcOk Ew_toStoWriteS Ow_toStoWriteS_1 lsw_toStoWriteS 1 := orc_add kw_toStoWriteS_0 (fun n p hp h ex h' ho => by
  obtain ⟨b, c⟩ := p
  obtain ⟨xt, h1, h2⟩ := ho
  have h1 : Ow_toStoWriteS_1 b h = some (true, xt) := h1
  unfold Ow_toStoWriteS_1 at h1
  split at h1
  · injection h1 with h1
    injection h1 with e1 e2
    subst e2
    have hc : c = cw_toStoWriteS_0 := mw_toStoWriteS_0 _ hp rfl
    subst hc
    right
    rename_i y0 y1 y2
    have key := LT_step kw_toStoWriteS_0 hp (fun q hq => loopsAll_in _ _ _ _ hp hq) (fun ((y1, y2) : (List ((ByteArray) × ((Bool) × (List (Int))))) × (Int)) => (hw_toStoWriteS_0 y0 y1 y2)) (xw_toStoWriteS_0 y0) (g_Sw_toStoWriteS_0 y0) (fun x => by first | exact bw_toStoWriteS_0 y0 x.1 x.2) n (x := (y1, y2)) (okO_some e1)
    have hx : ∀ r, XT.sel (.leaf (.exit 0) [(.T 3, .t (.val false [.row 3 0 0])), (.R 3 0, .r 0 (some ⟨false, .non, true, 83, (.pair .str (.pair .bool (.sl 3 (.int .i64)))), r⟩))]) = xw_toStoWriteS_0 y0 r := fun r => by first | rfl | (rcases r with r | r <;> rfl) | (rcases r with r | r | r <;> rfl) | (rcases r with r | r | r | r <;> rfl)
    have h3 := (hx (valO (g_Lw_toStoWriteS_0 y0 (y1, y2)))).symm.trans h2
    have e3 := congrArg Prod.fst h3
    have e4 := congrArg Prod.snd h3
    simp only at e3 e4
    rw [← e3, ← e4]
    exact key
  · exact .inl ⟨xt, h1, h2⟩)
noncomputable def g_Aw_toStoWriteS (a0 : List ((ByteArray) × ((Bool) × (List (Int))))) : Bool := decide ((↑(List.length a0) : Int) = (↑(List.length a0) : Int) ∧ (0 : Int) ≤ (↑(List.length a0) : Int) ∧ (↑(List.length a0) : Int) ≤ (9223372036854775807 : Int) ∧ (48 : Int) * (↑(List.length a0) : Int) ≤ (281474976710656 : Int)) && okO (g_Lw_toStoWriteS_0 a0 (List.replicate (Int.toNat (↑(List.length a0) : Int)) (lit [], false, []), (0 : Int)))
noncomputable def g_Vw_toStoWriteS_0 (a0 : List ((ByteArray) × ((Bool) × (List (Int))))) : List ((ByteArray) × ((Bool) × (List (Int)))) := valO (g_Lw_toStoWriteS_0 a0 (List.replicate (Int.toNat (↑(List.length a0) : Int)) (lit [], false, []), (0 : Int)))
noncomputable def Fw_toStoWriteS : FSem := fun ys => match ys with
  | [.val false [.sl .any 194 (.pair .str (.pair .bool (.sl 3 (.int .i64)))) a0]] => some ((g_Aw_toStoWriteS a0), .val false [.own .any true 83 (.pair .str (.pair .bool (.sl 3 (.int .i64)))) (g_Vw_toStoWriteS_0 a0)], [])
  | _ => none
theorem vw_toStoWriteS (a0 : List ((ByteArray) × ((Bool) × (List (Int))))) : collapseH .std Ew_toStoWriteS Ow_toStoWriteS_1 (execFn Ew_toStoWriteS Go.Proofs.Tryd.f152 msw_toStoWriteS [.val false [.sl .any 194 (.pair .str (.pair .bool (.sl 3 (.int .i64)))) a0]]) = some ((g_Aw_toStoWriteS a0), .val false [.own .any true 83 (.pair .str (.pair .bool (.sl 3 (.int .i64)))) (g_Vw_toStoWriteS_0 a0)], []) := by kernel_rfl
theorem sw_toStoWriteS : Sound Go.Proofs.Tryd.prog 152 msw_toStoWriteS Fw_toStoWriteS := by
  refine fn_gen goodw_toStoWriteS (by kernel_rfl) .std (fn := Go.Proofs.Tryd.f152) (c := (Go.Proofs.Tryd.f152.body.getD .skip)) (o := Ow_toStoWriteS_1) (k := 1) (by kernel_rfl) (by kernel_rfl) (by kernel_rfl) (by kernel_rfl) (by decide) kw_toStoWriteS_1 ?_
  intro ys r outs h
  unfold Fw_toStoWriteS at h
  split at h
  · exact (vw_toStoWriteS _).trans h
  · cases h
end Go.Proofs.YtibafhmmnoijkaaDoor.E
end
section
namespace Go.Proofs.YtibafhmmnoijkaaDoor.E
open Go
set_option maxRecDepth 100000
set_option maxHeartbeats 0
set_option linter.all false
noncomputable def Ew_toStringS : Env where
  tt := mkTI Go.Proofs.Tryd.prog
  fn := fun _ => none
  bxf := fun _ => none
  mv := []
  keep := fun b => match b with
    | 0 => [(0, false), (3, false), (4, false)]
    | _ => []
  keepB := fun b => match b with
    | 0 => []
    | _ => []
  keepX := fun b => match b with
    | 0 => [(3, false)]
    | _ => []
  keepXB := fun b => match b with
    | 0 => []
    | _ => []
theorem goodFw_toStringS : ∀ f ms F, Ew_toStringS.fn f = some (ms, F) → Sound Go.Proofs.Tryd.prog f ms F := fun f ms F h => by cases h
theorem goodBw_toStringS : ∀ f ms F, Ew_toStringS.bxf f = some (ms, F) → SoundB Go.Proofs.Tryd.prog f ms F := fun f ms F h => by cases h
theorem goodw_toStringS : Good Go.Proofs.Tryd.prog Ew_toStringS := ⟨rfl, goodFw_toStringS, goodBw_toStringS⟩
noncomputable def Ow_toStringS_0 : Orc := fun _ _ => none
noncomputable def msw_toStringS : List PM := [.rd]
noncomputable def lsw_toStringS : List (Nat × Code) := loopsAll 0 (Go.Proofs.Tryd.f151.body.getD .skip)
noncomputable def cw_toStringS_0 : Code := (loopOf 0 (Go.Proofs.Tryd.f151.body.getD .skip)).getD .skip
theorem lseqw_toStringS : lsw_toStringS = [(0, cw_toStringS_0)] := by kernel_rfl
theorem mw_toStringS_0 : ∀ p, p ∈ lsw_toStringS → p.1 = 0 → p.2 = cw_toStringS_0 := by
  intro p hp
  rw [lseqw_toStringS] at hp
  simp only [List.mem_cons, List.not_mem_nil, or_false] at hp
  subst hp; simp
theorem kw_toStringS_0 : OrcOk Ew_toStringS Ow_toStringS_0 lsw_toStringS 0 := orcOk_none
noncomputable def hw_toStringS_0 (y0 : List (ByteArray)) (y1 : List (ByteArray)) (y2 : Int) : List (Pl × LV) := [(.T 0, .t (.val false [.sl .any 9 .str y0])), (.T 3, .t (.val false [.row 3 0 0])), (.R 3 0, .r 0 (some ⟨false, .non, true, 9, .str, y1⟩)), (.T 4, .t (.val false [.int .i64 y2]))]
noncomputable def g_Sw_toStringS_0 (y0 : List (ByteArray)) : ((List (ByteArray)) × (Int)) → RT ((List (ByteArray)) × (Int)) (((List (ByteArray))))
  | (y1, y2) => .br (true) (.br (decide (y2 < (↑(List.length y0) : Int))) (.br (decide ((0 : Int) ≤ y2 ∧ y2 < (↑(List.length y0) : Int))) (.br (decide ((0 : Int) ≤ y2 ∧ y2 < (↑(List.length y1) : Int))) (.br (decide (Int.toNat y2 < List.length y1)) (.br (true) (.go ((List.set y1 (Int.toNat y2) (at_ Ty.str y0 (Int.toNat y2)), IntKind.wrap IntKind.i64 (y2 + (1 : Int))))) (.bad)) (.bad)) (.bad)) (.bad)) (.out (y1))) (.bad)
noncomputable def g_Lw_toStringS_0 (y0 : List (ByteArray)) (x : (List (ByteArray)) × (Int)) : Option (((List (ByteArray)))) := loopO (g_Sw_toStringS_0 y0) x
noncomputable def xw_toStringS_0 (y0 : List (ByteArray)) : (((List (ByteArray)))) → Ex × List (Pl × LV) := fun r => (.exit 0, [(.T 3, .t (.val false [.row 3 0 0])), (.R 3 0, .r 0 (some ⟨false, .non, true, 9, .str, r⟩))])
noncomputable def Ow_toStringS_1 : Orc := fun b h => match b, h with
  | 0, [(.T 0, .t (.val false [.sl .any 9 .str y0])), (.T 3, .t (.val false [.row 3 0 0])), (.R 3 0, .r 0 (some ⟨false, .non, true, 9, .str, y1⟩)), (.T 4, .t (.val false [.int .i64 y2]))] => some (okO (g_Lw_toStringS_0 y0 (y1, y2)), (.leaf (.exit 0) [(.T 3, .t (.val false [.row 3 0 0])), (.R 3 0, .r 0 (some ⟨false, .non, true, 9, .str, (valO (g_Lw_toStringS_0 y0 (y1, y2)))⟩))]))
  | b, h => Ow_toStringS_0 b h
theorem bw_toStringS_0 (y0 : List (ByteArray)) (y1 : List (ByteArray)) (y2 : Int) : Tr.bt Ew_toStringS Ow_toStringS_0 (exec Ew_toStringS 0 cw_toStringS_0 (St.of (hw_toStringS_0 y0 y1 y2)) (leafRd Ew_toStringS 0)) = (g_Sw_toStringS_0 y0 (y1, y2)).bt (fun ((y1, y2) : (List (ByteArray)) × (Int)) => (hw_toStringS_0 y0 y1 y2)) (xw_toStringS_0 y0) := by kernel_rfl
theorem kw_toStringS_1 : OrcOk Ew_toStringS Ow_toStringS_1 lsw_toStringS 1 := orc_add kw_toStringS_0 (fun n p hp h ex h' ho => by
  obtain ⟨b, c⟩ := p
  obtain ⟨xt, h1, h2⟩ := ho
  have h1 : Ow_toStringS_1 b h = some (true, xt) := h1
  unfold Ow_toStringS_1 at h1
  split at h1
  · injection h1 with h1
    injection h1 with e1 e2
    subst e2
    have hc : c = cw_toStringS_0 := mw_toStringS_0 _ hp rfl
    subst hc
    right
    rename_i y0 y1 y2
    have key := LT_step kw_toStringS_0 hp (fun q hq => loopsAll_in _ _ _ _ hp hq) (fun ((y1, y2) : (List (ByteArray)) × (Int)) => (hw_toStringS_0 y0 y1 y2)) (xw_toStringS_0 y0) (g_Sw_toStringS_0 y0) (fun x => by first | exact bw_toStringS_0 y0 x.1 x.2) n (x := (y1, y2)) (okO_some e1)
    have hx : ∀ r, XT.sel (.leaf (.exit 0) [(.T 3, .t (.val false [.row 3 0 0])), (.R 3 0, .r 0 (some ⟨false, .non, true, 9, .str, r⟩))]) = xw_toStringS_0 y0 r := fun r => by first | rfl | (rcases r with r | r <;> rfl) | (rcases r with r | r | r <;> rfl) | (rcases r with r | r | r | r <;> rfl)
    have h3 := (hx (valO (g_Lw_toStringS_0 y0 (y1, y2)))).symm.trans h2
    have e3 := congrArg Prod.fst h3
    have e4 := congrArg Prod.snd h3
    simp only at e3 e4
    rw [← e3, ← e4]
    exact key
  · exact .inl ⟨xt, h1, h2⟩)
noncomputable def g_Aw_toStringS (a0 : List (ByteArray)) : Bool := decide ((↑(List.length a0) : Int) = (↑(List.length a0) : Int) ∧ (0 : Int) ≤ (↑(List.length a0) : Int) ∧ (↑(List.length a0) : Int) ≤ (9223372036854775807 : Int) ∧ (16 : Int) * (↑(List.length a0) : Int) ≤ (281474976710656 : Int)) && okO (g_Lw_toStringS_0 a0 (List.replicate (Int.toNat (↑(List.length a0) : Int)) (lit []), (0 : Int)))
noncomputable def g_Vw_toStringS_0 (a0 : List (ByteArray)) : List (ByteArray) := valO (g_Lw_toStringS_0 a0 (List.replicate (Int.toNat (↑(List.length a0) : Int)) (lit []), (0 : Int)))
noncomputable def Fw_toStringS : FSem := fun ys => match ys with
  | [.val false [.sl .any 9 .str a0]] => some ((g_Aw_toStringS a0), .val false [.own .any true 9 .str (g_Vw_toStringS_0 a0)], [])
  | _ => none
theorem vw_toStringS (a0 : List (ByteArray)) : collapseH .std Ew_toStringS Ow_toStringS_1 (execFn Ew_toStringS Go.Proofs.Tryd.f151 msw_toStringS [.val false [.sl .any 9 .str a0]]) = some ((g_Aw_toStringS a0), .val false [.own .any true 9 .str (g_Vw_toStringS_0 a0)], []) := by kernel_rfl
theorem sw_toStringS : Sound Go.Proofs.Tryd.prog 151 msw_toStringS Fw_toStringS := by
  refine fn_gen goodw_toStringS (by kernel_rfl) .std (fn := Go.Proofs.Tryd.f151) (c := (Go.Proofs.Tryd.f151.body.getD .skip)) (o := Ow_toStringS_1) (k := 1) (by kernel_rfl) (by kernel_rfl) (by kernel_rfl) (by kernel_rfl) (by decide) kw_toStringS_1 ?_
  intro ys r outs h
  unfold Fw_toStringS at h
  split at h
  · exact (vw_toStringS _).trans h
  · cases h
end Go.Proofs.YtibafhmmnoijkaaDoor.E
end
section
namespace Go.Proofs.YtibafhmmnoijkaaDoor.E
open Go
set_option maxRecDepth 100000
set_option maxHeartbeats 0
set_option linter.all false
noncomputable def Ew_toLogNote : Env where
  tt := mkTI Go.Proofs.Tryd.prog
  fn := fun f => match f with
    | 151 => some (msw_toStringS, FSem.wk msw_toStringS Fw_toStringS)
    | 152 => some (msw_toStoWriteS, FSem.wk msw_toStoWriteS Fw_toStoWriteS)
    | _ => none
  bxf := fun _ => none
  mv := []
  keep := fun _ => []
  keepB := fun _ => []
  keepX := fun _ => []
  keepXB := fun _ => []
theorem goodFw_toLogNote : ∀ f ms F, Ew_toLogNote.fn f = some (ms, F) → Sound Go.Proofs.Tryd.prog f ms F := fun f ms F h => by
  unfold Ew_toLogNote at h
  dsimp only at h
  split at h
  · injection h with h; injection h with e1 e2; subst e1 e2; exact Sound.wk sw_toStringS
  · injection h with h; injection h with e1 e2; subst e1 e2; exact Sound.wk sw_toStoWriteS
  · cases h
theorem goodBw_toLogNote : ∀ f ms F, Ew_toLogNote.bxf f = some (ms, F) → SoundB Go.Proofs.Tryd.prog f ms F := fun f ms F h => by cases h
theorem goodw_toLogNote : Good Go.Proofs.Tryd.prog Ew_toLogNote := ⟨rfl, goodFw_toLogNote, goodBw_toLogNote⟩
noncomputable def Ow_toLogNote_0 : Orc := fun _ _ => none
noncomputable def msw_toLogNote : List PM := [.rd]
noncomputable def lsw_toLogNote : List (Nat × Code) := loopsAll 0 (Go.Proofs.Tryd.f116.body.getD .skip)

theorem kw_toLogNote_0 : OrcOk Ew_toLogNote Ow_toLogNote_0 lsw_toLogNote 0 := orcOk_none
noncomputable def g_Aw_toLogNote (a0 : Int) (a1 : Int) (a2 : List (ByteArray)) (a3 : List ((ByteArray) × ((Bool) × (List (Int))))) : Bool := g_Aw_toStringS a2 && g_Aw_toStoWriteS a3
noncomputable def Fw_toLogNote : FSem := fun ys => match ys with
  | [.val true [.int .i64 a0, .int .i64 a1, .sl .any 9 .str a2, .sl .any 194 (.pair .str (.pair .bool (.sl 3 (.int .i64)))) a3]] => some ((g_Aw_toLogNote a0 a1 a2 a3), .val true [.int .i64 a0, .int .i64 a1, .own .any true 9 .str (g_Vw_toStringS_0 a2), .own .any true 83 (.pair .str (.pair .bool (.sl 3 (.int .i64)))) (g_Vw_toStoWriteS_0 a3)], [])
  | _ => none
theorem vw_toLogNote (a0 : Int) (a1 : Int) (a2 : List (ByteArray)) (a3 : List ((ByteArray) × ((Bool) × (List (Int))))) : collapseH .std Ew_toLogNote Ow_toLogNote_0 (execFn Ew_toLogNote Go.Proofs.Tryd.f116 msw_toLogNote [.val true [.int .i64 a0, .int .i64 a1, .sl .any 9 .str a2, .sl .any 194 (.pair .str (.pair .bool (.sl 3 (.int .i64)))) a3]]) = some ((g_Aw_toLogNote a0 a1 a2 a3), .val true [.int .i64 a0, .int .i64 a1, .own .any true 9 .str (g_Vw_toStringS_0 a2), .own .any true 83 (.pair .str (.pair .bool (.sl 3 (.int .i64)))) (g_Vw_toStoWriteS_0 a3)], []) := by kernel_rfl
theorem sw_toLogNote : Sound Go.Proofs.Tryd.prog 116 msw_toLogNote Fw_toLogNote := by
  refine fn_gen goodw_toLogNote (by kernel_rfl) .std (fn := Go.Proofs.Tryd.f116) (c := (Go.Proofs.Tryd.f116.body.getD .skip)) (o := Ow_toLogNote_0) (k := 0) (by kernel_rfl) (by kernel_rfl) (by kernel_rfl) (by kernel_rfl) (by decide) kw_toLogNote_0 ?_
  intro ys r outs h
  unfold Fw_toLogNote at h
  split at h
  · exact (vw_toLogNote _ _ _ _).trans h
  · cases h
end Go.Proofs.YtibafhmmnoijkaaDoor.E
end
section
namespace Go.Proofs.YtibafhmmnoijkaaDoor.E
open Go
set_option maxRecDepth 100000
set_option maxHeartbeats 0
set_option linter.all false
noncomputable def Ew_toLogNoteS : Env where
  tt := mkTI Go.Proofs.Tryd.prog
  fn := fun f => match f with
    | 116 => some (msw_toLogNote, FSem.wk msw_toLogNote Fw_toLogNote)
    | _ => none
  bxf := fun _ => none
  mv := []
  keep := fun b => match b with
    | 0 => [(0, false), (3, false), (4, false)]
    | _ => []
  keepB := fun b => match b with
    | 0 => []
    | _ => []
  keepX := fun b => match b with
    | 0 => [(3, false)]
    | _ => []
  keepXB := fun b => match b with
    | 0 => []
    | _ => []
theorem goodFw_toLogNoteS : ∀ f ms F, Ew_toLogNoteS.fn f = some (ms, F) → Sound Go.Proofs.Tryd.prog f ms F := fun f ms F h => by
  unfold Ew_toLogNoteS at h
  dsimp only at h
  split at h
  · injection h with h; injection h with e1 e2; subst e1 e2; exact Sound.wk sw_toLogNote
  · cases h
theorem goodBw_toLogNoteS : ∀ f ms F, Ew_toLogNoteS.bxf f = some (ms, F) → SoundB Go.Proofs.Tryd.prog f ms F := fun f ms F h => by cases h
theorem goodw_toLogNoteS : Good Go.Proofs.Tryd.prog Ew_toLogNoteS := ⟨rfl, goodFw_toLogNoteS, goodBw_toLogNoteS⟩
noncomputable def Ow_toLogNoteS_0 : Orc := fun _ _ => none
noncomputable def msw_toLogNoteS : List PM := [.rd]
noncomputable def lsw_toLogNoteS : List (Nat × Code) := loopsAll 0 (Go.Proofs.Tryd.f64.body.getD .skip)
noncomputable def cw_toLogNoteS_0 : Code := (loopOf 0 (Go.Proofs.Tryd.f64.body.getD .skip)).getD .skip
theorem lseqw_toLogNoteS : lsw_toLogNoteS = [(0, cw_toLogNoteS_0)] := by kernel_rfl
theorem mw_toLogNoteS_0 : ∀ p, p ∈ lsw_toLogNoteS → p.1 = 0 → p.2 = cw_toLogNoteS_0 := by
  intro p hp
  rw [lseqw_toLogNoteS] at hp
  simp only [List.mem_cons, List.not_mem_nil, or_false] at hp
  subst hp; simp
theorem kw_toLogNoteS_0 : OrcOk Ew_toLogNoteS Ow_toLogNoteS_0 lsw_toLogNoteS 0 := orcOk_none
noncomputable def hw_toLogNoteS_0 (y0 : List ((Int) × ((Int) × ((List (ByteArray)) × (List ((ByteArray) × ((Bool) × (List (Int))))))))) (y1 : List ((Int) × ((Int) × ((List (ByteArray)) × (List ((ByteArray) × ((Bool) × (List (Int))))))))) (y2 : Int) : List (Pl × LV) := [(.T 0, .t (.val false [.sl .any 140 (.pair (.int .i64) (.pair (.int .i64) (.pair (.sl 9 .str) (.sl 194 (.pair .str (.pair .bool (.sl 3 (.int .i64)))))))) y0])), (.T 3, .t (.val false [.row 3 0 0])), (.R 3 0, .r 0 (some ⟨false, .non, true, 59, (.pair (.int .i64) (.pair (.int .i64) (.pair (.sl 9 .str) (.sl 83 (.pair .str (.pair .bool (.sl 3 (.int .i64)))))))), y1⟩)), (.T 4, .t (.val false [.int .i64 y2]))]
noncomputable def g_Sw_toLogNoteS_0 (y0 : List ((Int) × ((Int) × ((List (ByteArray)) × (List ((ByteArray) × ((Bool) × (List (Int))))))))) : ((List ((Int) × ((Int) × ((List (ByteArray)) × (List ((ByteArray) × ((Bool) × (List (Int))))))))) × (Int)) → RT ((List ((Int) × ((Int) × ((List (ByteArray)) × (List ((ByteArray) × ((Bool) × (List (Int))))))))) × (Int)) (((List ((Int) × ((Int) × ((List (ByteArray)) × (List ((ByteArray) × ((Bool) × (List (Int)))))))))))
  | (y1, y2) => .br (true) (.br (decide (y2 < (↑(List.length y0) : Int))) (.br (decide ((0 : Int) ≤ y2 ∧ y2 < (↑(List.length y0) : Int))) (.br (g_Aw_toLogNote (at_ (Ty.pair (Ty.int IntKind.i64) (Ty.pair (Ty.int IntKind.i64) (Ty.pair (Ty.sl (nat_lit 9) Ty.str) (Ty.sl (nat_lit 194) (Ty.pair Ty.str (Ty.pair Ty.bool (Ty.sl (nat_lit 3) (Ty.int IntKind.i64)))))))) y0 (Int.toNat y2)).1 (at_ (Ty.pair (Ty.int IntKind.i64) (Ty.pair (Ty.int IntKind.i64) (Ty.pair (Ty.sl (nat_lit 9) Ty.str) (Ty.sl (nat_lit 194) (Ty.pair Ty.str (Ty.pair Ty.bool (Ty.sl (nat_lit 3) (Ty.int IntKind.i64)))))))) y0 (Int.toNat y2)).2.1 (at_ (Ty.pair (Ty.int IntKind.i64) (Ty.pair (Ty.int IntKind.i64) (Ty.pair (Ty.sl (nat_lit 9) Ty.str) (Ty.sl (nat_lit 194) (Ty.pair Ty.str (Ty.pair Ty.bool (Ty.sl (nat_lit 3) (Ty.int IntKind.i64)))))))) y0 (Int.toNat y2)).2.2.1 (at_ (Ty.pair (Ty.int IntKind.i64) (Ty.pair (Ty.int IntKind.i64) (Ty.pair (Ty.sl (nat_lit 9) Ty.str) (Ty.sl (nat_lit 194) (Ty.pair Ty.str (Ty.pair Ty.bool (Ty.sl (nat_lit 3) (Ty.int IntKind.i64)))))))) y0 (Int.toNat y2)).2.2.2) (.br (decide ((0 : Int) ≤ y2 ∧ y2 < (↑(List.length y1) : Int))) (.br (decide (Int.toNat y2 < List.length y1)) (.br (true) (.go ((List.set y1 (Int.toNat y2) ((at_ (Ty.pair (Ty.int IntKind.i64) (Ty.pair (Ty.int IntKind.i64) (Ty.pair (Ty.sl (nat_lit 9) Ty.str) (Ty.sl (nat_lit 194) (Ty.pair Ty.str (Ty.pair Ty.bool (Ty.sl (nat_lit 3) (Ty.int IntKind.i64)))))))) y0 (Int.toNat y2)).1, (at_ (Ty.pair (Ty.int IntKind.i64) (Ty.pair (Ty.int IntKind.i64) (Ty.pair (Ty.sl (nat_lit 9) Ty.str) (Ty.sl (nat_lit 194) (Ty.pair Ty.str (Ty.pair Ty.bool (Ty.sl (nat_lit 3) (Ty.int IntKind.i64)))))))) y0 (Int.toNat y2)).2.1, g_Vw_toStringS_0 (at_ (Ty.pair (Ty.int IntKind.i64) (Ty.pair (Ty.int IntKind.i64) (Ty.pair (Ty.sl (nat_lit 9) Ty.str) (Ty.sl (nat_lit 194) (Ty.pair Ty.str (Ty.pair Ty.bool (Ty.sl (nat_lit 3) (Ty.int IntKind.i64)))))))) y0 (Int.toNat y2)).2.2.1, g_Vw_toStoWriteS_0 (at_ (Ty.pair (Ty.int IntKind.i64) (Ty.pair (Ty.int IntKind.i64) (Ty.pair (Ty.sl (nat_lit 9) Ty.str) (Ty.sl (nat_lit 194) (Ty.pair Ty.str (Ty.pair Ty.bool (Ty.sl (nat_lit 3) (Ty.int IntKind.i64)))))))) y0 (Int.toNat y2)).2.2.2), IntKind.wrap IntKind.i64 (y2 + (1 : Int))))) (.bad)) (.bad)) (.bad)) (.bad)) (.bad)) (.out (y1))) (.bad)
noncomputable def g_Lw_toLogNoteS_0 (y0 : List ((Int) × ((Int) × ((List (ByteArray)) × (List ((ByteArray) × ((Bool) × (List (Int))))))))) (x : (List ((Int) × ((Int) × ((List (ByteArray)) × (List ((ByteArray) × ((Bool) × (List (Int))))))))) × (Int)) : Option (((List ((Int) × ((Int) × ((List (ByteArray)) × (List ((ByteArray) × ((Bool) × (List (Int))))))))))) := loopO (g_Sw_toLogNoteS_0 y0) x
noncomputable def xw_toLogNoteS_0 (y0 : List ((Int) × ((Int) × ((List (ByteArray)) × (List ((ByteArray) × ((Bool) × (List (Int))))))))) : (((List ((Int) × ((Int) × ((List (ByteArray)) × (List ((ByteArray) × ((Bool) × (List (Int))))))))))) → Ex × List (Pl × LV) := fun r => (.exit 0, [(.T 3, .t (.val false [.row 3 0 0])), (.R 3 0, .r 0 (some ⟨false, .non, true, 59, (.pair (.int .i64) (.pair (.int .i64) (.pair (.sl 9 .str) (.sl 83 (.pair .str (.pair .bool (.sl 3 (.int .i64)))))))), r⟩))])
noncomputable def Ow_toLogNoteS_1 : Orc := fun b h => match b, h with
  | 0, [(.T 0, .t (.val false [.sl .any 140 (.pair (.int .i64) (.pair (.int .i64) (.pair (.sl 9 .str) (.sl 194 (.pair .str (.pair .bool (.sl 3 (.int .i64)))))))) y0])), (.T 3, .t (.val false [.row 3 0 0])), (.R 3 0, .r 0 (some ⟨false, .non, true, 59, (.pair (.int .i64) (.pair (.int .i64) (.pair (.sl 9 .str) (.sl 83 (.pair .str (.pair .bool (.sl 3 (.int .i64)))))))), y1⟩)), (.T 4, .t (.val false [.int .i64 y2]))] => some (okO (g_Lw_toLogNoteS_0 y0 (y1, y2)), (.leaf (.exit 0) [(.T 3, .t (.val false [.row 3 0 0])), (.R 3 0, .r 0 (some ⟨false, .non, true, 59, (.pair (.int .i64) (.pair (.int .i64) (.pair (.sl 9 .str) (.sl 83 (.pair .str (.pair .bool (.sl 3 (.int .i64)))))))), (valO (g_Lw_toLogNoteS_0 y0 (y1, y2)))⟩))]))
  | b, h => Ow_toLogNoteS_0 b h
theorem bw_toLogNoteS_0 (y0 : List ((Int) × ((Int) × ((List (ByteArray)) × (List ((ByteArray) × ((Bool) × (List (Int))))))))) (y1 : List ((Int) × ((Int) × ((List (ByteArray)) × (List ((ByteArray) × ((Bool) × (List (Int))))))))) (y2 : Int) : Tr.bt Ew_toLogNoteS Ow_toLogNoteS_0 (exec Ew_toLogNoteS 0 cw_toLogNoteS_0 (St.of (hw_toLogNoteS_0 y0 y1 y2)) (leafRd Ew_toLogNoteS 0)) = (g_Sw_toLogNoteS_0 y0 (y1, y2)).bt (fun ((y1, y2) : (List ((Int) × ((Int) × ((List (ByteArray)) × (List ((ByteArray) × ((Bool) × (List (Int))))))))) × (Int)) => (hw_toLogNoteS_0 y0 y1 y2)) (xw_toLogNoteS_0 y0) := by kernel_rfl
theorem kw_toLogNoteS_1 : OrcOk Ew_toLogNoteS Ow_toLogNoteS_1 lsw_toLogNoteS 1 := orc_add kw_toLogNoteS_0 (fun n p hp h ex h' ho => by
  obtain ⟨b, c⟩ := p
  obtain ⟨xt, h1, h2⟩ := ho
  have h1 : Ow_toLogNoteS_1 b h = some (true, xt) := h1
  unfold Ow_toLogNoteS_1 at h1
  split at h1
  · injection h1 with h1
    injection h1 with e1 e2
    subst e2
    have hc : c = cw_toLogNoteS_0 := mw_toLogNoteS_0 _ hp rfl
    subst hc
    right
    rename_i y0 y1 y2
    have key := LT_step kw_toLogNoteS_0 hp (fun q hq => loopsAll_in _ _ _ _ hp hq) (fun ((y1, y2) : (List ((Int) × ((Int) × ((List (ByteArray)) × (List ((ByteArray) × ((Bool) × (List (Int))))))))) × (Int)) => (hw_toLogNoteS_0 y0 y1 y2)) (xw_toLogNoteS_0 y0) (g_Sw_toLogNoteS_0 y0) (fun x => by first | exact bw_toLogNoteS_0 y0 x.1 x.2) n (x := (y1, y2)) (okO_some e1)
    have hx : ∀ r, XT.sel (.leaf (.exit 0) [(.T 3, .t (.val false [.row 3 0 0])), (.R 3 0, .r 0 (some ⟨false, .non, true, 59, (.pair (.int .i64) (.pair (.int .i64) (.pair (.sl 9 .str) (.sl 83 (.pair .str (.pair .bool (.sl 3 (.int .i64)))))))), r⟩))]) = xw_toLogNoteS_0 y0 r := fun r => by first | rfl | (rcases r with r | r <;> rfl) | (rcases r with r | r | r <;> rfl) | (rcases r with r | r | r | r <;> rfl)
    have h3 := (hx (valO (g_Lw_toLogNoteS_0 y0 (y1, y2)))).symm.trans h2
    have e3 := congrArg Prod.fst h3
    have e4 := congrArg Prod.snd h3
    simp only at e3 e4
    rw [← e3, ← e4]
    exact key
  · exact .inl ⟨xt, h1, h2⟩)
noncomputable def g_Aw_toLogNoteS (a0 : List ((Int) × ((Int) × ((List (ByteArray)) × (List ((ByteArray) × ((Bool) × (List (Int))))))))) : Bool := decide ((↑(List.length a0) : Int) = (↑(List.length a0) : Int) ∧ (0 : Int) ≤ (↑(List.length a0) : Int) ∧ (↑(List.length a0) : Int) ≤ (9223372036854775807 : Int) ∧ (64 : Int) * (↑(List.length a0) : Int) ≤ (281474976710656 : Int)) && okO (g_Lw_toLogNoteS_0 a0 (List.replicate (Int.toNat (↑(List.length a0) : Int)) ((0 : Int), (0 : Int), [], []), (0 : Int)))
noncomputable def g_Vw_toLogNoteS_0 (a0 : List ((Int) × ((Int) × ((List (ByteArray)) × (List ((ByteArray) × ((Bool) × (List (Int))))))))) : List ((Int) × ((Int) × ((List (ByteArray)) × (List ((ByteArray) × ((Bool) × (List (Int)))))))) := valO (g_Lw_toLogNoteS_0 a0 (List.replicate (Int.toNat (↑(List.length a0) : Int)) ((0 : Int), (0 : Int), [], []), (0 : Int)))
noncomputable def Fw_toLogNoteS : FSem := fun ys => match ys with
  | [.val false [.sl .any 140 (.pair (.int .i64) (.pair (.int .i64) (.pair (.sl 9 .str) (.sl 194 (.pair .str (.pair .bool (.sl 3 (.int .i64)))))))) a0]] => some ((g_Aw_toLogNoteS a0), .val false [.own .any true 59 (.pair (.int .i64) (.pair (.int .i64) (.pair (.sl 9 .str) (.sl 83 (.pair .str (.pair .bool (.sl 3 (.int .i64)))))))) (g_Vw_toLogNoteS_0 a0)], [])
  | _ => none
theorem vw_toLogNoteS (a0 : List ((Int) × ((Int) × ((List (ByteArray)) × (List ((ByteArray) × ((Bool) × (List (Int))))))))) : collapseH .std Ew_toLogNoteS Ow_toLogNoteS_1 (execFn Ew_toLogNoteS Go.Proofs.Tryd.f64 msw_toLogNoteS [.val false [.sl .any 140 (.pair (.int .i64) (.pair (.int .i64) (.pair (.sl 9 .str) (.sl 194 (.pair .str (.pair .bool (.sl 3 (.int .i64)))))))) a0]]) = some ((g_Aw_toLogNoteS a0), .val false [.own .any true 59 (.pair (.int .i64) (.pair (.int .i64) (.pair (.sl 9 .str) (.sl 83 (.pair .str (.pair .bool (.sl 3 (.int .i64)))))))) (g_Vw_toLogNoteS_0 a0)], []) := by kernel_rfl
theorem sw_toLogNoteS : Sound Go.Proofs.Tryd.prog 64 msw_toLogNoteS Fw_toLogNoteS := by
  refine fn_gen goodw_toLogNoteS (by kernel_rfl) .std (fn := Go.Proofs.Tryd.f64) (c := (Go.Proofs.Tryd.f64.body.getD .skip)) (o := Ow_toLogNoteS_1) (k := 1) (by kernel_rfl) (by kernel_rfl) (by kernel_rfl) (by kernel_rfl) (by decide) kw_toLogNoteS_1 ?_
  intro ys r outs h
  unfold Fw_toLogNoteS at h
  split at h
  · exact (vw_toLogNoteS _).trans h
  · cases h
end Go.Proofs.YtibafhmmnoijkaaDoor.E
end
section
namespace Go.Proofs.YtibafhmmnoijkaaDoor.E
open Go
set_option maxRecDepth 100000
set_option maxHeartbeats 0
set_option linter.all false
noncomputable def Ew_toLogDisk : Env where
  tt := mkTI Go.Proofs.Tryd.prog
  fn := fun f => match f with
    | 64 => some (msw_toLogNoteS, FSem.wk msw_toLogNoteS Fw_toLogNoteS)
    | _ => none
  bxf := fun _ => none
  mv := []
  keep := fun _ => []
  keepB := fun _ => []
  keepX := fun _ => []
  keepXB := fun _ => []
theorem goodFw_toLogDisk : ∀ f ms F, Ew_toLogDisk.fn f = some (ms, F) → Sound Go.Proofs.Tryd.prog f ms F := fun f ms F h => by
  unfold Ew_toLogDisk at h
  dsimp only at h
  split at h
  · injection h with h; injection h with e1 e2; subst e1 e2; exact Sound.wk sw_toLogNoteS
  · cases h
theorem goodBw_toLogDisk : ∀ f ms F, Ew_toLogDisk.bxf f = some (ms, F) → SoundB Go.Proofs.Tryd.prog f ms F := fun f ms F h => by cases h
theorem goodw_toLogDisk : Good Go.Proofs.Tryd.prog Ew_toLogDisk := ⟨rfl, goodFw_toLogDisk, goodBw_toLogDisk⟩
noncomputable def Ow_toLogDisk_0 : Orc := fun _ _ => none
noncomputable def msw_toLogDisk : List PM := [.rd]
noncomputable def lsw_toLogDisk : List (Nat × Code) := loopsAll 0 (Go.Proofs.Tryd.f25.body.getD .skip)

theorem kw_toLogDisk_0 : OrcOk Ew_toLogDisk Ow_toLogDisk_0 lsw_toLogDisk 0 := orcOk_none
noncomputable def g_Aw_toLogDisk (a0 : List ((Int) × ((Int) × ((List (ByteArray)) × (List ((ByteArray) × ((Bool) × (List (Int))))))))) (a1 : Int) : Bool := g_Aw_toLogNoteS a0
noncomputable def Fw_toLogDisk : FSem := fun ys => match ys with
  | [.val true [.sl .any 140 (.pair (.int .i64) (.pair (.int .i64) (.pair (.sl 9 .str) (.sl 194 (.pair .str (.pair .bool (.sl 3 (.int .i64)))))))) a0, .int .i64 a1]] => some ((g_Aw_toLogDisk a0 a1), .val true [.own .any true 59 (.pair (.int .i64) (.pair (.int .i64) (.pair (.sl 9 .str) (.sl 83 (.pair .str (.pair .bool (.sl 3 (.int .i64)))))))) (g_Vw_toLogNoteS_0 a0), .int .i64 a1], [])
  | _ => none
theorem vw_toLogDisk (a0 : List ((Int) × ((Int) × ((List (ByteArray)) × (List ((ByteArray) × ((Bool) × (List (Int))))))))) (a1 : Int) : collapseH .std Ew_toLogDisk Ow_toLogDisk_0 (execFn Ew_toLogDisk Go.Proofs.Tryd.f25 msw_toLogDisk [.val true [.sl .any 140 (.pair (.int .i64) (.pair (.int .i64) (.pair (.sl 9 .str) (.sl 194 (.pair .str (.pair .bool (.sl 3 (.int .i64)))))))) a0, .int .i64 a1]]) = some ((g_Aw_toLogDisk a0 a1), .val true [.own .any true 59 (.pair (.int .i64) (.pair (.int .i64) (.pair (.sl 9 .str) (.sl 83 (.pair .str (.pair .bool (.sl 3 (.int .i64)))))))) (g_Vw_toLogNoteS_0 a0), .int .i64 a1], []) := by kernel_rfl
theorem sw_toLogDisk : Sound Go.Proofs.Tryd.prog 25 msw_toLogDisk Fw_toLogDisk := by
  refine fn_gen goodw_toLogDisk (by kernel_rfl) .std (fn := Go.Proofs.Tryd.f25) (c := (Go.Proofs.Tryd.f25.body.getD .skip)) (o := Ow_toLogDisk_0) (k := 0) (by kernel_rfl) (by kernel_rfl) (by kernel_rfl) (by kernel_rfl) (by decide) kw_toLogDisk_0 ?_
  intro ys r outs h
  unfold Fw_toLogDisk at h
  split at h
  · exact (vw_toLogDisk _ _).trans h
  · cases h
end Go.Proofs.YtibafhmmnoijkaaDoor.E
end
section
namespace Go.Proofs.YtibafhmmnoijkaaDoor.E
open Go
set_option maxRecDepth 100000
set_option maxHeartbeats 0
set_option linter.all false
noncomputable def Ew_FnExactDiskOf : Env where
  tt := mkTI Go.Proofs.Tryd.prog
  fn := fun f => match f with
    | 23 => some (msw_szLogDisk, FSem.wk msw_szLogDisk Fw_szLogDisk)
    | 25 => some (msw_toLogDisk, FSem.wk msw_toLogDisk Fw_toLogDisk)
    | 27 => some (msw_eqLogDisk, FSem.wk msw_eqLogDisk Fw_eqLogDisk)
    | 29 => some (msi_DiskOf, FSem.wk msi_DiskOf Fi_DiskOf)
    | 30 => some (mss_DiskOf, FSem.wk mss_DiskOf Fs_DiskOf)
    | _ => none
  bxf := fun _ => none
  mv := []
  keep := fun _ => []
  keepB := fun _ => []
  keepX := fun _ => []
  keepXB := fun _ => []
theorem goodFw_FnExactDiskOf : ∀ f ms F, Ew_FnExactDiskOf.fn f = some (ms, F) → Sound Go.Proofs.Tryd.prog f ms F := fun f ms F h => by
  unfold Ew_FnExactDiskOf at h
  dsimp only at h
  split at h
  · injection h with h; injection h with e1 e2; subst e1 e2; exact Sound.wk sw_szLogDisk
  · injection h with h; injection h with e1 e2; subst e1 e2; exact Sound.wk sw_toLogDisk
  · injection h with h; injection h with e1 e2; subst e1 e2; exact Sound.wk sw_eqLogDisk
  · injection h with h; injection h with e1 e2; subst e1 e2; exact Sound.wk si_DiskOf
  · injection h with h; injection h with e1 e2; subst e1 e2; exact Sound.wk ss_DiskOf
  · cases h
theorem goodBw_FnExactDiskOf : ∀ f ms F, Ew_FnExactDiskOf.bxf f = some (ms, F) → SoundB Go.Proofs.Tryd.prog f ms F := fun f ms F h => by cases h
theorem goodw_FnExactDiskOf : Good Go.Proofs.Tryd.prog Ew_FnExactDiskOf := ⟨rfl, goodFw_FnExactDiskOf, goodBw_FnExactDiskOf⟩
noncomputable def Ow_FnExactDiskOf_0 : Orc := fun _ _ => none
noncomputable def msw_FnExactDiskOf : List PM := [.rd, .own]
noncomputable def lsw_FnExactDiskOf : List (Nat × Code) := loopsAll 0 (Go.Proofs.Tryd.f6.body.getD .skip)

theorem kw_FnExactDiskOf_0 : OrcOk Ew_FnExactDiskOf Ow_FnExactDiskOf_0 lsw_FnExactDiskOf 0 := orcOk_none
noncomputable def g_Aw_FnExactDiskOf (a0 : List ((Int) × ((Int) × ((List (ByteArray)) × (List ((ByteArray) × ((Bool) × (List (Int))))))))) (a1 : Int) (a2 : Int) : Bool := g_Aw_szLogDisk a0 a1 (1048576 : Int) && (decide (g_Vw_szLogDisk_0 a0 a1 (1048576 : Int) < (0 : Int)) || g_Aw_toLogDisk a0 a1 && (g_As_DiskOf (g_Vw_toLogNoteS_0 a0) a1 a2 && (g_Aw_toLogDisk a0 a1 && (g_Ai_DiskOf (g_Vw_toLogNoteS_0 a0) a1 a2 && (g_Vi_DiskOf_0 (g_Vw_toLogNoteS_0 a0) a1 a2 != g_Vs_DiskOf_0 (g_Vw_toLogNoteS_0 a0) a1 a2 || g_Aw_toLogDisk a0 a1 && g_Aw_eqLogDisk (g_Vw_toLogNoteS_0 a0) a1 (g_Vw_toLogNoteS_0 a0) a1)))))
noncomputable def g_Vw_FnExactDiskOf_0 (a0 : List ((Int) × ((Int) × ((List (ByteArray)) × (List ((ByteArray) × ((Bool) × (List (Int))))))))) (a1 : Int) (a2 : Int) : Bool := bif decide (g_Vw_szLogDisk_0 a0 a1 (1048576 : Int) < (0 : Int)) then true else bif g_Vi_DiskOf_0 (g_Vw_toLogNoteS_0 a0) a1 a2 != g_Vs_DiskOf_0 (g_Vw_toLogNoteS_0 a0) a1 a2 then false else bif !g_Vw_eqLogDisk_0 (g_Vw_toLogNoteS_0 a0) a1 (g_Vw_toLogNoteS_0 a0) a1 then false else true
noncomputable def Fw_FnExactDiskOf : FSem := fun ys => match ys with
  | [.val true [.sl .any 140 (.pair (.int .i64) (.pair (.int .i64) (.pair (.sl 9 .str) (.sl 194 (.pair .str (.pair .bool (.sl 3 (.int .i64)))))))) a0, .int .i64 a1], .val false [.int .i64 a2]] => some ((g_Aw_FnExactDiskOf a0 a1 a2), .val false [.bool (g_Vw_FnExactDiskOf_0 a0 a1 a2)], [])
  | _ => none
theorem vw_FnExactDiskOf (a0 : List ((Int) × ((Int) × ((List (ByteArray)) × (List ((ByteArray) × ((Bool) × (List (Int))))))))) (a1 : Int) (a2 : Int) : collapseH .std Ew_FnExactDiskOf Ow_FnExactDiskOf_0 (execFn Ew_FnExactDiskOf Go.Proofs.Tryd.f6 msw_FnExactDiskOf [.val true [.sl .any 140 (.pair (.int .i64) (.pair (.int .i64) (.pair (.sl 9 .str) (.sl 194 (.pair .str (.pair .bool (.sl 3 (.int .i64)))))))) a0, .int .i64 a1], .val false [.int .i64 a2]]) = some ((g_Aw_FnExactDiskOf a0 a1 a2), .val false [.bool (g_Vw_FnExactDiskOf_0 a0 a1 a2)], []) := by kernel_rfl
theorem sw_FnExactDiskOf : Sound Go.Proofs.Tryd.prog 6 msw_FnExactDiskOf Fw_FnExactDiskOf := by
  refine fn_gen goodw_FnExactDiskOf (by kernel_rfl) .std (fn := Go.Proofs.Tryd.f6) (c := (Go.Proofs.Tryd.f6.body.getD .skip)) (o := Ow_FnExactDiskOf_0) (k := 0) (by kernel_rfl) (by kernel_rfl) (by kernel_rfl) (by kernel_rfl) (by decide) kw_FnExactDiskOf_0 ?_
  intro ys r outs h
  unfold Fw_FnExactDiskOf at h
  split at h
  · exact (vw_FnExactDiskOf _ _ _).trans h
  · cases h
end Go.Proofs.YtibafhmmnoijkaaDoor.E
end
