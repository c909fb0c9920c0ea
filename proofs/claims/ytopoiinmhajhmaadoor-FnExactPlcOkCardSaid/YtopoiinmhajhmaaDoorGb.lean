/- What the functions that are reached do, by the engine: for the proof (laws.FnExactPlcOk): part 2. No conditions. -/
import Derived.Test.YtopoiinmhajhmaaDoorGa
import Derived.Test.YtopoiinmhajhmaaDoorProg
set_option linter.all false
section
namespace Go.Proofs.YtopoiinmhajhmaaDoor.E
open Go
set_option maxRecDepth 100000
set_option maxHeartbeats 0
set_option linter.all false
noncomputable def Ew_toStoWriteS : Env where
  tt := mkTI Go.Proofs.Tryd.prog
  fn := fun f => match f with
    | 21 => some (msw_toStoWrite, FSem.wk msw_toStoWrite Fw_toStoWrite)
    | _ => none
  mv := []
  keep := fun b => match b with
    | 0 => [(0, false), (3, false), (4, false)]
    | _ => []
  keepB := fun b => match b with
    | 0 => []
    | _ => []
  keepX := fun b => match b with
    | 0 => [(3, false)]
    | _ => []
  keepXB := fun b => match b with
    | 0 => []
    | _ => []
theorem goodw_toStoWriteS : Good Go.Proofs.Tryd.prog Ew_toStoWriteS := ⟨rfl, fun f ms F h => by
  unfold Ew_toStoWriteS at h
  dsimp only at h
  split at h
  · injection h with h; injection h with e1 e2; subst e1 e2; exact Sound.wk sw_toStoWrite
  · cases h⟩
noncomputable def Ow_toStoWriteS_0 : Orc := fun _ _ => none
noncomputable def msw_toStoWriteS : List PM := [.rd]
noncomputable def lsw_toStoWriteS : List (Nat × Code) := loopsAll 0 (Go.Proofs.Tryd.f93.body.getD .skip)
noncomputable def cw_toStoWriteS_0 : Code := (loopOf 0 (Go.Proofs.Tryd.f93.body.getD .skip)).getD .skip
theorem lseqw_toStoWriteS : lsw_toStoWriteS = [(0, cw_toStoWriteS_0)] := by kernel_rfl
theorem mw_toStoWriteS_0 : ∀ p, p ∈ lsw_toStoWriteS → p.1 = 0 → p.2 = cw_toStoWriteS_0 := by
  intro p hp
  rw [lseqw_toStoWriteS] at hp
  simp only [List.mem_cons, List.not_mem_nil, or_false] at hp
  subst hp; simp
theorem kw_toStoWriteS_0 : OrcOk Ew_toStoWriteS Ow_toStoWriteS_0 lsw_toStoWriteS 0 := orcOk_none
noncomputable def hw_toStoWriteS_0 (y0 : List ((ByteArray) × ((Bool) × (List (Int))))) (y1 : List ((ByteArray) × ((Bool) × (List (Int))))) (y2 : Int) : List (Pl × LV) := [(.T 0, .t (.val false [.sl .any 29 (.pair .str (.pair .bool (.sl 3 (.int .i64)))) y0])), (.T 3, .t (.val false [.row 3 0 0])), (.R 3 0, .r 0 (some ⟨false, .non, true, 32, (.pair .str (.pair .bool (.sl 3 (.int .i64)))), y1⟩)), (.T 4, .t (.val false [.int .i64 y2]))]
noncomputable def g_Sw_toStoWriteS_0 (y0 : List ((ByteArray) × ((Bool) × (List (Int))))) : ((List ((ByteArray) × ((Bool) × (List (Int))))) × (Int)) → RT ((List ((ByteArray) × ((Bool) × (List (Int))))) × (Int)) (((List ((ByteArray) × ((Bool) × (List (Int)))))))
  | (y1, y2) => .br (true) (.br (decide (y2 < (↑(List.length y0) : Int))) (.br (decide ((0 : Int) ≤ y2 ∧ y2 < (↑(List.length y0) : Int))) (.br (g_Aw_toStoWrite (at_ (Ty.pair Ty.str (Ty.pair Ty.bool (Ty.sl (nat_lit 3) (Ty.int IntKind.i64)))) y0 (Int.toNat y2)).1 (at_ (Ty.pair Ty.str (Ty.pair Ty.bool (Ty.sl (nat_lit 3) (Ty.int IntKind.i64)))) y0 (Int.toNat y2)).2.1 (at_ (Ty.pair Ty.str (Ty.pair Ty.bool (Ty.sl (nat_lit 3) (Ty.int IntKind.i64)))) y0 (Int.toNat y2)).2.2) (.br (decide ((0 : Int) ≤ y2 ∧ y2 < (↑(List.length y1) : Int))) (.br (decide (Int.toNat y2 < List.length y1)) (.br (true) (.go ((List.set y1 (Int.toNat y2) ((at_ (Ty.pair Ty.str (Ty.pair Ty.bool (Ty.sl (nat_lit 3) (Ty.int IntKind.i64)))) y0 (Int.toNat y2)).1, (at_ (Ty.pair Ty.str (Ty.pair Ty.bool (Ty.sl (nat_lit 3) (Ty.int IntKind.i64)))) y0 (Int.toNat y2)).2.1, g_Vw_toIntS_0 (at_ (Ty.pair Ty.str (Ty.pair Ty.bool (Ty.sl (nat_lit 3) (Ty.int IntKind.i64)))) y0 (Int.toNat y2)).2.2), IntKind.wrap IntKind.i64 (y2 + (1 : Int))))) (.bad)) (.bad)) (.bad)) (.bad)) (.bad)) (.out (y1))) (.bad)
noncomputable def g_Lw_toStoWriteS_0 (y0 : List ((ByteArray) × ((Bool) × (List (Int))))) (x : (List ((ByteArray) × ((Bool) × (List (Int))))) × (Int)) : Option (((List ((ByteArray) × ((Bool) × (List (Int))))))) := loopO (g_Sw_toStoWriteS_0 y0) x
noncomputable def xw_toStoWriteS_0 (y0 : List ((ByteArray) × ((Bool) × (List (Int))))) : (((List ((ByteArray) × ((Bool) × (List (Int))))))) → Ex × List (Pl × LV) := fun r => (.exit 0, [(.T 3, .t (.val false [.row 3 0 0])), (.R 3 0, .r 0 (some ⟨false, .non, true, 32, (.pair .str (.pair .bool (.sl 3 (.int .i64)))), r⟩))])
noncomputable def Ow_toStoWriteS_1 : Orc := fun b h => match b, h with
  | 0, [(.T 0, .t (.val false [.sl .any 29 (.pair .str (.pair .bool (.sl 3 (.int .i64)))) y0])), (.T 3, .t (.val false [.row 3 0 0])), (.R 3 0, .r 0 (some ⟨false, .non, true, 32, (.pair .str (.pair .bool (.sl 3 (.int .i64)))), y1⟩)), (.T 4, .t (.val false [.int .i64 y2]))] => some (okO (g_Lw_toStoWriteS_0 y0 (y1, y2)), (.leaf (.exit 0) [(.T 3, .t (.val false [.row 3 0 0])), (.R 3 0, .r 0 (some ⟨false, .non, true, 32, (.pair .str (.pair .bool (.sl 3 (.int .i64)))), (valO (g_Lw_toStoWriteS_0 y0 (y1, y2)))⟩))]))
  | b, h => Ow_toStoWriteS_0 b h
theorem bw_toStoWriteS_0 (y0 : List ((ByteArray) × ((Bool) × (List (Int))))) (y1 : List ((ByteArray) × ((Bool) × (List (Int))))) (y2 : Int) : Tr.bt Ew_toStoWriteS Ow_toStoWriteS_0 (exec Ew_toStoWriteS 0 cw_toStoWriteS_0 (St.of (hw_toStoWriteS_0 y0 y1 y2)) (leafRd Ew_toStoWriteS 0)) = (g_Sw_toStoWriteS_0 y0 (y1, y2)).bt (fun ((y1, y2) : (List ((ByteArray) × ((Bool) × (List (Int))))) × (Int)) => (hw_toStoWriteS_0 y0 y1 y2)) (xw_toStoWriteS_0 y0) := by kernel_rfl
theorem kw_toStoWriteS_1 : OrcOk Ew_toStoWriteS Ow_toStoWriteS_1 lsw_toStoWriteS 1 := orc_add kw_toStoWriteS_0 (fun n p hp h ex h' ho => by
  obtain ⟨b, c⟩ := p
  obtain ⟨xt, h1, h2⟩ := ho
  have h1 : Ow_toStoWriteS_1 b h = some (true, xt) := h1
  unfold Ow_toStoWriteS_1 at h1
  split at h1
  · injection h1 with h1
    injection h1 with e1 e2
    subst e2
    have hc : c = cw_toStoWriteS_0 := mw_toStoWriteS_0 _ hp rfl
    subst hc
    right
    rename_i y0 y1 y2
    have key := LT_step kw_toStoWriteS_0 hp (fun q hq => loopsAll_in _ _ _ _ hp hq) (fun ((y1, y2) : (List ((ByteArray) × ((Bool) × (List (Int))))) × (Int)) => (hw_toStoWriteS_0 y0 y1 y2)) (xw_toStoWriteS_0 y0) (g_Sw_toStoWriteS_0 y0) (fun x => by first | exact bw_toStoWriteS_0 y0 x.1 x.2) n (x := (y1, y2)) (okO_some e1)
    have hx : ∀ r, XT.sel (.leaf (.exit 0) [(.T 3, .t (.val false [.row 3 0 0])), (.R 3 0, .r 0 (some ⟨false, .non, true, 32, (.pair .str (.pair .bool (.sl 3 (.int .i64)))), r⟩))]) = xw_toStoWriteS_0 y0 r := fun r => by first | rfl | (rcases r with r | r <;> rfl) | (rcases r with r | r | r <;> rfl) | (rcases r with r | r | r | r <;> rfl)
    have h3 := (hx (valO (g_Lw_toStoWriteS_0 y0 (y1, y2)))).symm.trans h2
    have e3 := congrArg Prod.fst h3
    have e4 := congrArg Prod.snd h3
    simp only at e3 e4
    rw [← e3, ← e4]
    exact key
  · exact .inl ⟨xt, h1, h2⟩)
noncomputable def g_Aw_toStoWriteS (a0 : List ((ByteArray) × ((Bool) × (List (Int))))) : Bool := decide ((↑(List.length a0) : Int) = (↑(List.length a0) : Int) ∧ (0 : Int) ≤ (↑(List.length a0) : Int) ∧ (↑(List.length a0) : Int) ≤ (9223372036854775807 : Int) ∧ (48 : Int) * (↑(List.length a0) : Int) ≤ (281474976710656 : Int)) && okO (g_Lw_toStoWriteS_0 a0 (List.replicate (Int.toNat (↑(List.length a0) : Int)) (lit [], false, []), (0 : Int)))
noncomputable def g_Vw_toStoWriteS_0 (a0 : List ((ByteArray) × ((Bool) × (List (Int))))) : List ((ByteArray) × ((Bool) × (List (Int)))) := valO (g_Lw_toStoWriteS_0 a0 (List.replicate (Int.toNat (↑(List.length a0) : Int)) (lit [], false, []), (0 : Int)))
noncomputable def Fw_toStoWriteS : FSem := fun ys => match ys with
  | [.val false [.sl .any 29 (.pair .str (.pair .bool (.sl 3 (.int .i64)))) a0]] => some ((g_Aw_toStoWriteS a0), .val false [.own .any true 32 (.pair .str (.pair .bool (.sl 3 (.int .i64)))) (g_Vw_toStoWriteS_0 a0)], [])
  | _ => none
theorem vw_toStoWriteS (a0 : List ((ByteArray) × ((Bool) × (List (Int))))) : collapseH .std Ew_toStoWriteS Ow_toStoWriteS_1 (execFn Ew_toStoWriteS Go.Proofs.Tryd.f93 msw_toStoWriteS [.val false [.sl .any 29 (.pair .str (.pair .bool (.sl 3 (.int .i64)))) a0]]) = some ((g_Aw_toStoWriteS a0), .val false [.own .any true 32 (.pair .str (.pair .bool (.sl 3 (.int .i64)))) (g_Vw_toStoWriteS_0 a0)], []) := by kernel_rfl
theorem sw_toStoWriteS : Sound Go.Proofs.Tryd.prog 93 msw_toStoWriteS Fw_toStoWriteS := by
  refine fn_gen goodw_toStoWriteS (by kernel_rfl) .std (fn := Go.Proofs.Tryd.f93) (c := (Go.Proofs.Tryd.f93.body.getD .skip)) (o := Ow_toStoWriteS_1) (k := 1) (by kernel_rfl) (by kernel_rfl) (by kernel_rfl) (by kernel_rfl) (by decide) kw_toStoWriteS_1 ?_
  intro ys r outs h
  unfold Fw_toStoWriteS at h
  split at h
  · exact (vw_toStoWriteS _).trans h
  · cases h
end Go.Proofs.YtopoiinmhajhmaaDoor.E
end
section
namespace Go.Proofs.YtopoiinmhajhmaaDoor.E
open Go
set_option maxRecDepth 100000
set_option maxHeartbeats 0
set_option linter.all false
noncomputable def Ew_toStringS : Env where
  tt := mkTI Go.Proofs.Tryd.prog
  fn := fun _ => none
  mv := []
  keep := fun b => match b with
    | 0 => [(0, false), (3, false), (4, false)]
    | _ => []
  keepB := fun b => match b with
    | 0 => []
    | _ => []
  keepX := fun b => match b with
    | 0 => [(3, false)]
    | _ => []
  keepXB := fun b => match b with
    | 0 => []
    | _ => []
theorem goodw_toStringS : Good Go.Proofs.Tryd.prog Ew_toStringS := ⟨rfl, fun f ms F h => by cases h⟩
noncomputable def Ow_toStringS_0 : Orc := fun _ _ => none
noncomputable def msw_toStringS : List PM := [.rd]
noncomputable def lsw_toStringS : List (Nat × Code) := loopsAll 0 (Go.Proofs.Tryd.f92.body.getD .skip)
noncomputable def cw_toStringS_0 : Code := (loopOf 0 (Go.Proofs.Tryd.f92.body.getD .skip)).getD .skip
theorem lseqw_toStringS : lsw_toStringS = [(0, cw_toStringS_0)] := by kernel_rfl
theorem mw_toStringS_0 : ∀ p, p ∈ lsw_toStringS → p.1 = 0 → p.2 = cw_toStringS_0 := by
  intro p hp
  rw [lseqw_toStringS] at hp
  simp only [List.mem_cons, List.not_mem_nil, or_false] at hp
  subst hp; simp
theorem kw_toStringS_0 : OrcOk Ew_toStringS Ow_toStringS_0 lsw_toStringS 0 := orcOk_none
noncomputable def hw_toStringS_0 (y0 : List (ByteArray)) (y1 : List (ByteArray)) (y2 : Int) : List (Pl × LV) := [(.T 0, .t (.val false [.sl .any 9 .str y0])), (.T 3, .t (.val false [.row 3 0 0])), (.R 3 0, .r 0 (some ⟨false, .non, true, 9, .str, y1⟩)), (.T 4, .t (.val false [.int .i64 y2]))]
noncomputable def g_Sw_toStringS_0 (y0 : List (ByteArray)) : ((List (ByteArray)) × (Int)) → RT ((List (ByteArray)) × (Int)) (((List (ByteArray))))
  | (y1, y2) => .br (true) (.br (decide (y2 < (↑(List.length y0) : Int))) (.br (decide ((0 : Int) ≤ y2 ∧ y2 < (↑(List.length y0) : Int))) (.br (decide ((0 : Int) ≤ y2 ∧ y2 < (↑(List.length y1) : Int))) (.br (decide (Int.toNat y2 < List.length y1)) (.br (true) (.go ((List.set y1 (Int.toNat y2) (at_ Ty.str y0 (Int.toNat y2)), IntKind.wrap IntKind.i64 (y2 + (1 : Int))))) (.bad)) (.bad)) (.bad)) (.bad)) (.out (y1))) (.bad)
noncomputable def g_Lw_toStringS_0 (y0 : List (ByteArray)) (x : (List (ByteArray)) × (Int)) : Option (((List (ByteArray)))) := loopO (g_Sw_toStringS_0 y0) x
noncomputable def xw_toStringS_0 (y0 : List (ByteArray)) : (((List (ByteArray)))) → Ex × List (Pl × LV) := fun r => (.exit 0, [(.T 3, .t (.val false [.row 3 0 0])), (.R 3 0, .r 0 (some ⟨false, .non, true, 9, .str, r⟩))])
noncomputable def Ow_toStringS_1 : Orc := fun b h => match b, h with
  | 0, [(.T 0, .t (.val false [.sl .any 9 .str y0])), (.T 3, .t (.val false [.row 3 0 0])), (.R 3 0, .r 0 (some ⟨false, .non, true, 9, .str, y1⟩)), (.T 4, .t (.val false [.int .i64 y2]))] => some (okO (g_Lw_toStringS_0 y0 (y1, y2)), (.leaf (.exit 0) [(.T 3, .t (.val false [.row 3 0 0])), (.R 3 0, .r 0 (some ⟨false, .non, true, 9, .str, (valO (g_Lw_toStringS_0 y0 (y1, y2)))⟩))]))
  | b, h => Ow_toStringS_0 b h
theorem bw_toStringS_0 (y0 : List (ByteArray)) (y1 : List (ByteArray)) (y2 : Int) : Tr.bt Ew_toStringS Ow_toStringS_0 (exec Ew_toStringS 0 cw_toStringS_0 (St.of (hw_toStringS_0 y0 y1 y2)) (leafRd Ew_toStringS 0)) = (g_Sw_toStringS_0 y0 (y1, y2)).bt (fun ((y1, y2) : (List (ByteArray)) × (Int)) => (hw_toStringS_0 y0 y1 y2)) (xw_toStringS_0 y0) := by kernel_rfl
theorem kw_toStringS_1 : OrcOk Ew_toStringS Ow_toStringS_1 lsw_toStringS 1 := orc_add kw_toStringS_0 (fun n p hp h ex h' ho => by
  obtain ⟨b, c⟩ := p
  obtain ⟨xt, h1, h2⟩ := ho
  have h1 : Ow_toStringS_1 b h = some (true, xt) := h1
  unfold Ow_toStringS_1 at h1
  split at h1
  · injection h1 with h1
    injection h1 with e1 e2
    subst e2
    have hc : c = cw_toStringS_0 := mw_toStringS_0 _ hp rfl
    subst hc
    right
    rename_i y0 y1 y2
    have key := LT_step kw_toStringS_0 hp (fun q hq => loopsAll_in _ _ _ _ hp hq) (fun ((y1, y2) : (List (ByteArray)) × (Int)) => (hw_toStringS_0 y0 y1 y2)) (xw_toStringS_0 y0) (g_Sw_toStringS_0 y0) (fun x => by first | exact bw_toStringS_0 y0 x.1 x.2) n (x := (y1, y2)) (okO_some e1)
    have hx : ∀ r, XT.sel (.leaf (.exit 0) [(.T 3, .t (.val false [.row 3 0 0])), (.R 3 0, .r 0 (some ⟨false, .non, true, 9, .str, r⟩))]) = xw_toStringS_0 y0 r := fun r => by first | rfl | (rcases r with r | r <;> rfl) | (rcases r with r | r | r <;> rfl) | (rcases r with r | r | r | r <;> rfl)
    have h3 := (hx (valO (g_Lw_toStringS_0 y0 (y1, y2)))).symm.trans h2
    have e3 := congrArg Prod.fst h3
    have e4 := congrArg Prod.snd h3
    simp only at e3 e4
    rw [← e3, ← e4]
    exact key
  · exact .inl ⟨xt, h1, h2⟩)
noncomputable def g_Aw_toStringS (a0 : List (ByteArray)) : Bool := decide ((↑(List.length a0) : Int) = (↑(List.length a0) : Int) ∧ (0 : Int) ≤ (↑(List.length a0) : Int) ∧ (↑(List.length a0) : Int) ≤ (9223372036854775807 : Int) ∧ (16 : Int) * (↑(List.length a0) : Int) ≤ (281474976710656 : Int)) && okO (g_Lw_toStringS_0 a0 (List.replicate (Int.toNat (↑(List.length a0) : Int)) (lit []), (0 : Int)))
noncomputable def g_Vw_toStringS_0 (a0 : List (ByteArray)) : List (ByteArray) := valO (g_Lw_toStringS_0 a0 (List.replicate (Int.toNat (↑(List.length a0) : Int)) (lit []), (0 : Int)))
noncomputable def Fw_toStringS : FSem := fun ys => match ys with
  | [.val false [.sl .any 9 .str a0]] => some ((g_Aw_toStringS a0), .val false [.own .any true 9 .str (g_Vw_toStringS_0 a0)], [])
  | _ => none
theorem vw_toStringS (a0 : List (ByteArray)) : collapseH .std Ew_toStringS Ow_toStringS_1 (execFn Ew_toStringS Go.Proofs.Tryd.f92 msw_toStringS [.val false [.sl .any 9 .str a0]]) = some ((g_Aw_toStringS a0), .val false [.own .any true 9 .str (g_Vw_toStringS_0 a0)], []) := by kernel_rfl
theorem sw_toStringS : Sound Go.Proofs.Tryd.prog 92 msw_toStringS Fw_toStringS := by
  refine fn_gen goodw_toStringS (by kernel_rfl) .std (fn := Go.Proofs.Tryd.f92) (c := (Go.Proofs.Tryd.f92.body.getD .skip)) (o := Ow_toStringS_1) (k := 1) (by kernel_rfl) (by kernel_rfl) (by kernel_rfl) (by kernel_rfl) (by decide) kw_toStringS_1 ?_
  intro ys r outs h
  unfold Fw_toStringS at h
  split at h
  · exact (vw_toStringS _).trans h
  · cases h
end Go.Proofs.YtopoiinmhajhmaaDoor.E
end
section
namespace Go.Proofs.YtopoiinmhajhmaaDoor.E
open Go
set_option maxRecDepth 100000
set_option maxHeartbeats 0
set_option linter.all false
noncomputable def Ew_toLogNote : Env where
  tt := mkTI Go.Proofs.Tryd.prog
  fn := fun f => match f with
    | 92 => some (msw_toStringS, FSem.wk msw_toStringS Fw_toStringS)
    | 93 => some (msw_toStoWriteS, FSem.wk msw_toStoWriteS Fw_toStoWriteS)
    | _ => none
  mv := []
  keep := fun _ => []
  keepB := fun _ => []
  keepX := fun _ => []
  keepXB := fun _ => []
theorem goodw_toLogNote : Good Go.Proofs.Tryd.prog Ew_toLogNote := ⟨rfl, fun f ms F h => by
  unfold Ew_toLogNote at h
  dsimp only at h
  split at h
  · injection h with h; injection h with e1 e2; subst e1 e2; exact Sound.wk sw_toStringS
  · injection h with h; injection h with e1 e2; subst e1 e2; exact Sound.wk sw_toStoWriteS
  · cases h⟩
noncomputable def Ow_toLogNote_0 : Orc := fun _ _ => none
noncomputable def msw_toLogNote : List PM := [.rd]
noncomputable def lsw_toLogNote : List (Nat × Code) := loopsAll 0 (Go.Proofs.Tryd.f53.body.getD .skip)

theorem kw_toLogNote_0 : OrcOk Ew_toLogNote Ow_toLogNote_0 lsw_toLogNote 0 := orcOk_none
noncomputable def g_Aw_toLogNote (a0 : Int) (a1 : Int) (a2 : List (ByteArray)) (a3 : List ((ByteArray) × ((Bool) × (List (Int))))) : Bool := g_Aw_toStringS a2 && g_Aw_toStoWriteS a3
noncomputable def Fw_toLogNote : FSem := fun ys => match ys with
  | [.val true [.int .i64 a0, .int .i64 a1, .sl .any 9 .str a2, .sl .any 29 (.pair .str (.pair .bool (.sl 3 (.int .i64)))) a3]] => some ((g_Aw_toLogNote a0 a1 a2 a3), .val true [.int .i64 a0, .int .i64 a1, .own .any true 9 .str (g_Vw_toStringS_0 a2), .own .any true 32 (.pair .str (.pair .bool (.sl 3 (.int .i64)))) (g_Vw_toStoWriteS_0 a3)], [])
  | _ => none
theorem vw_toLogNote (a0 : Int) (a1 : Int) (a2 : List (ByteArray)) (a3 : List ((ByteArray) × ((Bool) × (List (Int))))) : collapseH .std Ew_toLogNote Ow_toLogNote_0 (execFn Ew_toLogNote Go.Proofs.Tryd.f53 msw_toLogNote [.val true [.int .i64 a0, .int .i64 a1, .sl .any 9 .str a2, .sl .any 29 (.pair .str (.pair .bool (.sl 3 (.int .i64)))) a3]]) = some ((g_Aw_toLogNote a0 a1 a2 a3), .val true [.int .i64 a0, .int .i64 a1, .own .any true 9 .str (g_Vw_toStringS_0 a2), .own .any true 32 (.pair .str (.pair .bool (.sl 3 (.int .i64)))) (g_Vw_toStoWriteS_0 a3)], []) := by kernel_rfl
theorem sw_toLogNote : Sound Go.Proofs.Tryd.prog 53 msw_toLogNote Fw_toLogNote := by
  refine fn_gen goodw_toLogNote (by kernel_rfl) .std (fn := Go.Proofs.Tryd.f53) (c := (Go.Proofs.Tryd.f53.body.getD .skip)) (o := Ow_toLogNote_0) (k := 0) (by kernel_rfl) (by kernel_rfl) (by kernel_rfl) (by kernel_rfl) (by decide) kw_toLogNote_0 ?_
  intro ys r outs h
  unfold Fw_toLogNote at h
  split at h
  · exact (vw_toLogNote _ _ _ _).trans h
  · cases h
end Go.Proofs.YtopoiinmhajhmaaDoor.E
end
section
namespace Go.Proofs.YtopoiinmhajhmaaDoor.E
open Go
set_option maxRecDepth 100000
set_option maxHeartbeats 0
set_option linter.all false
noncomputable def Ew_eqStoWrite : Env where
  tt := mkTI Go.Proofs.Tryd.prog
  fn := fun f => match f with
    | 68 => some (msw_eqIntS, FSem.wk msw_eqIntS Fw_eqIntS)
    | _ => none
  mv := []
  keep := fun _ => []
  keepB := fun _ => []
  keepX := fun _ => []
  keepXB := fun _ => []
theorem goodw_eqStoWrite : Good Go.Proofs.Tryd.prog Ew_eqStoWrite := ⟨rfl, fun f ms F h => by
  unfold Ew_eqStoWrite at h
  dsimp only at h
  split at h
  · injection h with h; injection h with e1 e2; subst e1 e2; exact Sound.wk sw_eqIntS
  · cases h⟩
noncomputable def Ow_eqStoWrite_0 : Orc := fun _ _ => none
noncomputable def msw_eqStoWrite : List PM := [.rd, .rd]
noncomputable def lsw_eqStoWrite : List (Nat × Code) := loopsAll 0 (Go.Proofs.Tryd.f23.body.getD .skip)

theorem kw_eqStoWrite_0 : OrcOk Ew_eqStoWrite Ow_eqStoWrite_0 lsw_eqStoWrite 0 := orcOk_none
noncomputable def g_Aw_eqStoWrite (a0 : ByteArray) (a1 : Bool) (a2 : List (Int)) (a3 : ByteArray) (a4 : Bool) (a5 : List (Int)) : Bool := !ByteArray.toList a0 == ByteArray.toList a3 || (!a1 == a4 || g_Aw_eqIntS a2 a5)
noncomputable def g_Vw_eqStoWrite_0 (a0 : ByteArray) (a1 : Bool) (a2 : List (Int)) (a3 : ByteArray) (a4 : Bool) (a5 : List (Int)) : Bool := bif !ByteArray.toList a0 == ByteArray.toList a3 then false else bif !a1 == a4 then false else bif !g_Vw_eqIntS_0 a2 a5 then false else true
noncomputable def Fw_eqStoWrite : FSem := fun ys => match ys with
  | [.val true [.str a0, .bool a1, .sl .any 3 (.int .i64) a2], .val true [.str a3, .bool a4, .sl .any 3 (.int .i64) a5]] => some ((g_Aw_eqStoWrite a0 a1 a2 a3 a4 a5), .val false [.bool (g_Vw_eqStoWrite_0 a0 a1 a2 a3 a4 a5)], [])
  | _ => none
theorem vw_eqStoWrite (a0 : ByteArray) (a1 : Bool) (a2 : List (Int)) (a3 : ByteArray) (a4 : Bool) (a5 : List (Int)) : collapseH .std Ew_eqStoWrite Ow_eqStoWrite_0 (execFn Ew_eqStoWrite Go.Proofs.Tryd.f23 msw_eqStoWrite [.val true [.str a0, .bool a1, .sl .any 3 (.int .i64) a2], .val true [.str a3, .bool a4, .sl .any 3 (.int .i64) a5]]) = some ((g_Aw_eqStoWrite a0 a1 a2 a3 a4 a5), .val false [.bool (g_Vw_eqStoWrite_0 a0 a1 a2 a3 a4 a5)], []) := by kernel_rfl
theorem sw_eqStoWrite : Sound Go.Proofs.Tryd.prog 23 msw_eqStoWrite Fw_eqStoWrite := by
  refine fn_gen goodw_eqStoWrite (by kernel_rfl) .std (fn := Go.Proofs.Tryd.f23) (c := (Go.Proofs.Tryd.f23.body.getD .skip)) (o := Ow_eqStoWrite_0) (k := 0) (by kernel_rfl) (by kernel_rfl) (by kernel_rfl) (by kernel_rfl) (by decide) kw_eqStoWrite_0 ?_
  intro ys r outs h
  unfold Fw_eqStoWrite at h
  split at h
  · exact (vw_eqStoWrite _ _ _ _ _ _).trans h
  · cases h
end Go.Proofs.YtopoiinmhajhmaaDoor.E
end
section
namespace Go.Proofs.YtopoiinmhajhmaaDoor.E
open Go
set_option maxRecDepth 100000
set_option maxHeartbeats 0
set_option linter.all false
noncomputable def Ew_eqStoWriteS : Env where
  tt := mkTI Go.Proofs.Tryd.prog
  fn := fun f => match f with
    | 23 => some (msw_eqStoWrite, FSem.wk msw_eqStoWrite Fw_eqStoWrite)
    | _ => none
  mv := []
  keep := fun b => match b with
    | 0 => [(0, false), (1, false), (5, false)]
    | _ => []
  keepB := fun b => match b with
    | 0 => []
    | _ => []
  keepX := fun b => match b with
    | 0 => [(4, false)]
    | _ => []
  keepXB := fun b => match b with
    | 0 => []
    | _ => []
theorem goodw_eqStoWriteS : Good Go.Proofs.Tryd.prog Ew_eqStoWriteS := ⟨rfl, fun f ms F h => by
  unfold Ew_eqStoWriteS at h
  dsimp only at h
  split at h
  · injection h with h; injection h with e1 e2; subst e1 e2; exact Sound.wk sw_eqStoWrite
  · cases h⟩
noncomputable def Ow_eqStoWriteS_0 : Orc := fun _ _ => none
noncomputable def msw_eqStoWriteS : List PM := [.rd, .rd]
noncomputable def lsw_eqStoWriteS : List (Nat × Code) := loopsAll 0 (Go.Proofs.Tryd.f95.body.getD .skip)
noncomputable def cw_eqStoWriteS_0 : Code := (loopOf 0 (Go.Proofs.Tryd.f95.body.getD .skip)).getD .skip
theorem lseqw_eqStoWriteS : lsw_eqStoWriteS = [(0, cw_eqStoWriteS_0)] := by kernel_rfl
theorem mw_eqStoWriteS_0 : ∀ p, p ∈ lsw_eqStoWriteS → p.1 = 0 → p.2 = cw_eqStoWriteS_0 := by
  intro p hp
  rw [lseqw_eqStoWriteS] at hp
  simp only [List.mem_cons, List.not_mem_nil, or_false] at hp
  subst hp; simp
theorem kw_eqStoWriteS_0 : OrcOk Ew_eqStoWriteS Ow_eqStoWriteS_0 lsw_eqStoWriteS 0 := orcOk_none
noncomputable def hw_eqStoWriteS_0 (y0 : List ((ByteArray) × ((Bool) × (List (Int))))) (y1 : List ((ByteArray) × ((Bool) × (List (Int))))) (y2 : Int) : List (Pl × LV) := [(.T 0, .t (.val false [.sl .any 32 (.pair .str (.pair .bool (.sl 3 (.int .i64)))) y0])), (.T 1, .t (.val false [.sl .any 32 (.pair .str (.pair .bool (.sl 3 (.int .i64)))) y1])), (.T 5, .t (.val false [.int .i64 y2]))]
noncomputable def g_Sw_eqStoWriteS_0 (y0 : List ((ByteArray) × ((Bool) × (List (Int))))) (y1 : List ((ByteArray) × ((Bool) × (List (Int))))) : ((Int)) → RT ((Int)) (((Bool)) ⊕ (Unit))
  | y2 => .br (true) (.br (decide (y2 < (↑(List.length y0) : Int))) (.br (decide ((0 : Int) ≤ y2 ∧ y2 < (↑(List.length y0) : Int))) (.br (decide ((0 : Int) ≤ y2 ∧ y2 < (↑(List.length y1) : Int))) (.br (g_Aw_eqStoWrite (at_ (Ty.pair Ty.str (Ty.pair Ty.bool (Ty.sl (nat_lit 3) (Ty.int IntKind.i64)))) y0 (Int.toNat y2)).1 (at_ (Ty.pair Ty.str (Ty.pair Ty.bool (Ty.sl (nat_lit 3) (Ty.int IntKind.i64)))) y0 (Int.toNat y2)).2.1 (at_ (Ty.pair Ty.str (Ty.pair Ty.bool (Ty.sl (nat_lit 3) (Ty.int IntKind.i64)))) y0 (Int.toNat y2)).2.2 (at_ (Ty.pair Ty.str (Ty.pair Ty.bool (Ty.sl (nat_lit 3) (Ty.int IntKind.i64)))) y1 (Int.toNat y2)).1 (at_ (Ty.pair Ty.str (Ty.pair Ty.bool (Ty.sl (nat_lit 3) (Ty.int IntKind.i64)))) y1 (Int.toNat y2)).2.1 (at_ (Ty.pair Ty.str (Ty.pair Ty.bool (Ty.sl (nat_lit 3) (Ty.int IntKind.i64)))) y1 (Int.toNat y2)).2.2) (.br (!g_Vw_eqStoWrite_0 (at_ (Ty.pair Ty.str (Ty.pair Ty.bool (Ty.sl (nat_lit 3) (Ty.int IntKind.i64)))) y0 (Int.toNat y2)).1 (at_ (Ty.pair Ty.str (Ty.pair Ty.bool (Ty.sl (nat_lit 3) (Ty.int IntKind.i64)))) y0 (Int.toNat y2)).2.1 (at_ (Ty.pair Ty.str (Ty.pair Ty.bool (Ty.sl (nat_lit 3) (Ty.int IntKind.i64)))) y0 (Int.toNat y2)).2.2 (at_ (Ty.pair Ty.str (Ty.pair Ty.bool (Ty.sl (nat_lit 3) (Ty.int IntKind.i64)))) y1 (Int.toNat y2)).1 (at_ (Ty.pair Ty.str (Ty.pair Ty.bool (Ty.sl (nat_lit 3) (Ty.int IntKind.i64)))) y1 (Int.toNat y2)).2.1 (at_ (Ty.pair Ty.str (Ty.pair Ty.bool (Ty.sl (nat_lit 3) (Ty.int IntKind.i64)))) y1 (Int.toNat y2)).2.2) (.out (.inl false)) (.br (true) (.go (IntKind.wrap IntKind.i64 (y2 + (1 : Int)))) (.bad))) (.bad)) (.bad)) (.bad)) (.out (.inr (())))) (.bad)
noncomputable def g_Lw_eqStoWriteS_0 (y0 : List ((ByteArray) × ((Bool) × (List (Int))))) (y1 : List ((ByteArray) × ((Bool) × (List (Int))))) (x : (Int)) : Option (((Bool)) ⊕ (Unit)) := loopO (g_Sw_eqStoWriteS_0 y0 y1) x
noncomputable def xw_eqStoWriteS_0 (y0 : List ((ByteArray) × ((Bool) × (List (Int))))) (y1 : List ((ByteArray) × ((Bool) × (List (Int))))) : (((Bool)) ⊕ (Unit)) → Ex × List (Pl × LV) := fun
  | .inl r => (.ret, [(.T 4, .t (.val false [.bool r]))])
  | .inr (r) => (.exit 0, [(.T 4, .t (.val false [.undef]))])
noncomputable def Ow_eqStoWriteS_1 : Orc := fun b h => match b, h with
  | 0, [(.T 0, .t (.val false [.sl .any 32 (.pair .str (.pair .bool (.sl 3 (.int .i64)))) y0])), (.T 1, .t (.val false [.sl .any 32 (.pair .str (.pair .bool (.sl 3 (.int .i64)))) y1])), (.T 5, .t (.val false [.int .i64 y2]))] => some (okO (g_Lw_eqStoWriteS_0 y0 y1 y2), (.br (isL (valO (g_Lw_eqStoWriteS_0 y0 y1 y2))) (.leaf .ret [(.T 4, .t (.val false [.bool (getL (valO (g_Lw_eqStoWriteS_0 y0 y1 y2)))]))]) (.leaf (.exit 0) [(.T 4, .t (.val false [.undef]))])))
  | b, h => Ow_eqStoWriteS_0 b h
theorem bw_eqStoWriteS_0 (y0 : List ((ByteArray) × ((Bool) × (List (Int))))) (y1 : List ((ByteArray) × ((Bool) × (List (Int))))) (y2 : Int) : Tr.bt Ew_eqStoWriteS Ow_eqStoWriteS_0 (exec Ew_eqStoWriteS 0 cw_eqStoWriteS_0 (St.of (hw_eqStoWriteS_0 y0 y1 y2)) (leafRd Ew_eqStoWriteS 0)) = (g_Sw_eqStoWriteS_0 y0 y1 y2).bt (fun (y2 : (Int)) => (hw_eqStoWriteS_0 y0 y1 y2)) (xw_eqStoWriteS_0 y0 y1) := by kernel_rfl
theorem kw_eqStoWriteS_1 : OrcOk Ew_eqStoWriteS Ow_eqStoWriteS_1 lsw_eqStoWriteS 1 := orc_add kw_eqStoWriteS_0 (fun n p hp h ex h' ho => by
  obtain ⟨b, c⟩ := p
  obtain ⟨xt, h1, h2⟩ := ho
  have h1 : Ow_eqStoWriteS_1 b h = some (true, xt) := h1
  unfold Ow_eqStoWriteS_1 at h1
  split at h1
  · injection h1 with h1
    injection h1 with e1 e2
    subst e2
    have hc : c = cw_eqStoWriteS_0 := mw_eqStoWriteS_0 _ hp rfl
    subst hc
    right
    rename_i y0 y1 y2
    have key := LT_step kw_eqStoWriteS_0 hp (fun q hq => loopsAll_in _ _ _ _ hp hq) (fun (y2 : (Int)) => (hw_eqStoWriteS_0 y0 y1 y2)) (xw_eqStoWriteS_0 y0 y1) (g_Sw_eqStoWriteS_0 y0 y1) (fun x => by first | exact bw_eqStoWriteS_0 y0 y1 x) n (x := y2) (okO_some e1)
    have hx : ∀ r, XT.sel (.br (isL r) (.leaf .ret [(.T 4, .t (.val false [.bool (getL r)]))]) (.leaf (.exit 0) [(.T 4, .t (.val false [.undef]))])) = xw_eqStoWriteS_0 y0 y1 r := fun r => by first | rfl | (rcases r with r | r <;> rfl) | (rcases r with r | r | r <;> rfl) | (rcases r with r | r | r | r <;> rfl)
    have h3 := (hx (valO (g_Lw_eqStoWriteS_0 y0 y1 y2))).symm.trans h2
    have e3 := congrArg Prod.fst h3
    have e4 := congrArg Prod.snd h3
    simp only at e3 e4
    rw [← e3, ← e4]
    exact key
  · exact .inl ⟨xt, h1, h2⟩)
noncomputable def g_Aw_eqStoWriteS (a0 : List ((ByteArray) × ((Bool) × (List (Int))))) (a1 : List ((ByteArray) × ((Bool) × (List (Int))))) : Bool := (↑(List.length a0) : Int) != (↑(List.length a1) : Int) || okO (g_Lw_eqStoWriteS_0 a0 a1 (0 : Int))
noncomputable def g_Vw_eqStoWriteS_0 (a0 : List ((ByteArray) × ((Bool) × (List (Int))))) (a1 : List ((ByteArray) × ((Bool) × (List (Int))))) : Bool := bif (↑(List.length a0) : Int) != (↑(List.length a1) : Int) then false else bif isL (valO (g_Lw_eqStoWriteS_0 a0 a1 (0 : Int))) then getL (valO (g_Lw_eqStoWriteS_0 a0 a1 (0 : Int))) else true
noncomputable def Fw_eqStoWriteS : FSem := fun ys => match ys with
  | [.val false [.sl .any 32 (.pair .str (.pair .bool (.sl 3 (.int .i64)))) a0], .val false [.sl .any 32 (.pair .str (.pair .bool (.sl 3 (.int .i64)))) a1]] => some ((g_Aw_eqStoWriteS a0 a1), .val false [.bool (g_Vw_eqStoWriteS_0 a0 a1)], [])
  | _ => none
theorem vw_eqStoWriteS (a0 : List ((ByteArray) × ((Bool) × (List (Int))))) (a1 : List ((ByteArray) × ((Bool) × (List (Int))))) : collapseH .std Ew_eqStoWriteS Ow_eqStoWriteS_1 (execFn Ew_eqStoWriteS Go.Proofs.Tryd.f95 msw_eqStoWriteS [.val false [.sl .any 32 (.pair .str (.pair .bool (.sl 3 (.int .i64)))) a0], .val false [.sl .any 32 (.pair .str (.pair .bool (.sl 3 (.int .i64)))) a1]]) = some ((g_Aw_eqStoWriteS a0 a1), .val false [.bool (g_Vw_eqStoWriteS_0 a0 a1)], []) := by kernel_rfl
theorem sw_eqStoWriteS : Sound Go.Proofs.Tryd.prog 95 msw_eqStoWriteS Fw_eqStoWriteS := by
  refine fn_gen goodw_eqStoWriteS (by kernel_rfl) .std (fn := Go.Proofs.Tryd.f95) (c := (Go.Proofs.Tryd.f95.body.getD .skip)) (o := Ow_eqStoWriteS_1) (k := 1) (by kernel_rfl) (by kernel_rfl) (by kernel_rfl) (by kernel_rfl) (by decide) kw_eqStoWriteS_1 ?_
  intro ys r outs h
  unfold Fw_eqStoWriteS at h
  split at h
  · exact (vw_eqStoWriteS _ _).trans h
  · cases h
end Go.Proofs.YtopoiinmhajhmaaDoor.E
end
section
namespace Go.Proofs.YtopoiinmhajhmaaDoor.E
open Go
set_option maxRecDepth 100000
set_option maxHeartbeats 0
set_option linter.all false
noncomputable def Ew_eqStringS : Env where
  tt := mkTI Go.Proofs.Tryd.prog
  fn := fun _ => none
  mv := []
  keep := fun b => match b with
    | 0 => [(0, false), (1, false), (5, false)]
    | _ => []
  keepB := fun b => match b with
    | 0 => []
    | _ => []
  keepX := fun b => match b with
    | 0 => [(4, false)]
    | _ => []
  keepXB := fun b => match b with
    | 0 => []
    | _ => []
theorem goodw_eqStringS : Good Go.Proofs.Tryd.prog Ew_eqStringS := ⟨rfl, fun f ms F h => by cases h⟩
noncomputable def Ow_eqStringS_0 : Orc := fun _ _ => none
noncomputable def msw_eqStringS : List PM := [.rd, .rd]
noncomputable def lsw_eqStringS : List (Nat × Code) := loopsAll 0 (Go.Proofs.Tryd.f94.body.getD .skip)
noncomputable def cw_eqStringS_0 : Code := (loopOf 0 (Go.Proofs.Tryd.f94.body.getD .skip)).getD .skip
theorem lseqw_eqStringS : lsw_eqStringS = [(0, cw_eqStringS_0)] := by kernel_rfl
theorem mw_eqStringS_0 : ∀ p, p ∈ lsw_eqStringS → p.1 = 0 → p.2 = cw_eqStringS_0 := by
  intro p hp
  rw [lseqw_eqStringS] at hp
  simp only [List.mem_cons, List.not_mem_nil, or_false] at hp
  subst hp; simp
theorem kw_eqStringS_0 : OrcOk Ew_eqStringS Ow_eqStringS_0 lsw_eqStringS 0 := orcOk_none
noncomputable def hw_eqStringS_0 (y0 : List (ByteArray)) (y1 : List (ByteArray)) (y2 : Int) : List (Pl × LV) := [(.T 0, .t (.val false [.sl .any 9 .str y0])), (.T 1, .t (.val false [.sl .any 9 .str y1])), (.T 5, .t (.val false [.int .i64 y2]))]
noncomputable def g_Sw_eqStringS_0 (y0 : List (ByteArray)) (y1 : List (ByteArray)) : ((Int)) → RT ((Int)) (((Bool)) ⊕ (Unit))
  | y2 => .br (true) (.br (decide (y2 < (↑(List.length y0) : Int))) (.br (decide ((0 : Int) ≤ y2 ∧ y2 < (↑(List.length y0) : Int))) (.br (decide ((0 : Int) ≤ y2 ∧ y2 < (↑(List.length y1) : Int))) (.br (true) (.br (!ByteArray.toList (at_ Ty.str y0 (Int.toNat y2)) == ByteArray.toList (at_ Ty.str y1 (Int.toNat y2))) (.out (.inl false)) (.br (true) (.go (IntKind.wrap IntKind.i64 (y2 + (1 : Int)))) (.bad))) (.bad)) (.bad)) (.bad)) (.out (.inr (())))) (.bad)
noncomputable def g_Lw_eqStringS_0 (y0 : List (ByteArray)) (y1 : List (ByteArray)) (x : (Int)) : Option (((Bool)) ⊕ (Unit)) := loopO (g_Sw_eqStringS_0 y0 y1) x
noncomputable def xw_eqStringS_0 (y0 : List (ByteArray)) (y1 : List (ByteArray)) : (((Bool)) ⊕ (Unit)) → Ex × List (Pl × LV) := fun
  | .inl r => (.ret, [(.T 4, .t (.val false [.bool r]))])
  | .inr (r) => (.exit 0, [(.T 4, .t (.val false [.undef]))])
noncomputable def Ow_eqStringS_1 : Orc := fun b h => match b, h with
  | 0, [(.T 0, .t (.val false [.sl .any 9 .str y0])), (.T 1, .t (.val false [.sl .any 9 .str y1])), (.T 5, .t (.val false [.int .i64 y2]))] => some (okO (g_Lw_eqStringS_0 y0 y1 y2), (.br (isL (valO (g_Lw_eqStringS_0 y0 y1 y2))) (.leaf .ret [(.T 4, .t (.val false [.bool (getL (valO (g_Lw_eqStringS_0 y0 y1 y2)))]))]) (.leaf (.exit 0) [(.T 4, .t (.val false [.undef]))])))
  | b, h => Ow_eqStringS_0 b h
theorem bw_eqStringS_0 (y0 : List (ByteArray)) (y1 : List (ByteArray)) (y2 : Int) : Tr.bt Ew_eqStringS Ow_eqStringS_0 (exec Ew_eqStringS 0 cw_eqStringS_0 (St.of (hw_eqStringS_0 y0 y1 y2)) (leafRd Ew_eqStringS 0)) = (g_Sw_eqStringS_0 y0 y1 y2).bt (fun (y2 : (Int)) => (hw_eqStringS_0 y0 y1 y2)) (xw_eqStringS_0 y0 y1) := by kernel_rfl
theorem kw_eqStringS_1 : OrcOk Ew_eqStringS Ow_eqStringS_1 lsw_eqStringS 1 := orc_add kw_eqStringS_0 (fun n p hp h ex h' ho => by
  obtain ⟨b, c⟩ := p
  obtain ⟨xt, h1, h2⟩ := ho
  have h1 : Ow_eqStringS_1 b h = some (true, xt) := h1
  unfold Ow_eqStringS_1 at h1
  split at h1
  · injection h1 with h1
    injection h1 with e1 e2
    subst e2
    have hc : c = cw_eqStringS_0 := mw_eqStringS_0 _ hp rfl
    subst hc
    right
    rename_i y0 y1 y2
    have key := LT_step kw_eqStringS_0 hp (fun q hq => loopsAll_in _ _ _ _ hp hq) (fun (y2 : (Int)) => (hw_eqStringS_0 y0 y1 y2)) (xw_eqStringS_0 y0 y1) (g_Sw_eqStringS_0 y0 y1) (fun x => by first | exact bw_eqStringS_0 y0 y1 x) n (x := y2) (okO_some e1)
    have hx : ∀ r, XT.sel (.br (isL r) (.leaf .ret [(.T 4, .t (.val false [.bool (getL r)]))]) (.leaf (.exit 0) [(.T 4, .t (.val false [.undef]))])) = xw_eqStringS_0 y0 y1 r := fun r => by first | rfl | (rcases r with r | r <;> rfl) | (rcases r with r | r | r <;> rfl) | (rcases r with r | r | r | r <;> rfl)
    have h3 := (hx (valO (g_Lw_eqStringS_0 y0 y1 y2))).symm.trans h2
    have e3 := congrArg Prod.fst h3
    have e4 := congrArg Prod.snd h3
    simp only at e3 e4
    rw [← e3, ← e4]
    exact key
  · exact .inl ⟨xt, h1, h2⟩)
noncomputable def g_Aw_eqStringS (a0 : List (ByteArray)) (a1 : List (ByteArray)) : Bool := (↑(List.length a0) : Int) != (↑(List.length a1) : Int) || okO (g_Lw_eqStringS_0 a0 a1 (0 : Int))
noncomputable def g_Vw_eqStringS_0 (a0 : List (ByteArray)) (a1 : List (ByteArray)) : Bool := bif (↑(List.length a0) : Int) != (↑(List.length a1) : Int) then false else bif isL (valO (g_Lw_eqStringS_0 a0 a1 (0 : Int))) then getL (valO (g_Lw_eqStringS_0 a0 a1 (0 : Int))) else true
noncomputable def Fw_eqStringS : FSem := fun ys => match ys with
  | [.val false [.sl .any 9 .str a0], .val false [.sl .any 9 .str a1]] => some ((g_Aw_eqStringS a0 a1), .val false [.bool (g_Vw_eqStringS_0 a0 a1)], [])
  | _ => none
theorem vw_eqStringS (a0 : List (ByteArray)) (a1 : List (ByteArray)) : collapseH .std Ew_eqStringS Ow_eqStringS_1 (execFn Ew_eqStringS Go.Proofs.Tryd.f94 msw_eqStringS [.val false [.sl .any 9 .str a0], .val false [.sl .any 9 .str a1]]) = some ((g_Aw_eqStringS a0 a1), .val false [.bool (g_Vw_eqStringS_0 a0 a1)], []) := by kernel_rfl
theorem sw_eqStringS : Sound Go.Proofs.Tryd.prog 94 msw_eqStringS Fw_eqStringS := by
  refine fn_gen goodw_eqStringS (by kernel_rfl) .std (fn := Go.Proofs.Tryd.f94) (c := (Go.Proofs.Tryd.f94.body.getD .skip)) (o := Ow_eqStringS_1) (k := 1) (by kernel_rfl) (by kernel_rfl) (by kernel_rfl) (by kernel_rfl) (by decide) kw_eqStringS_1 ?_
  intro ys r outs h
  unfold Fw_eqStringS at h
  split at h
  · exact (vw_eqStringS _ _).trans h
  · cases h
end Go.Proofs.YtopoiinmhajhmaaDoor.E
end
section
namespace Go.Proofs.YtopoiinmhajhmaaDoor.E
open Go
set_option maxRecDepth 100000
set_option maxHeartbeats 0
set_option linter.all false
noncomputable def Ew_eqLogNote : Env where
  tt := mkTI Go.Proofs.Tryd.prog
  fn := fun f => match f with
    | 94 => some (msw_eqStringS, FSem.wk msw_eqStringS Fw_eqStringS)
    | 95 => some (msw_eqStoWriteS, FSem.wk msw_eqStoWriteS Fw_eqStoWriteS)
    | _ => none
  mv := []
  keep := fun _ => []
  keepB := fun _ => []
  keepX := fun _ => []
  keepXB := fun _ => []
theorem goodw_eqLogNote : Good Go.Proofs.Tryd.prog Ew_eqLogNote := ⟨rfl, fun f ms F h => by
  unfold Ew_eqLogNote at h
  dsimp only at h
  split at h
  · injection h with h; injection h with e1 e2; subst e1 e2; exact Sound.wk sw_eqStringS
  · injection h with h; injection h with e1 e2; subst e1 e2; exact Sound.wk sw_eqStoWriteS
  · cases h⟩
noncomputable def Ow_eqLogNote_0 : Orc := fun _ _ => none
noncomputable def msw_eqLogNote : List PM := [.rd, .rd]
noncomputable def lsw_eqLogNote : List (Nat × Code) := loopsAll 0 (Go.Proofs.Tryd.f54.body.getD .skip)

theorem kw_eqLogNote_0 : OrcOk Ew_eqLogNote Ow_eqLogNote_0 lsw_eqLogNote 0 := orcOk_none
noncomputable def g_Aw_eqLogNote (a0 : Int) (a1 : Int) (a2 : List (ByteArray)) (a3 : List ((ByteArray) × ((Bool) × (List (Int))))) (a4 : Int) (a5 : Int) (a6 : List (ByteArray)) (a7 : List ((ByteArray) × ((Bool) × (List (Int))))) : Bool := a0 != a4 || (a1 != a5 || g_Aw_eqStringS a2 a6 && (!g_Vw_eqStringS_0 a2 a6 || g_Aw_eqStoWriteS a3 a7))
noncomputable def g_Vw_eqLogNote_0 (a0 : Int) (a1 : Int) (a2 : List (ByteArray)) (a3 : List ((ByteArray) × ((Bool) × (List (Int))))) (a4 : Int) (a5 : Int) (a6 : List (ByteArray)) (a7 : List ((ByteArray) × ((Bool) × (List (Int))))) : Bool := bif a0 != a4 then false else bif a1 != a5 then false else bif !g_Vw_eqStringS_0 a2 a6 then false else bif !g_Vw_eqStoWriteS_0 a3 a7 then false else true
noncomputable def Fw_eqLogNote : FSem := fun ys => match ys with
  | [.val true [.int .i64 a0, .int .i64 a1, .sl .any 9 .str a2, .sl .any 32 (.pair .str (.pair .bool (.sl 3 (.int .i64)))) a3], .val true [.int .i64 a4, .int .i64 a5, .sl .any 9 .str a6, .sl .any 32 (.pair .str (.pair .bool (.sl 3 (.int .i64)))) a7]] => some ((g_Aw_eqLogNote a0 a1 a2 a3 a4 a5 a6 a7), .val false [.bool (g_Vw_eqLogNote_0 a0 a1 a2 a3 a4 a5 a6 a7)], [])
  | _ => none
theorem vw_eqLogNote (a0 : Int) (a1 : Int) (a2 : List (ByteArray)) (a3 : List ((ByteArray) × ((Bool) × (List (Int))))) (a4 : Int) (a5 : Int) (a6 : List (ByteArray)) (a7 : List ((ByteArray) × ((Bool) × (List (Int))))) : collapseH .std Ew_eqLogNote Ow_eqLogNote_0 (execFn Ew_eqLogNote Go.Proofs.Tryd.f54 msw_eqLogNote [.val true [.int .i64 a0, .int .i64 a1, .sl .any 9 .str a2, .sl .any 32 (.pair .str (.pair .bool (.sl 3 (.int .i64)))) a3], .val true [.int .i64 a4, .int .i64 a5, .sl .any 9 .str a6, .sl .any 32 (.pair .str (.pair .bool (.sl 3 (.int .i64)))) a7]]) = some ((g_Aw_eqLogNote a0 a1 a2 a3 a4 a5 a6 a7), .val false [.bool (g_Vw_eqLogNote_0 a0 a1 a2 a3 a4 a5 a6 a7)], []) := by kernel_rfl
theorem sw_eqLogNote : Sound Go.Proofs.Tryd.prog 54 msw_eqLogNote Fw_eqLogNote := by
  refine fn_gen goodw_eqLogNote (by kernel_rfl) .std (fn := Go.Proofs.Tryd.f54) (c := (Go.Proofs.Tryd.f54.body.getD .skip)) (o := Ow_eqLogNote_0) (k := 0) (by kernel_rfl) (by kernel_rfl) (by kernel_rfl) (by kernel_rfl) (by decide) kw_eqLogNote_0 ?_
  intro ys r outs h
  unfold Fw_eqLogNote at h
  split at h
  · exact (vw_eqLogNote _ _ _ _ _ _ _ _).trans h
  · cases h
end Go.Proofs.YtopoiinmhajhmaaDoor.E
end
