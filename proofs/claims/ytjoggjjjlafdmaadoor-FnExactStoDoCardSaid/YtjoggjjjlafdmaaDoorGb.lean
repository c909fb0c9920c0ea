/- What the functions that are reached do, by the engine: for the proof (laws.FnExactStoDo): part 2. No conditions. -/
import Derived.Test.YtjoggjjjlafdmaaDoorGa
import Derived.Test.YtjoggjjjlafdmaaDoorProg
set_option linter.all false
section
namespace Go.Proofs.YtjoggjjjlafdmaaDoor.E
open Go
set_option maxRecDepth 100000
set_option maxHeartbeats 0
set_option linter.all false
noncomputable def Ew_heldStoItemS : Env where
  tt := mkTI Go.Proofs.Tryd.prog
  fn := fun f => match f with
    | 55 => some (msw_markText, FSem.wk msw_markText Fw_markText)
    | 83 => some (msw_heldIntS, FSem.wk msw_heldIntS Fw_heldIntS)
    | _ => none
  bxf := fun _ => none
  mv := []
  keep := fun b => match b with
    | 0 => [(0, false), (1, false), (5, false)]
    | _ => []
  keepB := fun b => match b with
    | 0 => []
    | _ => []
  keepX := fun b => match b with
    | 0 => [(1, false), (4, false)]
    | _ => []
  keepXB := fun b => match b with
    | 0 => []
    | _ => []
theorem goodFw_heldStoItemS : ∀ f ms F, Ew_heldStoItemS.fn f = some (ms, F) → Sound Go.Proofs.Tryd.prog f ms F := fun f ms F h => by
  unfold Ew_heldStoItemS at h
  dsimp only at h
  split at h
  · injection h with h; injection h with e1 e2; subst e1 e2; exact Sound.wk sw_markText
  · injection h with h; injection h with e1 e2; subst e1 e2; exact Sound.wk sw_heldIntS
  · cases h
theorem goodBw_heldStoItemS : ∀ f ms F, Ew_heldStoItemS.bxf f = some (ms, F) → SoundB Go.Proofs.Tryd.prog f ms F := fun f ms F h => by cases h
theorem goodw_heldStoItemS : Good Go.Proofs.Tryd.prog Ew_heldStoItemS := ⟨rfl, goodFw_heldStoItemS, goodBw_heldStoItemS⟩
noncomputable def Ow_heldStoItemS_0 : Orc := fun _ _ => none
noncomputable def msw_heldStoItemS : List PM := [.rd, .own]
noncomputable def lsw_heldStoItemS : List (Nat × Code) := loopsAll 0 (Go.Proofs.Tryd.f57.body.getD .skip)
noncomputable def cw_heldStoItemS_0 : Code := (loopOf 0 (Go.Proofs.Tryd.f57.body.getD .skip)).getD .skip
theorem lseqw_heldStoItemS : lsw_heldStoItemS = [(0, cw_heldStoItemS_0)] := by kernel_rfl
theorem mw_heldStoItemS_0 : ∀ p, p ∈ lsw_heldStoItemS → p.1 = 0 → p.2 = cw_heldStoItemS_0 := by
  intro p hp
  rw [lseqw_heldStoItemS] at hp
  simp only [List.mem_cons, List.not_mem_nil, or_false] at hp
  subst hp; simp
theorem kw_heldStoItemS_0 : OrcOk Ew_heldStoItemS Ow_heldStoItemS_0 lsw_heldStoItemS 0 := orcOk_none
noncomputable def hw_heldStoItemS_0 (y0 : List ((ByteArray) × (List (Int)))) (y1 : Int) (y2 : Int) : List (Pl × LV) := [(.T 0, .t (.val false [.sl .any 41 (.pair .str (.sl 3 (.int .i64))) y0])), (.T 1, .t (.val false [.int .i64 y1])), (.T 5, .t (.val false [.int .i64 y2]))]
noncomputable def g_Sw_heldStoItemS_0 (y0 : List ((ByteArray) × (List (Int)))) : ((Int) × (Int)) → RT ((Int) × (Int)) (((Int) × (Int)) ⊕ ((Int)))
  | (y1, y2) => .br (true) (.br (decide (y2 < (↑(List.length y0) : Int))) (.br (decide ((0 : Int) ≤ y2 ∧ y2 < (↑(List.length y0) : Int))) (.br (g_Aw_markText y1) (.br (true) (.br (!ByteArray.toList (at_ (Ty.pair Ty.str (Ty.sl (nat_lit 3) (Ty.int IntKind.i64))) y0 (Int.toNat y2)).1 == ByteArray.toList (g_Vw_markText_0 y1)) (.out (.inl ((y1, (-1 : Int))))) (.br (true) (.br (decide ((0 : Int) ≤ y2 ∧ y2 < (↑(List.length y0) : Int))) (.br (g_Aw_heldIntS (at_ (Ty.pair Ty.str (Ty.sl (nat_lit 3) (Ty.int IntKind.i64))) y0 (Int.toNat y2)).2 (IntKind.wrap IntKind.i64 (y1 + (1 : Int)))) (.br (true) (.br (decide (g_Vw_heldIntS_0 (at_ (Ty.pair Ty.str (Ty.sl (nat_lit 3) (Ty.int IntKind.i64))) y0 (Int.toNat y2)).2 (IntKind.wrap IntKind.i64 (y1 + (1 : Int))) < (0 : Int))) (.out (.inl ((g_Vw_heldIntS_0 (at_ (Ty.pair Ty.str (Ty.sl (nat_lit 3) (Ty.int IntKind.i64))) y0 (Int.toNat y2)).2 (IntKind.wrap IntKind.i64 (y1 + (1 : Int))), (-1 : Int))))) (.br (true) (.go ((g_Vw_heldIntS_0 (at_ (Ty.pair Ty.str (Ty.sl (nat_lit 3) (Ty.int IntKind.i64))) y0 (Int.toNat y2)).2 (IntKind.wrap IntKind.i64 (y1 + (1 : Int))), IntKind.wrap IntKind.i64 (y2 + (1 : Int))))) (.bad))) (.bad)) (.bad)) (.bad)) (.bad))) (.bad)) (.bad)) (.bad)) (.out (.inr (y1)))) (.bad)
noncomputable def g_Lw_heldStoItemS_0 (y0 : List ((ByteArray) × (List (Int)))) (x : (Int) × (Int)) : Option (((Int) × (Int)) ⊕ ((Int))) := loopO (g_Sw_heldStoItemS_0 y0) x
noncomputable def xw_heldStoItemS_0 (y0 : List ((ByteArray) × (List (Int)))) : (((Int) × (Int)) ⊕ ((Int))) → Ex × List (Pl × LV) := fun
  | .inl r => (.ret, [(.T 1, .t (.val false [.int .i64 r.1])), (.T 4, .t (.val false [.int .i64 r.2]))])
  | .inr (r) => (.exit 0, [(.T 1, .t (.val false [.int .i64 r])), (.T 4, .t (.val false [.undef]))])
noncomputable def Ow_heldStoItemS_1 : Orc := fun b h => match b, h with
  | 0, [(.T 0, .t (.val false [.sl .any 41 (.pair .str (.sl 3 (.int .i64))) y0])), (.T 1, .t (.val false [.int .i64 y1])), (.T 5, .t (.val false [.int .i64 y2]))] => some (okO (g_Lw_heldStoItemS_0 y0 (y1, y2)), (.br (isL (valO (g_Lw_heldStoItemS_0 y0 (y1, y2)))) (.leaf .ret [(.T 1, .t (.val false [.int .i64 (getL (valO (g_Lw_heldStoItemS_0 y0 (y1, y2)))).1])), (.T 4, .t (.val false [.int .i64 (getL (valO (g_Lw_heldStoItemS_0 y0 (y1, y2)))).2]))]) (.leaf (.exit 0) [(.T 1, .t (.val false [.int .i64 (getR (valO (g_Lw_heldStoItemS_0 y0 (y1, y2))))])), (.T 4, .t (.val false [.undef]))])))
  | b, h => Ow_heldStoItemS_0 b h
theorem bw_heldStoItemS_0 (y0 : List ((ByteArray) × (List (Int)))) (y1 : Int) (y2 : Int) : Tr.bt Ew_heldStoItemS Ow_heldStoItemS_0 (exec Ew_heldStoItemS 0 cw_heldStoItemS_0 (St.of (hw_heldStoItemS_0 y0 y1 y2)) (leafRd Ew_heldStoItemS 0)) = (g_Sw_heldStoItemS_0 y0 (y1, y2)).bt (fun ((y1, y2) : (Int) × (Int)) => (hw_heldStoItemS_0 y0 y1 y2)) (xw_heldStoItemS_0 y0) := by kernel_rfl
theorem kw_heldStoItemS_1 : OrcOk Ew_heldStoItemS Ow_heldStoItemS_1 lsw_heldStoItemS 1 := orc_add kw_heldStoItemS_0 (fun n p hp h ex h' ho => by
  obtain ⟨b, c⟩ := p
  obtain ⟨xt, h1, h2⟩ := ho
  have h1 : Ow_heldStoItemS_1 b h = some (true, xt) := h1
  unfold Ow_heldStoItemS_1 at h1
  split at h1
  · injection h1 with h1
    injection h1 with e1 e2
    subst e2
    have hc : c = cw_heldStoItemS_0 := mw_heldStoItemS_0 _ hp rfl
    subst hc
    right
    rename_i y0 y1 y2
    have key := LT_step kw_heldStoItemS_0 hp (fun q hq => loopsAll_in _ _ _ _ hp hq) (fun ((y1, y2) : (Int) × (Int)) => (hw_heldStoItemS_0 y0 y1 y2)) (xw_heldStoItemS_0 y0) (g_Sw_heldStoItemS_0 y0) (fun x => by first | exact bw_heldStoItemS_0 y0 x.1 x.2) n (x := (y1, y2)) (okO_some e1)
    have hx : ∀ r, XT.sel (.br (isL r) (.leaf .ret [(.T 1, .t (.val false [.int .i64 (getL r).1])), (.T 4, .t (.val false [.int .i64 (getL r).2]))]) (.leaf (.exit 0) [(.T 1, .t (.val false [.int .i64 (getR r)])), (.T 4, .t (.val false [.undef]))])) = xw_heldStoItemS_0 y0 r := fun r => by first | rfl | (rcases r with r | r <;> rfl) | (rcases r with r | r | r <;> rfl) | (rcases r with r | r | r | r <;> rfl)
    have h3 := (hx (valO (g_Lw_heldStoItemS_0 y0 (y1, y2)))).symm.trans h2
    have e3 := congrArg Prod.fst h3
    have e4 := congrArg Prod.snd h3
    simp only at e3 e4
    rw [← e3, ← e4]
    exact key
  · exact .inl ⟨xt, h1, h2⟩)
noncomputable def g_Aw_heldStoItemS (a0 : List ((ByteArray) × (List (Int)))) (a1 : Int) : Bool := okO (g_Lw_heldStoItemS_0 a0 (a1, (0 : Int)))
noncomputable def g_Vw_heldStoItemS_0 (a0 : List ((ByteArray) × (List (Int)))) (a1 : Int) : Int := bif isL (valO (g_Lw_heldStoItemS_0 a0 (a1, (0 : Int)))) then (getL (valO (g_Lw_heldStoItemS_0 a0 (a1, (0 : Int))))).2 else getR (valO (g_Lw_heldStoItemS_0 a0 (a1, (0 : Int))))
noncomputable def Fw_heldStoItemS : FSem := fun ys => match ys with
  | [.val false [.sl .any 41 (.pair .str (.sl 3 (.int .i64))) a0], .val false [.int .i64 a1]] => some ((g_Aw_heldStoItemS a0 a1), .val false [.int .i64 (g_Vw_heldStoItemS_0 a0 a1)], [])
  | _ => none
theorem vw_heldStoItemS (a0 : List ((ByteArray) × (List (Int)))) (a1 : Int) : collapseH .std Ew_heldStoItemS Ow_heldStoItemS_1 (execFn Ew_heldStoItemS Go.Proofs.Tryd.f57 msw_heldStoItemS [.val false [.sl .any 41 (.pair .str (.sl 3 (.int .i64))) a0], .val false [.int .i64 a1]]) = some ((g_Aw_heldStoItemS a0 a1), .val false [.int .i64 (g_Vw_heldStoItemS_0 a0 a1)], []) := by kernel_rfl
theorem sw_heldStoItemS : Sound Go.Proofs.Tryd.prog 57 msw_heldStoItemS Fw_heldStoItemS := by
  refine fn_gen goodw_heldStoItemS (by kernel_rfl) .std (fn := Go.Proofs.Tryd.f57) (c := (Go.Proofs.Tryd.f57.body.getD .skip)) (o := Ow_heldStoItemS_1) (k := 1) (by kernel_rfl) (by kernel_rfl) (by kernel_rfl) (by kernel_rfl) (by decide) kw_heldStoItemS_1 ?_
  intro ys r outs h
  unfold Fw_heldStoItemS at h
  split at h
  · exact (vw_heldStoItemS _ _).trans h
  · cases h
end Go.Proofs.YtjoggjjjlafdmaaDoor.E
end
section
namespace Go.Proofs.YtjoggjjjlafdmaaDoor.E
open Go
set_option maxRecDepth 100000
set_option maxHeartbeats 0
set_option linter.all false
noncomputable def Ew_heldStoStore : Env where
  tt := mkTI Go.Proofs.Tryd.prog
  fn := fun f => match f with
    | 57 => some (msw_heldStoItemS, FSem.wk msw_heldStoItemS Fw_heldStoItemS)
    | _ => none
  bxf := fun _ => none
  mv := []
  keep := fun _ => []
  keepB := fun _ => []
  keepX := fun _ => []
  keepXB := fun _ => []
theorem goodFw_heldStoStore : ∀ f ms F, Ew_heldStoStore.fn f = some (ms, F) → Sound Go.Proofs.Tryd.prog f ms F := fun f ms F h => by
  unfold Ew_heldStoStore at h
  dsimp only at h
  split at h
  · injection h with h; injection h with e1 e2; subst e1 e2; exact Sound.wk sw_heldStoItemS
  · cases h
theorem goodBw_heldStoStore : ∀ f ms F, Ew_heldStoStore.bxf f = some (ms, F) → SoundB Go.Proofs.Tryd.prog f ms F := fun f ms F h => by cases h
theorem goodw_heldStoStore : Good Go.Proofs.Tryd.prog Ew_heldStoStore := ⟨rfl, goodFw_heldStoStore, goodBw_heldStoStore⟩
noncomputable def Ow_heldStoStore_0 : Orc := fun _ _ => none
noncomputable def msw_heldStoStore : List PM := [.rd, .own]
noncomputable def lsw_heldStoStore : List (Nat × Code) := loopsAll 0 (Go.Proofs.Tryd.f26.body.getD .skip)

theorem kw_heldStoStore_0 : OrcOk Ew_heldStoStore Ow_heldStoStore_0 lsw_heldStoStore 0 := orcOk_none
noncomputable def g_Aw_heldStoStore (a0 : List ((ByteArray) × (List (Int)))) (a1 : Int) : Bool := g_Aw_heldStoItemS a0 a1 && true
noncomputable def g_Vw_heldStoStore_0 (a0 : List ((ByteArray) × (List (Int)))) (a1 : Int) : Int := bif decide (g_Vw_heldStoItemS_0 a0 a1 < (0 : Int)) then (-1 : Int) else g_Vw_heldStoItemS_0 a0 a1
noncomputable def Fw_heldStoStore : FSem := fun ys => match ys with
  | [.val true [.sl .any 41 (.pair .str (.sl 3 (.int .i64))) a0], .val false [.int .i64 a1]] => some ((g_Aw_heldStoStore a0 a1), .val false [.int .i64 (g_Vw_heldStoStore_0 a0 a1)], [])
  | _ => none
theorem vw_heldStoStore (a0 : List ((ByteArray) × (List (Int)))) (a1 : Int) : collapseH .std Ew_heldStoStore Ow_heldStoStore_0 (execFn Ew_heldStoStore Go.Proofs.Tryd.f26 msw_heldStoStore [.val true [.sl .any 41 (.pair .str (.sl 3 (.int .i64))) a0], .val false [.int .i64 a1]]) = some ((g_Aw_heldStoStore a0 a1), .val false [.int .i64 (g_Vw_heldStoStore_0 a0 a1)], []) := by kernel_rfl
theorem sw_heldStoStore : Sound Go.Proofs.Tryd.prog 26 msw_heldStoStore Fw_heldStoStore := by
  refine fn_gen goodw_heldStoStore (by kernel_rfl) .std (fn := Go.Proofs.Tryd.f26) (c := (Go.Proofs.Tryd.f26.body.getD .skip)) (o := Ow_heldStoStore_0) (k := 0) (by kernel_rfl) (by kernel_rfl) (by kernel_rfl) (by kernel_rfl) (by decide) kw_heldStoStore_0 ?_
  intro ys r outs h
  unfold Fw_heldStoStore at h
  split at h
  · exact (vw_heldStoStore _ _).trans h
  · cases h
end Go.Proofs.YtjoggjjjlafdmaaDoor.E
end
section
namespace Go.Proofs.YtjoggjjjlafdmaaDoor.E
open Go
set_option maxRecDepth 100000
set_option maxHeartbeats 0
set_option linter.all false
noncomputable def Ew_markIntS : Env where
  tt := mkTI Go.Proofs.Tryd.prog
  fn := fun _ => none
  bxf := fun _ => none
  mv := []
  keep := fun b => match b with
    | 0 => [(0, false), (1, false), (5, false)]
    | _ => []
  keepB := fun b => match b with
    | 0 => []
    | _ => []
  keepX := fun b => match b with
    | 0 => [(0, false), (1, false)]
    | _ => []
  keepXB := fun b => match b with
    | 0 => []
    | _ => []
theorem goodFw_markIntS : ∀ f ms F, Ew_markIntS.fn f = some (ms, F) → Sound Go.Proofs.Tryd.prog f ms F := fun f ms F h => by cases h
theorem goodBw_markIntS : ∀ f ms F, Ew_markIntS.bxf f = some (ms, F) → SoundB Go.Proofs.Tryd.prog f ms F := fun f ms F h => by cases h
theorem goodw_markIntS : Good Go.Proofs.Tryd.prog Ew_markIntS := ⟨rfl, goodFw_markIntS, goodBw_markIntS⟩
noncomputable def Ow_markIntS_0 : Orc := fun _ _ => none
noncomputable def msw_markIntS : List PM := [.«mut», .own]
noncomputable def lsw_markIntS : List (Nat × Code) := loopsAll 0 (Go.Proofs.Tryd.f56.body.getD .skip)
noncomputable def cw_markIntS_0 : Code := (loopOf 0 (Go.Proofs.Tryd.f56.body.getD .skip)).getD .skip
theorem lseqw_markIntS : lsw_markIntS = [(0, cw_markIntS_0)] := by kernel_rfl
theorem mw_markIntS_0 : ∀ p, p ∈ lsw_markIntS → p.1 = 0 → p.2 = cw_markIntS_0 := by
  intro p hp
  rw [lseqw_markIntS] at hp
  simp only [List.mem_cons, List.not_mem_nil, or_false] at hp
  subst hp; simp
theorem kw_markIntS_0 : OrcOk Ew_markIntS Ow_markIntS_0 lsw_markIntS 0 := orcOk_none
noncomputable def hw_markIntS_0 (y0 : List (Int)) (y1 : Int) (y2 : Int) : List (Pl × LV) := [(.T 0, .t (.val false [.row 0 0 0])), (.R 0 0, .r 0 (some ⟨false, .any, true, 3, (.int .i64), y0⟩)), (.T 1, .t (.val false [.int .i64 y1])), (.T 5, .t (.val false [.int .i64 y2]))]
noncomputable def g_Sw_markIntS_0 : ((List (Int)) × (Int) × (Int)) → RT ((List (Int)) × (Int) × (Int)) (((List (Int)) × (Int)))
  | (y0, y1, y2) => .br (true) (.br (decide (y2 < (↑(List.length y0) : Int))) (.br (decide ((0 : Int) ≤ y2 ∧ y2 < (↑(List.length y0) : Int))) (.br (decide (Int.toNat y2 < List.length y0)) (.br (true) (.br (true) (.go ((List.set y0 (Int.toNat y2) y1, IntKind.wrap IntKind.i64 (y1 + (1 : Int)), IntKind.wrap IntKind.i64 (y2 + (1 : Int))))) (.bad)) (.bad)) (.bad)) (.bad)) (.out ((y0, y1)))) (.bad)
noncomputable def g_Lw_markIntS_0 (x : (List (Int)) × (Int) × (Int)) : Option (((List (Int)) × (Int))) := loopO (g_Sw_markIntS_0) x
noncomputable def xw_markIntS_0 : (((List (Int)) × (Int))) → Ex × List (Pl × LV) := fun r => (.exit 0, [(.T 0, .t (.val false [.row 0 0 0])), (.R 0 0, .r 0 (some ⟨false, .any, true, 3, (.int .i64), r.1⟩)), (.T 1, .t (.val false [.int .i64 r.2]))])
noncomputable def Ow_markIntS_1 : Orc := fun b h => match b, h with
  | 0, [(.T 0, .t (.val false [.row 0 0 0])), (.R 0 0, .r 0 (some ⟨false, .any, true, 3, (.int .i64), y0⟩)), (.T 1, .t (.val false [.int .i64 y1])), (.T 5, .t (.val false [.int .i64 y2]))] => some (okO (g_Lw_markIntS_0 (y0, y1, y2)), (.leaf (.exit 0) [(.T 0, .t (.val false [.row 0 0 0])), (.R 0 0, .r 0 (some ⟨false, .any, true, 3, (.int .i64), (valO (g_Lw_markIntS_0 (y0, y1, y2))).1⟩)), (.T 1, .t (.val false [.int .i64 (valO (g_Lw_markIntS_0 (y0, y1, y2))).2]))]))
  | b, h => Ow_markIntS_0 b h
theorem bw_markIntS_0 (y0 : List (Int)) (y1 : Int) (y2 : Int) : Tr.bt Ew_markIntS Ow_markIntS_0 (exec Ew_markIntS 0 cw_markIntS_0 (St.of (hw_markIntS_0 y0 y1 y2)) (leafRd Ew_markIntS 0)) = (g_Sw_markIntS_0 (y0, y1, y2)).bt (fun ((y0, y1, y2) : (List (Int)) × (Int) × (Int)) => (hw_markIntS_0 y0 y1 y2)) (xw_markIntS_0) := by kernel_rfl
theorem kw_markIntS_1 : OrcOk Ew_markIntS Ow_markIntS_1 lsw_markIntS 1 := orc_add kw_markIntS_0 (fun n p hp h ex h' ho => by
  obtain ⟨b, c⟩ := p
  obtain ⟨xt, h1, h2⟩ := ho
  have h1 : Ow_markIntS_1 b h = some (true, xt) := h1
  unfold Ow_markIntS_1 at h1
  split at h1
  · injection h1 with h1
    injection h1 with e1 e2
    subst e2
    have hc : c = cw_markIntS_0 := mw_markIntS_0 _ hp rfl
    subst hc
    right
    rename_i y0 y1 y2
    have key := LT_step kw_markIntS_0 hp (fun q hq => loopsAll_in _ _ _ _ hp hq) (fun ((y0, y1, y2) : (List (Int)) × (Int) × (Int)) => (hw_markIntS_0 y0 y1 y2)) (xw_markIntS_0) (g_Sw_markIntS_0) (fun x => by first | exact bw_markIntS_0 x.1 x.2.1 x.2.2) n (x := (y0, y1, y2)) (okO_some e1)
    have hx : ∀ r, XT.sel (.leaf (.exit 0) [(.T 0, .t (.val false [.row 0 0 0])), (.R 0 0, .r 0 (some ⟨false, .any, true, 3, (.int .i64), r.1⟩)), (.T 1, .t (.val false [.int .i64 r.2]))]) = xw_markIntS_0 r := fun r => by first | rfl | (rcases r with r | r <;> rfl) | (rcases r with r | r | r <;> rfl) | (rcases r with r | r | r | r <;> rfl)
    have h3 := (hx (valO (g_Lw_markIntS_0 (y0, y1, y2)))).symm.trans h2
    have e3 := congrArg Prod.fst h3
    have e4 := congrArg Prod.snd h3
    simp only at e3 e4
    rw [← e3, ← e4]
    exact key
  · exact .inl ⟨xt, h1, h2⟩)
noncomputable def g_Aw_markIntS (a0 : List (Int)) (a1 : Int) : Bool := okO (g_Lw_markIntS_0 (a0, a1, (0 : Int)))
noncomputable def g_Vw_markIntS_0 (a0 : List (Int)) (a1 : Int) : Int := (valO (g_Lw_markIntS_0 (a0, a1, (0 : Int)))).2
noncomputable def g_Vw_markIntS_1 (a0 : List (Int)) (a1 : Int) : List (Int) := (valO (g_Lw_markIntS_0 (a0, a1, (0 : Int)))).1
noncomputable def Fw_markIntS : FSem := fun ys => match ys with
  | [.val false [.own .any true 3 (.int .i64) a0], .val false [.int .i64 a1]] => some ((g_Aw_markIntS a0 a1), .val false [.int .i64 (g_Vw_markIntS_0 a0 a1)], [[.own .any true 3 (.int .i64) (g_Vw_markIntS_1 a0 a1)]])
  | _ => none
theorem vw_markIntS (a0 : List (Int)) (a1 : Int) : collapseH .std Ew_markIntS Ow_markIntS_1 (execFn Ew_markIntS Go.Proofs.Tryd.f56 msw_markIntS [.val false [.own .any true 3 (.int .i64) a0], .val false [.int .i64 a1]]) = some ((g_Aw_markIntS a0 a1), .val false [.int .i64 (g_Vw_markIntS_0 a0 a1)], [[.own .any true 3 (.int .i64) (g_Vw_markIntS_1 a0 a1)]]) := by kernel_rfl
theorem sw_markIntS : Sound Go.Proofs.Tryd.prog 56 msw_markIntS Fw_markIntS := by
  refine fn_gen goodw_markIntS (by kernel_rfl) .std (fn := Go.Proofs.Tryd.f56) (c := (Go.Proofs.Tryd.f56.body.getD .skip)) (o := Ow_markIntS_1) (k := 1) (by kernel_rfl) (by kernel_rfl) (by kernel_rfl) (by kernel_rfl) (by decide) kw_markIntS_1 ?_
  intro ys r outs h
  unfold Fw_markIntS at h
  split at h
  · exact (vw_markIntS _ _).trans h
  · cases h
end Go.Proofs.YtjoggjjjlafdmaaDoor.E
end
section
namespace Go.Proofs.YtjoggjjjlafdmaaDoor.E
open Go
set_option maxRecDepth 100000
set_option maxHeartbeats 0
set_option linter.all false
noncomputable def Ew_markStoItemS : Env where
  tt := mkTI Go.Proofs.Tryd.prog
  fn := fun f => match f with
    | 55 => some (msw_markText, FSem.wk msw_markText Fw_markText)
    | 56 => some (msw_markIntS, FSem.wk msw_markIntS Fw_markIntS)
    | _ => none
  bxf := fun _ => none
  mv := []
  keep := fun b => match b with
    | 0 => [(0, false), (1, false), (5, false)]
    | _ => []
  keepB := fun b => match b with
    | 0 => []
    | _ => []
  keepX := fun b => match b with
    | 0 => [(0, false), (1, false)]
    | _ => []
  keepXB := fun b => match b with
    | 0 => []
    | _ => []
  nest := [24]
theorem goodFw_markStoItemS : ∀ f ms F, Ew_markStoItemS.fn f = some (ms, F) → Sound Go.Proofs.Tryd.prog f ms F := fun f ms F h => by
  unfold Ew_markStoItemS at h
  dsimp only at h
  split at h
  · injection h with h; injection h with e1 e2; subst e1 e2; exact Sound.wk sw_markText
  · injection h with h; injection h with e1 e2; subst e1 e2; exact Sound.wk sw_markIntS
  · cases h
theorem goodBw_markStoItemS : ∀ f ms F, Ew_markStoItemS.bxf f = some (ms, F) → SoundB Go.Proofs.Tryd.prog f ms F := fun f ms F h => by cases h
theorem goodw_markStoItemS : Good Go.Proofs.Tryd.prog Ew_markStoItemS := ⟨rfl, goodFw_markStoItemS, goodBw_markStoItemS⟩
noncomputable def Ow_markStoItemS_0 : Orc := fun _ _ => none
noncomputable def msw_markStoItemS : List PM := [.«mut», .own]
noncomputable def lsw_markStoItemS : List (Nat × Code) := loopsAll 0 (Go.Proofs.Tryd.f54.body.getD .skip)
noncomputable def cw_markStoItemS_0 : Code := (loopOf 0 (Go.Proofs.Tryd.f54.body.getD .skip)).getD .skip
theorem lseqw_markStoItemS : lsw_markStoItemS = [(0, cw_markStoItemS_0)] := by kernel_rfl
theorem mw_markStoItemS_0 : ∀ p, p ∈ lsw_markStoItemS → p.1 = 0 → p.2 = cw_markStoItemS_0 := by
  intro p hp
  rw [lseqw_markStoItemS] at hp
  simp only [List.mem_cons, List.not_mem_nil, or_false] at hp
  subst hp; simp
theorem kw_markStoItemS_0 : OrcOk Ew_markStoItemS Ow_markStoItemS_0 lsw_markStoItemS 0 := orcOk_none
noncomputable def hw_markStoItemS_0 (y0 : List ((ByteArray) × (List (Int)))) (y1 : Int) (y2 : Int) : List (Pl × LV) := [(.T 0, .t (.val false [.row 0 0 0])), (.R 0 0, .r 0 (some ⟨false, .any, true, 41, (.pair .str (.sl 3 (.int .i64))), y0⟩)), (.T 1, .t (.val false [.int .i64 y1])), (.T 5, .t (.val false [.int .i64 y2]))]
noncomputable def g_Sw_markStoItemS_0 : ((List ((ByteArray) × (List (Int)))) × (Int) × (Int)) → RT ((List ((ByteArray) × (List (Int)))) × (Int) × (Int)) (((List ((ByteArray) × (List (Int)))) × (Int)))
  | (y0, y1, y2) => .br (true) (.br (decide (y2 < (↑(List.length y0) : Int))) (.br (g_Aw_markText y1) (.br (decide ((0 : Int) ≤ y2 ∧ y2 < (↑(List.length y0) : Int))) (.br (decide (Int.toNat y2 < List.length y0)) (.br (true) (.br (decide ((0 : Int) ≤ y2 ∧ y2 < (↑(List.length (updE (Ty.pair Ty.str (Ty.sl (nat_lit 3) (Ty.int IntKind.i64))) y0 (Int.toNat y2) fun x => (g_Vw_markText_0 y1, x.2))) : Int))) (.br (decide (Int.toNat y2 < List.length (updE (Ty.pair Ty.str (Ty.sl (nat_lit 3) (Ty.int IntKind.i64))) y0 (Int.toNat y2) fun x => (g_Vw_markText_0 y1, x.2)))) (.br (g_Aw_markIntS (at_ (Ty.pair Ty.str (Ty.sl (nat_lit 3) (Ty.int IntKind.i64))) (updE (Ty.pair Ty.str (Ty.sl (nat_lit 3) (Ty.int IntKind.i64))) y0 (Int.toNat y2) fun x => (g_Vw_markText_0 y1, x.2)) (Int.toNat y2)).2 (IntKind.wrap IntKind.i64 (y1 + (1 : Int)))) (.br (true) (.go ((List.set (updE (Ty.pair Ty.str (Ty.sl (nat_lit 3) (Ty.int IntKind.i64))) y0 (Int.toNat y2) fun x => (g_Vw_markText_0 y1, x.2)) (Int.toNat y2) ((at_ (Ty.pair Ty.str (Ty.sl (nat_lit 3) (Ty.int IntKind.i64))) (updE (Ty.pair Ty.str (Ty.sl (nat_lit 3) (Ty.int IntKind.i64))) y0 (Int.toNat y2) fun x => (g_Vw_markText_0 y1, x.2)) (Int.toNat y2)).1, g_Vw_markIntS_1 (at_ (Ty.pair Ty.str (Ty.sl (nat_lit 3) (Ty.int IntKind.i64))) (updE (Ty.pair Ty.str (Ty.sl (nat_lit 3) (Ty.int IntKind.i64))) y0 (Int.toNat y2) fun x => (g_Vw_markText_0 y1, x.2)) (Int.toNat y2)).2 (IntKind.wrap IntKind.i64 (y1 + (1 : Int)))), g_Vw_markIntS_0 (at_ (Ty.pair Ty.str (Ty.sl (nat_lit 3) (Ty.int IntKind.i64))) (updE (Ty.pair Ty.str (Ty.sl (nat_lit 3) (Ty.int IntKind.i64))) y0 (Int.toNat y2) fun x => (g_Vw_markText_0 y1, x.2)) (Int.toNat y2)).2 (IntKind.wrap IntKind.i64 (y1 + (1 : Int))), IntKind.wrap IntKind.i64 (y2 + (1 : Int))))) (.bad)) (.bad)) (.bad)) (.bad)) (.bad)) (.bad)) (.bad)) (.bad)) (.out ((y0, y1)))) (.bad)
noncomputable def g_Lw_markStoItemS_0 (x : (List ((ByteArray) × (List (Int)))) × (Int) × (Int)) : Option (((List ((ByteArray) × (List (Int)))) × (Int))) := loopO (g_Sw_markStoItemS_0) x
noncomputable def xw_markStoItemS_0 : (((List ((ByteArray) × (List (Int)))) × (Int))) → Ex × List (Pl × LV) := fun r => (.exit 0, [(.T 0, .t (.val false [.row 0 0 0])), (.R 0 0, .r 0 (some ⟨false, .any, true, 41, (.pair .str (.sl 3 (.int .i64))), r.1⟩)), (.T 1, .t (.val false [.int .i64 r.2]))])
noncomputable def Ow_markStoItemS_1 : Orc := fun b h => match b, h with
  | 0, [(.T 0, .t (.val false [.row 0 0 0])), (.R 0 0, .r 0 (some ⟨false, .any, true, 41, (.pair .str (.sl 3 (.int .i64))), y0⟩)), (.T 1, .t (.val false [.int .i64 y1])), (.T 5, .t (.val false [.int .i64 y2]))] => some (okO (g_Lw_markStoItemS_0 (y0, y1, y2)), (.leaf (.exit 0) [(.T 0, .t (.val false [.row 0 0 0])), (.R 0 0, .r 0 (some ⟨false, .any, true, 41, (.pair .str (.sl 3 (.int .i64))), (valO (g_Lw_markStoItemS_0 (y0, y1, y2))).1⟩)), (.T 1, .t (.val false [.int .i64 (valO (g_Lw_markStoItemS_0 (y0, y1, y2))).2]))]))
  | b, h => Ow_markStoItemS_0 b h
theorem bw_markStoItemS_0 (y0 : List ((ByteArray) × (List (Int)))) (y1 : Int) (y2 : Int) : Tr.bt Ew_markStoItemS Ow_markStoItemS_0 (exec Ew_markStoItemS 0 cw_markStoItemS_0 (St.of (hw_markStoItemS_0 y0 y1 y2)) (leafRd Ew_markStoItemS 0)) = (g_Sw_markStoItemS_0 (y0, y1, y2)).bt (fun ((y0, y1, y2) : (List ((ByteArray) × (List (Int)))) × (Int) × (Int)) => (hw_markStoItemS_0 y0 y1 y2)) (xw_markStoItemS_0) := by kernel_rfl
theorem kw_markStoItemS_1 : OrcOk Ew_markStoItemS Ow_markStoItemS_1 lsw_markStoItemS 1 := orc_add kw_markStoItemS_0 (fun n p hp h ex h' ho => by
  obtain ⟨b, c⟩ := p
  obtain ⟨xt, h1, h2⟩ := ho
  have h1 : Ow_markStoItemS_1 b h = some (true, xt) := h1
  unfold Ow_markStoItemS_1 at h1
  split at h1
  · injection h1 with h1
    injection h1 with e1 e2
    subst e2
    have hc : c = cw_markStoItemS_0 := mw_markStoItemS_0 _ hp rfl
    subst hc
    right
    rename_i y0 y1 y2
    have key := LT_step kw_markStoItemS_0 hp (fun q hq => loopsAll_in _ _ _ _ hp hq) (fun ((y0, y1, y2) : (List ((ByteArray) × (List (Int)))) × (Int) × (Int)) => (hw_markStoItemS_0 y0 y1 y2)) (xw_markStoItemS_0) (g_Sw_markStoItemS_0) (fun x => by first | exact bw_markStoItemS_0 x.1 x.2.1 x.2.2) n (x := (y0, y1, y2)) (okO_some e1)
    have hx : ∀ r, XT.sel (.leaf (.exit 0) [(.T 0, .t (.val false [.row 0 0 0])), (.R 0 0, .r 0 (some ⟨false, .any, true, 41, (.pair .str (.sl 3 (.int .i64))), r.1⟩)), (.T 1, .t (.val false [.int .i64 r.2]))]) = xw_markStoItemS_0 r := fun r => by first | rfl | (rcases r with r | r <;> rfl) | (rcases r with r | r | r <;> rfl) | (rcases r with r | r | r | r <;> rfl)
    have h3 := (hx (valO (g_Lw_markStoItemS_0 (y0, y1, y2)))).symm.trans h2
    have e3 := congrArg Prod.fst h3
    have e4 := congrArg Prod.snd h3
    simp only at e3 e4
    rw [← e3, ← e4]
    exact key
  · exact .inl ⟨xt, h1, h2⟩)
noncomputable def g_Aw_markStoItemS (a0 : List ((ByteArray) × (List (Int)))) (a1 : Int) : Bool := okO (g_Lw_markStoItemS_0 (a0, a1, (0 : Int)))
noncomputable def g_Vw_markStoItemS_0 (a0 : List ((ByteArray) × (List (Int)))) (a1 : Int) : Int := (valO (g_Lw_markStoItemS_0 (a0, a1, (0 : Int)))).2
noncomputable def g_Vw_markStoItemS_1 (a0 : List ((ByteArray) × (List (Int)))) (a1 : Int) : List ((ByteArray) × (List (Int))) := (valO (g_Lw_markStoItemS_0 (a0, a1, (0 : Int)))).1
noncomputable def Fw_markStoItemS : FSem := fun ys => match ys with
  | [.val false [.own .any true 41 (.pair .str (.sl 3 (.int .i64))) a0], .val false [.int .i64 a1]] => some ((g_Aw_markStoItemS a0 a1), .val false [.int .i64 (g_Vw_markStoItemS_0 a0 a1)], [[.own .any true 41 (.pair .str (.sl 3 (.int .i64))) (g_Vw_markStoItemS_1 a0 a1)]])
  | _ => none
theorem vw_markStoItemS (a0 : List ((ByteArray) × (List (Int)))) (a1 : Int) : collapseH .std Ew_markStoItemS Ow_markStoItemS_1 (execFn Ew_markStoItemS Go.Proofs.Tryd.f54 msw_markStoItemS [.val false [.own .any true 41 (.pair .str (.sl 3 (.int .i64))) a0], .val false [.int .i64 a1]]) = some ((g_Aw_markStoItemS a0 a1), .val false [.int .i64 (g_Vw_markStoItemS_0 a0 a1)], [[.own .any true 41 (.pair .str (.sl 3 (.int .i64))) (g_Vw_markStoItemS_1 a0 a1)]]) := by kernel_rfl
theorem sw_markStoItemS : Sound Go.Proofs.Tryd.prog 54 msw_markStoItemS Fw_markStoItemS := by
  refine fn_gen goodw_markStoItemS (by kernel_rfl) .std (fn := Go.Proofs.Tryd.f54) (c := (Go.Proofs.Tryd.f54.body.getD .skip)) (o := Ow_markStoItemS_1) (k := 1) (by kernel_rfl) (by kernel_rfl) (by kernel_rfl) (by kernel_rfl) (by decide) kw_markStoItemS_1 ?_
  intro ys r outs h
  unfold Fw_markStoItemS at h
  split at h
  · exact (vw_markStoItemS _ _).trans h
  · cases h
end Go.Proofs.YtjoggjjjlafdmaaDoor.E
end
section
namespace Go.Proofs.YtjoggjjjlafdmaaDoor.E
open Go
set_option maxRecDepth 100000
set_option maxHeartbeats 0
set_option linter.all false
noncomputable def Ew_markStoStore : Env where
  tt := mkTI Go.Proofs.Tryd.prog
  fn := fun f => match f with
    | 54 => some (msw_markStoItemS, FSem.wk msw_markStoItemS Fw_markStoItemS)
    | _ => none
  bxf := fun _ => none
  mv := []
  keep := fun _ => []
  keepB := fun _ => []
  keepX := fun _ => []
  keepXB := fun _ => []
theorem goodFw_markStoStore : ∀ f ms F, Ew_markStoStore.fn f = some (ms, F) → Sound Go.Proofs.Tryd.prog f ms F := fun f ms F h => by
  unfold Ew_markStoStore at h
  dsimp only at h
  split at h
  · injection h with h; injection h with e1 e2; subst e1 e2; exact Sound.wk sw_markStoItemS
  · cases h
theorem goodBw_markStoStore : ∀ f ms F, Ew_markStoStore.bxf f = some (ms, F) → SoundB Go.Proofs.Tryd.prog f ms F := fun f ms F h => by cases h
theorem goodw_markStoStore : Good Go.Proofs.Tryd.prog Ew_markStoStore := ⟨rfl, goodFw_markStoStore, goodBw_markStoStore⟩
noncomputable def Ow_markStoStore_0 : Orc := fun _ _ => none
noncomputable def msw_markStoStore : List PM := [.«mut», .own]
noncomputable def lsw_markStoStore : List (Nat × Code) := loopsAll 0 (Go.Proofs.Tryd.f24.body.getD .skip)

theorem kw_markStoStore_0 : OrcOk Ew_markStoStore Ow_markStoStore_0 lsw_markStoStore 0 := orcOk_none
noncomputable def g_Aw_markStoStore (a0 : List ((ByteArray) × (List (Int)))) (a1 : Int) : Bool := g_Aw_markStoItemS a0 a1
noncomputable def Fw_markStoStore : FSem := fun ys => match ys with
  | [.val true [.own .any true 41 (.pair .str (.sl 3 (.int .i64))) a0], .val false [.int .i64 a1]] => some ((g_Aw_markStoStore a0 a1), .val false [.int .i64 (g_Vw_markStoItemS_0 a0 a1)], [[.own .any true 41 (.pair .str (.sl 3 (.int .i64))) (g_Vw_markStoItemS_1 a0 a1)]])
  | _ => none
theorem vw_markStoStore (a0 : List ((ByteArray) × (List (Int)))) (a1 : Int) : collapseH .std Ew_markStoStore Ow_markStoStore_0 (execFn Ew_markStoStore Go.Proofs.Tryd.f24 msw_markStoStore [.val true [.own .any true 41 (.pair .str (.sl 3 (.int .i64))) a0], .val false [.int .i64 a1]]) = some ((g_Aw_markStoStore a0 a1), .val false [.int .i64 (g_Vw_markStoItemS_0 a0 a1)], [[.own .any true 41 (.pair .str (.sl 3 (.int .i64))) (g_Vw_markStoItemS_1 a0 a1)]]) := by kernel_rfl
theorem sw_markStoStore : Sound Go.Proofs.Tryd.prog 24 msw_markStoStore Fw_markStoStore := by
  refine fn_gen goodw_markStoStore (by kernel_rfl) .std (fn := Go.Proofs.Tryd.f24) (c := (Go.Proofs.Tryd.f24.body.getD .skip)) (o := Ow_markStoStore_0) (k := 0) (by kernel_rfl) (by kernel_rfl) (by kernel_rfl) (by kernel_rfl) (by decide) kw_markStoStore_0 ?_
  intro ys r outs h
  unfold Fw_markStoStore at h
  split at h
  · exact (vw_markStoStore _ _).trans h
  · cases h
end Go.Proofs.YtjoggjjjlafdmaaDoor.E
end
section
namespace Go.Proofs.YtjoggjjjlafdmaaDoor.E
open Go
set_option maxRecDepth 100000
set_option maxHeartbeats 0
set_option linter.all false
noncomputable def Ew_markStoWriteS : Env where
  tt := mkTI Go.Proofs.Tryd.prog
  fn := fun f => match f with
    | 55 => some (msw_markText, FSem.wk msw_markText Fw_markText)
    | 56 => some (msw_markIntS, FSem.wk msw_markIntS Fw_markIntS)
    | _ => none
  bxf := fun _ => none
  mv := []
  keep := fun b => match b with
    | 0 => [(0, false), (1, false), (5, false)]
    | _ => []
  keepB := fun b => match b with
    | 0 => []
    | _ => []
  keepX := fun b => match b with
    | 0 => [(0, false), (1, false)]
    | _ => []
  keepXB := fun b => match b with
    | 0 => []
    | _ => []
  nest := [33]
theorem goodFw_markStoWriteS : ∀ f ms F, Ew_markStoWriteS.fn f = some (ms, F) → Sound Go.Proofs.Tryd.prog f ms F := fun f ms F h => by
  unfold Ew_markStoWriteS at h
  dsimp only at h
  split at h
  · injection h with h; injection h with e1 e2; subst e1 e2; exact Sound.wk sw_markText
  · injection h with h; injection h with e1 e2; subst e1 e2; exact Sound.wk sw_markIntS
  · cases h
theorem goodBw_markStoWriteS : ∀ f ms F, Ew_markStoWriteS.bxf f = some (ms, F) → SoundB Go.Proofs.Tryd.prog f ms F := fun f ms F h => by cases h
theorem goodw_markStoWriteS : Good Go.Proofs.Tryd.prog Ew_markStoWriteS := ⟨rfl, goodFw_markStoWriteS, goodBw_markStoWriteS⟩
noncomputable def Ow_markStoWriteS_0 : Orc := fun _ _ => none
noncomputable def msw_markStoWriteS : List PM := [.«mut», .own]
noncomputable def lsw_markStoWriteS : List (Nat × Code) := loopsAll 0 (Go.Proofs.Tryd.f25.body.getD .skip)
noncomputable def cw_markStoWriteS_0 : Code := (loopOf 0 (Go.Proofs.Tryd.f25.body.getD .skip)).getD .skip
theorem lseqw_markStoWriteS : lsw_markStoWriteS = [(0, cw_markStoWriteS_0)] := by kernel_rfl
theorem mw_markStoWriteS_0 : ∀ p, p ∈ lsw_markStoWriteS → p.1 = 0 → p.2 = cw_markStoWriteS_0 := by
  intro p hp
  rw [lseqw_markStoWriteS] at hp
  simp only [List.mem_cons, List.not_mem_nil, or_false] at hp
  subst hp; simp
theorem kw_markStoWriteS_0 : OrcOk Ew_markStoWriteS Ow_markStoWriteS_0 lsw_markStoWriteS 0 := orcOk_none
noncomputable def hw_markStoWriteS_0 (y0 : List ((ByteArray) × ((Bool) × (List (Int))))) (y1 : Int) (y2 : Int) : List (Pl × LV) := [(.T 0, .t (.val false [.row 0 0 0])), (.R 0 0, .r 0 (some ⟨false, .any, true, 36, (.pair .str (.pair .bool (.sl 3 (.int .i64)))), y0⟩)), (.T 1, .t (.val false [.int .i64 y1])), (.T 5, .t (.val false [.int .i64 y2]))]
noncomputable def g_Sw_markStoWriteS_0 : ((List ((ByteArray) × ((Bool) × (List (Int))))) × (Int) × (Int)) → RT ((List ((ByteArray) × ((Bool) × (List (Int))))) × (Int) × (Int)) (((List ((ByteArray) × ((Bool) × (List (Int))))) × (Int)))
  | (y0, y1, y2) => .br (true) (.br (decide (y2 < (↑(List.length y0) : Int))) (.br (g_Aw_markText y1) (.br (decide ((0 : Int) ≤ y2 ∧ y2 < (↑(List.length y0) : Int))) (.br (decide (Int.toNat y2 < List.length y0)) (.br (true) (.br (true) (.br (true) (.br (decide ((0 : Int) ≤ y2 ∧ y2 < (↑(List.length (updE (Ty.pair Ty.str (Ty.pair Ty.bool (Ty.sl (nat_lit 3) (Ty.int IntKind.i64)))) y0 (Int.toNat y2) fun x => (g_Vw_markText_0 y1, x.2.1, x.2.2))) : Int))) (.br (decide (Int.toNat y2 < List.length (updE (Ty.pair Ty.str (Ty.pair Ty.bool (Ty.sl (nat_lit 3) (Ty.int IntKind.i64)))) y0 (Int.toNat y2) fun x => (g_Vw_markText_0 y1, x.2.1, x.2.2)))) (.br (true) (.br (decide ((0 : Int) ≤ y2 ∧ y2 < (↑(List.length (updE (Ty.pair Ty.str (Ty.pair Ty.bool (Ty.sl (nat_lit 3) (Ty.int IntKind.i64)))) (updE (Ty.pair Ty.str (Ty.pair Ty.bool (Ty.sl (nat_lit 3) (Ty.int IntKind.i64)))) y0 (Int.toNat y2) fun x => (g_Vw_markText_0 y1, x.2.1, x.2.2)) (Int.toNat y2) fun x => (x.1, Int.tmod (IntKind.wrap IntKind.i64 (y1 + (1 : Int))) (3 : Int) == (0 : Int), x.2.2))) : Int))) (.br (decide (Int.toNat y2 < List.length (updE (Ty.pair Ty.str (Ty.pair Ty.bool (Ty.sl (nat_lit 3) (Ty.int IntKind.i64)))) (updE (Ty.pair Ty.str (Ty.pair Ty.bool (Ty.sl (nat_lit 3) (Ty.int IntKind.i64)))) y0 (Int.toNat y2) fun x => (g_Vw_markText_0 y1, x.2.1, x.2.2)) (Int.toNat y2) fun x => (x.1, Int.tmod (IntKind.wrap IntKind.i64 (y1 + (1 : Int))) (3 : Int) == (0 : Int), x.2.2)))) (.br (g_Aw_markIntS (at_ (Ty.pair Ty.str (Ty.pair Ty.bool (Ty.sl (nat_lit 3) (Ty.int IntKind.i64)))) (updE (Ty.pair Ty.str (Ty.pair Ty.bool (Ty.sl (nat_lit 3) (Ty.int IntKind.i64)))) (updE (Ty.pair Ty.str (Ty.pair Ty.bool (Ty.sl (nat_lit 3) (Ty.int IntKind.i64)))) y0 (Int.toNat y2) fun x => (g_Vw_markText_0 y1, x.2.1, x.2.2)) (Int.toNat y2) fun x => (x.1, Int.tmod (IntKind.wrap IntKind.i64 (y1 + (1 : Int))) (3 : Int) == (0 : Int), x.2.2)) (Int.toNat y2)).2.2 (IntKind.wrap IntKind.i64 (IntKind.wrap IntKind.i64 (y1 + (1 : Int)) + (1 : Int)))) (.br (true) (.go ((List.set (updE (Ty.pair Ty.str (Ty.pair Ty.bool (Ty.sl (nat_lit 3) (Ty.int IntKind.i64)))) (updE (Ty.pair Ty.str (Ty.pair Ty.bool (Ty.sl (nat_lit 3) (Ty.int IntKind.i64)))) y0 (Int.toNat y2) fun x => (g_Vw_markText_0 y1, x.2.1, x.2.2)) (Int.toNat y2) fun x => (x.1, Int.tmod (IntKind.wrap IntKind.i64 (y1 + (1 : Int))) (3 : Int) == (0 : Int), x.2.2)) (Int.toNat y2) ((at_ (Ty.pair Ty.str (Ty.pair Ty.bool (Ty.sl (nat_lit 3) (Ty.int IntKind.i64)))) (updE (Ty.pair Ty.str (Ty.pair Ty.bool (Ty.sl (nat_lit 3) (Ty.int IntKind.i64)))) (updE (Ty.pair Ty.str (Ty.pair Ty.bool (Ty.sl (nat_lit 3) (Ty.int IntKind.i64)))) y0 (Int.toNat y2) fun x => (g_Vw_markText_0 y1, x.2.1, x.2.2)) (Int.toNat y2) fun x => (x.1, Int.tmod (IntKind.wrap IntKind.i64 (y1 + (1 : Int))) (3 : Int) == (0 : Int), x.2.2)) (Int.toNat y2)).1, (at_ (Ty.pair Ty.str (Ty.pair Ty.bool (Ty.sl (nat_lit 3) (Ty.int IntKind.i64)))) (updE (Ty.pair Ty.str (Ty.pair Ty.bool (Ty.sl (nat_lit 3) (Ty.int IntKind.i64)))) (updE (Ty.pair Ty.str (Ty.pair Ty.bool (Ty.sl (nat_lit 3) (Ty.int IntKind.i64)))) y0 (Int.toNat y2) fun x => (g_Vw_markText_0 y1, x.2.1, x.2.2)) (Int.toNat y2) fun x => (x.1, Int.tmod (IntKind.wrap IntKind.i64 (y1 + (1 : Int))) (3 : Int) == (0 : Int), x.2.2)) (Int.toNat y2)).2.1, g_Vw_markIntS_1 (at_ (Ty.pair Ty.str (Ty.pair Ty.bool (Ty.sl (nat_lit 3) (Ty.int IntKind.i64)))) (updE (Ty.pair Ty.str (Ty.pair Ty.bool (Ty.sl (nat_lit 3) (Ty.int IntKind.i64)))) (updE (Ty.pair Ty.str (Ty.pair Ty.bool (Ty.sl (nat_lit 3) (Ty.int IntKind.i64)))) y0 (Int.toNat y2) fun x => (g_Vw_markText_0 y1, x.2.1, x.2.2)) (Int.toNat y2) fun x => (x.1, Int.tmod (IntKind.wrap IntKind.i64 (y1 + (1 : Int))) (3 : Int) == (0 : Int), x.2.2)) (Int.toNat y2)).2.2 (IntKind.wrap IntKind.i64 (IntKind.wrap IntKind.i64 (y1 + (1 : Int)) + (1 : Int)))), g_Vw_markIntS_0 (at_ (Ty.pair Ty.str (Ty.pair Ty.bool (Ty.sl (nat_lit 3) (Ty.int IntKind.i64)))) (updE (Ty.pair Ty.str (Ty.pair Ty.bool (Ty.sl (nat_lit 3) (Ty.int IntKind.i64)))) (updE (Ty.pair Ty.str (Ty.pair Ty.bool (Ty.sl (nat_lit 3) (Ty.int IntKind.i64)))) y0 (Int.toNat y2) fun x => (g_Vw_markText_0 y1, x.2.1, x.2.2)) (Int.toNat y2) fun x => (x.1, Int.tmod (IntKind.wrap IntKind.i64 (y1 + (1 : Int))) (3 : Int) == (0 : Int), x.2.2)) (Int.toNat y2)).2.2 (IntKind.wrap IntKind.i64 (IntKind.wrap IntKind.i64 (y1 + (1 : Int)) + (1 : Int))), IntKind.wrap IntKind.i64 (y2 + (1 : Int))))) (.bad)) (.bad)) (.bad)) (.bad)) (.bad)) (.bad)) (.bad)) (.bad)) (.bad)) (.bad)) (.bad)) (.bad)) (.bad)) (.out ((y0, y1)))) (.bad)
noncomputable def g_Lw_markStoWriteS_0 (x : (List ((ByteArray) × ((Bool) × (List (Int))))) × (Int) × (Int)) : Option (((List ((ByteArray) × ((Bool) × (List (Int))))) × (Int))) := loopO (g_Sw_markStoWriteS_0) x
noncomputable def xw_markStoWriteS_0 : (((List ((ByteArray) × ((Bool) × (List (Int))))) × (Int))) → Ex × List (Pl × LV) := fun r => (.exit 0, [(.T 0, .t (.val false [.row 0 0 0])), (.R 0 0, .r 0 (some ⟨false, .any, true, 36, (.pair .str (.pair .bool (.sl 3 (.int .i64)))), r.1⟩)), (.T 1, .t (.val false [.int .i64 r.2]))])
noncomputable def Ow_markStoWriteS_1 : Orc := fun b h => match b, h with
  | 0, [(.T 0, .t (.val false [.row 0 0 0])), (.R 0 0, .r 0 (some ⟨false, .any, true, 36, (.pair .str (.pair .bool (.sl 3 (.int .i64)))), y0⟩)), (.T 1, .t (.val false [.int .i64 y1])), (.T 5, .t (.val false [.int .i64 y2]))] => some (okO (g_Lw_markStoWriteS_0 (y0, y1, y2)), (.leaf (.exit 0) [(.T 0, .t (.val false [.row 0 0 0])), (.R 0 0, .r 0 (some ⟨false, .any, true, 36, (.pair .str (.pair .bool (.sl 3 (.int .i64)))), (valO (g_Lw_markStoWriteS_0 (y0, y1, y2))).1⟩)), (.T 1, .t (.val false [.int .i64 (valO (g_Lw_markStoWriteS_0 (y0, y1, y2))).2]))]))
  | b, h => Ow_markStoWriteS_0 b h
theorem bw_markStoWriteS_0 (y0 : List ((ByteArray) × ((Bool) × (List (Int))))) (y1 : Int) (y2 : Int) : Tr.bt Ew_markStoWriteS Ow_markStoWriteS_0 (exec Ew_markStoWriteS 0 cw_markStoWriteS_0 (St.of (hw_markStoWriteS_0 y0 y1 y2)) (leafRd Ew_markStoWriteS 0)) = (g_Sw_markStoWriteS_0 (y0, y1, y2)).bt (fun ((y0, y1, y2) : (List ((ByteArray) × ((Bool) × (List (Int))))) × (Int) × (Int)) => (hw_markStoWriteS_0 y0 y1 y2)) (xw_markStoWriteS_0) := by kernel_rfl
theorem kw_markStoWriteS_1 : OrcOk Ew_markStoWriteS Ow_markStoWriteS_1 lsw_markStoWriteS 1 := orc_add kw_markStoWriteS_0 (fun n p hp h ex h' ho => by
  obtain ⟨b, c⟩ := p
  obtain ⟨xt, h1, h2⟩ := ho
  have h1 : Ow_markStoWriteS_1 b h = some (true, xt) := h1
  unfold Ow_markStoWriteS_1 at h1
  split at h1
  · injection h1 with h1
    injection h1 with e1 e2
    subst e2
    have hc : c = cw_markStoWriteS_0 := mw_markStoWriteS_0 _ hp rfl
    subst hc
    right
    rename_i y0 y1 y2
    have key := LT_step kw_markStoWriteS_0 hp (fun q hq => loopsAll_in _ _ _ _ hp hq) (fun ((y0, y1, y2) : (List ((ByteArray) × ((Bool) × (List (Int))))) × (Int) × (Int)) => (hw_markStoWriteS_0 y0 y1 y2)) (xw_markStoWriteS_0) (g_Sw_markStoWriteS_0) (fun x => by first | exact bw_markStoWriteS_0 x.1 x.2.1 x.2.2) n (x := (y0, y1, y2)) (okO_some e1)
    have hx : ∀ r, XT.sel (.leaf (.exit 0) [(.T 0, .t (.val false [.row 0 0 0])), (.R 0 0, .r 0 (some ⟨false, .any, true, 36, (.pair .str (.pair .bool (.sl 3 (.int .i64)))), r.1⟩)), (.T 1, .t (.val false [.int .i64 r.2]))]) = xw_markStoWriteS_0 r := fun r => by first | rfl | (rcases r with r | r <;> rfl) | (rcases r with r | r | r <;> rfl) | (rcases r with r | r | r | r <;> rfl)
    have h3 := (hx (valO (g_Lw_markStoWriteS_0 (y0, y1, y2)))).symm.trans h2
    have e3 := congrArg Prod.fst h3
    have e4 := congrArg Prod.snd h3
    simp only at e3 e4
    rw [← e3, ← e4]
    exact key
  · exact .inl ⟨xt, h1, h2⟩)
noncomputable def g_Aw_markStoWriteS (a0 : List ((ByteArray) × ((Bool) × (List (Int))))) (a1 : Int) : Bool := okO (g_Lw_markStoWriteS_0 (a0, a1, (0 : Int)))
noncomputable def g_Vw_markStoWriteS_0 (a0 : List ((ByteArray) × ((Bool) × (List (Int))))) (a1 : Int) : Int := (valO (g_Lw_markStoWriteS_0 (a0, a1, (0 : Int)))).2
noncomputable def g_Vw_markStoWriteS_1 (a0 : List ((ByteArray) × ((Bool) × (List (Int))))) (a1 : Int) : List ((ByteArray) × ((Bool) × (List (Int)))) := (valO (g_Lw_markStoWriteS_0 (a0, a1, (0 : Int)))).1
noncomputable def Fw_markStoWriteS : FSem := fun ys => match ys with
  | [.val false [.own .any true 36 (.pair .str (.pair .bool (.sl 3 (.int .i64)))) a0], .val false [.int .i64 a1]] => some ((g_Aw_markStoWriteS a0 a1), .val false [.int .i64 (g_Vw_markStoWriteS_0 a0 a1)], [[.own .any true 36 (.pair .str (.pair .bool (.sl 3 (.int .i64)))) (g_Vw_markStoWriteS_1 a0 a1)]])
  | _ => none
theorem vw_markStoWriteS (a0 : List ((ByteArray) × ((Bool) × (List (Int))))) (a1 : Int) : collapseH .std Ew_markStoWriteS Ow_markStoWriteS_1 (execFn Ew_markStoWriteS Go.Proofs.Tryd.f25 msw_markStoWriteS [.val false [.own .any true 36 (.pair .str (.pair .bool (.sl 3 (.int .i64)))) a0], .val false [.int .i64 a1]]) = some ((g_Aw_markStoWriteS a0 a1), .val false [.int .i64 (g_Vw_markStoWriteS_0 a0 a1)], [[.own .any true 36 (.pair .str (.pair .bool (.sl 3 (.int .i64)))) (g_Vw_markStoWriteS_1 a0 a1)]]) := by kernel_rfl
theorem sw_markStoWriteS : Sound Go.Proofs.Tryd.prog 25 msw_markStoWriteS Fw_markStoWriteS := by
  refine fn_gen goodw_markStoWriteS (by kernel_rfl) .std (fn := Go.Proofs.Tryd.f25) (c := (Go.Proofs.Tryd.f25.body.getD .skip)) (o := Ow_markStoWriteS_1) (k := 1) (by kernel_rfl) (by kernel_rfl) (by kernel_rfl) (by kernel_rfl) (by decide) kw_markStoWriteS_1 ?_
  intro ys r outs h
  unfold Fw_markStoWriteS at h
  split at h
  · exact (vw_markStoWriteS _ _).trans h
  · cases h
end Go.Proofs.YtjoggjjjlafdmaaDoor.E
end
section
namespace Go.Proofs.YtjoggjjjlafdmaaDoor.E
open Go
set_option maxRecDepth 100000
set_option maxHeartbeats 0
set_option linter.all false
noncomputable def Ew_szIntS : Env where
  tt := mkTI Go.Proofs.Tryd.prog
  fn := fun _ => none
  bxf := fun _ => none
  mv := []
  keep := fun _ => []
  keepB := fun _ => []
  keepX := fun _ => []
  keepXB := fun _ => []
theorem goodFw_szIntS : ∀ f ms F, Ew_szIntS.fn f = some (ms, F) → Sound Go.Proofs.Tryd.prog f ms F := fun f ms F h => by cases h
theorem goodBw_szIntS : ∀ f ms F, Ew_szIntS.bxf f = some (ms, F) → SoundB Go.Proofs.Tryd.prog f ms F := fun f ms F h => by cases h
theorem goodw_szIntS : Good Go.Proofs.Tryd.prog Ew_szIntS := ⟨rfl, goodFw_szIntS, goodBw_szIntS⟩
noncomputable def Ow_szIntS_0 : Orc := fun _ _ => none
noncomputable def msw_szIntS : List PM := [.rd, .own]
noncomputable def lsw_szIntS : List (Nat × Code) := loopsAll 0 (Go.Proofs.Tryd.f78.body.getD .skip)

theorem kw_szIntS_0 : OrcOk Ew_szIntS Ow_szIntS_0 lsw_szIntS 0 := orcOk_none
noncomputable def g_Vw_szIntS_0 (a0 : List (Int)) (a1 : Int) : Int := bif decide (IntKind.wrap IntKind.i64 (a1 - (↑(List.length a0) : Int)) < (0 : Int)) then (-1 : Int) else IntKind.wrap IntKind.i64 (a1 - (↑(List.length a0) : Int))
noncomputable def Fw_szIntS : FSem := fun ys => match ys with
  | [.val false [.sl .any 3 (.int .i64) a0], .val false [.int .i64 a1]] => some (true, .val false [.int .i64 (g_Vw_szIntS_0 a0 a1)], [])
  | _ => none
theorem vw_szIntS (a0 : List (Int)) (a1 : Int) : collapseH .std Ew_szIntS Ow_szIntS_0 (execFn Ew_szIntS Go.Proofs.Tryd.f78 msw_szIntS [.val false [.sl .any 3 (.int .i64) a0], .val false [.int .i64 a1]]) = some (true, .val false [.int .i64 (g_Vw_szIntS_0 a0 a1)], []) := by kernel_rfl
theorem sw_szIntS : Sound Go.Proofs.Tryd.prog 78 msw_szIntS Fw_szIntS := by
  refine fn_gen goodw_szIntS (by kernel_rfl) .std (fn := Go.Proofs.Tryd.f78) (c := (Go.Proofs.Tryd.f78.body.getD .skip)) (o := Ow_szIntS_0) (k := 0) (by kernel_rfl) (by kernel_rfl) (by kernel_rfl) (by kernel_rfl) (by decide) kw_szIntS_0 ?_
  intro ys r outs h
  unfold Fw_szIntS at h
  split at h
  · exact (vw_szIntS _ _).trans h
  · cases h
end Go.Proofs.YtjoggjjjlafdmaaDoor.E
end
section
namespace Go.Proofs.YtjoggjjjlafdmaaDoor.E
open Go
set_option maxRecDepth 100000
set_option maxHeartbeats 0
set_option linter.all false
noncomputable def Ew_szStoItem : Env where
  tt := mkTI Go.Proofs.Tryd.prog
  fn := fun f => match f with
    | 78 => some (msw_szIntS, FSem.wk msw_szIntS Fw_szIntS)
    | _ => none
  bxf := fun _ => none
  mv := []
  keep := fun _ => []
  keepB := fun _ => []
  keepX := fun _ => []
  keepXB := fun _ => []
theorem goodFw_szStoItem : ∀ f ms F, Ew_szStoItem.fn f = some (ms, F) → Sound Go.Proofs.Tryd.prog f ms F := fun f ms F h => by
  unfold Ew_szStoItem at h
  dsimp only at h
  split at h
  · injection h with h; injection h with e1 e2; subst e1 e2; exact Sound.wk sw_szIntS
  · cases h
theorem goodBw_szStoItem : ∀ f ms F, Ew_szStoItem.bxf f = some (ms, F) → SoundB Go.Proofs.Tryd.prog f ms F := fun f ms F h => by cases h
theorem goodw_szStoItem : Good Go.Proofs.Tryd.prog Ew_szStoItem := ⟨rfl, goodFw_szStoItem, goodBw_szStoItem⟩
noncomputable def Ow_szStoItem_0 : Orc := fun _ _ => none
noncomputable def msw_szStoItem : List PM := [.rd, .own]
noncomputable def lsw_szStoItem : List (Nat × Code) := loopsAll 0 (Go.Proofs.Tryd.f77.body.getD .skip)

theorem kw_szStoItem_0 : OrcOk Ew_szStoItem Ow_szStoItem_0 lsw_szStoItem 0 := orcOk_none
noncomputable def g_Aw_szStoItem (a0 : ByteArray) (a1 : List (Int)) (a2 : Int) : Bool := decide (IntKind.wrap IntKind.i64 (a2 - (↑(ByteArray.size a0) : Int)) < (0 : Int)) || true
noncomputable def g_Vw_szStoItem_0 (a0 : ByteArray) (a1 : List (Int)) (a2 : Int) : Int := bif decide (IntKind.wrap IntKind.i64 (a2 - (↑(ByteArray.size a0) : Int)) < (0 : Int)) then (-1 : Int) else bif decide (g_Vw_szIntS_0 a1 (IntKind.wrap IntKind.i64 (a2 - (↑(ByteArray.size a0) : Int))) < (0 : Int)) then (-1 : Int) else g_Vw_szIntS_0 a1 (IntKind.wrap IntKind.i64 (a2 - (↑(ByteArray.size a0) : Int)))
noncomputable def Fw_szStoItem : FSem := fun ys => match ys with
  | [.val true [.str a0, .sl .any 3 (.int .i64) a1], .val false [.int .i64 a2]] => some ((g_Aw_szStoItem a0 a1 a2), .val false [.int .i64 (g_Vw_szStoItem_0 a0 a1 a2)], [])
  | _ => none
theorem vw_szStoItem (a0 : ByteArray) (a1 : List (Int)) (a2 : Int) : collapseH .std Ew_szStoItem Ow_szStoItem_0 (execFn Ew_szStoItem Go.Proofs.Tryd.f77 msw_szStoItem [.val true [.str a0, .sl .any 3 (.int .i64) a1], .val false [.int .i64 a2]]) = some ((g_Aw_szStoItem a0 a1 a2), .val false [.int .i64 (g_Vw_szStoItem_0 a0 a1 a2)], []) := by kernel_rfl
theorem sw_szStoItem : Sound Go.Proofs.Tryd.prog 77 msw_szStoItem Fw_szStoItem := by
  refine fn_gen goodw_szStoItem (by kernel_rfl) .std (fn := Go.Proofs.Tryd.f77) (c := (Go.Proofs.Tryd.f77.body.getD .skip)) (o := Ow_szStoItem_0) (k := 0) (by kernel_rfl) (by kernel_rfl) (by kernel_rfl) (by kernel_rfl) (by decide) kw_szStoItem_0 ?_
  intro ys r outs h
  unfold Fw_szStoItem at h
  split at h
  · exact (vw_szStoItem _ _ _).trans h
  · cases h
end Go.Proofs.YtjoggjjjlafdmaaDoor.E
end
section
namespace Go.Proofs.YtjoggjjjlafdmaaDoor.E
open Go
set_option maxRecDepth 100000
set_option maxHeartbeats 0
set_option linter.all false
noncomputable def Ew_szStoItemS : Env where
  tt := mkTI Go.Proofs.Tryd.prog
  fn := fun f => match f with
    | 77 => some (msw_szStoItem, FSem.wk msw_szStoItem Fw_szStoItem)
    | _ => none
  bxf := fun _ => none
  mv := []
  keep := fun b => match b with
    | 0 => [(0, false), (1, false), (5, false)]
    | _ => []
  keepB := fun b => match b with
    | 0 => []
    | _ => []
  keepX := fun b => match b with
    | 0 => [(1, false), (4, false)]
    | _ => []
  keepXB := fun b => match b with
    | 0 => []
    | _ => []
theorem goodFw_szStoItemS : ∀ f ms F, Ew_szStoItemS.fn f = some (ms, F) → Sound Go.Proofs.Tryd.prog f ms F := fun f ms F h => by
  unfold Ew_szStoItemS at h
  dsimp only at h
  split at h
  · injection h with h; injection h with e1 e2; subst e1 e2; exact Sound.wk sw_szStoItem
  · cases h
theorem goodBw_szStoItemS : ∀ f ms F, Ew_szStoItemS.bxf f = some (ms, F) → SoundB Go.Proofs.Tryd.prog f ms F := fun f ms F h => by cases h
theorem goodw_szStoItemS : Good Go.Proofs.Tryd.prog Ew_szStoItemS := ⟨rfl, goodFw_szStoItemS, goodBw_szStoItemS⟩
noncomputable def Ow_szStoItemS_0 : Orc := fun _ _ => none
noncomputable def msw_szStoItemS : List PM := [.rd, .own]
noncomputable def lsw_szStoItemS : List (Nat × Code) := loopsAll 0 (Go.Proofs.Tryd.f48.body.getD .skip)
noncomputable def cw_szStoItemS_0 : Code := (loopOf 0 (Go.Proofs.Tryd.f48.body.getD .skip)).getD .skip
theorem lseqw_szStoItemS : lsw_szStoItemS = [(0, cw_szStoItemS_0)] := by kernel_rfl
theorem mw_szStoItemS_0 : ∀ p, p ∈ lsw_szStoItemS → p.1 = 0 → p.2 = cw_szStoItemS_0 := by
  intro p hp
  rw [lseqw_szStoItemS] at hp
  simp only [List.mem_cons, List.not_mem_nil, or_false] at hp
  subst hp; simp
theorem kw_szStoItemS_0 : OrcOk Ew_szStoItemS Ow_szStoItemS_0 lsw_szStoItemS 0 := orcOk_none
noncomputable def hw_szStoItemS_0 (y0 : List ((ByteArray) × (List (Int)))) (y1 : Int) (y2 : Int) : List (Pl × LV) := [(.T 0, .t (.val false [.sl .any 110 (.pair .str (.sl 3 (.int .i64))) y0])), (.T 1, .t (.val false [.int .i64 y1])), (.T 5, .t (.val false [.int .i64 y2]))]
noncomputable def g_Sw_szStoItemS_0 (y0 : List ((ByteArray) × (List (Int)))) : ((Int) × (Int)) → RT ((Int) × (Int)) (((Int) × (Int)) ⊕ ((Int)))
  | (y1, y2) => .br (true) (.br (decide (y2 < (↑(List.length y0) : Int))) (.br (decide ((0 : Int) ≤ y2 ∧ y2 < (↑(List.length y0) : Int))) (.br (g_Aw_szStoItem (at_ (Ty.pair Ty.str (Ty.sl (nat_lit 3) (Ty.int IntKind.i64))) y0 (Int.toNat y2)).1 (at_ (Ty.pair Ty.str (Ty.sl (nat_lit 3) (Ty.int IntKind.i64))) y0 (Int.toNat y2)).2 y1) (.br (true) (.br (decide (g_Vw_szStoItem_0 (at_ (Ty.pair Ty.str (Ty.sl (nat_lit 3) (Ty.int IntKind.i64))) y0 (Int.toNat y2)).1 (at_ (Ty.pair Ty.str (Ty.sl (nat_lit 3) (Ty.int IntKind.i64))) y0 (Int.toNat y2)).2 y1 < (0 : Int))) (.out (.inl ((g_Vw_szStoItem_0 (at_ (Ty.pair Ty.str (Ty.sl (nat_lit 3) (Ty.int IntKind.i64))) y0 (Int.toNat y2)).1 (at_ (Ty.pair Ty.str (Ty.sl (nat_lit 3) (Ty.int IntKind.i64))) y0 (Int.toNat y2)).2 y1, (-1 : Int))))) (.br (true) (.go ((g_Vw_szStoItem_0 (at_ (Ty.pair Ty.str (Ty.sl (nat_lit 3) (Ty.int IntKind.i64))) y0 (Int.toNat y2)).1 (at_ (Ty.pair Ty.str (Ty.sl (nat_lit 3) (Ty.int IntKind.i64))) y0 (Int.toNat y2)).2 y1, IntKind.wrap IntKind.i64 (y2 + (1 : Int))))) (.bad))) (.bad)) (.bad)) (.bad)) (.out (.inr (y1)))) (.bad)
noncomputable def g_Lw_szStoItemS_0 (y0 : List ((ByteArray) × (List (Int)))) (x : (Int) × (Int)) : Option (((Int) × (Int)) ⊕ ((Int))) := loopO (g_Sw_szStoItemS_0 y0) x
noncomputable def xw_szStoItemS_0 (y0 : List ((ByteArray) × (List (Int)))) : (((Int) × (Int)) ⊕ ((Int))) → Ex × List (Pl × LV) := fun
  | .inl r => (.ret, [(.T 1, .t (.val false [.int .i64 r.1])), (.T 4, .t (.val false [.int .i64 r.2]))])
  | .inr (r) => (.exit 0, [(.T 1, .t (.val false [.int .i64 r])), (.T 4, .t (.val false [.undef]))])
noncomputable def Ow_szStoItemS_1 : Orc := fun b h => match b, h with
  | 0, [(.T 0, .t (.val false [.sl .any 110 (.pair .str (.sl 3 (.int .i64))) y0])), (.T 1, .t (.val false [.int .i64 y1])), (.T 5, .t (.val false [.int .i64 y2]))] => some (okO (g_Lw_szStoItemS_0 y0 (y1, y2)), (.br (isL (valO (g_Lw_szStoItemS_0 y0 (y1, y2)))) (.leaf .ret [(.T 1, .t (.val false [.int .i64 (getL (valO (g_Lw_szStoItemS_0 y0 (y1, y2)))).1])), (.T 4, .t (.val false [.int .i64 (getL (valO (g_Lw_szStoItemS_0 y0 (y1, y2)))).2]))]) (.leaf (.exit 0) [(.T 1, .t (.val false [.int .i64 (getR (valO (g_Lw_szStoItemS_0 y0 (y1, y2))))])), (.T 4, .t (.val false [.undef]))])))
  | b, h => Ow_szStoItemS_0 b h
theorem bw_szStoItemS_0 (y0 : List ((ByteArray) × (List (Int)))) (y1 : Int) (y2 : Int) : Tr.bt Ew_szStoItemS Ow_szStoItemS_0 (exec Ew_szStoItemS 0 cw_szStoItemS_0 (St.of (hw_szStoItemS_0 y0 y1 y2)) (leafRd Ew_szStoItemS 0)) = (g_Sw_szStoItemS_0 y0 (y1, y2)).bt (fun ((y1, y2) : (Int) × (Int)) => (hw_szStoItemS_0 y0 y1 y2)) (xw_szStoItemS_0 y0) := by kernel_rfl
theorem kw_szStoItemS_1 : OrcOk Ew_szStoItemS Ow_szStoItemS_1 lsw_szStoItemS 1 := orc_add kw_szStoItemS_0 (fun n p hp h ex h' ho => by
  obtain ⟨b, c⟩ := p
  obtain ⟨xt, h1, h2⟩ := ho
  have h1 : Ow_szStoItemS_1 b h = some (true, xt) := h1
  unfold Ow_szStoItemS_1 at h1
  split at h1
  · injection h1 with h1
    injection h1 with e1 e2
    subst e2
    have hc : c = cw_szStoItemS_0 := mw_szStoItemS_0 _ hp rfl
    subst hc
    right
    rename_i y0 y1 y2
    have key := LT_step kw_szStoItemS_0 hp (fun q hq => loopsAll_in _ _ _ _ hp hq) (fun ((y1, y2) : (Int) × (Int)) => (hw_szStoItemS_0 y0 y1 y2)) (xw_szStoItemS_0 y0) (g_Sw_szStoItemS_0 y0) (fun x => by first | exact bw_szStoItemS_0 y0 x.1 x.2) n (x := (y1, y2)) (okO_some e1)
    have hx : ∀ r, XT.sel (.br (isL r) (.leaf .ret [(.T 1, .t (.val false [.int .i64 (getL r).1])), (.T 4, .t (.val false [.int .i64 (getL r).2]))]) (.leaf (.exit 0) [(.T 1, .t (.val false [.int .i64 (getR r)])), (.T 4, .t (.val false [.undef]))])) = xw_szStoItemS_0 y0 r := fun r => by first | rfl | (rcases r with r | r <;> rfl) | (rcases r with r | r | r <;> rfl) | (rcases r with r | r | r | r <;> rfl)
    have h3 := (hx (valO (g_Lw_szStoItemS_0 y0 (y1, y2)))).symm.trans h2
    have e3 := congrArg Prod.fst h3
    have e4 := congrArg Prod.snd h3
    simp only at e3 e4
    rw [← e3, ← e4]
    exact key
  · exact .inl ⟨xt, h1, h2⟩)
noncomputable def g_Aw_szStoItemS (a0 : List ((ByteArray) × (List (Int)))) (a1 : Int) : Bool := decide (IntKind.wrap IntKind.i64 (a1 - (↑(List.length a0) : Int)) < (0 : Int)) || okO (g_Lw_szStoItemS_0 a0 (IntKind.wrap IntKind.i64 (a1 - (↑(List.length a0) : Int)), (0 : Int)))
noncomputable def g_Vw_szStoItemS_0 (a0 : List ((ByteArray) × (List (Int)))) (a1 : Int) : Int := bif decide (IntKind.wrap IntKind.i64 (a1 - (↑(List.length a0) : Int)) < (0 : Int)) then (-1 : Int) else bif isL (valO (g_Lw_szStoItemS_0 a0 (IntKind.wrap IntKind.i64 (a1 - (↑(List.length a0) : Int)), (0 : Int)))) then (getL (valO (g_Lw_szStoItemS_0 a0 (IntKind.wrap IntKind.i64 (a1 - (↑(List.length a0) : Int)), (0 : Int))))).2 else getR (valO (g_Lw_szStoItemS_0 a0 (IntKind.wrap IntKind.i64 (a1 - (↑(List.length a0) : Int)), (0 : Int))))
noncomputable def Fw_szStoItemS : FSem := fun ys => match ys with
  | [.val false [.sl .any 110 (.pair .str (.sl 3 (.int .i64))) a0], .val false [.int .i64 a1]] => some ((g_Aw_szStoItemS a0 a1), .val false [.int .i64 (g_Vw_szStoItemS_0 a0 a1)], [])
  | _ => none
theorem vw_szStoItemS (a0 : List ((ByteArray) × (List (Int)))) (a1 : Int) : collapseH .std Ew_szStoItemS Ow_szStoItemS_1 (execFn Ew_szStoItemS Go.Proofs.Tryd.f48 msw_szStoItemS [.val false [.sl .any 110 (.pair .str (.sl 3 (.int .i64))) a0], .val false [.int .i64 a1]]) = some ((g_Aw_szStoItemS a0 a1), .val false [.int .i64 (g_Vw_szStoItemS_0 a0 a1)], []) := by kernel_rfl
theorem sw_szStoItemS : Sound Go.Proofs.Tryd.prog 48 msw_szStoItemS Fw_szStoItemS := by
  refine fn_gen goodw_szStoItemS (by kernel_rfl) .std (fn := Go.Proofs.Tryd.f48) (c := (Go.Proofs.Tryd.f48.body.getD .skip)) (o := Ow_szStoItemS_1) (k := 1) (by kernel_rfl) (by kernel_rfl) (by kernel_rfl) (by kernel_rfl) (by decide) kw_szStoItemS_1 ?_
  intro ys r outs h
  unfold Fw_szStoItemS at h
  split at h
  · exact (vw_szStoItemS _ _).trans h
  · cases h
end Go.Proofs.YtjoggjjjlafdmaaDoor.E
end
section
namespace Go.Proofs.YtjoggjjjlafdmaaDoor.E
open Go
set_option maxRecDepth 100000
set_option maxHeartbeats 0
set_option linter.all false
noncomputable def Ew_szStoStore : Env where
  tt := mkTI Go.Proofs.Tryd.prog
  fn := fun f => match f with
    | 48 => some (msw_szStoItemS, FSem.wk msw_szStoItemS Fw_szStoItemS)
    | _ => none
  bxf := fun _ => none
  mv := []
  keep := fun _ => []
  keepB := fun _ => []
  keepX := fun _ => []
  keepXB := fun _ => []
theorem goodFw_szStoStore : ∀ f ms F, Ew_szStoStore.fn f = some (ms, F) → Sound Go.Proofs.Tryd.prog f ms F := fun f ms F h => by
  unfold Ew_szStoStore at h
  dsimp only at h
  split at h
  · injection h with h; injection h with e1 e2; subst e1 e2; exact Sound.wk sw_szStoItemS
  · cases h
theorem goodBw_szStoStore : ∀ f ms F, Ew_szStoStore.bxf f = some (ms, F) → SoundB Go.Proofs.Tryd.prog f ms F := fun f ms F h => by cases h
theorem goodw_szStoStore : Good Go.Proofs.Tryd.prog Ew_szStoStore := ⟨rfl, goodFw_szStoStore, goodBw_szStoStore⟩
noncomputable def Ow_szStoStore_0 : Orc := fun _ _ => none
noncomputable def msw_szStoStore : List PM := [.rd, .own]
noncomputable def lsw_szStoStore : List (Nat × Code) := loopsAll 0 (Go.Proofs.Tryd.f18.body.getD .skip)

theorem kw_szStoStore_0 : OrcOk Ew_szStoStore Ow_szStoStore_0 lsw_szStoStore 0 := orcOk_none
noncomputable def g_Aw_szStoStore (a0 : List ((ByteArray) × (List (Int)))) (a1 : Int) : Bool := g_Aw_szStoItemS a0 a1 && true
noncomputable def g_Vw_szStoStore_0 (a0 : List ((ByteArray) × (List (Int)))) (a1 : Int) : Int := bif decide (g_Vw_szStoItemS_0 a0 a1 < (0 : Int)) then (-1 : Int) else g_Vw_szStoItemS_0 a0 a1
noncomputable def Fw_szStoStore : FSem := fun ys => match ys with
  | [.val true [.sl .any 110 (.pair .str (.sl 3 (.int .i64))) a0], .val false [.int .i64 a1]] => some ((g_Aw_szStoStore a0 a1), .val false [.int .i64 (g_Vw_szStoStore_0 a0 a1)], [])
  | _ => none
theorem vw_szStoStore (a0 : List ((ByteArray) × (List (Int)))) (a1 : Int) : collapseH .std Ew_szStoStore Ow_szStoStore_0 (execFn Ew_szStoStore Go.Proofs.Tryd.f18 msw_szStoStore [.val true [.sl .any 110 (.pair .str (.sl 3 (.int .i64))) a0], .val false [.int .i64 a1]]) = some ((g_Aw_szStoStore a0 a1), .val false [.int .i64 (g_Vw_szStoStore_0 a0 a1)], []) := by kernel_rfl
theorem sw_szStoStore : Sound Go.Proofs.Tryd.prog 18 msw_szStoStore Fw_szStoStore := by
  refine fn_gen goodw_szStoStore (by kernel_rfl) .std (fn := Go.Proofs.Tryd.f18) (c := (Go.Proofs.Tryd.f18.body.getD .skip)) (o := Ow_szStoStore_0) (k := 0) (by kernel_rfl) (by kernel_rfl) (by kernel_rfl) (by kernel_rfl) (by decide) kw_szStoStore_0 ?_
  intro ys r outs h
  unfold Fw_szStoStore at h
  split at h
  · exact (vw_szStoStore _ _).trans h
  · cases h
end Go.Proofs.YtjoggjjjlafdmaaDoor.E
end
section
namespace Go.Proofs.YtjoggjjjlafdmaaDoor.E
open Go
set_option maxRecDepth 100000
set_option maxHeartbeats 0
set_option linter.all false
noncomputable def Ew_szStoWrite : Env where
  tt := mkTI Go.Proofs.Tryd.prog
  fn := fun f => match f with
    | 78 => some (msw_szIntS, FSem.wk msw_szIntS Fw_szIntS)
    | _ => none
  bxf := fun _ => none
  mv := []
  keep := fun _ => []
  keepB := fun _ => []
  keepX := fun _ => []
  keepXB := fun _ => []
theorem goodFw_szStoWrite : ∀ f ms F, Ew_szStoWrite.fn f = some (ms, F) → Sound Go.Proofs.Tryd.prog f ms F := fun f ms F h => by
  unfold Ew_szStoWrite at h
  dsimp only at h
  split at h
  · injection h with h; injection h with e1 e2; subst e1 e2; exact Sound.wk sw_szIntS
  · cases h
theorem goodBw_szStoWrite : ∀ f ms F, Ew_szStoWrite.bxf f = some (ms, F) → SoundB Go.Proofs.Tryd.prog f ms F := fun f ms F h => by cases h
theorem goodw_szStoWrite : Good Go.Proofs.Tryd.prog Ew_szStoWrite := ⟨rfl, goodFw_szStoWrite, goodBw_szStoWrite⟩
noncomputable def Ow_szStoWrite_0 : Orc := fun _ _ => none
noncomputable def msw_szStoWrite : List PM := [.rd, .own]
noncomputable def lsw_szStoWrite : List (Nat × Code) := loopsAll 0 (Go.Proofs.Tryd.f49.body.getD .skip)

theorem kw_szStoWrite_0 : OrcOk Ew_szStoWrite Ow_szStoWrite_0 lsw_szStoWrite 0 := orcOk_none
noncomputable def g_Aw_szStoWrite (a0 : ByteArray) (a1 : Bool) (a2 : List (Int)) (a3 : Int) : Bool := decide (IntKind.wrap IntKind.i64 (a3 - (↑(ByteArray.size a0) : Int)) < (0 : Int)) || true
noncomputable def g_Vw_szStoWrite_0 (a0 : ByteArray) (a1 : Bool) (a2 : List (Int)) (a3 : Int) : Int := bif decide (IntKind.wrap IntKind.i64 (a3 - (↑(ByteArray.size a0) : Int)) < (0 : Int)) then (-1 : Int) else bif decide (g_Vw_szIntS_0 a2 (IntKind.wrap IntKind.i64 (a3 - (↑(ByteArray.size a0) : Int))) < (0 : Int)) then (-1 : Int) else g_Vw_szIntS_0 a2 (IntKind.wrap IntKind.i64 (a3 - (↑(ByteArray.size a0) : Int)))
noncomputable def Fw_szStoWrite : FSem := fun ys => match ys with
  | [.val true [.str a0, .bool a1, .sl .any 3 (.int .i64) a2], .val false [.int .i64 a3]] => some ((g_Aw_szStoWrite a0 a1 a2 a3), .val false [.int .i64 (g_Vw_szStoWrite_0 a0 a1 a2 a3)], [])
  | _ => none
theorem vw_szStoWrite (a0 : ByteArray) (a1 : Bool) (a2 : List (Int)) (a3 : Int) : collapseH .std Ew_szStoWrite Ow_szStoWrite_0 (execFn Ew_szStoWrite Go.Proofs.Tryd.f49 msw_szStoWrite [.val true [.str a0, .bool a1, .sl .any 3 (.int .i64) a2], .val false [.int .i64 a3]]) = some ((g_Aw_szStoWrite a0 a1 a2 a3), .val false [.int .i64 (g_Vw_szStoWrite_0 a0 a1 a2 a3)], []) := by kernel_rfl
theorem sw_szStoWrite : Sound Go.Proofs.Tryd.prog 49 msw_szStoWrite Fw_szStoWrite := by
  refine fn_gen goodw_szStoWrite (by kernel_rfl) .std (fn := Go.Proofs.Tryd.f49) (c := (Go.Proofs.Tryd.f49.body.getD .skip)) (o := Ow_szStoWrite_0) (k := 0) (by kernel_rfl) (by kernel_rfl) (by kernel_rfl) (by kernel_rfl) (by decide) kw_szStoWrite_0 ?_
  intro ys r outs h
  unfold Fw_szStoWrite at h
  split at h
  · exact (vw_szStoWrite _ _ _ _).trans h
  · cases h
end Go.Proofs.YtjoggjjjlafdmaaDoor.E
end
section
namespace Go.Proofs.YtjoggjjjlafdmaaDoor.E
open Go
set_option maxRecDepth 100000
set_option maxHeartbeats 0
set_option linter.all false
noncomputable def Ew_szStoWriteS : Env where
  tt := mkTI Go.Proofs.Tryd.prog
  fn := fun f => match f with
    | 49 => some (msw_szStoWrite, FSem.wk msw_szStoWrite Fw_szStoWrite)
    | _ => none
  bxf := fun _ => none
  mv := []
  keep := fun b => match b with
    | 0 => [(0, false), (1, false), (5, false)]
    | _ => []
  keepB := fun b => match b with
    | 0 => []
    | _ => []
  keepX := fun b => match b with
    | 0 => [(1, false), (4, false)]
    | _ => []
  keepXB := fun b => match b with
    | 0 => []
    | _ => []
theorem goodFw_szStoWriteS : ∀ f ms F, Ew_szStoWriteS.fn f = some (ms, F) → Sound Go.Proofs.Tryd.prog f ms F := fun f ms F h => by
  unfold Ew_szStoWriteS at h
  dsimp only at h
  split at h
  · injection h with h; injection h with e1 e2; subst e1 e2; exact Sound.wk sw_szStoWrite
  · cases h
theorem goodBw_szStoWriteS : ∀ f ms F, Ew_szStoWriteS.bxf f = some (ms, F) → SoundB Go.Proofs.Tryd.prog f ms F := fun f ms F h => by cases h
theorem goodw_szStoWriteS : Good Go.Proofs.Tryd.prog Ew_szStoWriteS := ⟨rfl, goodFw_szStoWriteS, goodBw_szStoWriteS⟩
noncomputable def Ow_szStoWriteS_0 : Orc := fun _ _ => none
noncomputable def msw_szStoWriteS : List PM := [.rd, .own]
noncomputable def lsw_szStoWriteS : List (Nat × Code) := loopsAll 0 (Go.Proofs.Tryd.f19.body.getD .skip)
noncomputable def cw_szStoWriteS_0 : Code := (loopOf 0 (Go.Proofs.Tryd.f19.body.getD .skip)).getD .skip
theorem lseqw_szStoWriteS : lsw_szStoWriteS = [(0, cw_szStoWriteS_0)] := by kernel_rfl
theorem mw_szStoWriteS_0 : ∀ p, p ∈ lsw_szStoWriteS → p.1 = 0 → p.2 = cw_szStoWriteS_0 := by
  intro p hp
  rw [lseqw_szStoWriteS] at hp
  simp only [List.mem_cons, List.not_mem_nil, or_false] at hp
  subst hp; simp
theorem kw_szStoWriteS_0 : OrcOk Ew_szStoWriteS Ow_szStoWriteS_0 lsw_szStoWriteS 0 := orcOk_none
noncomputable def hw_szStoWriteS_0 (y0 : List ((ByteArray) × ((Bool) × (List (Int))))) (y1 : Int) (y2 : Int) : List (Pl × LV) := [(.T 0, .t (.val false [.sl .any 81 (.pair .str (.pair .bool (.sl 3 (.int .i64)))) y0])), (.T 1, .t (.val false [.int .i64 y1])), (.T 5, .t (.val false [.int .i64 y2]))]
noncomputable def g_Sw_szStoWriteS_0 (y0 : List ((ByteArray) × ((Bool) × (List (Int))))) : ((Int) × (Int)) → RT ((Int) × (Int)) (((Int) × (Int)) ⊕ ((Int)))
  | (y1, y2) => .br (true) (.br (decide (y2 < (↑(List.length y0) : Int))) (.br (decide ((0 : Int) ≤ y2 ∧ y2 < (↑(List.length y0) : Int))) (.br (g_Aw_szStoWrite (at_ (Ty.pair Ty.str (Ty.pair Ty.bool (Ty.sl (nat_lit 3) (Ty.int IntKind.i64)))) y0 (Int.toNat y2)).1 (at_ (Ty.pair Ty.str (Ty.pair Ty.bool (Ty.sl (nat_lit 3) (Ty.int IntKind.i64)))) y0 (Int.toNat y2)).2.1 (at_ (Ty.pair Ty.str (Ty.pair Ty.bool (Ty.sl (nat_lit 3) (Ty.int IntKind.i64)))) y0 (Int.toNat y2)).2.2 y1) (.br (true) (.br (decide (g_Vw_szStoWrite_0 (at_ (Ty.pair Ty.str (Ty.pair Ty.bool (Ty.sl (nat_lit 3) (Ty.int IntKind.i64)))) y0 (Int.toNat y2)).1 (at_ (Ty.pair Ty.str (Ty.pair Ty.bool (Ty.sl (nat_lit 3) (Ty.int IntKind.i64)))) y0 (Int.toNat y2)).2.1 (at_ (Ty.pair Ty.str (Ty.pair Ty.bool (Ty.sl (nat_lit 3) (Ty.int IntKind.i64)))) y0 (Int.toNat y2)).2.2 y1 < (0 : Int))) (.out (.inl ((g_Vw_szStoWrite_0 (at_ (Ty.pair Ty.str (Ty.pair Ty.bool (Ty.sl (nat_lit 3) (Ty.int IntKind.i64)))) y0 (Int.toNat y2)).1 (at_ (Ty.pair Ty.str (Ty.pair Ty.bool (Ty.sl (nat_lit 3) (Ty.int IntKind.i64)))) y0 (Int.toNat y2)).2.1 (at_ (Ty.pair Ty.str (Ty.pair Ty.bool (Ty.sl (nat_lit 3) (Ty.int IntKind.i64)))) y0 (Int.toNat y2)).2.2 y1, (-1 : Int))))) (.br (true) (.go ((g_Vw_szStoWrite_0 (at_ (Ty.pair Ty.str (Ty.pair Ty.bool (Ty.sl (nat_lit 3) (Ty.int IntKind.i64)))) y0 (Int.toNat y2)).1 (at_ (Ty.pair Ty.str (Ty.pair Ty.bool (Ty.sl (nat_lit 3) (Ty.int IntKind.i64)))) y0 (Int.toNat y2)).2.1 (at_ (Ty.pair Ty.str (Ty.pair Ty.bool (Ty.sl (nat_lit 3) (Ty.int IntKind.i64)))) y0 (Int.toNat y2)).2.2 y1, IntKind.wrap IntKind.i64 (y2 + (1 : Int))))) (.bad))) (.bad)) (.bad)) (.bad)) (.out (.inr (y1)))) (.bad)
noncomputable def g_Lw_szStoWriteS_0 (y0 : List ((ByteArray) × ((Bool) × (List (Int))))) (x : (Int) × (Int)) : Option (((Int) × (Int)) ⊕ ((Int))) := loopO (g_Sw_szStoWriteS_0 y0) x
noncomputable def xw_szStoWriteS_0 (y0 : List ((ByteArray) × ((Bool) × (List (Int))))) : (((Int) × (Int)) ⊕ ((Int))) → Ex × List (Pl × LV) := fun
  | .inl r => (.ret, [(.T 1, .t (.val false [.int .i64 r.1])), (.T 4, .t (.val false [.int .i64 r.2]))])
  | .inr (r) => (.exit 0, [(.T 1, .t (.val false [.int .i64 r])), (.T 4, .t (.val false [.undef]))])
noncomputable def Ow_szStoWriteS_1 : Orc := fun b h => match b, h with
  | 0, [(.T 0, .t (.val false [.sl .any 81 (.pair .str (.pair .bool (.sl 3 (.int .i64)))) y0])), (.T 1, .t (.val false [.int .i64 y1])), (.T 5, .t (.val false [.int .i64 y2]))] => some (okO (g_Lw_szStoWriteS_0 y0 (y1, y2)), (.br (isL (valO (g_Lw_szStoWriteS_0 y0 (y1, y2)))) (.leaf .ret [(.T 1, .t (.val false [.int .i64 (getL (valO (g_Lw_szStoWriteS_0 y0 (y1, y2)))).1])), (.T 4, .t (.val false [.int .i64 (getL (valO (g_Lw_szStoWriteS_0 y0 (y1, y2)))).2]))]) (.leaf (.exit 0) [(.T 1, .t (.val false [.int .i64 (getR (valO (g_Lw_szStoWriteS_0 y0 (y1, y2))))])), (.T 4, .t (.val false [.undef]))])))
  | b, h => Ow_szStoWriteS_0 b h
theorem bw_szStoWriteS_0 (y0 : List ((ByteArray) × ((Bool) × (List (Int))))) (y1 : Int) (y2 : Int) : Tr.bt Ew_szStoWriteS Ow_szStoWriteS_0 (exec Ew_szStoWriteS 0 cw_szStoWriteS_0 (St.of (hw_szStoWriteS_0 y0 y1 y2)) (leafRd Ew_szStoWriteS 0)) = (g_Sw_szStoWriteS_0 y0 (y1, y2)).bt (fun ((y1, y2) : (Int) × (Int)) => (hw_szStoWriteS_0 y0 y1 y2)) (xw_szStoWriteS_0 y0) := by kernel_rfl
theorem kw_szStoWriteS_1 : OrcOk Ew_szStoWriteS Ow_szStoWriteS_1 lsw_szStoWriteS 1 := orc_add kw_szStoWriteS_0 (fun n p hp h ex h' ho => by
  obtain ⟨b, c⟩ := p
  obtain ⟨xt, h1, h2⟩ := ho
  have h1 : Ow_szStoWriteS_1 b h = some (true, xt) := h1
  unfold Ow_szStoWriteS_1 at h1
  split at h1
  · injection h1 with h1
    injection h1 with e1 e2
    subst e2
    have hc : c = cw_szStoWriteS_0 := mw_szStoWriteS_0 _ hp rfl
    subst hc
    right
    rename_i y0 y1 y2
    have key := LT_step kw_szStoWriteS_0 hp (fun q hq => loopsAll_in _ _ _ _ hp hq) (fun ((y1, y2) : (Int) × (Int)) => (hw_szStoWriteS_0 y0 y1 y2)) (xw_szStoWriteS_0 y0) (g_Sw_szStoWriteS_0 y0) (fun x => by first | exact bw_szStoWriteS_0 y0 x.1 x.2) n (x := (y1, y2)) (okO_some e1)
    have hx : ∀ r, XT.sel (.br (isL r) (.leaf .ret [(.T 1, .t (.val false [.int .i64 (getL r).1])), (.T 4, .t (.val false [.int .i64 (getL r).2]))]) (.leaf (.exit 0) [(.T 1, .t (.val false [.int .i64 (getR r)])), (.T 4, .t (.val false [.undef]))])) = xw_szStoWriteS_0 y0 r := fun r => by first | rfl | (rcases r with r | r <;> rfl) | (rcases r with r | r | r <;> rfl) | (rcases r with r | r | r | r <;> rfl)
    have h3 := (hx (valO (g_Lw_szStoWriteS_0 y0 (y1, y2)))).symm.trans h2
    have e3 := congrArg Prod.fst h3
    have e4 := congrArg Prod.snd h3
    simp only at e3 e4
    rw [← e3, ← e4]
    exact key
  · exact .inl ⟨xt, h1, h2⟩)
noncomputable def g_Aw_szStoWriteS (a0 : List ((ByteArray) × ((Bool) × (List (Int))))) (a1 : Int) : Bool := decide (IntKind.wrap IntKind.i64 (a1 - (↑(List.length a0) : Int)) < (0 : Int)) || okO (g_Lw_szStoWriteS_0 a0 (IntKind.wrap IntKind.i64 (a1 - (↑(List.length a0) : Int)), (0 : Int)))
noncomputable def g_Vw_szStoWriteS_0 (a0 : List ((ByteArray) × ((Bool) × (List (Int))))) (a1 : Int) : Int := bif decide (IntKind.wrap IntKind.i64 (a1 - (↑(List.length a0) : Int)) < (0 : Int)) then (-1 : Int) else bif isL (valO (g_Lw_szStoWriteS_0 a0 (IntKind.wrap IntKind.i64 (a1 - (↑(List.length a0) : Int)), (0 : Int)))) then (getL (valO (g_Lw_szStoWriteS_0 a0 (IntKind.wrap IntKind.i64 (a1 - (↑(List.length a0) : Int)), (0 : Int))))).2 else getR (valO (g_Lw_szStoWriteS_0 a0 (IntKind.wrap IntKind.i64 (a1 - (↑(List.length a0) : Int)), (0 : Int))))
noncomputable def Fw_szStoWriteS : FSem := fun ys => match ys with
  | [.val false [.sl .any 81 (.pair .str (.pair .bool (.sl 3 (.int .i64)))) a0], .val false [.int .i64 a1]] => some ((g_Aw_szStoWriteS a0 a1), .val false [.int .i64 (g_Vw_szStoWriteS_0 a0 a1)], [])
  | _ => none
theorem vw_szStoWriteS (a0 : List ((ByteArray) × ((Bool) × (List (Int))))) (a1 : Int) : collapseH .std Ew_szStoWriteS Ow_szStoWriteS_1 (execFn Ew_szStoWriteS Go.Proofs.Tryd.f19 msw_szStoWriteS [.val false [.sl .any 81 (.pair .str (.pair .bool (.sl 3 (.int .i64)))) a0], .val false [.int .i64 a1]]) = some ((g_Aw_szStoWriteS a0 a1), .val false [.int .i64 (g_Vw_szStoWriteS_0 a0 a1)], []) := by kernel_rfl
theorem sw_szStoWriteS : Sound Go.Proofs.Tryd.prog 19 msw_szStoWriteS Fw_szStoWriteS := by
  refine fn_gen goodw_szStoWriteS (by kernel_rfl) .std (fn := Go.Proofs.Tryd.f19) (c := (Go.Proofs.Tryd.f19.body.getD .skip)) (o := Ow_szStoWriteS_1) (k := 1) (by kernel_rfl) (by kernel_rfl) (by kernel_rfl) (by kernel_rfl) (by decide) kw_szStoWriteS_1 ?_
  intro ys r outs h
  unfold Fw_szStoWriteS at h
  split at h
  · exact (vw_szStoWriteS _ _).trans h
  · cases h
end Go.Proofs.YtjoggjjjlafdmaaDoor.E
end
section
namespace Go.Proofs.YtjoggjjjlafdmaaDoor.E
open Go
set_option maxRecDepth 100000
set_option maxHeartbeats 0
set_option linter.all false
noncomputable def Ew_toIntS : Env where
  tt := mkTI Go.Proofs.Tryd.prog
  fn := fun _ => none
  bxf := fun _ => none
  mv := []
  keep := fun b => match b with
    | 0 => [(0, false), (3, false), (4, false)]
    | _ => []
  keepB := fun b => match b with
    | 0 => []
    | _ => []
  keepX := fun b => match b with
    | 0 => [(3, false)]
    | _ => []
  keepXB := fun b => match b with
    | 0 => []
    | _ => []
theorem goodFw_toIntS : ∀ f ms F, Ew_toIntS.fn f = some (ms, F) → Sound Go.Proofs.Tryd.prog f ms F := fun f ms F h => by cases h
theorem goodBw_toIntS : ∀ f ms F, Ew_toIntS.bxf f = some (ms, F) → SoundB Go.Proofs.Tryd.prog f ms F := fun f ms F h => by cases h
theorem goodw_toIntS : Good Go.Proofs.Tryd.prog Ew_toIntS := ⟨rfl, goodFw_toIntS, goodBw_toIntS⟩
noncomputable def Ow_toIntS_0 : Orc := fun _ _ => none
noncomputable def msw_toIntS : List PM := [.rd]
noncomputable def lsw_toIntS : List (Nat × Code) := loopsAll 0 (Go.Proofs.Tryd.f80.body.getD .skip)
noncomputable def cw_toIntS_0 : Code := (loopOf 0 (Go.Proofs.Tryd.f80.body.getD .skip)).getD .skip
theorem lseqw_toIntS : lsw_toIntS = [(0, cw_toIntS_0)] := by kernel_rfl
theorem mw_toIntS_0 : ∀ p, p ∈ lsw_toIntS → p.1 = 0 → p.2 = cw_toIntS_0 := by
  intro p hp
  rw [lseqw_toIntS] at hp
  simp only [List.mem_cons, List.not_mem_nil, or_false] at hp
  subst hp; simp
theorem kw_toIntS_0 : OrcOk Ew_toIntS Ow_toIntS_0 lsw_toIntS 0 := orcOk_none
noncomputable def hw_toIntS_0 (y0 : List (Int)) (y1 : List (Int)) (y2 : Int) : List (Pl × LV) := [(.T 0, .t (.val false [.sl .any 3 (.int .i64) y0])), (.T 3, .t (.val false [.row 3 0 0])), (.R 3 0, .r 0 (some ⟨false, .non, true, 3, (.int .i64), y1⟩)), (.T 4, .t (.val false [.int .i64 y2]))]
noncomputable def g_Sw_toIntS_0 (y0 : List (Int)) : ((List (Int)) × (Int)) → RT ((List (Int)) × (Int)) (((List (Int))))
  | (y1, y2) => .br (true) (.br (decide (y2 < (↑(List.length y0) : Int))) (.br (decide ((0 : Int) ≤ y2 ∧ y2 < (↑(List.length y0) : Int))) (.br (decide ((0 : Int) ≤ y2 ∧ y2 < (↑(List.length y1) : Int))) (.br (decide (Int.toNat y2 < List.length y1)) (.br (true) (.go ((List.set y1 (Int.toNat y2) (at_ (Ty.int IntKind.i64) y0 (Int.toNat y2)), IntKind.wrap IntKind.i64 (y2 + (1 : Int))))) (.bad)) (.bad)) (.bad)) (.bad)) (.out (y1))) (.bad)
noncomputable def g_Lw_toIntS_0 (y0 : List (Int)) (x : (List (Int)) × (Int)) : Option (((List (Int)))) := loopO (g_Sw_toIntS_0 y0) x
noncomputable def xw_toIntS_0 (y0 : List (Int)) : (((List (Int)))) → Ex × List (Pl × LV) := fun r => (.exit 0, [(.T 3, .t (.val false [.row 3 0 0])), (.R 3 0, .r 0 (some ⟨false, .non, true, 3, (.int .i64), r⟩))])
noncomputable def Ow_toIntS_1 : Orc := fun b h => match b, h with
  | 0, [(.T 0, .t (.val false [.sl .any 3 (.int .i64) y0])), (.T 3, .t (.val false [.row 3 0 0])), (.R 3 0, .r 0 (some ⟨false, .non, true, 3, (.int .i64), y1⟩)), (.T 4, .t (.val false [.int .i64 y2]))] => some (okO (g_Lw_toIntS_0 y0 (y1, y2)), (.leaf (.exit 0) [(.T 3, .t (.val false [.row 3 0 0])), (.R 3 0, .r 0 (some ⟨false, .non, true, 3, (.int .i64), (valO (g_Lw_toIntS_0 y0 (y1, y2)))⟩))]))
  | b, h => Ow_toIntS_0 b h
theorem bw_toIntS_0 (y0 : List (Int)) (y1 : List (Int)) (y2 : Int) : Tr.bt Ew_toIntS Ow_toIntS_0 (exec Ew_toIntS 0 cw_toIntS_0 (St.of (hw_toIntS_0 y0 y1 y2)) (leafRd Ew_toIntS 0)) = (g_Sw_toIntS_0 y0 (y1, y2)).bt (fun ((y1, y2) : (List (Int)) × (Int)) => (hw_toIntS_0 y0 y1 y2)) (xw_toIntS_0 y0) := by kernel_rfl
theorem kw_toIntS_1 : OrcOk Ew_toIntS Ow_toIntS_1 lsw_toIntS 1 := orc_add kw_toIntS_0 (fun n p hp h ex h' ho => by
  obtain ⟨b, c⟩ := p
  obtain ⟨xt, h1, h2⟩ := ho
  have h1 : Ow_toIntS_1 b h = some (true, xt) := h1
  unfold Ow_toIntS_1 at h1
  split at h1
  · injection h1 with h1
    injection h1 with e1 e2
    subst e2
    have hc : c = cw_toIntS_0 := mw_toIntS_0 _ hp rfl
    subst hc
    right
    rename_i y0 y1 y2
    have key := LT_step kw_toIntS_0 hp (fun q hq => loopsAll_in _ _ _ _ hp hq) (fun ((y1, y2) : (List (Int)) × (Int)) => (hw_toIntS_0 y0 y1 y2)) (xw_toIntS_0 y0) (g_Sw_toIntS_0 y0) (fun x => by first | exact bw_toIntS_0 y0 x.1 x.2) n (x := (y1, y2)) (okO_some e1)
    have hx : ∀ r, XT.sel (.leaf (.exit 0) [(.T 3, .t (.val false [.row 3 0 0])), (.R 3 0, .r 0 (some ⟨false, .non, true, 3, (.int .i64), r⟩))]) = xw_toIntS_0 y0 r := fun r => by first | rfl | (rcases r with r | r <;> rfl) | (rcases r with r | r | r <;> rfl) | (rcases r with r | r | r | r <;> rfl)
    have h3 := (hx (valO (g_Lw_toIntS_0 y0 (y1, y2)))).symm.trans h2
    have e3 := congrArg Prod.fst h3
    have e4 := congrArg Prod.snd h3
    simp only at e3 e4
    rw [← e3, ← e4]
    exact key
  · exact .inl ⟨xt, h1, h2⟩)
noncomputable def g_Aw_toIntS (a0 : List (Int)) : Bool := decide ((↑(List.length a0) : Int) = (↑(List.length a0) : Int) ∧ (0 : Int) ≤ (↑(List.length a0) : Int) ∧ (↑(List.length a0) : Int) ≤ (9223372036854775807 : Int) ∧ (8 : Int) * (↑(List.length a0) : Int) ≤ (281474976710656 : Int)) && okO (g_Lw_toIntS_0 a0 (List.replicate (Int.toNat (↑(List.length a0) : Int)) (0 : Int), (0 : Int)))
noncomputable def g_Vw_toIntS_0 (a0 : List (Int)) : List (Int) := valO (g_Lw_toIntS_0 a0 (List.replicate (Int.toNat (↑(List.length a0) : Int)) (0 : Int), (0 : Int)))
noncomputable def Fw_toIntS : FSem := fun ys => match ys with
  | [.val false [.sl .any 3 (.int .i64) a0]] => some ((g_Aw_toIntS a0), .val false [.own .any true 3 (.int .i64) (g_Vw_toIntS_0 a0)], [])
  | _ => none
theorem vw_toIntS (a0 : List (Int)) : collapseH .std Ew_toIntS Ow_toIntS_1 (execFn Ew_toIntS Go.Proofs.Tryd.f80 msw_toIntS [.val false [.sl .any 3 (.int .i64) a0]]) = some ((g_Aw_toIntS a0), .val false [.own .any true 3 (.int .i64) (g_Vw_toIntS_0 a0)], []) := by kernel_rfl
theorem sw_toIntS : Sound Go.Proofs.Tryd.prog 80 msw_toIntS Fw_toIntS := by
  refine fn_gen goodw_toIntS (by kernel_rfl) .std (fn := Go.Proofs.Tryd.f80) (c := (Go.Proofs.Tryd.f80.body.getD .skip)) (o := Ow_toIntS_1) (k := 1) (by kernel_rfl) (by kernel_rfl) (by kernel_rfl) (by kernel_rfl) (by decide) kw_toIntS_1 ?_
  intro ys r outs h
  unfold Fw_toIntS at h
  split at h
  · exact (vw_toIntS _).trans h
  · cases h
end Go.Proofs.YtjoggjjjlafdmaaDoor.E
end
section
namespace Go.Proofs.YtjoggjjjlafdmaaDoor.E
open Go
set_option maxRecDepth 100000
set_option maxHeartbeats 0
set_option linter.all false
noncomputable def Ew_toStoItem : Env where
  tt := mkTI Go.Proofs.Tryd.prog
  fn := fun f => match f with
    | 80 => some (msw_toIntS, FSem.wk msw_toIntS Fw_toIntS)
    | _ => none
  bxf := fun _ => none
  mv := []
  keep := fun _ => []
  keepB := fun _ => []
  keepX := fun _ => []
  keepXB := fun _ => []
theorem goodFw_toStoItem : ∀ f ms F, Ew_toStoItem.fn f = some (ms, F) → Sound Go.Proofs.Tryd.prog f ms F := fun f ms F h => by
  unfold Ew_toStoItem at h
  dsimp only at h
  split at h
  · injection h with h; injection h with e1 e2; subst e1 e2; exact Sound.wk sw_toIntS
  · cases h
theorem goodBw_toStoItem : ∀ f ms F, Ew_toStoItem.bxf f = some (ms, F) → SoundB Go.Proofs.Tryd.prog f ms F := fun f ms F h => by cases h
theorem goodw_toStoItem : Good Go.Proofs.Tryd.prog Ew_toStoItem := ⟨rfl, goodFw_toStoItem, goodBw_toStoItem⟩
noncomputable def Ow_toStoItem_0 : Orc := fun _ _ => none
noncomputable def msw_toStoItem : List PM := [.rd]
noncomputable def lsw_toStoItem : List (Nat × Code) := loopsAll 0 (Go.Proofs.Tryd.f79.body.getD .skip)

theorem kw_toStoItem_0 : OrcOk Ew_toStoItem Ow_toStoItem_0 lsw_toStoItem 0 := orcOk_none
noncomputable def g_Aw_toStoItem (a0 : ByteArray) (a1 : List (Int)) : Bool := g_Aw_toIntS a1
noncomputable def Fw_toStoItem : FSem := fun ys => match ys with
  | [.val true [.str a0, .sl .any 3 (.int .i64) a1]] => some ((g_Aw_toStoItem a0 a1), .val true [.str a0, .own .any true 3 (.int .i64) (g_Vw_toIntS_0 a1)], [])
  | _ => none
theorem vw_toStoItem (a0 : ByteArray) (a1 : List (Int)) : collapseH .std Ew_toStoItem Ow_toStoItem_0 (execFn Ew_toStoItem Go.Proofs.Tryd.f79 msw_toStoItem [.val true [.str a0, .sl .any 3 (.int .i64) a1]]) = some ((g_Aw_toStoItem a0 a1), .val true [.str a0, .own .any true 3 (.int .i64) (g_Vw_toIntS_0 a1)], []) := by kernel_rfl
theorem sw_toStoItem : Sound Go.Proofs.Tryd.prog 79 msw_toStoItem Fw_toStoItem := by
  refine fn_gen goodw_toStoItem (by kernel_rfl) .std (fn := Go.Proofs.Tryd.f79) (c := (Go.Proofs.Tryd.f79.body.getD .skip)) (o := Ow_toStoItem_0) (k := 0) (by kernel_rfl) (by kernel_rfl) (by kernel_rfl) (by kernel_rfl) (by decide) kw_toStoItem_0 ?_
  intro ys r outs h
  unfold Fw_toStoItem at h
  split at h
  · exact (vw_toStoItem _ _).trans h
  · cases h
end Go.Proofs.YtjoggjjjlafdmaaDoor.E
end
section
namespace Go.Proofs.YtjoggjjjlafdmaaDoor.E
open Go
set_option maxRecDepth 100000
set_option maxHeartbeats 0
set_option linter.all false
noncomputable def Ew_toStoItemS : Env where
  tt := mkTI Go.Proofs.Tryd.prog
  fn := fun f => match f with
    | 79 => some (msw_toStoItem, FSem.wk msw_toStoItem Fw_toStoItem)
    | _ => none
  bxf := fun _ => none
  mv := []
  keep := fun b => match b with
    | 0 => [(0, false), (3, false), (4, false)]
    | _ => []
  keepB := fun b => match b with
    | 0 => []
    | _ => []
  keepX := fun b => match b with
    | 0 => [(3, false)]
    | _ => []
  keepXB := fun b => match b with
    | 0 => []
    | _ => []
theorem goodFw_toStoItemS : ∀ f ms F, Ew_toStoItemS.fn f = some (ms, F) → Sound Go.Proofs.Tryd.prog f ms F := fun f ms F h => by
  unfold Ew_toStoItemS at h
  dsimp only at h
  split at h
  · injection h with h; injection h with e1 e2; subst e1 e2; exact Sound.wk sw_toStoItem
  · cases h
theorem goodBw_toStoItemS : ∀ f ms F, Ew_toStoItemS.bxf f = some (ms, F) → SoundB Go.Proofs.Tryd.prog f ms F := fun f ms F h => by cases h
theorem goodw_toStoItemS : Good Go.Proofs.Tryd.prog Ew_toStoItemS := ⟨rfl, goodFw_toStoItemS, goodBw_toStoItemS⟩
noncomputable def Ow_toStoItemS_0 : Orc := fun _ _ => none
noncomputable def msw_toStoItemS : List PM := [.rd]
noncomputable def lsw_toStoItemS : List (Nat × Code) := loopsAll 0 (Go.Proofs.Tryd.f50.body.getD .skip)
noncomputable def cw_toStoItemS_0 : Code := (loopOf 0 (Go.Proofs.Tryd.f50.body.getD .skip)).getD .skip
theorem lseqw_toStoItemS : lsw_toStoItemS = [(0, cw_toStoItemS_0)] := by kernel_rfl
theorem mw_toStoItemS_0 : ∀ p, p ∈ lsw_toStoItemS → p.1 = 0 → p.2 = cw_toStoItemS_0 := by
  intro p hp
  rw [lseqw_toStoItemS] at hp
  simp only [List.mem_cons, List.not_mem_nil, or_false] at hp
  subst hp; simp
theorem kw_toStoItemS_0 : OrcOk Ew_toStoItemS Ow_toStoItemS_0 lsw_toStoItemS 0 := orcOk_none
noncomputable def hw_toStoItemS_0 (y0 : List ((ByteArray) × (List (Int)))) (y1 : List ((ByteArray) × (List (Int)))) (y2 : Int) : List (Pl × LV) := [(.T 0, .t (.val false [.sl .any 110 (.pair .str (.sl 3 (.int .i64))) y0])), (.T 3, .t (.val false [.row 3 0 0])), (.R 3 0, .r 0 (some ⟨false, .non, true, 41, (.pair .str (.sl 3 (.int .i64))), y1⟩)), (.T 4, .t (.val false [.int .i64 y2]))]
noncomputable def g_Sw_toStoItemS_0 (y0 : List ((ByteArray) × (List (Int)))) : ((List ((ByteArray) × (List (Int)))) × (Int)) → RT ((List ((ByteArray) × (List (Int)))) × (Int)) (((List ((ByteArray) × (List (Int))))))
  | (y1, y2) => .br (true) (.br (decide (y2 < (↑(List.length y0) : Int))) (.br (decide ((0 : Int) ≤ y2 ∧ y2 < (↑(List.length y0) : Int))) (.br (g_Aw_toStoItem (at_ (Ty.pair Ty.str (Ty.sl (nat_lit 3) (Ty.int IntKind.i64))) y0 (Int.toNat y2)).1 (at_ (Ty.pair Ty.str (Ty.sl (nat_lit 3) (Ty.int IntKind.i64))) y0 (Int.toNat y2)).2) (.br (decide ((0 : Int) ≤ y2 ∧ y2 < (↑(List.length y1) : Int))) (.br (decide (Int.toNat y2 < List.length y1)) (.br (true) (.go ((List.set y1 (Int.toNat y2) ((at_ (Ty.pair Ty.str (Ty.sl (nat_lit 3) (Ty.int IntKind.i64))) y0 (Int.toNat y2)).1, g_Vw_toIntS_0 (at_ (Ty.pair Ty.str (Ty.sl (nat_lit 3) (Ty.int IntKind.i64))) y0 (Int.toNat y2)).2), IntKind.wrap IntKind.i64 (y2 + (1 : Int))))) (.bad)) (.bad)) (.bad)) (.bad)) (.bad)) (.out (y1))) (.bad)
noncomputable def g_Lw_toStoItemS_0 (y0 : List ((ByteArray) × (List (Int)))) (x : (List ((ByteArray) × (List (Int)))) × (Int)) : Option (((List ((ByteArray) × (List (Int)))))) := loopO (g_Sw_toStoItemS_0 y0) x
noncomputable def xw_toStoItemS_0 (y0 : List ((ByteArray) × (List (Int)))) : (((List ((ByteArray) × (List (Int)))))) → Ex × List (Pl × LV) := fun r => (.exit 0, [(.T 3, .t (.val false [.row 3 0 0])), (.R 3 0, .r 0 (some ⟨false, .non, true, 41, (.pair .str (.sl 3 (.int .i64))), r⟩))])
noncomputable def Ow_toStoItemS_1 : Orc := fun b h => match b, h with
  | 0, [(.T 0, .t (.val false [.sl .any 110 (.pair .str (.sl 3 (.int .i64))) y0])), (.T 3, .t (.val false [.row 3 0 0])), (.R 3 0, .r 0 (some ⟨false, .non, true, 41, (.pair .str (.sl 3 (.int .i64))), y1⟩)), (.T 4, .t (.val false [.int .i64 y2]))] => some (okO (g_Lw_toStoItemS_0 y0 (y1, y2)), (.leaf (.exit 0) [(.T 3, .t (.val false [.row 3 0 0])), (.R 3 0, .r 0 (some ⟨false, .non, true, 41, (.pair .str (.sl 3 (.int .i64))), (valO (g_Lw_toStoItemS_0 y0 (y1, y2)))⟩))]))
  | b, h => Ow_toStoItemS_0 b h
theorem bw_toStoItemS_0 (y0 : List ((ByteArray) × (List (Int)))) (y1 : List ((ByteArray) × (List (Int)))) (y2 : Int) : Tr.bt Ew_toStoItemS Ow_toStoItemS_0 (exec Ew_toStoItemS 0 cw_toStoItemS_0 (St.of (hw_toStoItemS_0 y0 y1 y2)) (leafRd Ew_toStoItemS 0)) = (g_Sw_toStoItemS_0 y0 (y1, y2)).bt (fun ((y1, y2) : (List ((ByteArray) × (List (Int)))) × (Int)) => (hw_toStoItemS_0 y0 y1 y2)) (xw_toStoItemS_0 y0) := by kernel_rfl
theorem kw_toStoItemS_1 : OrcOk Ew_toStoItemS Ow_toStoItemS_1 lsw_toStoItemS 1 := orc_add kw_toStoItemS_0 (fun n p hp h ex h' ho => by
  obtain ⟨b, c⟩ := p
  obtain ⟨xt, h1, h2⟩ := ho
  have h1 : Ow_toStoItemS_1 b h = some (true, xt) := h1
  unfold Ow_toStoItemS_1 at h1
  split at h1
  · injection h1 with h1
    injection h1 with e1 e2
    subst e2
    have hc : c = cw_toStoItemS_0 := mw_toStoItemS_0 _ hp rfl
    subst hc
    right
    rename_i y0 y1 y2
    have key := LT_step kw_toStoItemS_0 hp (fun q hq => loopsAll_in _ _ _ _ hp hq) (fun ((y1, y2) : (List ((ByteArray) × (List (Int)))) × (Int)) => (hw_toStoItemS_0 y0 y1 y2)) (xw_toStoItemS_0 y0) (g_Sw_toStoItemS_0 y0) (fun x => by first | exact bw_toStoItemS_0 y0 x.1 x.2) n (x := (y1, y2)) (okO_some e1)
    have hx : ∀ r, XT.sel (.leaf (.exit 0) [(.T 3, .t (.val false [.row 3 0 0])), (.R 3 0, .r 0 (some ⟨false, .non, true, 41, (.pair .str (.sl 3 (.int .i64))), r⟩))]) = xw_toStoItemS_0 y0 r := fun r => by first | rfl | (rcases r with r | r <;> rfl) | (rcases r with r | r | r <;> rfl) | (rcases r with r | r | r | r <;> rfl)
    have h3 := (hx (valO (g_Lw_toStoItemS_0 y0 (y1, y2)))).symm.trans h2
    have e3 := congrArg Prod.fst h3
    have e4 := congrArg Prod.snd h3
    simp only at e3 e4
    rw [← e3, ← e4]
    exact key
  · exact .inl ⟨xt, h1, h2⟩)
noncomputable def g_Aw_toStoItemS (a0 : List ((ByteArray) × (List (Int)))) : Bool := decide ((↑(List.length a0) : Int) = (↑(List.length a0) : Int) ∧ (0 : Int) ≤ (↑(List.length a0) : Int) ∧ (↑(List.length a0) : Int) ≤ (9223372036854775807 : Int) ∧ (40 : Int) * (↑(List.length a0) : Int) ≤ (281474976710656 : Int)) && okO (g_Lw_toStoItemS_0 a0 (List.replicate (Int.toNat (↑(List.length a0) : Int)) (lit [], []), (0 : Int)))
noncomputable def g_Vw_toStoItemS_0 (a0 : List ((ByteArray) × (List (Int)))) : List ((ByteArray) × (List (Int))) := valO (g_Lw_toStoItemS_0 a0 (List.replicate (Int.toNat (↑(List.length a0) : Int)) (lit [], []), (0 : Int)))
noncomputable def Fw_toStoItemS : FSem := fun ys => match ys with
  | [.val false [.sl .any 110 (.pair .str (.sl 3 (.int .i64))) a0]] => some ((g_Aw_toStoItemS a0), .val false [.own .any true 41 (.pair .str (.sl 3 (.int .i64))) (g_Vw_toStoItemS_0 a0)], [])
  | _ => none
theorem vw_toStoItemS (a0 : List ((ByteArray) × (List (Int)))) : collapseH .std Ew_toStoItemS Ow_toStoItemS_1 (execFn Ew_toStoItemS Go.Proofs.Tryd.f50 msw_toStoItemS [.val false [.sl .any 110 (.pair .str (.sl 3 (.int .i64))) a0]]) = some ((g_Aw_toStoItemS a0), .val false [.own .any true 41 (.pair .str (.sl 3 (.int .i64))) (g_Vw_toStoItemS_0 a0)], []) := by kernel_rfl
theorem sw_toStoItemS : Sound Go.Proofs.Tryd.prog 50 msw_toStoItemS Fw_toStoItemS := by
  refine fn_gen goodw_toStoItemS (by kernel_rfl) .std (fn := Go.Proofs.Tryd.f50) (c := (Go.Proofs.Tryd.f50.body.getD .skip)) (o := Ow_toStoItemS_1) (k := 1) (by kernel_rfl) (by kernel_rfl) (by kernel_rfl) (by kernel_rfl) (by decide) kw_toStoItemS_1 ?_
  intro ys r outs h
  unfold Fw_toStoItemS at h
  split at h
  · exact (vw_toStoItemS _).trans h
  · cases h
end Go.Proofs.YtjoggjjjlafdmaaDoor.E
end
section
namespace Go.Proofs.YtjoggjjjlafdmaaDoor.E
open Go
set_option maxRecDepth 100000
set_option maxHeartbeats 0
set_option linter.all false
noncomputable def Ew_toStoStore : Env where
  tt := mkTI Go.Proofs.Tryd.prog
  fn := fun f => match f with
    | 50 => some (msw_toStoItemS, FSem.wk msw_toStoItemS Fw_toStoItemS)
    | _ => none
  bxf := fun _ => none
  mv := []
  keep := fun _ => []
  keepB := fun _ => []
  keepX := fun _ => []
  keepXB := fun _ => []
theorem goodFw_toStoStore : ∀ f ms F, Ew_toStoStore.fn f = some (ms, F) → Sound Go.Proofs.Tryd.prog f ms F := fun f ms F h => by
  unfold Ew_toStoStore at h
  dsimp only at h
  split at h
  · injection h with h; injection h with e1 e2; subst e1 e2; exact Sound.wk sw_toStoItemS
  · cases h
theorem goodBw_toStoStore : ∀ f ms F, Ew_toStoStore.bxf f = some (ms, F) → SoundB Go.Proofs.Tryd.prog f ms F := fun f ms F h => by cases h
theorem goodw_toStoStore : Good Go.Proofs.Tryd.prog Ew_toStoStore := ⟨rfl, goodFw_toStoStore, goodBw_toStoStore⟩
noncomputable def Ow_toStoStore_0 : Orc := fun _ _ => none
noncomputable def msw_toStoStore : List PM := [.rd]
noncomputable def lsw_toStoStore : List (Nat × Code) := loopsAll 0 (Go.Proofs.Tryd.f20.body.getD .skip)

theorem kw_toStoStore_0 : OrcOk Ew_toStoStore Ow_toStoStore_0 lsw_toStoStore 0 := orcOk_none
noncomputable def g_Aw_toStoStore (a0 : List ((ByteArray) × (List (Int)))) : Bool := g_Aw_toStoItemS a0
noncomputable def Fw_toStoStore : FSem := fun ys => match ys with
  | [.val true [.sl .any 110 (.pair .str (.sl 3 (.int .i64))) a0]] => some ((g_Aw_toStoStore a0), .val true [.own .any true 41 (.pair .str (.sl 3 (.int .i64))) (g_Vw_toStoItemS_0 a0)], [])
  | _ => none
theorem vw_toStoStore (a0 : List ((ByteArray) × (List (Int)))) : collapseH .std Ew_toStoStore Ow_toStoStore_0 (execFn Ew_toStoStore Go.Proofs.Tryd.f20 msw_toStoStore [.val true [.sl .any 110 (.pair .str (.sl 3 (.int .i64))) a0]]) = some ((g_Aw_toStoStore a0), .val true [.own .any true 41 (.pair .str (.sl 3 (.int .i64))) (g_Vw_toStoItemS_0 a0)], []) := by kernel_rfl
theorem sw_toStoStore : Sound Go.Proofs.Tryd.prog 20 msw_toStoStore Fw_toStoStore := by
  refine fn_gen goodw_toStoStore (by kernel_rfl) .std (fn := Go.Proofs.Tryd.f20) (c := (Go.Proofs.Tryd.f20.body.getD .skip)) (o := Ow_toStoStore_0) (k := 0) (by kernel_rfl) (by kernel_rfl) (by kernel_rfl) (by kernel_rfl) (by decide) kw_toStoStore_0 ?_
  intro ys r outs h
  unfold Fw_toStoStore at h
  split at h
  · exact (vw_toStoStore _).trans h
  · cases h
end Go.Proofs.YtjoggjjjlafdmaaDoor.E
end
section
namespace Go.Proofs.YtjoggjjjlafdmaaDoor.E
open Go
set_option maxRecDepth 100000
set_option maxHeartbeats 0
set_option linter.all false
noncomputable def Ew_toStoWrite : Env where
  tt := mkTI Go.Proofs.Tryd.prog
  fn := fun f => match f with
    | 80 => some (msw_toIntS, FSem.wk msw_toIntS Fw_toIntS)
    | _ => none
  bxf := fun _ => none
  mv := []
  keep := fun _ => []
  keepB := fun _ => []
  keepX := fun _ => []
  keepXB := fun _ => []
theorem goodFw_toStoWrite : ∀ f ms F, Ew_toStoWrite.fn f = some (ms, F) → Sound Go.Proofs.Tryd.prog f ms F := fun f ms F h => by
  unfold Ew_toStoWrite at h
  dsimp only at h
  split at h
  · injection h with h; injection h with e1 e2; subst e1 e2; exact Sound.wk sw_toIntS
  · cases h
theorem goodBw_toStoWrite : ∀ f ms F, Ew_toStoWrite.bxf f = some (ms, F) → SoundB Go.Proofs.Tryd.prog f ms F := fun f ms F h => by cases h
theorem goodw_toStoWrite : Good Go.Proofs.Tryd.prog Ew_toStoWrite := ⟨rfl, goodFw_toStoWrite, goodBw_toStoWrite⟩
noncomputable def Ow_toStoWrite_0 : Orc := fun _ _ => none
noncomputable def msw_toStoWrite : List PM := [.rd]
noncomputable def lsw_toStoWrite : List (Nat × Code) := loopsAll 0 (Go.Proofs.Tryd.f51.body.getD .skip)

theorem kw_toStoWrite_0 : OrcOk Ew_toStoWrite Ow_toStoWrite_0 lsw_toStoWrite 0 := orcOk_none
noncomputable def g_Aw_toStoWrite (a0 : ByteArray) (a1 : Bool) (a2 : List (Int)) : Bool := g_Aw_toIntS a2
noncomputable def Fw_toStoWrite : FSem := fun ys => match ys with
  | [.val true [.str a0, .bool a1, .sl .any 3 (.int .i64) a2]] => some ((g_Aw_toStoWrite a0 a1 a2), .val true [.str a0, .bool a1, .own .any true 3 (.int .i64) (g_Vw_toIntS_0 a2)], [])
  | _ => none
theorem vw_toStoWrite (a0 : ByteArray) (a1 : Bool) (a2 : List (Int)) : collapseH .std Ew_toStoWrite Ow_toStoWrite_0 (execFn Ew_toStoWrite Go.Proofs.Tryd.f51 msw_toStoWrite [.val true [.str a0, .bool a1, .sl .any 3 (.int .i64) a2]]) = some ((g_Aw_toStoWrite a0 a1 a2), .val true [.str a0, .bool a1, .own .any true 3 (.int .i64) (g_Vw_toIntS_0 a2)], []) := by kernel_rfl
theorem sw_toStoWrite : Sound Go.Proofs.Tryd.prog 51 msw_toStoWrite Fw_toStoWrite := by
  refine fn_gen goodw_toStoWrite (by kernel_rfl) .std (fn := Go.Proofs.Tryd.f51) (c := (Go.Proofs.Tryd.f51.body.getD .skip)) (o := Ow_toStoWrite_0) (k := 0) (by kernel_rfl) (by kernel_rfl) (by kernel_rfl) (by kernel_rfl) (by decide) kw_toStoWrite_0 ?_
  intro ys r outs h
  unfold Fw_toStoWrite at h
  split at h
  · exact (vw_toStoWrite _ _ _).trans h
  · cases h
end Go.Proofs.YtjoggjjjlafdmaaDoor.E
end
section
namespace Go.Proofs.YtjoggjjjlafdmaaDoor.E
open Go
set_option maxRecDepth 100000
set_option maxHeartbeats 0
set_option linter.all false
noncomputable def Ew_toStoWriteS : Env where
  tt := mkTI Go.Proofs.Tryd.prog
  fn := fun f => match f with
    | 51 => some (msw_toStoWrite, FSem.wk msw_toStoWrite Fw_toStoWrite)
    | _ => none
  bxf := fun _ => none
  mv := []
  keep := fun b => match b with
    | 0 => [(0, false), (3, false), (4, false)]
    | _ => []
  keepB := fun b => match b with
    | 0 => []
    | _ => []
  keepX := fun b => match b with
    | 0 => [(3, false)]
    | _ => []
  keepXB := fun b => match b with
    | 0 => []
    | _ => []
theorem goodFw_toStoWriteS : ∀ f ms F, Ew_toStoWriteS.fn f = some (ms, F) → Sound Go.Proofs.Tryd.prog f ms F := fun f ms F h => by
  unfold Ew_toStoWriteS at h
  dsimp only at h
  split at h
  · injection h with h; injection h with e1 e2; subst e1 e2; exact Sound.wk sw_toStoWrite
  · cases h
theorem goodBw_toStoWriteS : ∀ f ms F, Ew_toStoWriteS.bxf f = some (ms, F) → SoundB Go.Proofs.Tryd.prog f ms F := fun f ms F h => by cases h
theorem goodw_toStoWriteS : Good Go.Proofs.Tryd.prog Ew_toStoWriteS := ⟨rfl, goodFw_toStoWriteS, goodBw_toStoWriteS⟩
noncomputable def Ow_toStoWriteS_0 : Orc := fun _ _ => none
noncomputable def msw_toStoWriteS : List PM := [.rd]
noncomputable def lsw_toStoWriteS : List (Nat × Code) := loopsAll 0 (Go.Proofs.Tryd.f21.body.getD .skip)
noncomputable def cw_toStoWriteS_0 : Code := (loopOf 0 (Go.Proofs.Tryd.f21.body.getD .skip)).getD .skip
theorem lseqw_toStoWriteS : lsw_toStoWriteS = [(0, cw_toStoWriteS_0)] := by kernel_rfl
theorem mw_toStoWriteS_0 : ∀ p, p ∈ lsw_toStoWriteS → p.1 = 0 → p.2 = cw_toStoWriteS_0 := by
  intro p hp
  rw [lseqw_toStoWriteS] at hp
  simp only [List.mem_cons, List.not_mem_nil, or_false] at hp
  subst hp; simp
theorem kw_toStoWriteS_0 : OrcOk Ew_toStoWriteS Ow_toStoWriteS_0 lsw_toStoWriteS 0 := orcOk_none
noncomputable def hw_toStoWriteS_0 (y0 : List ((ByteArray) × ((Bool) × (List (Int))))) (y1 : List ((ByteArray) × ((Bool) × (List (Int))))) (y2 : Int) : List (Pl × LV) := [(.T 0, .t (.val false [.sl .any 81 (.pair .str (.pair .bool (.sl 3 (.int .i64)))) y0])), (.T 3, .t (.val false [.row 3 0 0])), (.R 3 0, .r 0 (some ⟨false, .non, true, 36, (.pair .str (.pair .bool (.sl 3 (.int .i64)))), y1⟩)), (.T 4, .t (.val false [.int .i64 y2]))]
noncomputable def g_Sw_toStoWriteS_0 (y0 : List ((ByteArray) × ((Bool) × (List (Int))))) : ((List ((ByteArray) × ((Bool) × (List (Int))))) × (Int)) → RT ((List ((ByteArray) × ((Bool) × (List (Int))))) × (Int)) (((List ((ByteArray) × ((Bool) × (List (Int)))))))
  | (y1, y2) => .br (true) (.br (decide (y2 < (↑(List.length y0) : Int))) (.br (decide ((0 : Int) ≤ y2 ∧ y2 < (↑(List.length y0) : Int))) (.br (g_Aw_toStoWrite (at_ (Ty.pair Ty.str (Ty.pair Ty.bool (Ty.sl (nat_lit 3) (Ty.int IntKind.i64)))) y0 (Int.toNat y2)).1 (at_ (Ty.pair Ty.str (Ty.pair Ty.bool (Ty.sl (nat_lit 3) (Ty.int IntKind.i64)))) y0 (Int.toNat y2)).2.1 (at_ (Ty.pair Ty.str (Ty.pair Ty.bool (Ty.sl (nat_lit 3) (Ty.int IntKind.i64)))) y0 (Int.toNat y2)).2.2) (.br (decide ((0 : Int) ≤ y2 ∧ y2 < (↑(List.length y1) : Int))) (.br (decide (Int.toNat y2 < List.length y1)) (.br (true) (.go ((List.set y1 (Int.toNat y2) ((at_ (Ty.pair Ty.str (Ty.pair Ty.bool (Ty.sl (nat_lit 3) (Ty.int IntKind.i64)))) y0 (Int.toNat y2)).1, (at_ (Ty.pair Ty.str (Ty.pair Ty.bool (Ty.sl (nat_lit 3) (Ty.int IntKind.i64)))) y0 (Int.toNat y2)).2.1, g_Vw_toIntS_0 (at_ (Ty.pair Ty.str (Ty.pair Ty.bool (Ty.sl (nat_lit 3) (Ty.int IntKind.i64)))) y0 (Int.toNat y2)).2.2), IntKind.wrap IntKind.i64 (y2 + (1 : Int))))) (.bad)) (.bad)) (.bad)) (.bad)) (.bad)) (.out (y1))) (.bad)
noncomputable def g_Lw_toStoWriteS_0 (y0 : List ((ByteArray) × ((Bool) × (List (Int))))) (x : (List ((ByteArray) × ((Bool) × (List (Int))))) × (Int)) : Option (((List ((ByteArray) × ((Bool) × (List (Int))))))) := loopO (g_Sw_toStoWriteS_0 y0) x
noncomputable def xw_toStoWriteS_0 (y0 : List ((ByteArray) × ((Bool) × (List (Int))))) : (((List ((ByteArray) × ((Bool) × (List (Int))))))) → Ex × List (Pl × LV) := fun r => (.exit 0, [(.T 3, .t (.val false [.row 3 0 0])), (.R 3 0, .r 0 (some ⟨false, .non, true, 36, (.pair .str (.pair .bool (.sl 3 (.int .i64)))), r⟩))])
noncomputable def Ow_toStoWriteS_1 : Orc := fun b h => match b, h with
  | 0, [(.T 0, .t (.val false [.sl .any 81 (.pair .str (.pair .bool (.sl 3 (.int .i64)))) y0])), (.T 3, .t (.val false [.row 3 0 0])), (.R 3 0, .r 0 (some ⟨false, .non, true, 36, (.pair .str (.pair .bool (.sl 3 (.int .i64)))), y1⟩)), (.T 4, .t (.val false [.int .i64 y2]))] => some (okO (g_Lw_toStoWriteS_0 y0 (y1, y2)), (.leaf (.exit 0) [(.T 3, .t (.val false [.row 3 0 0])), (.R 3 0, .r 0 (some ⟨false, .non, true, 36, (.pair .str (.pair .bool (.sl 3 (.int .i64)))), (valO (g_Lw_toStoWriteS_0 y0 (y1, y2)))⟩))]))
  | b, h => Ow_toStoWriteS_0 b h
theorem bw_toStoWriteS_0 (y0 : List ((ByteArray) × ((Bool) × (List (Int))))) (y1 : List ((ByteArray) × ((Bool) × (List (Int))))) (y2 : Int) : Tr.bt Ew_toStoWriteS Ow_toStoWriteS_0 (exec Ew_toStoWriteS 0 cw_toStoWriteS_0 (St.of (hw_toStoWriteS_0 y0 y1 y2)) (leafRd Ew_toStoWriteS 0)) = (g_Sw_toStoWriteS_0 y0 (y1, y2)).bt (fun ((y1, y2) : (List ((ByteArray) × ((Bool) × (List (Int))))) × (Int)) => (hw_toStoWriteS_0 y0 y1 y2)) (xw_toStoWriteS_0 y0) := by kernel_rfl
theorem kw_toStoWriteS_1 : OrcOk Ew_toStoWriteS Ow_toStoWriteS_1 lsw_toStoWriteS 1 := orc_add kw_toStoWriteS_0 (fun n p hp h ex h' ho => by
  obtain ⟨b, c⟩ := p
  obtain ⟨xt, h1, h2⟩ := ho
  have h1 : Ow_toStoWriteS_1 b h = some (true, xt) := h1
  unfold Ow_toStoWriteS_1 at h1
  split at h1
  · injection h1 with h1
    injection h1 with e1 e2
    subst e2
    have hc : c = cw_toStoWriteS_0 := mw_toStoWriteS_0 _ hp rfl
    subst hc
    right
    rename_i y0 y1 y2
    have key := LT_step kw_toStoWriteS_0 hp (fun q hq => loopsAll_in _ _ _ _ hp hq) (fun ((y1, y2) : (List ((ByteArray) × ((Bool) × (List (Int))))) × (Int)) => (hw_toStoWriteS_0 y0 y1 y2)) (xw_toStoWriteS_0 y0) (g_Sw_toStoWriteS_0 y0) (fun x => by first | exact bw_toStoWriteS_0 y0 x.1 x.2) n (x := (y1, y2)) (okO_some e1)
    have hx : ∀ r, XT.sel (.leaf (.exit 0) [(.T 3, .t (.val false [.row 3 0 0])), (.R 3 0, .r 0 (some ⟨false, .non, true, 36, (.pair .str (.pair .bool (.sl 3 (.int .i64)))), r⟩))]) = xw_toStoWriteS_0 y0 r := fun r => by first | rfl | (rcases r with r | r <;> rfl) | (rcases r with r | r | r <;> rfl) | (rcases r with r | r | r | r <;> rfl)
    have h3 := (hx (valO (g_Lw_toStoWriteS_0 y0 (y1, y2)))).symm.trans h2
    have e3 := congrArg Prod.fst h3
    have e4 := congrArg Prod.snd h3
    simp only at e3 e4
    rw [← e3, ← e4]
    exact key
  · exact .inl ⟨xt, h1, h2⟩)
noncomputable def g_Aw_toStoWriteS (a0 : List ((ByteArray) × ((Bool) × (List (Int))))) : Bool := decide ((↑(List.length a0) : Int) = (↑(List.length a0) : Int) ∧ (0 : Int) ≤ (↑(List.length a0) : Int) ∧ (↑(List.length a0) : Int) ≤ (9223372036854775807 : Int) ∧ (48 : Int) * (↑(List.length a0) : Int) ≤ (281474976710656 : Int)) && okO (g_Lw_toStoWriteS_0 a0 (List.replicate (Int.toNat (↑(List.length a0) : Int)) (lit [], false, []), (0 : Int)))
noncomputable def g_Vw_toStoWriteS_0 (a0 : List ((ByteArray) × ((Bool) × (List (Int))))) : List ((ByteArray) × ((Bool) × (List (Int)))) := valO (g_Lw_toStoWriteS_0 a0 (List.replicate (Int.toNat (↑(List.length a0) : Int)) (lit [], false, []), (0 : Int)))
noncomputable def Fw_toStoWriteS : FSem := fun ys => match ys with
  | [.val false [.sl .any 81 (.pair .str (.pair .bool (.sl 3 (.int .i64)))) a0]] => some ((g_Aw_toStoWriteS a0), .val false [.own .any true 36 (.pair .str (.pair .bool (.sl 3 (.int .i64)))) (g_Vw_toStoWriteS_0 a0)], [])
  | _ => none
theorem vw_toStoWriteS (a0 : List ((ByteArray) × ((Bool) × (List (Int))))) : collapseH .std Ew_toStoWriteS Ow_toStoWriteS_1 (execFn Ew_toStoWriteS Go.Proofs.Tryd.f21 msw_toStoWriteS [.val false [.sl .any 81 (.pair .str (.pair .bool (.sl 3 (.int .i64)))) a0]]) = some ((g_Aw_toStoWriteS a0), .val false [.own .any true 36 (.pair .str (.pair .bool (.sl 3 (.int .i64)))) (g_Vw_toStoWriteS_0 a0)], []) := by kernel_rfl
theorem sw_toStoWriteS : Sound Go.Proofs.Tryd.prog 21 msw_toStoWriteS Fw_toStoWriteS := by
  refine fn_gen goodw_toStoWriteS (by kernel_rfl) .std (fn := Go.Proofs.Tryd.f21) (c := (Go.Proofs.Tryd.f21.body.getD .skip)) (o := Ow_toStoWriteS_1) (k := 1) (by kernel_rfl) (by kernel_rfl) (by kernel_rfl) (by kernel_rfl) (by decide) kw_toStoWriteS_1 ?_
  intro ys r outs h
  unfold Fw_toStoWriteS at h
  split at h
  · exact (vw_toStoWriteS _).trans h
  · cases h
end Go.Proofs.YtjoggjjjlafdmaaDoor.E
end
section
namespace Go.Proofs.YtjoggjjjlafdmaaDoor.E
open Go
set_option maxRecDepth 100000
set_option maxHeartbeats 0
set_option linter.all false
noncomputable def Ew_FnExactStoDo : Env where
  tt := mkTI Go.Proofs.Tryd.prog
  fn := fun f => match f with
    | 9 => some (msi_StoDo, FSem.wk msi_StoDo Fi_StoDo)
    | 11 => some (mss_StoDo, FSem.wk mss_StoDo Fs_StoDo)
    | 18 => some (msw_szStoStore, FSem.wk msw_szStoStore Fw_szStoStore)
    | 19 => some (msw_szStoWriteS, FSem.wk msw_szStoWriteS Fw_szStoWriteS)
    | 20 => some (msw_toStoStore, FSem.wk msw_toStoStore Fw_toStoStore)
    | 21 => some (msw_toStoWriteS, FSem.wk msw_toStoWriteS Fw_toStoWriteS)
    | 22 => some (msw_eqStoStore, FSem.wk msw_eqStoStore Fw_eqStoStore)
    | 23 => some (msw_eqStoWriteS, FSem.wk msw_eqStoWriteS Fw_eqStoWriteS)
    | 24 => some (msw_markStoStore, FSem.wk msw_markStoStore Fw_markStoStore)
    | 25 => some (msw_markStoWriteS, FSem.wk msw_markStoWriteS Fw_markStoWriteS)
    | 26 => some (msw_heldStoStore, FSem.wk msw_heldStoStore Fw_heldStoStore)
    | _ => none
  bxf := fun _ => none
  mv := []
  keep := fun _ => []
  keepB := fun _ => []
  keepX := fun _ => []
  keepXB := fun _ => []
theorem goodFw_FnExactStoDo : ∀ f ms F, Ew_FnExactStoDo.fn f = some (ms, F) → Sound Go.Proofs.Tryd.prog f ms F := fun f ms F h => by
  unfold Ew_FnExactStoDo at h
  dsimp only at h
  split at h
  · injection h with h; injection h with e1 e2; subst e1 e2; exact Sound.wk si_StoDo
  · injection h with h; injection h with e1 e2; subst e1 e2; exact Sound.wk ss_StoDo
  · injection h with h; injection h with e1 e2; subst e1 e2; exact Sound.wk sw_szStoStore
  · injection h with h; injection h with e1 e2; subst e1 e2; exact Sound.wk sw_szStoWriteS
  · injection h with h; injection h with e1 e2; subst e1 e2; exact Sound.wk sw_toStoStore
  · injection h with h; injection h with e1 e2; subst e1 e2; exact Sound.wk sw_toStoWriteS
  · injection h with h; injection h with e1 e2; subst e1 e2; exact Sound.wk sw_eqStoStore
  · injection h with h; injection h with e1 e2; subst e1 e2; exact Sound.wk sw_eqStoWriteS
  · injection h with h; injection h with e1 e2; subst e1 e2; exact Sound.wk sw_markStoStore
  · injection h with h; injection h with e1 e2; subst e1 e2; exact Sound.wk sw_markStoWriteS
  · injection h with h; injection h with e1 e2; subst e1 e2; exact Sound.wk sw_heldStoStore
  · cases h
theorem goodBw_FnExactStoDo : ∀ f ms F, Ew_FnExactStoDo.bxf f = some (ms, F) → SoundB Go.Proofs.Tryd.prog f ms F := fun f ms F h => by cases h
theorem goodw_FnExactStoDo : Good Go.Proofs.Tryd.prog Ew_FnExactStoDo := ⟨rfl, goodFw_FnExactStoDo, goodBw_FnExactStoDo⟩
noncomputable def Ow_FnExactStoDo_0 : Orc := fun _ _ => none
noncomputable def msw_FnExactStoDo : List PM := [.rd, .rd]
noncomputable def lsw_FnExactStoDo : List (Nat × Code) := loopsAll 0 (Go.Proofs.Tryd.f4.body.getD .skip)

theorem kw_FnExactStoDo_0 : OrcOk Ew_FnExactStoDo Ow_FnExactStoDo_0 lsw_FnExactStoDo 0 := orcOk_none
noncomputable def g_Aw_FnExactStoDo (a0 : List ((ByteArray) × (List (Int)))) (a1 : List ((ByteArray) × ((Bool) × (List (Int))))) : Bool := g_Aw_szStoStore a0 (1048576 : Int) && (decide (g_Vw_szStoStore_0 a0 (1048576 : Int) < (0 : Int)) || g_Aw_szStoWriteS a1 (g_Vw_szStoStore_0 a0 (1048576 : Int)) && (decide (g_Vw_szStoWriteS_0 a1 (g_Vw_szStoStore_0 a0 (1048576 : Int)) < (0 : Int)) || g_Aw_toStoStore a0 && (g_Aw_toStoWriteS a1 && (g_As_StoDo (g_Vw_toStoItemS_0 a0) (g_Vw_toStoWriteS_0 a1) && (g_Aw_toStoStore a0 && (g_Aw_toStoWriteS a1 && (g_Ai_StoDo (g_Vw_toStoItemS_0 a0) (g_Vw_toStoWriteS_0 a1) && (g_Aw_eqStoStore (g_Vi_StoDo_0 (g_Vw_toStoItemS_0 a0) (g_Vw_toStoWriteS_0 a1)) (g_Vs_StoDo_0 (g_Vw_toStoItemS_0 a0) (g_Vw_toStoWriteS_0 a1)) && (!g_Vw_eqStoStore_0 (g_Vi_StoDo_0 (g_Vw_toStoItemS_0 a0) (g_Vw_toStoWriteS_0 a1)) (g_Vs_StoDo_0 (g_Vw_toStoItemS_0 a0) (g_Vw_toStoWriteS_0 a1)) || g_Aw_toStoStore a0 && (g_Aw_eqStoStore (g_Vw_toStoItemS_0 a0) (g_Vw_toStoItemS_0 a0) && (!g_Vw_eqStoStore_0 (g_Vw_toStoItemS_0 a0) (g_Vw_toStoItemS_0 a0) || g_Aw_toStoWriteS a1 && (g_Aw_eqStoWriteS (g_Vw_toStoWriteS_0 a1) (g_Vw_toStoWriteS_0 a1) && (!g_Vw_eqStoWriteS_0 (g_Vw_toStoWriteS_0 a1) (g_Vw_toStoWriteS_0 a1) || g_Aw_markStoStore (g_Vw_toStoItemS_0 a0) (1 : Int) && (g_Aw_markStoWriteS (g_Vw_toStoWriteS_0 a1) (g_Vw_markStoItemS_0 (g_Vw_toStoItemS_0 a0) (1 : Int)) && (decide (g_Vw_markStoWriteS_0 (g_Vw_toStoWriteS_0 a1) (g_Vw_markStoItemS_0 (g_Vw_toStoItemS_0 a0) (1 : Int)) < (0 : Int)) || g_Aw_eqStoStore (g_Vi_StoDo_0 (g_Vw_toStoItemS_0 a0) (g_Vw_toStoWriteS_0 a1)) (g_Vs_StoDo_0 (g_Vw_toStoItemS_0 a0) (g_Vw_toStoWriteS_0 a1)) && (!g_Vw_eqStoStore_0 (g_Vi_StoDo_0 (g_Vw_toStoItemS_0 a0) (g_Vw_toStoWriteS_0 a1)) (g_Vs_StoDo_0 (g_Vw_toStoItemS_0 a0) (g_Vw_toStoWriteS_0 a1)) || g_Aw_markStoStore (g_Vi_StoDo_0 (g_Vw_toStoItemS_0 a0) (g_Vw_toStoWriteS_0 a1)) (1 : Int) && (g_Aw_heldStoStore (g_Vw_markStoItemS_1 (g_Vi_StoDo_0 (g_Vw_toStoItemS_0 a0) (g_Vw_toStoWriteS_0 a1)) (1 : Int)) (1 : Int) && (decide (g_Vw_heldStoStore_0 (g_Vw_markStoItemS_1 (g_Vi_StoDo_0 (g_Vw_toStoItemS_0 a0) (g_Vw_toStoWriteS_0 a1)) (1 : Int)) (1 : Int) < (0 : Int)) || (g_Vw_heldStoStore_0 (g_Vw_markStoItemS_1 (g_Vi_StoDo_0 (g_Vw_toStoItemS_0 a0) (g_Vw_toStoWriteS_0 a1)) (1 : Int)) (1 : Int) != g_Vw_markStoItemS_0 (g_Vi_StoDo_0 (g_Vw_toStoItemS_0 a0) (g_Vw_toStoWriteS_0 a1)) (1 : Int) || g_Aw_toStoStore a0 && (g_Aw_toStoWriteS a1 && (g_Ai_StoDo (g_Vw_toStoItemS_0 a0) (g_Vw_toStoWriteS_0 a1) && (g_Aw_eqStoStore (g_Vi_StoDo_0 (g_Vw_toStoItemS_0 a0) (g_Vw_toStoWriteS_0 a1)) (g_Vs_StoDo_0 (g_Vw_toStoItemS_0 a0) (g_Vw_toStoWriteS_0 a1)) && (!g_Vw_eqStoStore_0 (g_Vi_StoDo_0 (g_Vw_toStoItemS_0 a0) (g_Vw_toStoWriteS_0 a1)) (g_Vs_StoDo_0 (g_Vw_toStoItemS_0 a0) (g_Vw_toStoWriteS_0 a1)) || g_Aw_heldStoStore (g_Vw_markStoItemS_1 (g_Vi_StoDo_0 (g_Vw_toStoItemS_0 a0) (g_Vw_toStoWriteS_0 a1)) (1 : Int)) (1 : Int) && (decide (g_Vw_heldStoStore_0 (g_Vw_markStoItemS_1 (g_Vi_StoDo_0 (g_Vw_toStoItemS_0 a0) (g_Vw_toStoWriteS_0 a1)) (1 : Int)) (1 : Int) < (0 : Int)) || true))))))))))))))))))))))))
noncomputable def g_Vw_FnExactStoDo_0 (a0 : List ((ByteArray) × (List (Int)))) (a1 : List ((ByteArray) × ((Bool) × (List (Int))))) : Bool := bif decide (g_Vw_szStoStore_0 a0 (1048576 : Int) < (0 : Int)) then true else bif decide (g_Vw_szStoWriteS_0 a1 (g_Vw_szStoStore_0 a0 (1048576 : Int)) < (0 : Int)) then true else bif !g_Vw_eqStoStore_0 (g_Vi_StoDo_0 (g_Vw_toStoItemS_0 a0) (g_Vw_toStoWriteS_0 a1)) (g_Vs_StoDo_0 (g_Vw_toStoItemS_0 a0) (g_Vw_toStoWriteS_0 a1)) then false else bif !g_Vw_eqStoStore_0 (g_Vw_toStoItemS_0 a0) (g_Vw_toStoItemS_0 a0) then false else bif !g_Vw_eqStoWriteS_0 (g_Vw_toStoWriteS_0 a1) (g_Vw_toStoWriteS_0 a1) then false else bif decide (g_Vw_markStoWriteS_0 (g_Vw_toStoWriteS_0 a1) (g_Vw_markStoItemS_0 (g_Vw_toStoItemS_0 a0) (1 : Int)) < (0 : Int)) then false else bif !g_Vw_eqStoStore_0 (g_Vi_StoDo_0 (g_Vw_toStoItemS_0 a0) (g_Vw_toStoWriteS_0 a1)) (g_Vs_StoDo_0 (g_Vw_toStoItemS_0 a0) (g_Vw_toStoWriteS_0 a1)) then false else bif decide (g_Vw_heldStoStore_0 (g_Vw_markStoItemS_1 (g_Vi_StoDo_0 (g_Vw_toStoItemS_0 a0) (g_Vw_toStoWriteS_0 a1)) (1 : Int)) (1 : Int) < (0 : Int)) then false else bif g_Vw_heldStoStore_0 (g_Vw_markStoItemS_1 (g_Vi_StoDo_0 (g_Vw_toStoItemS_0 a0) (g_Vw_toStoWriteS_0 a1)) (1 : Int)) (1 : Int) != g_Vw_markStoItemS_0 (g_Vi_StoDo_0 (g_Vw_toStoItemS_0 a0) (g_Vw_toStoWriteS_0 a1)) (1 : Int) then false else bif !g_Vw_eqStoStore_0 (g_Vi_StoDo_0 (g_Vw_toStoItemS_0 a0) (g_Vw_toStoWriteS_0 a1)) (g_Vs_StoDo_0 (g_Vw_toStoItemS_0 a0) (g_Vw_toStoWriteS_0 a1)) then false else bif decide (g_Vw_heldStoStore_0 (g_Vw_markStoItemS_1 (g_Vi_StoDo_0 (g_Vw_toStoItemS_0 a0) (g_Vw_toStoWriteS_0 a1)) (1 : Int)) (1 : Int) < (0 : Int)) then false else bif g_Vw_heldStoStore_0 (g_Vw_markStoItemS_1 (g_Vi_StoDo_0 (g_Vw_toStoItemS_0 a0) (g_Vw_toStoWriteS_0 a1)) (1 : Int)) (1 : Int) != g_Vw_markStoItemS_0 (g_Vi_StoDo_0 (g_Vw_toStoItemS_0 a0) (g_Vw_toStoWriteS_0 a1)) (1 : Int) then false else true
noncomputable def Fw_FnExactStoDo : FSem := fun ys => match ys with
  | [.val true [.sl .any 110 (.pair .str (.sl 3 (.int .i64))) a0], .val false [.sl .any 81 (.pair .str (.pair .bool (.sl 3 (.int .i64)))) a1]] => some ((g_Aw_FnExactStoDo a0 a1), .val false [.bool (g_Vw_FnExactStoDo_0 a0 a1)], [])
  | _ => none
theorem vw_FnExactStoDo (a0 : List ((ByteArray) × (List (Int)))) (a1 : List ((ByteArray) × ((Bool) × (List (Int))))) : collapseH .std Ew_FnExactStoDo Ow_FnExactStoDo_0 (execFn Ew_FnExactStoDo Go.Proofs.Tryd.f4 msw_FnExactStoDo [.val true [.sl .any 110 (.pair .str (.sl 3 (.int .i64))) a0], .val false [.sl .any 81 (.pair .str (.pair .bool (.sl 3 (.int .i64)))) a1]]) = some ((g_Aw_FnExactStoDo a0 a1), .val false [.bool (g_Vw_FnExactStoDo_0 a0 a1)], []) := by kernel_rfl
theorem sw_FnExactStoDo : Sound Go.Proofs.Tryd.prog 4 msw_FnExactStoDo Fw_FnExactStoDo := by
  refine fn_gen goodw_FnExactStoDo (by kernel_rfl) .std (fn := Go.Proofs.Tryd.f4) (c := (Go.Proofs.Tryd.f4.body.getD .skip)) (o := Ow_FnExactStoDo_0) (k := 0) (by kernel_rfl) (by kernel_rfl) (by kernel_rfl) (by kernel_rfl) (by decide) kw_FnExactStoDo_0 ?_
  intro ys r outs h
  unfold Fw_FnExactStoDo at h
  split at h
  · exact (vw_FnExactStoDo _ _).trans h
  · cases h
end Go.Proofs.YtjoggjjjlafdmaaDoor.E
end
section
namespace Go.Proofs.YtjoggjjjlafdmaaDoor.E
open Go
set_option maxRecDepth 100000
set_option maxHeartbeats 0
set_option linter.all false
noncomputable def Eslices_Clone_int_int_nz : Env where
  tt := mkTI Go.Proofs.Tryd.prog
  fn := fun _ => none
  bxf := fun _ => none
  mv := []
  keep := fun _ => []
  keepB := fun _ => []
  keepX := fun _ => []
  keepXB := fun _ => []
theorem goodFslices_Clone_int_int_nz : ∀ f ms F, Eslices_Clone_int_int_nz.fn f = some (ms, F) → Sound Go.Proofs.Tryd.prog f ms F := fun f ms F h => by cases h
theorem goodBslices_Clone_int_int_nz : ∀ f ms F, Eslices_Clone_int_int_nz.bxf f = some (ms, F) → SoundB Go.Proofs.Tryd.prog f ms F := fun f ms F h => by cases h
theorem goodslices_Clone_int_int_nz : Good Go.Proofs.Tryd.prog Eslices_Clone_int_int_nz := ⟨rfl, goodFslices_Clone_int_int_nz, goodBslices_Clone_int_int_nz⟩
noncomputable def Oslices_Clone_int_int_nz_0 : Orc := fun _ _ => none
noncomputable def msslices_Clone_int_int_nz : List PM := [.rd]
noncomputable def lsslices_Clone_int_int_nz : List (Nat × Code) := loopsAll 0 (Go.Proofs.Tryd.f69.body.getD .skip)

theorem kslices_Clone_int_int_nz_0 : OrcOk Eslices_Clone_int_int_nz Oslices_Clone_int_int_nz_0 lsslices_Clone_int_int_nz 0 := orcOk_none
noncomputable def g_Aslices_Clone_int_int_nz (a0 : List (Int)) : Bool := decide (nat_lit 0 < List.length a0) && decide ((nat_lit 0 + List.length a0) * nat_lit 8 ≤ nat_lit 140737488355328 ∧ nat_lit 0 + List.length a0 ≤ nat_lit 9223372036854775807)
noncomputable def g_Vslices_Clone_int_int_nz_0 (a0 : List (Int)) : List (Int) := [] ++ a0
noncomputable def Fslices_Clone_int_int_nz : FSem := fun ys => match ys with
  | [.val false [.sl .any 3 (.int .i64) a0]] => some ((g_Aslices_Clone_int_int_nz a0), .val false [.own (.may false) true 3 (.int .i64) (g_Vslices_Clone_int_int_nz_0 a0)], [])
  | _ => none
theorem vslices_Clone_int_int_nz (a0 : List (Int)) : collapseH .nz Eslices_Clone_int_int_nz Oslices_Clone_int_int_nz_0 (execFn Eslices_Clone_int_int_nz Go.Proofs.Tryd.f69 msslices_Clone_int_int_nz [.val false [.sl .any 3 (.int .i64) a0]]) = some ((g_Aslices_Clone_int_int_nz a0), .val false [.own (.may false) true 3 (.int .i64) (g_Vslices_Clone_int_int_nz_0 a0)], []) := by kernel_rfl
theorem sslices_Clone_int_int_nz : Sound Go.Proofs.Tryd.prog 69 msslices_Clone_int_int_nz Fslices_Clone_int_int_nz := by
  refine fn_gen goodslices_Clone_int_int_nz (by kernel_rfl) .nz (fn := Go.Proofs.Tryd.f69) (c := (Go.Proofs.Tryd.f69.body.getD .skip)) (o := Oslices_Clone_int_int_nz_0) (k := 0) (by kernel_rfl) (by kernel_rfl) (by kernel_rfl) (by kernel_rfl) (by decide) kslices_Clone_int_int_nz_0 ?_
  intro ys r outs h
  unfold Fslices_Clone_int_int_nz at h
  split at h
  · exact (vslices_Clone_int_int_nz _).trans h
  · cases h
end Go.Proofs.YtjoggjjjlafdmaaDoor.E
end
section
namespace Go.Proofs.YtjoggjjjlafdmaaDoor.E
open Go
set_option maxRecDepth 100000
set_option maxHeartbeats 0
set_option linter.all false
noncomputable def Ei_StoStore_get : Env where
  tt := mkTI Go.Proofs.Tryd.prog
  fn := fun f => match f with
    | 69 => some (msslices_Clone_int_int_nz, FSem.wk msslices_Clone_int_int_nz Fslices_Clone_int_int_nz)
    | 70 => some (msi_StoStore_find, FSem.wk msi_StoStore_find Fi_StoStore_find)
    | _ => none
  bxf := fun _ => none
  mv := []
  keep := fun _ => []
  keepB := fun _ => []
  keepX := fun _ => []
  keepXB := fun _ => []
theorem goodFi_StoStore_get : ∀ f ms F, Ei_StoStore_get.fn f = some (ms, F) → Sound Go.Proofs.Tryd.prog f ms F := fun f ms F h => by
  unfold Ei_StoStore_get at h
  dsimp only at h
  split at h
  · injection h with h; injection h with e1 e2; subst e1 e2; exact Sound.wk sslices_Clone_int_int_nz
  · injection h with h; injection h with e1 e2; subst e1 e2; exact Sound.wk si_StoStore_find
  · cases h
theorem goodBi_StoStore_get : ∀ f ms F, Ei_StoStore_get.bxf f = some (ms, F) → SoundB Go.Proofs.Tryd.prog f ms F := fun f ms F h => by cases h
theorem goodi_StoStore_get : Good Go.Proofs.Tryd.prog Ei_StoStore_get := ⟨rfl, goodFi_StoStore_get, goodBi_StoStore_get⟩
noncomputable def Oi_StoStore_get_0 : Orc := fun _ _ => none
noncomputable def msi_StoStore_get : List PM := [.rd, .own]
noncomputable def lsi_StoStore_get : List (Nat × Code) := loopsAll 0 (Go.Proofs.Tryd.f47.body.getD .skip)

theorem ki_StoStore_get_0 : OrcOk Ei_StoStore_get Oi_StoStore_get_0 lsi_StoStore_get 0 := orcOk_none
noncomputable def g_Ai_StoStore_get (a0 : List ((ByteArray) × (List (Int)))) (a1 : ByteArray) : Bool := g_Ai_StoStore_find a0 a1 && (!g_Vslices_BinarySearchFunc_i_StoItem_i_StoItem_string__i_StoStore_find_1_1 a0 a1 || decide ((0 : Int) ≤ g_Vslices_BinarySearchFunc_i_StoItem_i_StoItem_string__i_StoStore_find_1_0 a0 a1 ∧ g_Vslices_BinarySearchFunc_i_StoItem_i_StoItem_string__i_StoStore_find_1_0 a0 a1 < (↑(List.length a0) : Int)) && g_Aslices_Clone_int_int_nz (at_ (Ty.pair Ty.str (Ty.sl (nat_lit 3) (Ty.int IntKind.i64))) a0 (Int.toNat (g_Vslices_BinarySearchFunc_i_StoItem_i_StoItem_string__i_StoStore_find_1_0 a0 a1))).2)
noncomputable def g_Vi_StoStore_get_0 (a0 : List ((ByteArray) × (List (Int)))) (a1 : ByteArray) : Bool := bif !g_Vslices_BinarySearchFunc_i_StoItem_i_StoItem_string__i_StoStore_find_1_1 a0 a1 then true else false
noncomputable def g_Vi_StoStore_get_1 (a0 : List ((ByteArray) × (List (Int)))) (a1 : ByteArray) : List (Int) := bif !g_Vslices_BinarySearchFunc_i_StoItem_i_StoItem_string__i_StoStore_find_1_1 a0 a1 then [] else g_Vslices_Clone_int_int_nz_0 (at_ (Ty.pair Ty.str (Ty.sl (nat_lit 3) (Ty.int IntKind.i64))) a0 (Int.toNat (g_Vslices_BinarySearchFunc_i_StoItem_i_StoItem_string__i_StoStore_find_1_0 a0 a1))).2
noncomputable def Fi_StoStore_get : FSem := fun ys => match ys with
  | [.val true [.sl .any 41 (.pair .str (.sl 3 (.int .i64))) a0], .val false [.str a1]] => some ((g_Ai_StoStore_get a0 a1), .val false [.own (.may (g_Vi_StoStore_get_0 a0 a1)) true 3 (.int .i64) (g_Vi_StoStore_get_1 a0 a1)], [])
  | _ => none
theorem vi_StoStore_get (a0 : List ((ByteArray) × (List (Int)))) (a1 : ByteArray) : collapseH .nz Ei_StoStore_get Oi_StoStore_get_0 (execFn Ei_StoStore_get Go.Proofs.Tryd.f47 msi_StoStore_get [.val true [.sl .any 41 (.pair .str (.sl 3 (.int .i64))) a0], .val false [.str a1]]) = some ((g_Ai_StoStore_get a0 a1), .val false [.own (.may (g_Vi_StoStore_get_0 a0 a1)) true 3 (.int .i64) (g_Vi_StoStore_get_1 a0 a1)], []) := by kernel_rfl
theorem si_StoStore_get : Sound Go.Proofs.Tryd.prog 47 msi_StoStore_get Fi_StoStore_get := by
  refine fn_gen goodi_StoStore_get (by kernel_rfl) .nz (fn := Go.Proofs.Tryd.f47) (c := (Go.Proofs.Tryd.f47.body.getD .skip)) (o := Oi_StoStore_get_0) (k := 0) (by kernel_rfl) (by kernel_rfl) (by kernel_rfl) (by kernel_rfl) (by decide) ki_StoStore_get_0 ?_
  intro ys r outs h
  unfold Fi_StoStore_get at h
  split at h
  · exact (vi_StoStore_get _ _).trans h
  · cases h
end Go.Proofs.YtjoggjjjlafdmaaDoor.E
end
