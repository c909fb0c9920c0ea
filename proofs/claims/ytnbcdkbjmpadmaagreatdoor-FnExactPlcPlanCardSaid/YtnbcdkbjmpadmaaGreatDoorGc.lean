/- What the functions that are reached do, by the engine: for the proof (laws.FnExactPlcPlan): part 3. No conditions. -/
import Derived.Test.YtnbcdkbjmpadmaaGreatDoorGb
import Derived.Test.YtnbcdkbjmpadmaaGreatDoorProg
set_option linter.all false
section
namespace Go.Proofs.YtnbcdkbjmpadmaaGreatDoor.E
open Go
set_option maxRecDepth 100000
set_option maxHeartbeats 0
set_option linter.all false
noncomputable def Ew_markStoWriteS : Env where
  tt := mkTI Go.Proofs.Tryz.prog
  fn := fun f => match f with
    | 88 => some (msw_markText, FSem.wk msw_markText Fw_markText)
    | 89 => some (msw_markIntS, FSem.wk msw_markIntS Fw_markIntS)
    | _ => none
  bxf := fun _ => none
  mv := []
  keep := fun b => match b with
    | 0 => [(0, false), (1, false), (5, false)]
    | _ => []
  keepB := fun b => match b with
    | 0 => []
    | _ => []
  keepX := fun b => match b with
    | 0 => [(0, false), (1, false)]
    | _ => []
  keepXB := fun b => match b with
    | 0 => []
    | _ => []
  nest := [33]
theorem goodFw_markStoWriteS : ∀ f ms F, Ew_markStoWriteS.fn f = some (ms, F) → Sound Go.Proofs.Tryz.prog f ms F := fun f ms F h => by
  unfold Ew_markStoWriteS at h
  dsimp only at h
  split at h
  · injection h with h; injection h with e1 e2; subst e1 e2; exact Sound.wk sw_markText
  · injection h with h; injection h with e1 e2; subst e1 e2; exact Sound.wk sw_markIntS
  · cases h
theorem goodBw_markStoWriteS : ∀ f ms F, Ew_markStoWriteS.bxf f = some (ms, F) → SoundB Go.Proofs.Tryz.prog f ms F := fun f ms F h => by cases h
theorem goodw_markStoWriteS : Good Go.Proofs.Tryz.prog Ew_markStoWriteS := ⟨rfl, goodFw_markStoWriteS, goodBw_markStoWriteS⟩
noncomputable def Ow_markStoWriteS_0 : Orc := fun _ _ => none
noncomputable def msw_markStoWriteS : List PM := [.«mut», .own]
noncomputable def lsw_markStoWriteS : List (Nat × Code) := loopsAll 0 (Go.Proofs.Tryz.f52.body.getD .skip)
noncomputable def cw_markStoWriteS_0 : Code := (loopOf 0 (Go.Proofs.Tryz.f52.body.getD .skip)).getD .skip
theorem lseqw_markStoWriteS : lsw_markStoWriteS = [(0, cw_markStoWriteS_0)] := by kernel_rfl
theorem mw_markStoWriteS_0 : ∀ p, p ∈ lsw_markStoWriteS → p.1 = 0 → p.2 = cw_markStoWriteS_0 := by
  intro p hp
  rw [lseqw_markStoWriteS] at hp
  simp only [List.mem_cons, List.not_mem_nil, or_false] at hp
  subst hp; simp
theorem kw_markStoWriteS_0 : OrcOk Ew_markStoWriteS Ow_markStoWriteS_0 lsw_markStoWriteS 0 := orcOk_none
noncomputable def hw_markStoWriteS_0 (y0 : List ((ByteArray) × ((Bool) × (List (Int))))) (y1 : Int) (y2 : Int) : List (Pl × LV) := [(.T 0, .t (.val false [.row 0 0 0])), (.R 0 0, .r 0 (some ⟨false, .any, true, 50, (.pair .str (.pair .bool (.sl 3 (.int .i64)))), y0⟩)), (.T 1, .t (.val false [.int .i64 y1])), (.T 5, .t (.val false [.int .i64 y2]))]
noncomputable def g_Sw_markStoWriteS_0 : ((List ((ByteArray) × ((Bool) × (List (Int))))) × (Int) × (Int)) → RT ((List ((ByteArray) × ((Bool) × (List (Int))))) × (Int) × (Int)) (((List ((ByteArray) × ((Bool) × (List (Int))))) × (Int)))
  | (y0, y1, y2) => .br (true) (.br (decide (y2 < (↑(List.length y0) : Int))) (.br (g_Aw_markText y1) (.br (decide ((0 : Int) ≤ y2 ∧ y2 < (↑(List.length y0) : Int))) (.br (decide (Int.toNat y2 < List.length y0)) (.br (true) (.br (true) (.br (true) (.br (decide ((0 : Int) ≤ y2 ∧ y2 < (↑(List.length (updE (Ty.pair Ty.str (Ty.pair Ty.bool (Ty.sl (nat_lit 3) (Ty.int IntKind.i64)))) y0 (Int.toNat y2) fun x => (g_Vw_markText_0 y1, x.2.1, x.2.2))) : Int))) (.br (decide (Int.toNat y2 < List.length (updE (Ty.pair Ty.str (Ty.pair Ty.bool (Ty.sl (nat_lit 3) (Ty.int IntKind.i64)))) y0 (Int.toNat y2) fun x => (g_Vw_markText_0 y1, x.2.1, x.2.2)))) (.br (true) (.br (decide ((0 : Int) ≤ y2 ∧ y2 < (↑(List.length (updE (Ty.pair Ty.str (Ty.pair Ty.bool (Ty.sl (nat_lit 3) (Ty.int IntKind.i64)))) (updE (Ty.pair Ty.str (Ty.pair Ty.bool (Ty.sl (nat_lit 3) (Ty.int IntKind.i64)))) y0 (Int.toNat y2) fun x => (g_Vw_markText_0 y1, x.2.1, x.2.2)) (Int.toNat y2) fun x => (x.1, Int.tmod (IntKind.wrap IntKind.i64 (y1 + (1 : Int))) (3 : Int) == (0 : Int), x.2.2))) : Int))) (.br (decide (Int.toNat y2 < List.length (updE (Ty.pair Ty.str (Ty.pair Ty.bool (Ty.sl (nat_lit 3) (Ty.int IntKind.i64)))) (updE (Ty.pair Ty.str (Ty.pair Ty.bool (Ty.sl (nat_lit 3) (Ty.int IntKind.i64)))) y0 (Int.toNat y2) fun x => (g_Vw_markText_0 y1, x.2.1, x.2.2)) (Int.toNat y2) fun x => (x.1, Int.tmod (IntKind.wrap IntKind.i64 (y1 + (1 : Int))) (3 : Int) == (0 : Int), x.2.2)))) (.br (g_Aw_markIntS (at_ (Ty.pair Ty.str (Ty.pair Ty.bool (Ty.sl (nat_lit 3) (Ty.int IntKind.i64)))) (updE (Ty.pair Ty.str (Ty.pair Ty.bool (Ty.sl (nat_lit 3) (Ty.int IntKind.i64)))) (updE (Ty.pair Ty.str (Ty.pair Ty.bool (Ty.sl (nat_lit 3) (Ty.int IntKind.i64)))) y0 (Int.toNat y2) fun x => (g_Vw_markText_0 y1, x.2.1, x.2.2)) (Int.toNat y2) fun x => (x.1, Int.tmod (IntKind.wrap IntKind.i64 (y1 + (1 : Int))) (3 : Int) == (0 : Int), x.2.2)) (Int.toNat y2)).2.2 (IntKind.wrap IntKind.i64 (IntKind.wrap IntKind.i64 (y1 + (1 : Int)) + (1 : Int)))) (.br (true) (.go ((List.set (updE (Ty.pair Ty.str (Ty.pair Ty.bool (Ty.sl (nat_lit 3) (Ty.int IntKind.i64)))) (updE (Ty.pair Ty.str (Ty.pair Ty.bool (Ty.sl (nat_lit 3) (Ty.int IntKind.i64)))) y0 (Int.toNat y2) fun x => (g_Vw_markText_0 y1, x.2.1, x.2.2)) (Int.toNat y2) fun x => (x.1, Int.tmod (IntKind.wrap IntKind.i64 (y1 + (1 : Int))) (3 : Int) == (0 : Int), x.2.2)) (Int.toNat y2) ((at_ (Ty.pair Ty.str (Ty.pair Ty.bool (Ty.sl (nat_lit 3) (Ty.int IntKind.i64)))) (updE (Ty.pair Ty.str (Ty.pair Ty.bool (Ty.sl (nat_lit 3) (Ty.int IntKind.i64)))) (updE (Ty.pair Ty.str (Ty.pair Ty.bool (Ty.sl (nat_lit 3) (Ty.int IntKind.i64)))) y0 (Int.toNat y2) fun x => (g_Vw_markText_0 y1, x.2.1, x.2.2)) (Int.toNat y2) fun x => (x.1, Int.tmod (IntKind.wrap IntKind.i64 (y1 + (1 : Int))) (3 : Int) == (0 : Int), x.2.2)) (Int.toNat y2)).1, (at_ (Ty.pair Ty.str (Ty.pair Ty.bool (Ty.sl (nat_lit 3) (Ty.int IntKind.i64)))) (updE (Ty.pair Ty.str (Ty.pair Ty.bool (Ty.sl (nat_lit 3) (Ty.int IntKind.i64)))) (updE (Ty.pair Ty.str (Ty.pair Ty.bool (Ty.sl (nat_lit 3) (Ty.int IntKind.i64)))) y0 (Int.toNat y2) fun x => (g_Vw_markText_0 y1, x.2.1, x.2.2)) (Int.toNat y2) fun x => (x.1, Int.tmod (IntKind.wrap IntKind.i64 (y1 + (1 : Int))) (3 : Int) == (0 : Int), x.2.2)) (Int.toNat y2)).2.1, g_Vw_markIntS_1 (at_ (Ty.pair Ty.str (Ty.pair Ty.bool (Ty.sl (nat_lit 3) (Ty.int IntKind.i64)))) (updE (Ty.pair Ty.str (Ty.pair Ty.bool (Ty.sl (nat_lit 3) (Ty.int IntKind.i64)))) (updE (Ty.pair Ty.str (Ty.pair Ty.bool (Ty.sl (nat_lit 3) (Ty.int IntKind.i64)))) y0 (Int.toNat y2) fun x => (g_Vw_markText_0 y1, x.2.1, x.2.2)) (Int.toNat y2) fun x => (x.1, Int.tmod (IntKind.wrap IntKind.i64 (y1 + (1 : Int))) (3 : Int) == (0 : Int), x.2.2)) (Int.toNat y2)).2.2 (IntKind.wrap IntKind.i64 (IntKind.wrap IntKind.i64 (y1 + (1 : Int)) + (1 : Int)))), g_Vw_markIntS_0 (at_ (Ty.pair Ty.str (Ty.pair Ty.bool (Ty.sl (nat_lit 3) (Ty.int IntKind.i64)))) (updE (Ty.pair Ty.str (Ty.pair Ty.bool (Ty.sl (nat_lit 3) (Ty.int IntKind.i64)))) (updE (Ty.pair Ty.str (Ty.pair Ty.bool (Ty.sl (nat_lit 3) (Ty.int IntKind.i64)))) y0 (Int.toNat y2) fun x => (g_Vw_markText_0 y1, x.2.1, x.2.2)) (Int.toNat y2) fun x => (x.1, Int.tmod (IntKind.wrap IntKind.i64 (y1 + (1 : Int))) (3 : Int) == (0 : Int), x.2.2)) (Int.toNat y2)).2.2 (IntKind.wrap IntKind.i64 (IntKind.wrap IntKind.i64 (y1 + (1 : Int)) + (1 : Int))), IntKind.wrap IntKind.i64 (y2 + (1 : Int))))) (.bad)) (.bad)) (.bad)) (.bad)) (.bad)) (.bad)) (.bad)) (.bad)) (.bad)) (.bad)) (.bad)) (.bad)) (.bad)) (.out ((y0, y1)))) (.bad)
noncomputable def g_Lw_markStoWriteS_0 (x : (List ((ByteArray) × ((Bool) × (List (Int))))) × (Int) × (Int)) : Option (((List ((ByteArray) × ((Bool) × (List (Int))))) × (Int))) := loopO (g_Sw_markStoWriteS_0) x
noncomputable def xw_markStoWriteS_0 : (((List ((ByteArray) × ((Bool) × (List (Int))))) × (Int))) → Ex × List (Pl × LV) := fun r => (.exit 0, [(.T 0, .t (.val false [.row 0 0 0])), (.R 0 0, .r 0 (some ⟨false, .any, true, 50, (.pair .str (.pair .bool (.sl 3 (.int .i64)))), r.1⟩)), (.T 1, .t (.val false [.int .i64 r.2]))])
noncomputable def Ow_markStoWriteS_1 : Orc := fun b h => match b, h with
  | 0, [(.T 0, .t (.val false [.row 0 0 0])), (.R 0 0, .r 0 (some ⟨false, .any, true, 50, (.pair .str (.pair .bool (.sl 3 (.int .i64)))), y0⟩)), (.T 1, .t (.val false [.int .i64 y1])), (.T 5, .t (.val false [.int .i64 y2]))] => some (okO (g_Lw_markStoWriteS_0 (y0, y1, y2)), (.leaf (.exit 0) [(.T 0, .t (.val false [.row 0 0 0])), (.R 0 0, .r 0 (some ⟨false, .any, true, 50, (.pair .str (.pair .bool (.sl 3 (.int .i64)))), (valO (g_Lw_markStoWriteS_0 (y0, y1, y2))).1⟩)), (.T 1, .t (.val false [.int .i64 (valO (g_Lw_markStoWriteS_0 (y0, y1, y2))).2]))]))
  | b, h => Ow_markStoWriteS_0 b h
theorem bw_markStoWriteS_0 (y0 : List ((ByteArray) × ((Bool) × (List (Int))))) (y1 : Int) (y2 : Int) : Tr.bt Ew_markStoWriteS Ow_markStoWriteS_0 (exec Ew_markStoWriteS 0 cw_markStoWriteS_0 (St.of (hw_markStoWriteS_0 y0 y1 y2)) (leafRd Ew_markStoWriteS 0)) = (g_Sw_markStoWriteS_0 (y0, y1, y2)).bt (fun ((y0, y1, y2) : (List ((ByteArray) × ((Bool) × (List (Int))))) × (Int) × (Int)) => (hw_markStoWriteS_0 y0 y1 y2)) (xw_markStoWriteS_0) := by kernel_rfl
theorem kw_markStoWriteS_1 : OrcOk Ew_markStoWriteS Ow_markStoWriteS_1 lsw_markStoWriteS 1 := orc_add kw_markStoWriteS_0 (fun n p hp h ex h' ho => by
  obtain ⟨b, c⟩ := p
  obtain ⟨xt, h1, h2⟩ := ho
  have h1 : Ow_markStoWriteS_1 b h = some (true, xt) := h1
  unfold Ow_markStoWriteS_1 at h1
  split at h1
  · injection h1 with h1
    injection h1 with e1 e2
    subst e2
    have hc : c = cw_markStoWriteS_0 := mw_markStoWriteS_0 _ hp rfl
    subst hc
    right
    rename_i y0 y1 y2
    have key := LT_step kw_markStoWriteS_0 hp (fun q hq => loopsAll_in _ _ _ _ hp hq) (fun ((y0, y1, y2) : (List ((ByteArray) × ((Bool) × (List (Int))))) × (Int) × (Int)) => (hw_markStoWriteS_0 y0 y1 y2)) (xw_markStoWriteS_0) (g_Sw_markStoWriteS_0) (fun x => by first | exact bw_markStoWriteS_0 x.1 x.2.1 x.2.2) n (x := (y0, y1, y2)) (okO_some e1)
    have hx : ∀ r, XT.sel (.leaf (.exit 0) [(.T 0, .t (.val false [.row 0 0 0])), (.R 0 0, .r 0 (some ⟨false, .any, true, 50, (.pair .str (.pair .bool (.sl 3 (.int .i64)))), r.1⟩)), (.T 1, .t (.val false [.int .i64 r.2]))]) = xw_markStoWriteS_0 r := fun r => by first | rfl | (rcases r with r | r <;> rfl) | (rcases r with r | r | r <;> rfl) | (rcases r with r | r | r | r <;> rfl)
    have h3 := (hx (valO (g_Lw_markStoWriteS_0 (y0, y1, y2)))).symm.trans h2
    have e3 := congrArg Prod.fst h3
    have e4 := congrArg Prod.snd h3
    simp only at e3 e4
    rw [← e3, ← e4]
    exact key
  · exact .inl ⟨xt, h1, h2⟩)
noncomputable def g_Aw_markStoWriteS (a0 : List ((ByteArray) × ((Bool) × (List (Int))))) (a1 : Int) : Bool := okO (g_Lw_markStoWriteS_0 (a0, a1, (0 : Int)))
noncomputable def g_Vw_markStoWriteS_0 (a0 : List ((ByteArray) × ((Bool) × (List (Int))))) (a1 : Int) : Int := (valO (g_Lw_markStoWriteS_0 (a0, a1, (0 : Int)))).2
noncomputable def g_Vw_markStoWriteS_1 (a0 : List ((ByteArray) × ((Bool) × (List (Int))))) (a1 : Int) : List ((ByteArray) × ((Bool) × (List (Int)))) := (valO (g_Lw_markStoWriteS_0 (a0, a1, (0 : Int)))).1
noncomputable def Fw_markStoWriteS : FSem := fun ys => match ys with
  | [.val false [.own .any true 50 (.pair .str (.pair .bool (.sl 3 (.int .i64)))) a0], .val false [.int .i64 a1]] => some ((g_Aw_markStoWriteS a0 a1), .val false [.int .i64 (g_Vw_markStoWriteS_0 a0 a1)], [[.own .any true 50 (.pair .str (.pair .bool (.sl 3 (.int .i64)))) (g_Vw_markStoWriteS_1 a0 a1)]])
  | _ => none
theorem vw_markStoWriteS (a0 : List ((ByteArray) × ((Bool) × (List (Int))))) (a1 : Int) : collapseH .std Ew_markStoWriteS Ow_markStoWriteS_1 (execFn Ew_markStoWriteS Go.Proofs.Tryz.f52 msw_markStoWriteS [.val false [.own .any true 50 (.pair .str (.pair .bool (.sl 3 (.int .i64)))) a0], .val false [.int .i64 a1]]) = some ((g_Aw_markStoWriteS a0 a1), .val false [.int .i64 (g_Vw_markStoWriteS_0 a0 a1)], [[.own .any true 50 (.pair .str (.pair .bool (.sl 3 (.int .i64)))) (g_Vw_markStoWriteS_1 a0 a1)]]) := by kernel_rfl
theorem sw_markStoWriteS : Sound Go.Proofs.Tryz.prog 52 msw_markStoWriteS Fw_markStoWriteS := by
  refine fn_gen goodw_markStoWriteS (by kernel_rfl) .std (fn := Go.Proofs.Tryz.f52) (c := (Go.Proofs.Tryz.f52.body.getD .skip)) (o := Ow_markStoWriteS_1) (k := 1) (by kernel_rfl) (by kernel_rfl) (by kernel_rfl) (by kernel_rfl) (by decide) kw_markStoWriteS_1 ?_
  intro ys r outs h
  unfold Fw_markStoWriteS at h
  split at h
  · exact (vw_markStoWriteS _ _).trans h
  · cases h
end Go.Proofs.YtnbcdkbjmpadmaaGreatDoor.E
end
section
namespace Go.Proofs.YtnbcdkbjmpadmaaGreatDoor.E
open Go
set_option maxRecDepth 100000
set_option maxHeartbeats 0
set_option linter.all false
noncomputable def Ew_markStringS : Env where
  tt := mkTI Go.Proofs.Tryz.prog
  fn := fun f => match f with
    | 88 => some (msw_markText, FSem.wk msw_markText Fw_markText)
    | _ => none
  bxf := fun _ => none
  mv := []
  keep := fun b => match b with
    | 0 => [(0, false), (1, false), (5, false)]
    | _ => []
  keepB := fun b => match b with
    | 0 => []
    | _ => []
  keepX := fun b => match b with
    | 0 => [(0, false), (1, false)]
    | _ => []
  keepXB := fun b => match b with
    | 0 => []
    | _ => []
theorem goodFw_markStringS : ∀ f ms F, Ew_markStringS.fn f = some (ms, F) → Sound Go.Proofs.Tryz.prog f ms F := fun f ms F h => by
  unfold Ew_markStringS at h
  dsimp only at h
  split at h
  · injection h with h; injection h with e1 e2; subst e1 e2; exact Sound.wk sw_markText
  · cases h
theorem goodBw_markStringS : ∀ f ms F, Ew_markStringS.bxf f = some (ms, F) → SoundB Go.Proofs.Tryz.prog f ms F := fun f ms F h => by cases h
theorem goodw_markStringS : Good Go.Proofs.Tryz.prog Ew_markStringS := ⟨rfl, goodFw_markStringS, goodBw_markStringS⟩
noncomputable def Ow_markStringS_0 : Orc := fun _ _ => none
noncomputable def msw_markStringS : List PM := [.«mut», .own]
noncomputable def lsw_markStringS : List (Nat × Code) := loopsAll 0 (Go.Proofs.Tryz.f51.body.getD .skip)
noncomputable def cw_markStringS_0 : Code := (loopOf 0 (Go.Proofs.Tryz.f51.body.getD .skip)).getD .skip
theorem lseqw_markStringS : lsw_markStringS = [(0, cw_markStringS_0)] := by kernel_rfl
theorem mw_markStringS_0 : ∀ p, p ∈ lsw_markStringS → p.1 = 0 → p.2 = cw_markStringS_0 := by
  intro p hp
  rw [lseqw_markStringS] at hp
  simp only [List.mem_cons, List.not_mem_nil, or_false] at hp
  subst hp; simp
theorem kw_markStringS_0 : OrcOk Ew_markStringS Ow_markStringS_0 lsw_markStringS 0 := orcOk_none
noncomputable def hw_markStringS_0 (y0 : List (ByteArray)) (y1 : Int) (y2 : Int) : List (Pl × LV) := [(.T 0, .t (.val false [.row 0 0 0])), (.R 0 0, .r 0 (some ⟨false, .any, true, 9, .str, y0⟩)), (.T 1, .t (.val false [.int .i64 y1])), (.T 5, .t (.val false [.int .i64 y2]))]
noncomputable def g_Sw_markStringS_0 : ((List (ByteArray)) × (Int) × (Int)) → RT ((List (ByteArray)) × (Int) × (Int)) (((List (ByteArray)) × (Int)))
  | (y0, y1, y2) => .br (true) (.br (decide (y2 < (↑(List.length y0) : Int))) (.br (g_Aw_markText y1) (.br (decide ((0 : Int) ≤ y2 ∧ y2 < (↑(List.length y0) : Int))) (.br (decide (Int.toNat y2 < List.length y0)) (.br (true) (.br (true) (.go ((List.set y0 (Int.toNat y2) (g_Vw_markText_0 y1), IntKind.wrap IntKind.i64 (y1 + (1 : Int)), IntKind.wrap IntKind.i64 (y2 + (1 : Int))))) (.bad)) (.bad)) (.bad)) (.bad)) (.bad)) (.out ((y0, y1)))) (.bad)
noncomputable def g_Lw_markStringS_0 (x : (List (ByteArray)) × (Int) × (Int)) : Option (((List (ByteArray)) × (Int))) := loopO (g_Sw_markStringS_0) x
noncomputable def xw_markStringS_0 : (((List (ByteArray)) × (Int))) → Ex × List (Pl × LV) := fun r => (.exit 0, [(.T 0, .t (.val false [.row 0 0 0])), (.R 0 0, .r 0 (some ⟨false, .any, true, 9, .str, r.1⟩)), (.T 1, .t (.val false [.int .i64 r.2]))])
noncomputable def Ow_markStringS_1 : Orc := fun b h => match b, h with
  | 0, [(.T 0, .t (.val false [.row 0 0 0])), (.R 0 0, .r 0 (some ⟨false, .any, true, 9, .str, y0⟩)), (.T 1, .t (.val false [.int .i64 y1])), (.T 5, .t (.val false [.int .i64 y2]))] => some (okO (g_Lw_markStringS_0 (y0, y1, y2)), (.leaf (.exit 0) [(.T 0, .t (.val false [.row 0 0 0])), (.R 0 0, .r 0 (some ⟨false, .any, true, 9, .str, (valO (g_Lw_markStringS_0 (y0, y1, y2))).1⟩)), (.T 1, .t (.val false [.int .i64 (valO (g_Lw_markStringS_0 (y0, y1, y2))).2]))]))
  | b, h => Ow_markStringS_0 b h
theorem bw_markStringS_0 (y0 : List (ByteArray)) (y1 : Int) (y2 : Int) : Tr.bt Ew_markStringS Ow_markStringS_0 (exec Ew_markStringS 0 cw_markStringS_0 (St.of (hw_markStringS_0 y0 y1 y2)) (leafRd Ew_markStringS 0)) = (g_Sw_markStringS_0 (y0, y1, y2)).bt (fun ((y0, y1, y2) : (List (ByteArray)) × (Int) × (Int)) => (hw_markStringS_0 y0 y1 y2)) (xw_markStringS_0) := by kernel_rfl
theorem kw_markStringS_1 : OrcOk Ew_markStringS Ow_markStringS_1 lsw_markStringS 1 := orc_add kw_markStringS_0 (fun n p hp h ex h' ho => by
  obtain ⟨b, c⟩ := p
  obtain ⟨xt, h1, h2⟩ := ho
  have h1 : Ow_markStringS_1 b h = some (true, xt) := h1
  unfold Ow_markStringS_1 at h1
  split at h1
  · injection h1 with h1
    injection h1 with e1 e2
    subst e2
    have hc : c = cw_markStringS_0 := mw_markStringS_0 _ hp rfl
    subst hc
    right
    rename_i y0 y1 y2
    have key := LT_step kw_markStringS_0 hp (fun q hq => loopsAll_in _ _ _ _ hp hq) (fun ((y0, y1, y2) : (List (ByteArray)) × (Int) × (Int)) => (hw_markStringS_0 y0 y1 y2)) (xw_markStringS_0) (g_Sw_markStringS_0) (fun x => by first | exact bw_markStringS_0 x.1 x.2.1 x.2.2) n (x := (y0, y1, y2)) (okO_some e1)
    have hx : ∀ r, XT.sel (.leaf (.exit 0) [(.T 0, .t (.val false [.row 0 0 0])), (.R 0 0, .r 0 (some ⟨false, .any, true, 9, .str, r.1⟩)), (.T 1, .t (.val false [.int .i64 r.2]))]) = xw_markStringS_0 r := fun r => by first | rfl | (rcases r with r | r <;> rfl) | (rcases r with r | r | r <;> rfl) | (rcases r with r | r | r | r <;> rfl)
    have h3 := (hx (valO (g_Lw_markStringS_0 (y0, y1, y2)))).symm.trans h2
    have e3 := congrArg Prod.fst h3
    have e4 := congrArg Prod.snd h3
    simp only at e3 e4
    rw [← e3, ← e4]
    exact key
  · exact .inl ⟨xt, h1, h2⟩)
noncomputable def g_Aw_markStringS (a0 : List (ByteArray)) (a1 : Int) : Bool := okO (g_Lw_markStringS_0 (a0, a1, (0 : Int)))
noncomputable def g_Vw_markStringS_0 (a0 : List (ByteArray)) (a1 : Int) : Int := (valO (g_Lw_markStringS_0 (a0, a1, (0 : Int)))).2
noncomputable def g_Vw_markStringS_1 (a0 : List (ByteArray)) (a1 : Int) : List (ByteArray) := (valO (g_Lw_markStringS_0 (a0, a1, (0 : Int)))).1
noncomputable def Fw_markStringS : FSem := fun ys => match ys with
  | [.val false [.own .any true 9 .str a0], .val false [.int .i64 a1]] => some ((g_Aw_markStringS a0 a1), .val false [.int .i64 (g_Vw_markStringS_0 a0 a1)], [[.own .any true 9 .str (g_Vw_markStringS_1 a0 a1)]])
  | _ => none
theorem vw_markStringS (a0 : List (ByteArray)) (a1 : Int) : collapseH .std Ew_markStringS Ow_markStringS_1 (execFn Ew_markStringS Go.Proofs.Tryz.f51 msw_markStringS [.val false [.own .any true 9 .str a0], .val false [.int .i64 a1]]) = some ((g_Aw_markStringS a0 a1), .val false [.int .i64 (g_Vw_markStringS_0 a0 a1)], [[.own .any true 9 .str (g_Vw_markStringS_1 a0 a1)]]) := by kernel_rfl
theorem sw_markStringS : Sound Go.Proofs.Tryz.prog 51 msw_markStringS Fw_markStringS := by
  refine fn_gen goodw_markStringS (by kernel_rfl) .std (fn := Go.Proofs.Tryz.f51) (c := (Go.Proofs.Tryz.f51.body.getD .skip)) (o := Ow_markStringS_1) (k := 1) (by kernel_rfl) (by kernel_rfl) (by kernel_rfl) (by kernel_rfl) (by decide) kw_markStringS_1 ?_
  intro ys r outs h
  unfold Fw_markStringS at h
  split at h
  · exact (vw_markStringS _ _).trans h
  · cases h
end Go.Proofs.YtnbcdkbjmpadmaaGreatDoor.E
end
section
namespace Go.Proofs.YtnbcdkbjmpadmaaGreatDoor.E
open Go
set_option maxRecDepth 100000
set_option maxHeartbeats 0
set_option linter.all false
noncomputable def Ew_markOpPlan : Env where
  tt := mkTI Go.Proofs.Tryz.prog
  fn := fun f => match f with
    | 51 => some (msw_markStringS, FSem.wk msw_markStringS Fw_markStringS)
    | 52 => some (msw_markStoWriteS, FSem.wk msw_markStoWriteS Fw_markStoWriteS)
    | _ => none
  bxf := fun _ => none
  mv := []
  keep := fun _ => []
  keepB := fun _ => []
  keepX := fun _ => []
  keepXB := fun _ => []
theorem goodFw_markOpPlan : ∀ f ms F, Ew_markOpPlan.fn f = some (ms, F) → Sound Go.Proofs.Tryz.prog f ms F := fun f ms F h => by
  unfold Ew_markOpPlan at h
  dsimp only at h
  split at h
  · injection h with h; injection h with e1 e2; subst e1 e2; exact Sound.wk sw_markStringS
  · injection h with h; injection h with e1 e2; subst e1 e2; exact Sound.wk sw_markStoWriteS
  · cases h
theorem goodBw_markOpPlan : ∀ f ms F, Ew_markOpPlan.bxf f = some (ms, F) → SoundB Go.Proofs.Tryz.prog f ms F := fun f ms F h => by cases h
theorem goodw_markOpPlan : Good Go.Proofs.Tryz.prog Ew_markOpPlan := ⟨rfl, goodFw_markOpPlan, goodBw_markOpPlan⟩
noncomputable def Ow_markOpPlan_0 : Orc := fun _ _ => none
noncomputable def msw_markOpPlan : List PM := [.«mut», .own]
noncomputable def lsw_markOpPlan : List (Nat × Code) := loopsAll 0 (Go.Proofs.Tryz.f16.body.getD .skip)

theorem kw_markOpPlan_0 : OrcOk Ew_markOpPlan Ow_markOpPlan_0 lsw_markOpPlan 0 := orcOk_none
noncomputable def g_Aw_markOpPlan (a0 : Bool) (a1 : List (ByteArray)) (a2 : List ((ByteArray) × ((Bool) × (List (Int))))) (a3 : Int) : Bool := g_Aw_markStringS a1 a3 && g_Aw_markStoWriteS a2 (g_Vw_markStringS_0 a1 a3)
noncomputable def Fw_markOpPlan : FSem := fun ys => match ys with
  | [.val true [.bool a0, .own .any true 9 .str a1, .own .any true 50 (.pair .str (.pair .bool (.sl 3 (.int .i64)))) a2], .val false [.int .i64 a3]] => some ((g_Aw_markOpPlan a0 a1 a2 a3), .val false [.int .i64 (g_Vw_markStoWriteS_0 a2 (g_Vw_markStringS_0 a1 a3))], [[.bool a0, .own .any true 9 .str (g_Vw_markStringS_1 a1 a3), .own .any true 50 (.pair .str (.pair .bool (.sl 3 (.int .i64)))) (g_Vw_markStoWriteS_1 a2 (g_Vw_markStringS_0 a1 a3))]])
  | _ => none
theorem vw_markOpPlan (a0 : Bool) (a1 : List (ByteArray)) (a2 : List ((ByteArray) × ((Bool) × (List (Int))))) (a3 : Int) : collapseH .std Ew_markOpPlan Ow_markOpPlan_0 (execFn Ew_markOpPlan Go.Proofs.Tryz.f16 msw_markOpPlan [.val true [.bool a0, .own .any true 9 .str a1, .own .any true 50 (.pair .str (.pair .bool (.sl 3 (.int .i64)))) a2], .val false [.int .i64 a3]]) = some ((g_Aw_markOpPlan a0 a1 a2 a3), .val false [.int .i64 (g_Vw_markStoWriteS_0 a2 (g_Vw_markStringS_0 a1 a3))], [[.bool a0, .own .any true 9 .str (g_Vw_markStringS_1 a1 a3), .own .any true 50 (.pair .str (.pair .bool (.sl 3 (.int .i64)))) (g_Vw_markStoWriteS_1 a2 (g_Vw_markStringS_0 a1 a3))]]) := by kernel_rfl
theorem sw_markOpPlan : Sound Go.Proofs.Tryz.prog 16 msw_markOpPlan Fw_markOpPlan := by
  refine fn_gen goodw_markOpPlan (by kernel_rfl) .std (fn := Go.Proofs.Tryz.f16) (c := (Go.Proofs.Tryz.f16.body.getD .skip)) (o := Ow_markOpPlan_0) (k := 0) (by kernel_rfl) (by kernel_rfl) (by kernel_rfl) (by kernel_rfl) (by decide) kw_markOpPlan_0 ?_
  intro ys r outs h
  unfold Fw_markOpPlan at h
  split at h
  · exact (vw_markOpPlan _ _ _ _).trans h
  · cases h
end Go.Proofs.YtnbcdkbjmpadmaaGreatDoor.E
end
section
namespace Go.Proofs.YtnbcdkbjmpadmaaGreatDoor.E
open Go
set_option maxRecDepth 100000
set_option maxHeartbeats 0
set_option linter.all false
noncomputable def Ew_markStoItemS : Env where
  tt := mkTI Go.Proofs.Tryz.prog
  fn := fun f => match f with
    | 88 => some (msw_markText, FSem.wk msw_markText Fw_markText)
    | 89 => some (msw_markIntS, FSem.wk msw_markIntS Fw_markIntS)
    | _ => none
  bxf := fun _ => none
  mv := []
  keep := fun b => match b with
    | 0 => [(0, false), (1, false), (5, false)]
    | _ => []
  keepB := fun b => match b with
    | 0 => []
    | _ => []
  keepX := fun b => match b with
    | 0 => [(0, false), (1, false)]
    | _ => []
  keepXB := fun b => match b with
    | 0 => []
    | _ => []
  nest := [24]
theorem goodFw_markStoItemS : ∀ f ms F, Ew_markStoItemS.fn f = some (ms, F) → Sound Go.Proofs.Tryz.prog f ms F := fun f ms F h => by
  unfold Ew_markStoItemS at h
  dsimp only at h
  split at h
  · injection h with h; injection h with e1 e2; subst e1 e2; exact Sound.wk sw_markText
  · injection h with h; injection h with e1 e2; subst e1 e2; exact Sound.wk sw_markIntS
  · cases h
theorem goodBw_markStoItemS : ∀ f ms F, Ew_markStoItemS.bxf f = some (ms, F) → SoundB Go.Proofs.Tryz.prog f ms F := fun f ms F h => by cases h
theorem goodw_markStoItemS : Good Go.Proofs.Tryz.prog Ew_markStoItemS := ⟨rfl, goodFw_markStoItemS, goodBw_markStoItemS⟩
noncomputable def Ow_markStoItemS_0 : Orc := fun _ _ => none
noncomputable def msw_markStoItemS : List PM := [.«mut», .own]
noncomputable def lsw_markStoItemS : List (Nat × Code) := loopsAll 0 (Go.Proofs.Tryz.f50.body.getD .skip)
noncomputable def cw_markStoItemS_0 : Code := (loopOf 0 (Go.Proofs.Tryz.f50.body.getD .skip)).getD .skip
theorem lseqw_markStoItemS : lsw_markStoItemS = [(0, cw_markStoItemS_0)] := by kernel_rfl
theorem mw_markStoItemS_0 : ∀ p, p ∈ lsw_markStoItemS → p.1 = 0 → p.2 = cw_markStoItemS_0 := by
  intro p hp
  rw [lseqw_markStoItemS] at hp
  simp only [List.mem_cons, List.not_mem_nil, or_false] at hp
  subst hp; simp
theorem kw_markStoItemS_0 : OrcOk Ew_markStoItemS Ow_markStoItemS_0 lsw_markStoItemS 0 := orcOk_none
noncomputable def hw_markStoItemS_0 (y0 : List ((ByteArray) × (List (Int)))) (y1 : Int) (y2 : Int) : List (Pl × LV) := [(.T 0, .t (.val false [.row 0 0 0])), (.R 0 0, .r 0 (some ⟨false, .any, true, 60, (.pair .str (.sl 3 (.int .i64))), y0⟩)), (.T 1, .t (.val false [.int .i64 y1])), (.T 5, .t (.val false [.int .i64 y2]))]
noncomputable def g_Sw_markStoItemS_0 : ((List ((ByteArray) × (List (Int)))) × (Int) × (Int)) → RT ((List ((ByteArray) × (List (Int)))) × (Int) × (Int)) (((List ((ByteArray) × (List (Int)))) × (Int)))
  | (y0, y1, y2) => .br (true) (.br (decide (y2 < (↑(List.length y0) : Int))) (.br (g_Aw_markText y1) (.br (decide ((0 : Int) ≤ y2 ∧ y2 < (↑(List.length y0) : Int))) (.br (decide (Int.toNat y2 < List.length y0)) (.br (true) (.br (decide ((0 : Int) ≤ y2 ∧ y2 < (↑(List.length (updE (Ty.pair Ty.str (Ty.sl (nat_lit 3) (Ty.int IntKind.i64))) y0 (Int.toNat y2) fun x => (g_Vw_markText_0 y1, x.2))) : Int))) (.br (decide (Int.toNat y2 < List.length (updE (Ty.pair Ty.str (Ty.sl (nat_lit 3) (Ty.int IntKind.i64))) y0 (Int.toNat y2) fun x => (g_Vw_markText_0 y1, x.2)))) (.br (g_Aw_markIntS (at_ (Ty.pair Ty.str (Ty.sl (nat_lit 3) (Ty.int IntKind.i64))) (updE (Ty.pair Ty.str (Ty.sl (nat_lit 3) (Ty.int IntKind.i64))) y0 (Int.toNat y2) fun x => (g_Vw_markText_0 y1, x.2)) (Int.toNat y2)).2 (IntKind.wrap IntKind.i64 (y1 + (1 : Int)))) (.br (true) (.go ((List.set (updE (Ty.pair Ty.str (Ty.sl (nat_lit 3) (Ty.int IntKind.i64))) y0 (Int.toNat y2) fun x => (g_Vw_markText_0 y1, x.2)) (Int.toNat y2) ((at_ (Ty.pair Ty.str (Ty.sl (nat_lit 3) (Ty.int IntKind.i64))) (updE (Ty.pair Ty.str (Ty.sl (nat_lit 3) (Ty.int IntKind.i64))) y0 (Int.toNat y2) fun x => (g_Vw_markText_0 y1, x.2)) (Int.toNat y2)).1, g_Vw_markIntS_1 (at_ (Ty.pair Ty.str (Ty.sl (nat_lit 3) (Ty.int IntKind.i64))) (updE (Ty.pair Ty.str (Ty.sl (nat_lit 3) (Ty.int IntKind.i64))) y0 (Int.toNat y2) fun x => (g_Vw_markText_0 y1, x.2)) (Int.toNat y2)).2 (IntKind.wrap IntKind.i64 (y1 + (1 : Int)))), g_Vw_markIntS_0 (at_ (Ty.pair Ty.str (Ty.sl (nat_lit 3) (Ty.int IntKind.i64))) (updE (Ty.pair Ty.str (Ty.sl (nat_lit 3) (Ty.int IntKind.i64))) y0 (Int.toNat y2) fun x => (g_Vw_markText_0 y1, x.2)) (Int.toNat y2)).2 (IntKind.wrap IntKind.i64 (y1 + (1 : Int))), IntKind.wrap IntKind.i64 (y2 + (1 : Int))))) (.bad)) (.bad)) (.bad)) (.bad)) (.bad)) (.bad)) (.bad)) (.bad)) (.out ((y0, y1)))) (.bad)
noncomputable def g_Lw_markStoItemS_0 (x : (List ((ByteArray) × (List (Int)))) × (Int) × (Int)) : Option (((List ((ByteArray) × (List (Int)))) × (Int))) := loopO (g_Sw_markStoItemS_0) x
noncomputable def xw_markStoItemS_0 : (((List ((ByteArray) × (List (Int)))) × (Int))) → Ex × List (Pl × LV) := fun r => (.exit 0, [(.T 0, .t (.val false [.row 0 0 0])), (.R 0 0, .r 0 (some ⟨false, .any, true, 60, (.pair .str (.sl 3 (.int .i64))), r.1⟩)), (.T 1, .t (.val false [.int .i64 r.2]))])
noncomputable def Ow_markStoItemS_1 : Orc := fun b h => match b, h with
  | 0, [(.T 0, .t (.val false [.row 0 0 0])), (.R 0 0, .r 0 (some ⟨false, .any, true, 60, (.pair .str (.sl 3 (.int .i64))), y0⟩)), (.T 1, .t (.val false [.int .i64 y1])), (.T 5, .t (.val false [.int .i64 y2]))] => some (okO (g_Lw_markStoItemS_0 (y0, y1, y2)), (.leaf (.exit 0) [(.T 0, .t (.val false [.row 0 0 0])), (.R 0 0, .r 0 (some ⟨false, .any, true, 60, (.pair .str (.sl 3 (.int .i64))), (valO (g_Lw_markStoItemS_0 (y0, y1, y2))).1⟩)), (.T 1, .t (.val false [.int .i64 (valO (g_Lw_markStoItemS_0 (y0, y1, y2))).2]))]))
  | b, h => Ow_markStoItemS_0 b h
theorem bw_markStoItemS_0 (y0 : List ((ByteArray) × (List (Int)))) (y1 : Int) (y2 : Int) : Tr.bt Ew_markStoItemS Ow_markStoItemS_0 (exec Ew_markStoItemS 0 cw_markStoItemS_0 (St.of (hw_markStoItemS_0 y0 y1 y2)) (leafRd Ew_markStoItemS 0)) = (g_Sw_markStoItemS_0 (y0, y1, y2)).bt (fun ((y0, y1, y2) : (List ((ByteArray) × (List (Int)))) × (Int) × (Int)) => (hw_markStoItemS_0 y0 y1 y2)) (xw_markStoItemS_0) := by kernel_rfl
theorem kw_markStoItemS_1 : OrcOk Ew_markStoItemS Ow_markStoItemS_1 lsw_markStoItemS 1 := orc_add kw_markStoItemS_0 (fun n p hp h ex h' ho => by
  obtain ⟨b, c⟩ := p
  obtain ⟨xt, h1, h2⟩ := ho
  have h1 : Ow_markStoItemS_1 b h = some (true, xt) := h1
  unfold Ow_markStoItemS_1 at h1
  split at h1
  · injection h1 with h1
    injection h1 with e1 e2
    subst e2
    have hc : c = cw_markStoItemS_0 := mw_markStoItemS_0 _ hp rfl
    subst hc
    right
    rename_i y0 y1 y2
    have key := LT_step kw_markStoItemS_0 hp (fun q hq => loopsAll_in _ _ _ _ hp hq) (fun ((y0, y1, y2) : (List ((ByteArray) × (List (Int)))) × (Int) × (Int)) => (hw_markStoItemS_0 y0 y1 y2)) (xw_markStoItemS_0) (g_Sw_markStoItemS_0) (fun x => by first | exact bw_markStoItemS_0 x.1 x.2.1 x.2.2) n (x := (y0, y1, y2)) (okO_some e1)
    have hx : ∀ r, XT.sel (.leaf (.exit 0) [(.T 0, .t (.val false [.row 0 0 0])), (.R 0 0, .r 0 (some ⟨false, .any, true, 60, (.pair .str (.sl 3 (.int .i64))), r.1⟩)), (.T 1, .t (.val false [.int .i64 r.2]))]) = xw_markStoItemS_0 r := fun r => by first | rfl | (rcases r with r | r <;> rfl) | (rcases r with r | r | r <;> rfl) | (rcases r with r | r | r | r <;> rfl)
    have h3 := (hx (valO (g_Lw_markStoItemS_0 (y0, y1, y2)))).symm.trans h2
    have e3 := congrArg Prod.fst h3
    have e4 := congrArg Prod.snd h3
    simp only at e3 e4
    rw [← e3, ← e4]
    exact key
  · exact .inl ⟨xt, h1, h2⟩)
noncomputable def g_Aw_markStoItemS (a0 : List ((ByteArray) × (List (Int)))) (a1 : Int) : Bool := okO (g_Lw_markStoItemS_0 (a0, a1, (0 : Int)))
noncomputable def g_Vw_markStoItemS_0 (a0 : List ((ByteArray) × (List (Int)))) (a1 : Int) : Int := (valO (g_Lw_markStoItemS_0 (a0, a1, (0 : Int)))).2
noncomputable def g_Vw_markStoItemS_1 (a0 : List ((ByteArray) × (List (Int)))) (a1 : Int) : List ((ByteArray) × (List (Int))) := (valO (g_Lw_markStoItemS_0 (a0, a1, (0 : Int)))).1
noncomputable def Fw_markStoItemS : FSem := fun ys => match ys with
  | [.val false [.own .any true 60 (.pair .str (.sl 3 (.int .i64))) a0], .val false [.int .i64 a1]] => some ((g_Aw_markStoItemS a0 a1), .val false [.int .i64 (g_Vw_markStoItemS_0 a0 a1)], [[.own .any true 60 (.pair .str (.sl 3 (.int .i64))) (g_Vw_markStoItemS_1 a0 a1)]])
  | _ => none
theorem vw_markStoItemS (a0 : List ((ByteArray) × (List (Int)))) (a1 : Int) : collapseH .std Ew_markStoItemS Ow_markStoItemS_1 (execFn Ew_markStoItemS Go.Proofs.Tryz.f50 msw_markStoItemS [.val false [.own .any true 60 (.pair .str (.sl 3 (.int .i64))) a0], .val false [.int .i64 a1]]) = some ((g_Aw_markStoItemS a0 a1), .val false [.int .i64 (g_Vw_markStoItemS_0 a0 a1)], [[.own .any true 60 (.pair .str (.sl 3 (.int .i64))) (g_Vw_markStoItemS_1 a0 a1)]]) := by kernel_rfl
theorem sw_markStoItemS : Sound Go.Proofs.Tryz.prog 50 msw_markStoItemS Fw_markStoItemS := by
  refine fn_gen goodw_markStoItemS (by kernel_rfl) .std (fn := Go.Proofs.Tryz.f50) (c := (Go.Proofs.Tryz.f50.body.getD .skip)) (o := Ow_markStoItemS_1) (k := 1) (by kernel_rfl) (by kernel_rfl) (by kernel_rfl) (by kernel_rfl) (by decide) kw_markStoItemS_1 ?_
  intro ys r outs h
  unfold Fw_markStoItemS at h
  split at h
  · exact (vw_markStoItemS _ _).trans h
  · cases h
end Go.Proofs.YtnbcdkbjmpadmaaGreatDoor.E
end
section
namespace Go.Proofs.YtnbcdkbjmpadmaaGreatDoor.E
open Go
set_option maxRecDepth 100000
set_option maxHeartbeats 0
set_option linter.all false
noncomputable def Ew_markStoStore : Env where
  tt := mkTI Go.Proofs.Tryz.prog
  fn := fun f => match f with
    | 50 => some (msw_markStoItemS, FSem.wk msw_markStoItemS Fw_markStoItemS)
    | _ => none
  bxf := fun _ => none
  mv := []
  keep := fun _ => []
  keepB := fun _ => []
  keepX := fun _ => []
  keepXB := fun _ => []
theorem goodFw_markStoStore : ∀ f ms F, Ew_markStoStore.fn f = some (ms, F) → Sound Go.Proofs.Tryz.prog f ms F := fun f ms F h => by
  unfold Ew_markStoStore at h
  dsimp only at h
  split at h
  · injection h with h; injection h with e1 e2; subst e1 e2; exact Sound.wk sw_markStoItemS
  · cases h
theorem goodBw_markStoStore : ∀ f ms F, Ew_markStoStore.bxf f = some (ms, F) → SoundB Go.Proofs.Tryz.prog f ms F := fun f ms F h => by cases h
theorem goodw_markStoStore : Good Go.Proofs.Tryz.prog Ew_markStoStore := ⟨rfl, goodFw_markStoStore, goodBw_markStoStore⟩
noncomputable def Ow_markStoStore_0 : Orc := fun _ _ => none
noncomputable def msw_markStoStore : List PM := [.«mut», .own]
noncomputable def lsw_markStoStore : List (Nat × Code) := loopsAll 0 (Go.Proofs.Tryz.f15.body.getD .skip)

theorem kw_markStoStore_0 : OrcOk Ew_markStoStore Ow_markStoStore_0 lsw_markStoStore 0 := orcOk_none
noncomputable def g_Aw_markStoStore (a0 : List ((ByteArray) × (List (Int)))) (a1 : Int) : Bool := g_Aw_markStoItemS a0 a1
noncomputable def Fw_markStoStore : FSem := fun ys => match ys with
  | [.val true [.own .any true 60 (.pair .str (.sl 3 (.int .i64))) a0], .val false [.int .i64 a1]] => some ((g_Aw_markStoStore a0 a1), .val false [.int .i64 (g_Vw_markStoItemS_0 a0 a1)], [[.own .any true 60 (.pair .str (.sl 3 (.int .i64))) (g_Vw_markStoItemS_1 a0 a1)]])
  | _ => none
theorem vw_markStoStore (a0 : List ((ByteArray) × (List (Int)))) (a1 : Int) : collapseH .std Ew_markStoStore Ow_markStoStore_0 (execFn Ew_markStoStore Go.Proofs.Tryz.f15 msw_markStoStore [.val true [.own .any true 60 (.pair .str (.sl 3 (.int .i64))) a0], .val false [.int .i64 a1]]) = some ((g_Aw_markStoStore a0 a1), .val false [.int .i64 (g_Vw_markStoItemS_0 a0 a1)], [[.own .any true 60 (.pair .str (.sl 3 (.int .i64))) (g_Vw_markStoItemS_1 a0 a1)]]) := by kernel_rfl
theorem sw_markStoStore : Sound Go.Proofs.Tryz.prog 15 msw_markStoStore Fw_markStoStore := by
  refine fn_gen goodw_markStoStore (by kernel_rfl) .std (fn := Go.Proofs.Tryz.f15) (c := (Go.Proofs.Tryz.f15.body.getD .skip)) (o := Ow_markStoStore_0) (k := 0) (by kernel_rfl) (by kernel_rfl) (by kernel_rfl) (by kernel_rfl) (by decide) kw_markStoStore_0 ?_
  intro ys r outs h
  unfold Fw_markStoStore at h
  split at h
  · exact (vw_markStoStore _ _).trans h
  · cases h
end Go.Proofs.YtnbcdkbjmpadmaaGreatDoor.E
end
section
namespace Go.Proofs.YtnbcdkbjmpadmaaGreatDoor.E
open Go
set_option maxRecDepth 100000
set_option maxHeartbeats 0
set_option linter.all false
noncomputable def Ew_szIntS : Env where
  tt := mkTI Go.Proofs.Tryz.prog
  fn := fun _ => none
  bxf := fun _ => none
  mv := []
  keep := fun _ => []
  keepB := fun _ => []
  keepX := fun _ => []
  keepXB := fun _ => []
theorem goodFw_szIntS : ∀ f ms F, Ew_szIntS.fn f = some (ms, F) → Sound Go.Proofs.Tryz.prog f ms F := fun f ms F h => by cases h
theorem goodBw_szIntS : ∀ f ms F, Ew_szIntS.bxf f = some (ms, F) → SoundB Go.Proofs.Tryz.prog f ms F := fun f ms F h => by cases h
theorem goodw_szIntS : Good Go.Proofs.Tryz.prog Ew_szIntS := ⟨rfl, goodFw_szIntS, goodBw_szIntS⟩
noncomputable def Ow_szIntS_0 : Orc := fun _ _ => none
noncomputable def msw_szIntS : List PM := [.rd, .own]
noncomputable def lsw_szIntS : List (Nat × Code) := loopsAll 0 (Go.Proofs.Tryz.f98.body.getD .skip)

theorem kw_szIntS_0 : OrcOk Ew_szIntS Ow_szIntS_0 lsw_szIntS 0 := orcOk_none
noncomputable def g_Vw_szIntS_0 (a0 : List (Int)) (a1 : Int) : Int := bif decide (IntKind.wrap IntKind.i64 (a1 - (↑(List.length a0) : Int)) < (0 : Int)) then (-1 : Int) else IntKind.wrap IntKind.i64 (a1 - (↑(List.length a0) : Int))
noncomputable def Fw_szIntS : FSem := fun ys => match ys with
  | [.val false [.sl .any 3 (.int .i64) a0], .val false [.int .i64 a1]] => some (true, .val false [.int .i64 (g_Vw_szIntS_0 a0 a1)], [])
  | _ => none
theorem vw_szIntS (a0 : List (Int)) (a1 : Int) : collapseH .std Ew_szIntS Ow_szIntS_0 (execFn Ew_szIntS Go.Proofs.Tryz.f98 msw_szIntS [.val false [.sl .any 3 (.int .i64) a0], .val false [.int .i64 a1]]) = some (true, .val false [.int .i64 (g_Vw_szIntS_0 a0 a1)], []) := by kernel_rfl
theorem sw_szIntS : Sound Go.Proofs.Tryz.prog 98 msw_szIntS Fw_szIntS := by
  refine fn_gen goodw_szIntS (by kernel_rfl) .std (fn := Go.Proofs.Tryz.f98) (c := (Go.Proofs.Tryz.f98.body.getD .skip)) (o := Ow_szIntS_0) (k := 0) (by kernel_rfl) (by kernel_rfl) (by kernel_rfl) (by kernel_rfl) (by decide) kw_szIntS_0 ?_
  intro ys r outs h
  unfold Fw_szIntS at h
  split at h
  · exact (vw_szIntS _ _).trans h
  · cases h
end Go.Proofs.YtnbcdkbjmpadmaaGreatDoor.E
end
section
namespace Go.Proofs.YtnbcdkbjmpadmaaGreatDoor.E
open Go
set_option maxRecDepth 100000
set_option maxHeartbeats 0
set_option linter.all false
noncomputable def Ew_szStoItem : Env where
  tt := mkTI Go.Proofs.Tryz.prog
  fn := fun f => match f with
    | 98 => some (msw_szIntS, FSem.wk msw_szIntS Fw_szIntS)
    | _ => none
  bxf := fun _ => none
  mv := []
  keep := fun _ => []
  keepB := fun _ => []
  keepX := fun _ => []
  keepXB := fun _ => []
theorem goodFw_szStoItem : ∀ f ms F, Ew_szStoItem.fn f = some (ms, F) → Sound Go.Proofs.Tryz.prog f ms F := fun f ms F h => by
  unfold Ew_szStoItem at h
  dsimp only at h
  split at h
  · injection h with h; injection h with e1 e2; subst e1 e2; exact Sound.wk sw_szIntS
  · cases h
theorem goodBw_szStoItem : ∀ f ms F, Ew_szStoItem.bxf f = some (ms, F) → SoundB Go.Proofs.Tryz.prog f ms F := fun f ms F h => by cases h
theorem goodw_szStoItem : Good Go.Proofs.Tryz.prog Ew_szStoItem := ⟨rfl, goodFw_szStoItem, goodBw_szStoItem⟩
noncomputable def Ow_szStoItem_0 : Orc := fun _ _ => none
noncomputable def msw_szStoItem : List PM := [.rd, .own]
noncomputable def lsw_szStoItem : List (Nat × Code) := loopsAll 0 (Go.Proofs.Tryz.f65.body.getD .skip)

theorem kw_szStoItem_0 : OrcOk Ew_szStoItem Ow_szStoItem_0 lsw_szStoItem 0 := orcOk_none
noncomputable def g_Aw_szStoItem (a0 : ByteArray) (a1 : List (Int)) (a2 : Int) : Bool := decide (IntKind.wrap IntKind.i64 (a2 - (↑(ByteArray.size a0) : Int)) < (0 : Int)) || true
noncomputable def g_Vw_szStoItem_0 (a0 : ByteArray) (a1 : List (Int)) (a2 : Int) : Int := bif decide (IntKind.wrap IntKind.i64 (a2 - (↑(ByteArray.size a0) : Int)) < (0 : Int)) then (-1 : Int) else bif decide (g_Vw_szIntS_0 a1 (IntKind.wrap IntKind.i64 (a2 - (↑(ByteArray.size a0) : Int))) < (0 : Int)) then (-1 : Int) else g_Vw_szIntS_0 a1 (IntKind.wrap IntKind.i64 (a2 - (↑(ByteArray.size a0) : Int)))
noncomputable def Fw_szStoItem : FSem := fun ys => match ys with
  | [.val true [.str a0, .sl .any 3 (.int .i64) a1], .val false [.int .i64 a2]] => some ((g_Aw_szStoItem a0 a1 a2), .val false [.int .i64 (g_Vw_szStoItem_0 a0 a1 a2)], [])
  | _ => none
theorem vw_szStoItem (a0 : ByteArray) (a1 : List (Int)) (a2 : Int) : collapseH .std Ew_szStoItem Ow_szStoItem_0 (execFn Ew_szStoItem Go.Proofs.Tryz.f65 msw_szStoItem [.val true [.str a0, .sl .any 3 (.int .i64) a1], .val false [.int .i64 a2]]) = some ((g_Aw_szStoItem a0 a1 a2), .val false [.int .i64 (g_Vw_szStoItem_0 a0 a1 a2)], []) := by kernel_rfl
theorem sw_szStoItem : Sound Go.Proofs.Tryz.prog 65 msw_szStoItem Fw_szStoItem := by
  refine fn_gen goodw_szStoItem (by kernel_rfl) .std (fn := Go.Proofs.Tryz.f65) (c := (Go.Proofs.Tryz.f65.body.getD .skip)) (o := Ow_szStoItem_0) (k := 0) (by kernel_rfl) (by kernel_rfl) (by kernel_rfl) (by kernel_rfl) (by decide) kw_szStoItem_0 ?_
  intro ys r outs h
  unfold Fw_szStoItem at h
  split at h
  · exact (vw_szStoItem _ _ _).trans h
  · cases h
end Go.Proofs.YtnbcdkbjmpadmaaGreatDoor.E
end
section
namespace Go.Proofs.YtnbcdkbjmpadmaaGreatDoor.E
open Go
set_option maxRecDepth 100000
set_option maxHeartbeats 0
set_option linter.all false
noncomputable def Ew_szStoItemS : Env where
  tt := mkTI Go.Proofs.Tryz.prog
  fn := fun f => match f with
    | 65 => some (msw_szStoItem, FSem.wk msw_szStoItem Fw_szStoItem)
    | _ => none
  bxf := fun _ => none
  mv := []
  keep := fun b => match b with
    | 0 => [(0, false), (1, false), (5, false)]
    | _ => []
  keepB := fun b => match b with
    | 0 => []
    | _ => []
  keepX := fun b => match b with
    | 0 => [(1, false), (4, false)]
    | _ => []
  keepXB := fun b => match b with
    | 0 => []
    | _ => []
theorem goodFw_szStoItemS : ∀ f ms F, Ew_szStoItemS.fn f = some (ms, F) → Sound Go.Proofs.Tryz.prog f ms F := fun f ms F h => by
  unfold Ew_szStoItemS at h
  dsimp only at h
  split at h
  · injection h with h; injection h with e1 e2; subst e1 e2; exact Sound.wk sw_szStoItem
  · cases h
theorem goodBw_szStoItemS : ∀ f ms F, Ew_szStoItemS.bxf f = some (ms, F) → SoundB Go.Proofs.Tryz.prog f ms F := fun f ms F h => by cases h
theorem goodw_szStoItemS : Good Go.Proofs.Tryz.prog Ew_szStoItemS := ⟨rfl, goodFw_szStoItemS, goodBw_szStoItemS⟩
noncomputable def Ow_szStoItemS_0 : Orc := fun _ _ => none
noncomputable def msw_szStoItemS : List PM := [.rd, .own]
noncomputable def lsw_szStoItemS : List (Nat × Code) := loopsAll 0 (Go.Proofs.Tryz.f28.body.getD .skip)
noncomputable def cw_szStoItemS_0 : Code := (loopOf 0 (Go.Proofs.Tryz.f28.body.getD .skip)).getD .skip
theorem lseqw_szStoItemS : lsw_szStoItemS = [(0, cw_szStoItemS_0)] := by kernel_rfl
theorem mw_szStoItemS_0 : ∀ p, p ∈ lsw_szStoItemS → p.1 = 0 → p.2 = cw_szStoItemS_0 := by
  intro p hp
  rw [lseqw_szStoItemS] at hp
  simp only [List.mem_cons, List.not_mem_nil, or_false] at hp
  subst hp; simp
theorem kw_szStoItemS_0 : OrcOk Ew_szStoItemS Ow_szStoItemS_0 lsw_szStoItemS 0 := orcOk_none
noncomputable def hw_szStoItemS_0 (y0 : List ((ByteArray) × (List (Int)))) (y1 : Int) (y2 : Int) : List (Pl × LV) := [(.T 0, .t (.val false [.sl .any 90 (.pair .str (.sl 3 (.int .i64))) y0])), (.T 1, .t (.val false [.int .i64 y1])), (.T 5, .t (.val false [.int .i64 y2]))]
noncomputable def g_Sw_szStoItemS_0 (y0 : List ((ByteArray) × (List (Int)))) : ((Int) × (Int)) → RT ((Int) × (Int)) (((Int) × (Int)) ⊕ ((Int)))
  | (y1, y2) => .br (true) (.br (decide (y2 < (↑(List.length y0) : Int))) (.br (decide ((0 : Int) ≤ y2 ∧ y2 < (↑(List.length y0) : Int))) (.br (g_Aw_szStoItem (at_ (Ty.pair Ty.str (Ty.sl (nat_lit 3) (Ty.int IntKind.i64))) y0 (Int.toNat y2)).1 (at_ (Ty.pair Ty.str (Ty.sl (nat_lit 3) (Ty.int IntKind.i64))) y0 (Int.toNat y2)).2 y1) (.br (true) (.br (decide (g_Vw_szStoItem_0 (at_ (Ty.pair Ty.str (Ty.sl (nat_lit 3) (Ty.int IntKind.i64))) y0 (Int.toNat y2)).1 (at_ (Ty.pair Ty.str (Ty.sl (nat_lit 3) (Ty.int IntKind.i64))) y0 (Int.toNat y2)).2 y1 < (0 : Int))) (.out (.inl ((g_Vw_szStoItem_0 (at_ (Ty.pair Ty.str (Ty.sl (nat_lit 3) (Ty.int IntKind.i64))) y0 (Int.toNat y2)).1 (at_ (Ty.pair Ty.str (Ty.sl (nat_lit 3) (Ty.int IntKind.i64))) y0 (Int.toNat y2)).2 y1, (-1 : Int))))) (.br (true) (.go ((g_Vw_szStoItem_0 (at_ (Ty.pair Ty.str (Ty.sl (nat_lit 3) (Ty.int IntKind.i64))) y0 (Int.toNat y2)).1 (at_ (Ty.pair Ty.str (Ty.sl (nat_lit 3) (Ty.int IntKind.i64))) y0 (Int.toNat y2)).2 y1, IntKind.wrap IntKind.i64 (y2 + (1 : Int))))) (.bad))) (.bad)) (.bad)) (.bad)) (.out (.inr (y1)))) (.bad)
noncomputable def g_Lw_szStoItemS_0 (y0 : List ((ByteArray) × (List (Int)))) (x : (Int) × (Int)) : Option (((Int) × (Int)) ⊕ ((Int))) := loopO (g_Sw_szStoItemS_0 y0) x
noncomputable def xw_szStoItemS_0 (y0 : List ((ByteArray) × (List (Int)))) : (((Int) × (Int)) ⊕ ((Int))) → Ex × List (Pl × LV) := fun
  | .inl r => (.ret, [(.T 1, .t (.val false [.int .i64 r.1])), (.T 4, .t (.val false [.int .i64 r.2]))])
  | .inr (r) => (.exit 0, [(.T 1, .t (.val false [.int .i64 r])), (.T 4, .t (.val false [.undef]))])
noncomputable def Ow_szStoItemS_1 : Orc := fun b h => match b, h with
  | 0, [(.T 0, .t (.val false [.sl .any 90 (.pair .str (.sl 3 (.int .i64))) y0])), (.T 1, .t (.val false [.int .i64 y1])), (.T 5, .t (.val false [.int .i64 y2]))] => some (okO (g_Lw_szStoItemS_0 y0 (y1, y2)), (.br (isL (valO (g_Lw_szStoItemS_0 y0 (y1, y2)))) (.leaf .ret [(.T 1, .t (.val false [.int .i64 (getL (valO (g_Lw_szStoItemS_0 y0 (y1, y2)))).1])), (.T 4, .t (.val false [.int .i64 (getL (valO (g_Lw_szStoItemS_0 y0 (y1, y2)))).2]))]) (.leaf (.exit 0) [(.T 1, .t (.val false [.int .i64 (getR (valO (g_Lw_szStoItemS_0 y0 (y1, y2))))])), (.T 4, .t (.val false [.undef]))])))
  | b, h => Ow_szStoItemS_0 b h
theorem bw_szStoItemS_0 (y0 : List ((ByteArray) × (List (Int)))) (y1 : Int) (y2 : Int) : Tr.bt Ew_szStoItemS Ow_szStoItemS_0 (exec Ew_szStoItemS 0 cw_szStoItemS_0 (St.of (hw_szStoItemS_0 y0 y1 y2)) (leafRd Ew_szStoItemS 0)) = (g_Sw_szStoItemS_0 y0 (y1, y2)).bt (fun ((y1, y2) : (Int) × (Int)) => (hw_szStoItemS_0 y0 y1 y2)) (xw_szStoItemS_0 y0) := by kernel_rfl
theorem kw_szStoItemS_1 : OrcOk Ew_szStoItemS Ow_szStoItemS_1 lsw_szStoItemS 1 := orc_add kw_szStoItemS_0 (fun n p hp h ex h' ho => by
  obtain ⟨b, c⟩ := p
  obtain ⟨xt, h1, h2⟩ := ho
  have h1 : Ow_szStoItemS_1 b h = some (true, xt) := h1
  unfold Ow_szStoItemS_1 at h1
  split at h1
  · injection h1 with h1
    injection h1 with e1 e2
    subst e2
    have hc : c = cw_szStoItemS_0 := mw_szStoItemS_0 _ hp rfl
    subst hc
    right
    rename_i y0 y1 y2
    have key := LT_step kw_szStoItemS_0 hp (fun q hq => loopsAll_in _ _ _ _ hp hq) (fun ((y1, y2) : (Int) × (Int)) => (hw_szStoItemS_0 y0 y1 y2)) (xw_szStoItemS_0 y0) (g_Sw_szStoItemS_0 y0) (fun x => by first | exact bw_szStoItemS_0 y0 x.1 x.2) n (x := (y1, y2)) (okO_some e1)
    have hx : ∀ r, XT.sel (.br (isL r) (.leaf .ret [(.T 1, .t (.val false [.int .i64 (getL r).1])), (.T 4, .t (.val false [.int .i64 (getL r).2]))]) (.leaf (.exit 0) [(.T 1, .t (.val false [.int .i64 (getR r)])), (.T 4, .t (.val false [.undef]))])) = xw_szStoItemS_0 y0 r := fun r => by first | rfl | (rcases r with r | r <;> rfl) | (rcases r with r | r | r <;> rfl) | (rcases r with r | r | r | r <;> rfl)
    have h3 := (hx (valO (g_Lw_szStoItemS_0 y0 (y1, y2)))).symm.trans h2
    have e3 := congrArg Prod.fst h3
    have e4 := congrArg Prod.snd h3
    simp only at e3 e4
    rw [← e3, ← e4]
    exact key
  · exact .inl ⟨xt, h1, h2⟩)
noncomputable def g_Aw_szStoItemS (a0 : List ((ByteArray) × (List (Int)))) (a1 : Int) : Bool := decide (IntKind.wrap IntKind.i64 (a1 - (↑(List.length a0) : Int)) < (0 : Int)) || okO (g_Lw_szStoItemS_0 a0 (IntKind.wrap IntKind.i64 (a1 - (↑(List.length a0) : Int)), (0 : Int)))
noncomputable def g_Vw_szStoItemS_0 (a0 : List ((ByteArray) × (List (Int)))) (a1 : Int) : Int := bif decide (IntKind.wrap IntKind.i64 (a1 - (↑(List.length a0) : Int)) < (0 : Int)) then (-1 : Int) else bif isL (valO (g_Lw_szStoItemS_0 a0 (IntKind.wrap IntKind.i64 (a1 - (↑(List.length a0) : Int)), (0 : Int)))) then (getL (valO (g_Lw_szStoItemS_0 a0 (IntKind.wrap IntKind.i64 (a1 - (↑(List.length a0) : Int)), (0 : Int))))).2 else getR (valO (g_Lw_szStoItemS_0 a0 (IntKind.wrap IntKind.i64 (a1 - (↑(List.length a0) : Int)), (0 : Int))))
noncomputable def Fw_szStoItemS : FSem := fun ys => match ys with
  | [.val false [.sl .any 90 (.pair .str (.sl 3 (.int .i64))) a0], .val false [.int .i64 a1]] => some ((g_Aw_szStoItemS a0 a1), .val false [.int .i64 (g_Vw_szStoItemS_0 a0 a1)], [])
  | _ => none
theorem vw_szStoItemS (a0 : List ((ByteArray) × (List (Int)))) (a1 : Int) : collapseH .std Ew_szStoItemS Ow_szStoItemS_1 (execFn Ew_szStoItemS Go.Proofs.Tryz.f28 msw_szStoItemS [.val false [.sl .any 90 (.pair .str (.sl 3 (.int .i64))) a0], .val false [.int .i64 a1]]) = some ((g_Aw_szStoItemS a0 a1), .val false [.int .i64 (g_Vw_szStoItemS_0 a0 a1)], []) := by kernel_rfl
theorem sw_szStoItemS : Sound Go.Proofs.Tryz.prog 28 msw_szStoItemS Fw_szStoItemS := by
  refine fn_gen goodw_szStoItemS (by kernel_rfl) .std (fn := Go.Proofs.Tryz.f28) (c := (Go.Proofs.Tryz.f28.body.getD .skip)) (o := Ow_szStoItemS_1) (k := 1) (by kernel_rfl) (by kernel_rfl) (by kernel_rfl) (by kernel_rfl) (by decide) kw_szStoItemS_1 ?_
  intro ys r outs h
  unfold Fw_szStoItemS at h
  split at h
  · exact (vw_szStoItemS _ _).trans h
  · cases h
end Go.Proofs.YtnbcdkbjmpadmaaGreatDoor.E
end
section
namespace Go.Proofs.YtnbcdkbjmpadmaaGreatDoor.E
open Go
set_option maxRecDepth 100000
set_option maxHeartbeats 0
set_option linter.all false
noncomputable def Ew_szStoStore : Env where
  tt := mkTI Go.Proofs.Tryz.prog
  fn := fun f => match f with
    | 28 => some (msw_szStoItemS, FSem.wk msw_szStoItemS Fw_szStoItemS)
    | _ => none
  bxf := fun _ => none
  mv := []
  keep := fun _ => []
  keepB := fun _ => []
  keepX := fun _ => []
  keepXB := fun _ => []
theorem goodFw_szStoStore : ∀ f ms F, Ew_szStoStore.fn f = some (ms, F) → Sound Go.Proofs.Tryz.prog f ms F := fun f ms F h => by
  unfold Ew_szStoStore at h
  dsimp only at h
  split at h
  · injection h with h; injection h with e1 e2; subst e1 e2; exact Sound.wk sw_szStoItemS
  · cases h
theorem goodBw_szStoStore : ∀ f ms F, Ew_szStoStore.bxf f = some (ms, F) → SoundB Go.Proofs.Tryz.prog f ms F := fun f ms F h => by cases h
theorem goodw_szStoStore : Good Go.Proofs.Tryz.prog Ew_szStoStore := ⟨rfl, goodFw_szStoStore, goodBw_szStoStore⟩
noncomputable def Ow_szStoStore_0 : Orc := fun _ _ => none
noncomputable def msw_szStoStore : List PM := [.rd, .own]
noncomputable def lsw_szStoStore : List (Nat × Code) := loopsAll 0 (Go.Proofs.Tryz.f8.body.getD .skip)

theorem kw_szStoStore_0 : OrcOk Ew_szStoStore Ow_szStoStore_0 lsw_szStoStore 0 := orcOk_none
noncomputable def g_Aw_szStoStore (a0 : List ((ByteArray) × (List (Int)))) (a1 : Int) : Bool := g_Aw_szStoItemS a0 a1 && true
noncomputable def g_Vw_szStoStore_0 (a0 : List ((ByteArray) × (List (Int)))) (a1 : Int) : Int := bif decide (g_Vw_szStoItemS_0 a0 a1 < (0 : Int)) then (-1 : Int) else g_Vw_szStoItemS_0 a0 a1
noncomputable def Fw_szStoStore : FSem := fun ys => match ys with
  | [.val true [.sl .any 90 (.pair .str (.sl 3 (.int .i64))) a0], .val false [.int .i64 a1]] => some ((g_Aw_szStoStore a0 a1), .val false [.int .i64 (g_Vw_szStoStore_0 a0 a1)], [])
  | _ => none
theorem vw_szStoStore (a0 : List ((ByteArray) × (List (Int)))) (a1 : Int) : collapseH .std Ew_szStoStore Ow_szStoStore_0 (execFn Ew_szStoStore Go.Proofs.Tryz.f8 msw_szStoStore [.val true [.sl .any 90 (.pair .str (.sl 3 (.int .i64))) a0], .val false [.int .i64 a1]]) = some ((g_Aw_szStoStore a0 a1), .val false [.int .i64 (g_Vw_szStoStore_0 a0 a1)], []) := by kernel_rfl
theorem sw_szStoStore : Sound Go.Proofs.Tryz.prog 8 msw_szStoStore Fw_szStoStore := by
  refine fn_gen goodw_szStoStore (by kernel_rfl) .std (fn := Go.Proofs.Tryz.f8) (c := (Go.Proofs.Tryz.f8.body.getD .skip)) (o := Ow_szStoStore_0) (k := 0) (by kernel_rfl) (by kernel_rfl) (by kernel_rfl) (by kernel_rfl) (by decide) kw_szStoStore_0 ?_
  intro ys r outs h
  unfold Fw_szStoStore at h
  split at h
  · exact (vw_szStoStore _ _).trans h
  · cases h
end Go.Proofs.YtnbcdkbjmpadmaaGreatDoor.E
end
section
namespace Go.Proofs.YtnbcdkbjmpadmaaGreatDoor.E
open Go
set_option maxRecDepth 100000
set_option maxHeartbeats 0
set_option linter.all false
noncomputable def Ew_toOpOp : Env where
  tt := mkTI Go.Proofs.Tryz.prog
  fn := fun _ => none
  bxf := fun _ => none
  mv := []
  keep := fun _ => []
  keepB := fun _ => []
  keepX := fun _ => []
  keepXB := fun _ => []
theorem goodFw_toOpOp : ∀ f ms F, Ew_toOpOp.fn f = some (ms, F) → Sound Go.Proofs.Tryz.prog f ms F := fun f ms F h => by cases h
theorem goodBw_toOpOp : ∀ f ms F, Ew_toOpOp.bxf f = some (ms, F) → SoundB Go.Proofs.Tryz.prog f ms F := fun f ms F h => by cases h
theorem goodw_toOpOp : Good Go.Proofs.Tryz.prog Ew_toOpOp := ⟨rfl, goodFw_toOpOp, goodBw_toOpOp⟩
noncomputable def Ow_toOpOp_0 : Orc := fun _ _ => none
noncomputable def msw_toOpOp : List PM := [.own]
noncomputable def lsw_toOpOp : List (Nat × Code) := loopsAll 0 (Go.Proofs.Tryz.f11.body.getD .skip)

theorem kw_toOpOp_0 : OrcOk Ew_toOpOp Ow_toOpOp_0 lsw_toOpOp 0 := orcOk_none
noncomputable def Fw_toOpOp : FSem := fun ys => match ys with
  | [.val true [.int .i64 a0, .int .i64 a1, .int .i64 a2, .int .i64 a3, .int .i64 a4, .int .i64 a5, .int .i64 a6]] => some (true, .val true [.int .i64 a0, .int .i64 a1, .int .i64 a2, .int .i64 a3, .int .i64 a4, .int .i64 a5, .int .i64 a6], [])
  | _ => none
theorem vw_toOpOp (a0 : Int) (a1 : Int) (a2 : Int) (a3 : Int) (a4 : Int) (a5 : Int) (a6 : Int) : collapseH .std Ew_toOpOp Ow_toOpOp_0 (execFn Ew_toOpOp Go.Proofs.Tryz.f11 msw_toOpOp [.val true [.int .i64 a0, .int .i64 a1, .int .i64 a2, .int .i64 a3, .int .i64 a4, .int .i64 a5, .int .i64 a6]]) = some (true, .val true [.int .i64 a0, .int .i64 a1, .int .i64 a2, .int .i64 a3, .int .i64 a4, .int .i64 a5, .int .i64 a6], []) := by kernel_rfl
theorem sw_toOpOp : Sound Go.Proofs.Tryz.prog 11 msw_toOpOp Fw_toOpOp := by
  refine fn_gen goodw_toOpOp (by kernel_rfl) .std (fn := Go.Proofs.Tryz.f11) (c := (Go.Proofs.Tryz.f11.body.getD .skip)) (o := Ow_toOpOp_0) (k := 0) (by kernel_rfl) (by kernel_rfl) (by kernel_rfl) (by kernel_rfl) (by decide) kw_toOpOp_0 ?_
  intro ys r outs h
  unfold Fw_toOpOp at h
  split at h
  · exact (vw_toOpOp _ _ _ _ _ _ _).trans h
  · cases h
end Go.Proofs.YtnbcdkbjmpadmaaGreatDoor.E
end
section
namespace Go.Proofs.YtnbcdkbjmpadmaaGreatDoor.E
open Go
set_option maxRecDepth 100000
set_option maxHeartbeats 0
set_option linter.all false
noncomputable def Ew_toIntS : Env where
  tt := mkTI Go.Proofs.Tryz.prog
  fn := fun _ => none
  bxf := fun _ => none
  mv := []
  keep := fun b => match b with
    | 0 => [(0, false), (3, false), (4, false)]
    | _ => []
  keepB := fun b => match b with
    | 0 => []
    | _ => []
  keepX := fun b => match b with
    | 0 => [(3, false)]
    | _ => []
  keepXB := fun b => match b with
    | 0 => []
    | _ => []
theorem goodFw_toIntS : ∀ f ms F, Ew_toIntS.fn f = some (ms, F) → Sound Go.Proofs.Tryz.prog f ms F := fun f ms F h => by cases h
theorem goodBw_toIntS : ∀ f ms F, Ew_toIntS.bxf f = some (ms, F) → SoundB Go.Proofs.Tryz.prog f ms F := fun f ms F h => by cases h
theorem goodw_toIntS : Good Go.Proofs.Tryz.prog Ew_toIntS := ⟨rfl, goodFw_toIntS, goodBw_toIntS⟩
noncomputable def Ow_toIntS_0 : Orc := fun _ _ => none
noncomputable def msw_toIntS : List PM := [.rd]
noncomputable def lsw_toIntS : List (Nat × Code) := loopsAll 0 (Go.Proofs.Tryz.f106.body.getD .skip)
noncomputable def cw_toIntS_0 : Code := (loopOf 0 (Go.Proofs.Tryz.f106.body.getD .skip)).getD .skip
theorem lseqw_toIntS : lsw_toIntS = [(0, cw_toIntS_0)] := by kernel_rfl
theorem mw_toIntS_0 : ∀ p, p ∈ lsw_toIntS → p.1 = 0 → p.2 = cw_toIntS_0 := by
  intro p hp
  rw [lseqw_toIntS] at hp
  simp only [List.mem_cons, List.not_mem_nil, or_false] at hp
  subst hp; simp
theorem kw_toIntS_0 : OrcOk Ew_toIntS Ow_toIntS_0 lsw_toIntS 0 := orcOk_none
noncomputable def hw_toIntS_0 (y0 : List (Int)) (y1 : List (Int)) (y2 : Int) : List (Pl × LV) := [(.T 0, .t (.val false [.sl .any 3 (.int .i64) y0])), (.T 3, .t (.val false [.row 3 0 0])), (.R 3 0, .r 0 (some ⟨false, .non, true, 3, (.int .i64), y1⟩)), (.T 4, .t (.val false [.int .i64 y2]))]
noncomputable def g_Sw_toIntS_0 (y0 : List (Int)) : ((List (Int)) × (Int)) → RT ((List (Int)) × (Int)) (((List (Int))))
  | (y1, y2) => .br (true) (.br (decide (y2 < (↑(List.length y0) : Int))) (.br (decide ((0 : Int) ≤ y2 ∧ y2 < (↑(List.length y0) : Int))) (.br (decide ((0 : Int) ≤ y2 ∧ y2 < (↑(List.length y1) : Int))) (.br (decide (Int.toNat y2 < List.length y1)) (.br (true) (.go ((List.set y1 (Int.toNat y2) (at_ (Ty.int IntKind.i64) y0 (Int.toNat y2)), IntKind.wrap IntKind.i64 (y2 + (1 : Int))))) (.bad)) (.bad)) (.bad)) (.bad)) (.out (y1))) (.bad)
noncomputable def g_Lw_toIntS_0 (y0 : List (Int)) (x : (List (Int)) × (Int)) : Option (((List (Int)))) := loopO (g_Sw_toIntS_0 y0) x
noncomputable def xw_toIntS_0 (y0 : List (Int)) : (((List (Int)))) → Ex × List (Pl × LV) := fun r => (.exit 0, [(.T 3, .t (.val false [.row 3 0 0])), (.R 3 0, .r 0 (some ⟨false, .non, true, 3, (.int .i64), r⟩))])
noncomputable def Ow_toIntS_1 : Orc := fun b h => match b, h with
  | 0, [(.T 0, .t (.val false [.sl .any 3 (.int .i64) y0])), (.T 3, .t (.val false [.row 3 0 0])), (.R 3 0, .r 0 (some ⟨false, .non, true, 3, (.int .i64), y1⟩)), (.T 4, .t (.val false [.int .i64 y2]))] => some (okO (g_Lw_toIntS_0 y0 (y1, y2)), (.leaf (.exit 0) [(.T 3, .t (.val false [.row 3 0 0])), (.R 3 0, .r 0 (some ⟨false, .non, true, 3, (.int .i64), (valO (g_Lw_toIntS_0 y0 (y1, y2)))⟩))]))
  | b, h => Ow_toIntS_0 b h
theorem bw_toIntS_0 (y0 : List (Int)) (y1 : List (Int)) (y2 : Int) : Tr.bt Ew_toIntS Ow_toIntS_0 (exec Ew_toIntS 0 cw_toIntS_0 (St.of (hw_toIntS_0 y0 y1 y2)) (leafRd Ew_toIntS 0)) = (g_Sw_toIntS_0 y0 (y1, y2)).bt (fun ((y1, y2) : (List (Int)) × (Int)) => (hw_toIntS_0 y0 y1 y2)) (xw_toIntS_0 y0) := by kernel_rfl
theorem kw_toIntS_1 : OrcOk Ew_toIntS Ow_toIntS_1 lsw_toIntS 1 := orc_add kw_toIntS_0 (fun n p hp h ex h' ho => by
  obtain ⟨b, c⟩ := p
  obtain ⟨xt, h1, h2⟩ := ho
  have h1 : Ow_toIntS_1 b h = some (true, xt) := h1
  unfold Ow_toIntS_1 at h1
  split at h1
  · injection h1 with h1
    injection h1 with e1 e2
    subst e2
    have hc : c = cw_toIntS_0 := mw_toIntS_0 _ hp rfl
    subst hc
    right
    rename_i y0 y1 y2
    have key := LT_step kw_toIntS_0 hp (fun q hq => loopsAll_in _ _ _ _ hp hq) (fun ((y1, y2) : (List (Int)) × (Int)) => (hw_toIntS_0 y0 y1 y2)) (xw_toIntS_0 y0) (g_Sw_toIntS_0 y0) (fun x => by first | exact bw_toIntS_0 y0 x.1 x.2) n (x := (y1, y2)) (okO_some e1)
    have hx : ∀ r, XT.sel (.leaf (.exit 0) [(.T 3, .t (.val false [.row 3 0 0])), (.R 3 0, .r 0 (some ⟨false, .non, true, 3, (.int .i64), r⟩))]) = xw_toIntS_0 y0 r := fun r => by first | rfl | (rcases r with r | r <;> rfl) | (rcases r with r | r | r <;> rfl) | (rcases r with r | r | r | r <;> rfl)
    have h3 := (hx (valO (g_Lw_toIntS_0 y0 (y1, y2)))).symm.trans h2
    have e3 := congrArg Prod.fst h3
    have e4 := congrArg Prod.snd h3
    simp only at e3 e4
    rw [← e3, ← e4]
    exact key
  · exact .inl ⟨xt, h1, h2⟩)
noncomputable def g_Aw_toIntS (a0 : List (Int)) : Bool := decide ((↑(List.length a0) : Int) = (↑(List.length a0) : Int) ∧ (0 : Int) ≤ (↑(List.length a0) : Int) ∧ (↑(List.length a0) : Int) ≤ (9223372036854775807 : Int) ∧ (8 : Int) * (↑(List.length a0) : Int) ≤ (281474976710656 : Int)) && okO (g_Lw_toIntS_0 a0 (List.replicate (Int.toNat (↑(List.length a0) : Int)) (0 : Int), (0 : Int)))
noncomputable def g_Vw_toIntS_0 (a0 : List (Int)) : List (Int) := valO (g_Lw_toIntS_0 a0 (List.replicate (Int.toNat (↑(List.length a0) : Int)) (0 : Int), (0 : Int)))
noncomputable def Fw_toIntS : FSem := fun ys => match ys with
  | [.val false [.sl .any 3 (.int .i64) a0]] => some ((g_Aw_toIntS a0), .val false [.own .any true 3 (.int .i64) (g_Vw_toIntS_0 a0)], [])
  | _ => none
theorem vw_toIntS (a0 : List (Int)) : collapseH .std Ew_toIntS Ow_toIntS_1 (execFn Ew_toIntS Go.Proofs.Tryz.f106 msw_toIntS [.val false [.sl .any 3 (.int .i64) a0]]) = some ((g_Aw_toIntS a0), .val false [.own .any true 3 (.int .i64) (g_Vw_toIntS_0 a0)], []) := by kernel_rfl
theorem sw_toIntS : Sound Go.Proofs.Tryz.prog 106 msw_toIntS Fw_toIntS := by
  refine fn_gen goodw_toIntS (by kernel_rfl) .std (fn := Go.Proofs.Tryz.f106) (c := (Go.Proofs.Tryz.f106.body.getD .skip)) (o := Ow_toIntS_1) (k := 1) (by kernel_rfl) (by kernel_rfl) (by kernel_rfl) (by kernel_rfl) (by decide) kw_toIntS_1 ?_
  intro ys r outs h
  unfold Fw_toIntS at h
  split at h
  · exact (vw_toIntS _).trans h
  · cases h
end Go.Proofs.YtnbcdkbjmpadmaaGreatDoor.E
end
section
namespace Go.Proofs.YtnbcdkbjmpadmaaGreatDoor.E
open Go
set_option maxRecDepth 100000
set_option maxHeartbeats 0
set_option linter.all false
noncomputable def Ew_toStoItem : Env where
  tt := mkTI Go.Proofs.Tryz.prog
  fn := fun f => match f with
    | 106 => some (msw_toIntS, FSem.wk msw_toIntS Fw_toIntS)
    | _ => none
  bxf := fun _ => none
  mv := []
  keep := fun _ => []
  keepB := fun _ => []
  keepX := fun _ => []
  keepXB := fun _ => []
theorem goodFw_toStoItem : ∀ f ms F, Ew_toStoItem.fn f = some (ms, F) → Sound Go.Proofs.Tryz.prog f ms F := fun f ms F h => by
  unfold Ew_toStoItem at h
  dsimp only at h
  split at h
  · injection h with h; injection h with e1 e2; subst e1 e2; exact Sound.wk sw_toIntS
  · cases h
theorem goodBw_toStoItem : ∀ f ms F, Ew_toStoItem.bxf f = some (ms, F) → SoundB Go.Proofs.Tryz.prog f ms F := fun f ms F h => by cases h
theorem goodw_toStoItem : Good Go.Proofs.Tryz.prog Ew_toStoItem := ⟨rfl, goodFw_toStoItem, goodBw_toStoItem⟩
noncomputable def Ow_toStoItem_0 : Orc := fun _ _ => none
noncomputable def msw_toStoItem : List PM := [.rd]
noncomputable def lsw_toStoItem : List (Nat × Code) := loopsAll 0 (Go.Proofs.Tryz.f73.body.getD .skip)

theorem kw_toStoItem_0 : OrcOk Ew_toStoItem Ow_toStoItem_0 lsw_toStoItem 0 := orcOk_none
noncomputable def g_Aw_toStoItem (a0 : ByteArray) (a1 : List (Int)) : Bool := g_Aw_toIntS a1
noncomputable def Fw_toStoItem : FSem := fun ys => match ys with
  | [.val true [.str a0, .sl .any 3 (.int .i64) a1]] => some ((g_Aw_toStoItem a0 a1), .val true [.str a0, .own .any true 3 (.int .i64) (g_Vw_toIntS_0 a1)], [])
  | _ => none
theorem vw_toStoItem (a0 : ByteArray) (a1 : List (Int)) : collapseH .std Ew_toStoItem Ow_toStoItem_0 (execFn Ew_toStoItem Go.Proofs.Tryz.f73 msw_toStoItem [.val true [.str a0, .sl .any 3 (.int .i64) a1]]) = some ((g_Aw_toStoItem a0 a1), .val true [.str a0, .own .any true 3 (.int .i64) (g_Vw_toIntS_0 a1)], []) := by kernel_rfl
theorem sw_toStoItem : Sound Go.Proofs.Tryz.prog 73 msw_toStoItem Fw_toStoItem := by
  refine fn_gen goodw_toStoItem (by kernel_rfl) .std (fn := Go.Proofs.Tryz.f73) (c := (Go.Proofs.Tryz.f73.body.getD .skip)) (o := Ow_toStoItem_0) (k := 0) (by kernel_rfl) (by kernel_rfl) (by kernel_rfl) (by kernel_rfl) (by decide) kw_toStoItem_0 ?_
  intro ys r outs h
  unfold Fw_toStoItem at h
  split at h
  · exact (vw_toStoItem _ _).trans h
  · cases h
end Go.Proofs.YtnbcdkbjmpadmaaGreatDoor.E
end
section
namespace Go.Proofs.YtnbcdkbjmpadmaaGreatDoor.E
open Go
set_option maxRecDepth 100000
set_option maxHeartbeats 0
set_option linter.all false
noncomputable def Ew_toStoItemS : Env where
  tt := mkTI Go.Proofs.Tryz.prog
  fn := fun f => match f with
    | 73 => some (msw_toStoItem, FSem.wk msw_toStoItem Fw_toStoItem)
    | _ => none
  bxf := fun _ => none
  mv := []
  keep := fun b => match b with
    | 0 => [(0, false), (3, false), (4, false)]
    | _ => []
  keepB := fun b => match b with
    | 0 => []
    | _ => []
  keepX := fun b => match b with
    | 0 => [(3, false)]
    | _ => []
  keepXB := fun b => match b with
    | 0 => []
    | _ => []
theorem goodFw_toStoItemS : ∀ f ms F, Ew_toStoItemS.fn f = some (ms, F) → Sound Go.Proofs.Tryz.prog f ms F := fun f ms F h => by
  unfold Ew_toStoItemS at h
  dsimp only at h
  split at h
  · injection h with h; injection h with e1 e2; subst e1 e2; exact Sound.wk sw_toStoItem
  · cases h
theorem goodBw_toStoItemS : ∀ f ms F, Ew_toStoItemS.bxf f = some (ms, F) → SoundB Go.Proofs.Tryz.prog f ms F := fun f ms F h => by cases h
theorem goodw_toStoItemS : Good Go.Proofs.Tryz.prog Ew_toStoItemS := ⟨rfl, goodFw_toStoItemS, goodBw_toStoItemS⟩
noncomputable def Ow_toStoItemS_0 : Orc := fun _ _ => none
noncomputable def msw_toStoItemS : List PM := [.rd]
noncomputable def lsw_toStoItemS : List (Nat × Code) := loopsAll 0 (Go.Proofs.Tryz.f35.body.getD .skip)
noncomputable def cw_toStoItemS_0 : Code := (loopOf 0 (Go.Proofs.Tryz.f35.body.getD .skip)).getD .skip
theorem lseqw_toStoItemS : lsw_toStoItemS = [(0, cw_toStoItemS_0)] := by kernel_rfl
theorem mw_toStoItemS_0 : ∀ p, p ∈ lsw_toStoItemS → p.1 = 0 → p.2 = cw_toStoItemS_0 := by
  intro p hp
  rw [lseqw_toStoItemS] at hp
  simp only [List.mem_cons, List.not_mem_nil, or_false] at hp
  subst hp; simp
theorem kw_toStoItemS_0 : OrcOk Ew_toStoItemS Ow_toStoItemS_0 lsw_toStoItemS 0 := orcOk_none
noncomputable def hw_toStoItemS_0 (y0 : List ((ByteArray) × (List (Int)))) (y1 : List ((ByteArray) × (List (Int)))) (y2 : Int) : List (Pl × LV) := [(.T 0, .t (.val false [.sl .any 90 (.pair .str (.sl 3 (.int .i64))) y0])), (.T 3, .t (.val false [.row 3 0 0])), (.R 3 0, .r 0 (some ⟨false, .non, true, 60, (.pair .str (.sl 3 (.int .i64))), y1⟩)), (.T 4, .t (.val false [.int .i64 y2]))]
noncomputable def g_Sw_toStoItemS_0 (y0 : List ((ByteArray) × (List (Int)))) : ((List ((ByteArray) × (List (Int)))) × (Int)) → RT ((List ((ByteArray) × (List (Int)))) × (Int)) (((List ((ByteArray) × (List (Int))))))
  | (y1, y2) => .br (true) (.br (decide (y2 < (↑(List.length y0) : Int))) (.br (decide ((0 : Int) ≤ y2 ∧ y2 < (↑(List.length y0) : Int))) (.br (g_Aw_toStoItem (at_ (Ty.pair Ty.str (Ty.sl (nat_lit 3) (Ty.int IntKind.i64))) y0 (Int.toNat y2)).1 (at_ (Ty.pair Ty.str (Ty.sl (nat_lit 3) (Ty.int IntKind.i64))) y0 (Int.toNat y2)).2) (.br (decide ((0 : Int) ≤ y2 ∧ y2 < (↑(List.length y1) : Int))) (.br (decide (Int.toNat y2 < List.length y1)) (.br (true) (.go ((List.set y1 (Int.toNat y2) ((at_ (Ty.pair Ty.str (Ty.sl (nat_lit 3) (Ty.int IntKind.i64))) y0 (Int.toNat y2)).1, g_Vw_toIntS_0 (at_ (Ty.pair Ty.str (Ty.sl (nat_lit 3) (Ty.int IntKind.i64))) y0 (Int.toNat y2)).2), IntKind.wrap IntKind.i64 (y2 + (1 : Int))))) (.bad)) (.bad)) (.bad)) (.bad)) (.bad)) (.out (y1))) (.bad)
noncomputable def g_Lw_toStoItemS_0 (y0 : List ((ByteArray) × (List (Int)))) (x : (List ((ByteArray) × (List (Int)))) × (Int)) : Option (((List ((ByteArray) × (List (Int)))))) := loopO (g_Sw_toStoItemS_0 y0) x
noncomputable def xw_toStoItemS_0 (y0 : List ((ByteArray) × (List (Int)))) : (((List ((ByteArray) × (List (Int)))))) → Ex × List (Pl × LV) := fun r => (.exit 0, [(.T 3, .t (.val false [.row 3 0 0])), (.R 3 0, .r 0 (some ⟨false, .non, true, 60, (.pair .str (.sl 3 (.int .i64))), r⟩))])
noncomputable def Ow_toStoItemS_1 : Orc := fun b h => match b, h with
  | 0, [(.T 0, .t (.val false [.sl .any 90 (.pair .str (.sl 3 (.int .i64))) y0])), (.T 3, .t (.val false [.row 3 0 0])), (.R 3 0, .r 0 (some ⟨false, .non, true, 60, (.pair .str (.sl 3 (.int .i64))), y1⟩)), (.T 4, .t (.val false [.int .i64 y2]))] => some (okO (g_Lw_toStoItemS_0 y0 (y1, y2)), (.leaf (.exit 0) [(.T 3, .t (.val false [.row 3 0 0])), (.R 3 0, .r 0 (some ⟨false, .non, true, 60, (.pair .str (.sl 3 (.int .i64))), (valO (g_Lw_toStoItemS_0 y0 (y1, y2)))⟩))]))
  | b, h => Ow_toStoItemS_0 b h
theorem bw_toStoItemS_0 (y0 : List ((ByteArray) × (List (Int)))) (y1 : List ((ByteArray) × (List (Int)))) (y2 : Int) : Tr.bt Ew_toStoItemS Ow_toStoItemS_0 (exec Ew_toStoItemS 0 cw_toStoItemS_0 (St.of (hw_toStoItemS_0 y0 y1 y2)) (leafRd Ew_toStoItemS 0)) = (g_Sw_toStoItemS_0 y0 (y1, y2)).bt (fun ((y1, y2) : (List ((ByteArray) × (List (Int)))) × (Int)) => (hw_toStoItemS_0 y0 y1 y2)) (xw_toStoItemS_0 y0) := by kernel_rfl
theorem kw_toStoItemS_1 : OrcOk Ew_toStoItemS Ow_toStoItemS_1 lsw_toStoItemS 1 := orc_add kw_toStoItemS_0 (fun n p hp h ex h' ho => by
  obtain ⟨b, c⟩ := p
  obtain ⟨xt, h1, h2⟩ := ho
  have h1 : Ow_toStoItemS_1 b h = some (true, xt) := h1
  unfold Ow_toStoItemS_1 at h1
  split at h1
  · injection h1 with h1
    injection h1 with e1 e2
    subst e2
    have hc : c = cw_toStoItemS_0 := mw_toStoItemS_0 _ hp rfl
    subst hc
    right
    rename_i y0 y1 y2
    have key := LT_step kw_toStoItemS_0 hp (fun q hq => loopsAll_in _ _ _ _ hp hq) (fun ((y1, y2) : (List ((ByteArray) × (List (Int)))) × (Int)) => (hw_toStoItemS_0 y0 y1 y2)) (xw_toStoItemS_0 y0) (g_Sw_toStoItemS_0 y0) (fun x => by first | exact bw_toStoItemS_0 y0 x.1 x.2) n (x := (y1, y2)) (okO_some e1)
    have hx : ∀ r, XT.sel (.leaf (.exit 0) [(.T 3, .t (.val false [.row 3 0 0])), (.R 3 0, .r 0 (some ⟨false, .non, true, 60, (.pair .str (.sl 3 (.int .i64))), r⟩))]) = xw_toStoItemS_0 y0 r := fun r => by first | rfl | (rcases r with r | r <;> rfl) | (rcases r with r | r | r <;> rfl) | (rcases r with r | r | r | r <;> rfl)
    have h3 := (hx (valO (g_Lw_toStoItemS_0 y0 (y1, y2)))).symm.trans h2
    have e3 := congrArg Prod.fst h3
    have e4 := congrArg Prod.snd h3
    simp only at e3 e4
    rw [← e3, ← e4]
    exact key
  · exact .inl ⟨xt, h1, h2⟩)
noncomputable def g_Aw_toStoItemS (a0 : List ((ByteArray) × (List (Int)))) : Bool := decide ((↑(List.length a0) : Int) = (↑(List.length a0) : Int) ∧ (0 : Int) ≤ (↑(List.length a0) : Int) ∧ (↑(List.length a0) : Int) ≤ (9223372036854775807 : Int) ∧ (40 : Int) * (↑(List.length a0) : Int) ≤ (281474976710656 : Int)) && okO (g_Lw_toStoItemS_0 a0 (List.replicate (Int.toNat (↑(List.length a0) : Int)) (lit [], []), (0 : Int)))
noncomputable def g_Vw_toStoItemS_0 (a0 : List ((ByteArray) × (List (Int)))) : List ((ByteArray) × (List (Int))) := valO (g_Lw_toStoItemS_0 a0 (List.replicate (Int.toNat (↑(List.length a0) : Int)) (lit [], []), (0 : Int)))
noncomputable def Fw_toStoItemS : FSem := fun ys => match ys with
  | [.val false [.sl .any 90 (.pair .str (.sl 3 (.int .i64))) a0]] => some ((g_Aw_toStoItemS a0), .val false [.own .any true 60 (.pair .str (.sl 3 (.int .i64))) (g_Vw_toStoItemS_0 a0)], [])
  | _ => none
theorem vw_toStoItemS (a0 : List ((ByteArray) × (List (Int)))) : collapseH .std Ew_toStoItemS Ow_toStoItemS_1 (execFn Ew_toStoItemS Go.Proofs.Tryz.f35 msw_toStoItemS [.val false [.sl .any 90 (.pair .str (.sl 3 (.int .i64))) a0]]) = some ((g_Aw_toStoItemS a0), .val false [.own .any true 60 (.pair .str (.sl 3 (.int .i64))) (g_Vw_toStoItemS_0 a0)], []) := by kernel_rfl
theorem sw_toStoItemS : Sound Go.Proofs.Tryz.prog 35 msw_toStoItemS Fw_toStoItemS := by
  refine fn_gen goodw_toStoItemS (by kernel_rfl) .std (fn := Go.Proofs.Tryz.f35) (c := (Go.Proofs.Tryz.f35.body.getD .skip)) (o := Ow_toStoItemS_1) (k := 1) (by kernel_rfl) (by kernel_rfl) (by kernel_rfl) (by kernel_rfl) (by decide) kw_toStoItemS_1 ?_
  intro ys r outs h
  unfold Fw_toStoItemS at h
  split at h
  · exact (vw_toStoItemS _).trans h
  · cases h
end Go.Proofs.YtnbcdkbjmpadmaaGreatDoor.E
end
section
namespace Go.Proofs.YtnbcdkbjmpadmaaGreatDoor.E
open Go
set_option maxRecDepth 100000
set_option maxHeartbeats 0
set_option linter.all false
noncomputable def Ew_toStoStore : Env where
  tt := mkTI Go.Proofs.Tryz.prog
  fn := fun f => match f with
    | 35 => some (msw_toStoItemS, FSem.wk msw_toStoItemS Fw_toStoItemS)
    | _ => none
  bxf := fun _ => none
  mv := []
  keep := fun _ => []
  keepB := fun _ => []
  keepX := fun _ => []
  keepXB := fun _ => []
theorem goodFw_toStoStore : ∀ f ms F, Ew_toStoStore.fn f = some (ms, F) → Sound Go.Proofs.Tryz.prog f ms F := fun f ms F h => by
  unfold Ew_toStoStore at h
  dsimp only at h
  split at h
  · injection h with h; injection h with e1 e2; subst e1 e2; exact Sound.wk sw_toStoItemS
  · cases h
theorem goodBw_toStoStore : ∀ f ms F, Ew_toStoStore.bxf f = some (ms, F) → SoundB Go.Proofs.Tryz.prog f ms F := fun f ms F h => by cases h
theorem goodw_toStoStore : Good Go.Proofs.Tryz.prog Ew_toStoStore := ⟨rfl, goodFw_toStoStore, goodBw_toStoStore⟩
noncomputable def Ow_toStoStore_0 : Orc := fun _ _ => none
noncomputable def msw_toStoStore : List PM := [.rd]
noncomputable def lsw_toStoStore : List (Nat × Code) := loopsAll 0 (Go.Proofs.Tryz.f10.body.getD .skip)

theorem kw_toStoStore_0 : OrcOk Ew_toStoStore Ow_toStoStore_0 lsw_toStoStore 0 := orcOk_none
noncomputable def g_Aw_toStoStore (a0 : List ((ByteArray) × (List (Int)))) : Bool := g_Aw_toStoItemS a0
noncomputable def Fw_toStoStore : FSem := fun ys => match ys with
  | [.val true [.sl .any 90 (.pair .str (.sl 3 (.int .i64))) a0]] => some ((g_Aw_toStoStore a0), .val true [.own .any true 60 (.pair .str (.sl 3 (.int .i64))) (g_Vw_toStoItemS_0 a0)], [])
  | _ => none
theorem vw_toStoStore (a0 : List ((ByteArray) × (List (Int)))) : collapseH .std Ew_toStoStore Ow_toStoStore_0 (execFn Ew_toStoStore Go.Proofs.Tryz.f10 msw_toStoStore [.val true [.sl .any 90 (.pair .str (.sl 3 (.int .i64))) a0]]) = some ((g_Aw_toStoStore a0), .val true [.own .any true 60 (.pair .str (.sl 3 (.int .i64))) (g_Vw_toStoItemS_0 a0)], []) := by kernel_rfl
theorem sw_toStoStore : Sound Go.Proofs.Tryz.prog 10 msw_toStoStore Fw_toStoStore := by
  refine fn_gen goodw_toStoStore (by kernel_rfl) .std (fn := Go.Proofs.Tryz.f10) (c := (Go.Proofs.Tryz.f10.body.getD .skip)) (o := Ow_toStoStore_0) (k := 0) (by kernel_rfl) (by kernel_rfl) (by kernel_rfl) (by kernel_rfl) (by decide) kw_toStoStore_0 ?_
  intro ys r outs h
  unfold Fw_toStoStore at h
  split at h
  · exact (vw_toStoStore _).trans h
  · cases h
end Go.Proofs.YtnbcdkbjmpadmaaGreatDoor.E
end
section
namespace Go.Proofs.YtnbcdkbjmpadmaaGreatDoor.E
open Go
set_option maxRecDepth 100000
set_option maxHeartbeats 0
set_option linter.all false
noncomputable def Ew_FnExactPlcPlan : Env where
  tt := mkTI Go.Proofs.Tryz.prog
  fn := fun f => match f with
    | 8 => some (msw_szStoStore, FSem.wk msw_szStoStore Fw_szStoStore)
    | 9 => some (mss_PlcPlan, FSem.wk mss_PlcPlan Fs_PlcPlan)
    | 10 => some (msw_toStoStore, FSem.wk msw_toStoStore Fw_toStoStore)
    | 11 => some (msw_toOpOp, FSem.wk msw_toOpOp Fw_toOpOp)
    | 12 => some (msi_PlcPlan, FSem.wk msi_PlcPlan Fi_PlcPlan)
    | 13 => some (msw_eqOpPlan, FSem.wk msw_eqOpPlan Fw_eqOpPlan)
    | 14 => some (msw_eqStoStore, FSem.wk msw_eqStoStore Fw_eqStoStore)
    | 15 => some (msw_markStoStore, FSem.wk msw_markStoStore Fw_markStoStore)
    | 16 => some (msw_markOpPlan, FSem.wk msw_markOpPlan Fw_markOpPlan)
    | 17 => some (msw_heldOpPlan, FSem.wk msw_heldOpPlan Fw_heldOpPlan)
    | _ => none
  bxf := fun _ => none
  mv := []
  keep := fun _ => []
  keepB := fun _ => []
  keepX := fun _ => []
  keepXB := fun _ => []
theorem goodFw_FnExactPlcPlan : ∀ f ms F, Ew_FnExactPlcPlan.fn f = some (ms, F) → Sound Go.Proofs.Tryz.prog f ms F := fun f ms F h => by
  unfold Ew_FnExactPlcPlan at h
  dsimp only at h
  split at h
  · injection h with h; injection h with e1 e2; subst e1 e2; exact Sound.wk sw_szStoStore
  · injection h with h; injection h with e1 e2; subst e1 e2; exact Sound.wk ss_PlcPlan
  · injection h with h; injection h with e1 e2; subst e1 e2; exact Sound.wk sw_toStoStore
  · injection h with h; injection h with e1 e2; subst e1 e2; exact Sound.wk sw_toOpOp
  · injection h with h; injection h with e1 e2; subst e1 e2; exact Sound.wk si_PlcPlan
  · injection h with h; injection h with e1 e2; subst e1 e2; exact Sound.wk sw_eqOpPlan
  · injection h with h; injection h with e1 e2; subst e1 e2; exact Sound.wk sw_eqStoStore
  · injection h with h; injection h with e1 e2; subst e1 e2; exact Sound.wk sw_markStoStore
  · injection h with h; injection h with e1 e2; subst e1 e2; exact Sound.wk sw_markOpPlan
  · injection h with h; injection h with e1 e2; subst e1 e2; exact Sound.wk sw_heldOpPlan
  · cases h
theorem goodBw_FnExactPlcPlan : ∀ f ms F, Ew_FnExactPlcPlan.bxf f = some (ms, F) → SoundB Go.Proofs.Tryz.prog f ms F := fun f ms F h => by cases h
theorem goodw_FnExactPlcPlan : Good Go.Proofs.Tryz.prog Ew_FnExactPlcPlan := ⟨rfl, goodFw_FnExactPlcPlan, goodBw_FnExactPlcPlan⟩
noncomputable def Ow_FnExactPlcPlan_0 : Orc := fun _ _ => none
noncomputable def msw_FnExactPlcPlan : List PM := [.own, .rd, .own, .own]
noncomputable def lsw_FnExactPlcPlan : List (Nat × Code) := loopsAll 0 (Go.Proofs.Tryz.f3.body.getD .skip)

theorem kw_FnExactPlcPlan_0 : OrcOk Ew_FnExactPlcPlan Ow_FnExactPlcPlan_0 lsw_FnExactPlcPlan 0 := orcOk_none
noncomputable def g_Aw_FnExactPlcPlan (a0 : Int) (a1 : List ((ByteArray) × (List (Int)))) (a2 : Int) (a3 : Int) (a4 : Int) (a5 : Int) (a6 : Int) (a7 : Int) (a8 : Int) (a9 : Int) : Bool := g_Aw_szStoStore a1 (1048576 : Int) && (decide (g_Vw_szStoStore_0 a1 (1048576 : Int) < (0 : Int)) || g_Aw_toStoStore a1 && (g_As_PlcPlan a0 (g_Vw_toStoItemS_0 a1) a2 a3 a4 a5 a6 a7 a8 a9 && (g_Aw_toStoStore a1 && (g_Ai_PlcPlan a0 (g_Vw_toStoItemS_0 a1) a2 a3 a4 a5 a6 a7 a8 a9 && (g_Aw_eqOpPlan (g_Vi_PlcPlan_0 a0 (g_Vw_toStoItemS_0 a1) a2 a3 a4 a5 a6 a7 a8 a9) (g_Vi_PlcPlan_1 a0 (g_Vw_toStoItemS_0 a1) a2 a3 a4 a5 a6 a7 a8 a9) (g_Vi_PlcPlan_2 a0 (g_Vw_toStoItemS_0 a1) a2 a3 a4 a5 a6 a7 a8 a9) (g_Vs_PlcPlan_0 a0 (g_Vw_toStoItemS_0 a1) a2 a3 a4 a5 a6 a7 a8 a9) (g_Vs_PlcPlan_1 a0 (g_Vw_toStoItemS_0 a1) a2 a3 a4 a5 a6 a7 a8 a9) (g_Vs_PlcPlan_2 a0 (g_Vw_toStoItemS_0 a1) a2 a3 a4 a5 a6 a7 a8 a9) && (!g_Vw_eqOpPlan_0 (g_Vi_PlcPlan_0 a0 (g_Vw_toStoItemS_0 a1) a2 a3 a4 a5 a6 a7 a8 a9) (g_Vi_PlcPlan_1 a0 (g_Vw_toStoItemS_0 a1) a2 a3 a4 a5 a6 a7 a8 a9) (g_Vi_PlcPlan_2 a0 (g_Vw_toStoItemS_0 a1) a2 a3 a4 a5 a6 a7 a8 a9) (g_Vs_PlcPlan_0 a0 (g_Vw_toStoItemS_0 a1) a2 a3 a4 a5 a6 a7 a8 a9) (g_Vs_PlcPlan_1 a0 (g_Vw_toStoItemS_0 a1) a2 a3 a4 a5 a6 a7 a8 a9) (g_Vs_PlcPlan_2 a0 (g_Vw_toStoItemS_0 a1) a2 a3 a4 a5 a6 a7 a8 a9) || g_Aw_toStoStore a1 && (g_Aw_eqStoStore (g_Vw_toStoItemS_0 a1) (g_Vw_toStoItemS_0 a1) && (!g_Vw_eqStoStore_0 (g_Vw_toStoItemS_0 a1) (g_Vw_toStoItemS_0 a1) || g_Aw_markStoStore (g_Vw_toStoItemS_0 a1) (1 : Int) && (decide (g_Vw_markStoItemS_0 (g_Vw_toStoItemS_0 a1) (1 : Int) < (0 : Int)) || g_Aw_eqOpPlan (g_Vi_PlcPlan_0 a0 (g_Vw_toStoItemS_0 a1) a2 a3 a4 a5 a6 a7 a8 a9) (g_Vi_PlcPlan_1 a0 (g_Vw_toStoItemS_0 a1) a2 a3 a4 a5 a6 a7 a8 a9) (g_Vi_PlcPlan_2 a0 (g_Vw_toStoItemS_0 a1) a2 a3 a4 a5 a6 a7 a8 a9) (g_Vs_PlcPlan_0 a0 (g_Vw_toStoItemS_0 a1) a2 a3 a4 a5 a6 a7 a8 a9) (g_Vs_PlcPlan_1 a0 (g_Vw_toStoItemS_0 a1) a2 a3 a4 a5 a6 a7 a8 a9) (g_Vs_PlcPlan_2 a0 (g_Vw_toStoItemS_0 a1) a2 a3 a4 a5 a6 a7 a8 a9) && (!g_Vw_eqOpPlan_0 (g_Vi_PlcPlan_0 a0 (g_Vw_toStoItemS_0 a1) a2 a3 a4 a5 a6 a7 a8 a9) (g_Vi_PlcPlan_1 a0 (g_Vw_toStoItemS_0 a1) a2 a3 a4 a5 a6 a7 a8 a9) (g_Vi_PlcPlan_2 a0 (g_Vw_toStoItemS_0 a1) a2 a3 a4 a5 a6 a7 a8 a9) (g_Vs_PlcPlan_0 a0 (g_Vw_toStoItemS_0 a1) a2 a3 a4 a5 a6 a7 a8 a9) (g_Vs_PlcPlan_1 a0 (g_Vw_toStoItemS_0 a1) a2 a3 a4 a5 a6 a7 a8 a9) (g_Vs_PlcPlan_2 a0 (g_Vw_toStoItemS_0 a1) a2 a3 a4 a5 a6 a7 a8 a9) || g_Aw_markOpPlan (g_Vi_PlcPlan_0 a0 (g_Vw_toStoItemS_0 a1) a2 a3 a4 a5 a6 a7 a8 a9) (g_Vi_PlcPlan_1 a0 (g_Vw_toStoItemS_0 a1) a2 a3 a4 a5 a6 a7 a8 a9) (g_Vi_PlcPlan_2 a0 (g_Vw_toStoItemS_0 a1) a2 a3 a4 a5 a6 a7 a8 a9) (1 : Int) && (g_Aw_heldOpPlan (g_Vi_PlcPlan_0 a0 (g_Vw_toStoItemS_0 a1) a2 a3 a4 a5 a6 a7 a8 a9) (g_Vw_markStringS_1 (g_Vi_PlcPlan_1 a0 (g_Vw_toStoItemS_0 a1) a2 a3 a4 a5 a6 a7 a8 a9) (1 : Int)) (g_Vw_markStoWriteS_1 (g_Vi_PlcPlan_2 a0 (g_Vw_toStoItemS_0 a1) a2 a3 a4 a5 a6 a7 a8 a9) (g_Vw_markStringS_0 (g_Vi_PlcPlan_1 a0 (g_Vw_toStoItemS_0 a1) a2 a3 a4 a5 a6 a7 a8 a9) (1 : Int))) (1 : Int) && (decide (g_Vw_heldOpPlan_0 (g_Vi_PlcPlan_0 a0 (g_Vw_toStoItemS_0 a1) a2 a3 a4 a5 a6 a7 a8 a9) (g_Vw_markStringS_1 (g_Vi_PlcPlan_1 a0 (g_Vw_toStoItemS_0 a1) a2 a3 a4 a5 a6 a7 a8 a9) (1 : Int)) (g_Vw_markStoWriteS_1 (g_Vi_PlcPlan_2 a0 (g_Vw_toStoItemS_0 a1) a2 a3 a4 a5 a6 a7 a8 a9) (g_Vw_markStringS_0 (g_Vi_PlcPlan_1 a0 (g_Vw_toStoItemS_0 a1) a2 a3 a4 a5 a6 a7 a8 a9) (1 : Int))) (1 : Int) < (0 : Int)) || (g_Vw_heldOpPlan_0 (g_Vi_PlcPlan_0 a0 (g_Vw_toStoItemS_0 a1) a2 a3 a4 a5 a6 a7 a8 a9) (g_Vw_markStringS_1 (g_Vi_PlcPlan_1 a0 (g_Vw_toStoItemS_0 a1) a2 a3 a4 a5 a6 a7 a8 a9) (1 : Int)) (g_Vw_markStoWriteS_1 (g_Vi_PlcPlan_2 a0 (g_Vw_toStoItemS_0 a1) a2 a3 a4 a5 a6 a7 a8 a9) (g_Vw_markStringS_0 (g_Vi_PlcPlan_1 a0 (g_Vw_toStoItemS_0 a1) a2 a3 a4 a5 a6 a7 a8 a9) (1 : Int))) (1 : Int) != g_Vw_markStoWriteS_0 (g_Vi_PlcPlan_2 a0 (g_Vw_toStoItemS_0 a1) a2 a3 a4 a5 a6 a7 a8 a9) (g_Vw_markStringS_0 (g_Vi_PlcPlan_1 a0 (g_Vw_toStoItemS_0 a1) a2 a3 a4 a5 a6 a7 a8 a9) (1 : Int)) || g_Aw_toStoStore a1 && (g_Ai_PlcPlan a0 (g_Vw_toStoItemS_0 a1) a2 a3 a4 a5 a6 a7 a8 a9 && (g_Aw_eqOpPlan (g_Vi_PlcPlan_0 a0 (g_Vw_toStoItemS_0 a1) a2 a3 a4 a5 a6 a7 a8 a9) (g_Vi_PlcPlan_1 a0 (g_Vw_toStoItemS_0 a1) a2 a3 a4 a5 a6 a7 a8 a9) (g_Vi_PlcPlan_2 a0 (g_Vw_toStoItemS_0 a1) a2 a3 a4 a5 a6 a7 a8 a9) (g_Vs_PlcPlan_0 a0 (g_Vw_toStoItemS_0 a1) a2 a3 a4 a5 a6 a7 a8 a9) (g_Vs_PlcPlan_1 a0 (g_Vw_toStoItemS_0 a1) a2 a3 a4 a5 a6 a7 a8 a9) (g_Vs_PlcPlan_2 a0 (g_Vw_toStoItemS_0 a1) a2 a3 a4 a5 a6 a7 a8 a9) && (!g_Vw_eqOpPlan_0 (g_Vi_PlcPlan_0 a0 (g_Vw_toStoItemS_0 a1) a2 a3 a4 a5 a6 a7 a8 a9) (g_Vi_PlcPlan_1 a0 (g_Vw_toStoItemS_0 a1) a2 a3 a4 a5 a6 a7 a8 a9) (g_Vi_PlcPlan_2 a0 (g_Vw_toStoItemS_0 a1) a2 a3 a4 a5 a6 a7 a8 a9) (g_Vs_PlcPlan_0 a0 (g_Vw_toStoItemS_0 a1) a2 a3 a4 a5 a6 a7 a8 a9) (g_Vs_PlcPlan_1 a0 (g_Vw_toStoItemS_0 a1) a2 a3 a4 a5 a6 a7 a8 a9) (g_Vs_PlcPlan_2 a0 (g_Vw_toStoItemS_0 a1) a2 a3 a4 a5 a6 a7 a8 a9) || g_Aw_heldOpPlan (g_Vi_PlcPlan_0 a0 (g_Vw_toStoItemS_0 a1) a2 a3 a4 a5 a6 a7 a8 a9) (g_Vw_markStringS_1 (g_Vi_PlcPlan_1 a0 (g_Vw_toStoItemS_0 a1) a2 a3 a4 a5 a6 a7 a8 a9) (1 : Int)) (g_Vw_markStoWriteS_1 (g_Vi_PlcPlan_2 a0 (g_Vw_toStoItemS_0 a1) a2 a3 a4 a5 a6 a7 a8 a9) (g_Vw_markStringS_0 (g_Vi_PlcPlan_1 a0 (g_Vw_toStoItemS_0 a1) a2 a3 a4 a5 a6 a7 a8 a9) (1 : Int))) (1 : Int) && (decide (g_Vw_heldOpPlan_0 (g_Vi_PlcPlan_0 a0 (g_Vw_toStoItemS_0 a1) a2 a3 a4 a5 a6 a7 a8 a9) (g_Vw_markStringS_1 (g_Vi_PlcPlan_1 a0 (g_Vw_toStoItemS_0 a1) a2 a3 a4 a5 a6 a7 a8 a9) (1 : Int)) (g_Vw_markStoWriteS_1 (g_Vi_PlcPlan_2 a0 (g_Vw_toStoItemS_0 a1) a2 a3 a4 a5 a6 a7 a8 a9) (g_Vw_markStringS_0 (g_Vi_PlcPlan_1 a0 (g_Vw_toStoItemS_0 a1) a2 a3 a4 a5 a6 a7 a8 a9) (1 : Int))) (1 : Int) < (0 : Int)) || true)))))))))))))))))
noncomputable def g_Vw_FnExactPlcPlan_0 (a0 : Int) (a1 : List ((ByteArray) × (List (Int)))) (a2 : Int) (a3 : Int) (a4 : Int) (a5 : Int) (a6 : Int) (a7 : Int) (a8 : Int) (a9 : Int) : Bool := bif decide (g_Vw_szStoStore_0 a1 (1048576 : Int) < (0 : Int)) then true else bif !g_Vw_eqOpPlan_0 (g_Vi_PlcPlan_0 a0 (g_Vw_toStoItemS_0 a1) a2 a3 a4 a5 a6 a7 a8 a9) (g_Vi_PlcPlan_1 a0 (g_Vw_toStoItemS_0 a1) a2 a3 a4 a5 a6 a7 a8 a9) (g_Vi_PlcPlan_2 a0 (g_Vw_toStoItemS_0 a1) a2 a3 a4 a5 a6 a7 a8 a9) (g_Vs_PlcPlan_0 a0 (g_Vw_toStoItemS_0 a1) a2 a3 a4 a5 a6 a7 a8 a9) (g_Vs_PlcPlan_1 a0 (g_Vw_toStoItemS_0 a1) a2 a3 a4 a5 a6 a7 a8 a9) (g_Vs_PlcPlan_2 a0 (g_Vw_toStoItemS_0 a1) a2 a3 a4 a5 a6 a7 a8 a9) then false else bif !g_Vw_eqStoStore_0 (g_Vw_toStoItemS_0 a1) (g_Vw_toStoItemS_0 a1) then false else bif decide (g_Vw_markStoItemS_0 (g_Vw_toStoItemS_0 a1) (1 : Int) < (0 : Int)) then false else bif !g_Vw_eqOpPlan_0 (g_Vi_PlcPlan_0 a0 (g_Vw_toStoItemS_0 a1) a2 a3 a4 a5 a6 a7 a8 a9) (g_Vi_PlcPlan_1 a0 (g_Vw_toStoItemS_0 a1) a2 a3 a4 a5 a6 a7 a8 a9) (g_Vi_PlcPlan_2 a0 (g_Vw_toStoItemS_0 a1) a2 a3 a4 a5 a6 a7 a8 a9) (g_Vs_PlcPlan_0 a0 (g_Vw_toStoItemS_0 a1) a2 a3 a4 a5 a6 a7 a8 a9) (g_Vs_PlcPlan_1 a0 (g_Vw_toStoItemS_0 a1) a2 a3 a4 a5 a6 a7 a8 a9) (g_Vs_PlcPlan_2 a0 (g_Vw_toStoItemS_0 a1) a2 a3 a4 a5 a6 a7 a8 a9) then false else bif decide (g_Vw_heldOpPlan_0 (g_Vi_PlcPlan_0 a0 (g_Vw_toStoItemS_0 a1) a2 a3 a4 a5 a6 a7 a8 a9) (g_Vw_markStringS_1 (g_Vi_PlcPlan_1 a0 (g_Vw_toStoItemS_0 a1) a2 a3 a4 a5 a6 a7 a8 a9) (1 : Int)) (g_Vw_markStoWriteS_1 (g_Vi_PlcPlan_2 a0 (g_Vw_toStoItemS_0 a1) a2 a3 a4 a5 a6 a7 a8 a9) (g_Vw_markStringS_0 (g_Vi_PlcPlan_1 a0 (g_Vw_toStoItemS_0 a1) a2 a3 a4 a5 a6 a7 a8 a9) (1 : Int))) (1 : Int) < (0 : Int)) then false else bif g_Vw_heldOpPlan_0 (g_Vi_PlcPlan_0 a0 (g_Vw_toStoItemS_0 a1) a2 a3 a4 a5 a6 a7 a8 a9) (g_Vw_markStringS_1 (g_Vi_PlcPlan_1 a0 (g_Vw_toStoItemS_0 a1) a2 a3 a4 a5 a6 a7 a8 a9) (1 : Int)) (g_Vw_markStoWriteS_1 (g_Vi_PlcPlan_2 a0 (g_Vw_toStoItemS_0 a1) a2 a3 a4 a5 a6 a7 a8 a9) (g_Vw_markStringS_0 (g_Vi_PlcPlan_1 a0 (g_Vw_toStoItemS_0 a1) a2 a3 a4 a5 a6 a7 a8 a9) (1 : Int))) (1 : Int) != g_Vw_markStoWriteS_0 (g_Vi_PlcPlan_2 a0 (g_Vw_toStoItemS_0 a1) a2 a3 a4 a5 a6 a7 a8 a9) (g_Vw_markStringS_0 (g_Vi_PlcPlan_1 a0 (g_Vw_toStoItemS_0 a1) a2 a3 a4 a5 a6 a7 a8 a9) (1 : Int)) then false else bif !g_Vw_eqOpPlan_0 (g_Vi_PlcPlan_0 a0 (g_Vw_toStoItemS_0 a1) a2 a3 a4 a5 a6 a7 a8 a9) (g_Vi_PlcPlan_1 a0 (g_Vw_toStoItemS_0 a1) a2 a3 a4 a5 a6 a7 a8 a9) (g_Vi_PlcPlan_2 a0 (g_Vw_toStoItemS_0 a1) a2 a3 a4 a5 a6 a7 a8 a9) (g_Vs_PlcPlan_0 a0 (g_Vw_toStoItemS_0 a1) a2 a3 a4 a5 a6 a7 a8 a9) (g_Vs_PlcPlan_1 a0 (g_Vw_toStoItemS_0 a1) a2 a3 a4 a5 a6 a7 a8 a9) (g_Vs_PlcPlan_2 a0 (g_Vw_toStoItemS_0 a1) a2 a3 a4 a5 a6 a7 a8 a9) then false else bif decide (g_Vw_heldOpPlan_0 (g_Vi_PlcPlan_0 a0 (g_Vw_toStoItemS_0 a1) a2 a3 a4 a5 a6 a7 a8 a9) (g_Vw_markStringS_1 (g_Vi_PlcPlan_1 a0 (g_Vw_toStoItemS_0 a1) a2 a3 a4 a5 a6 a7 a8 a9) (1 : Int)) (g_Vw_markStoWriteS_1 (g_Vi_PlcPlan_2 a0 (g_Vw_toStoItemS_0 a1) a2 a3 a4 a5 a6 a7 a8 a9) (g_Vw_markStringS_0 (g_Vi_PlcPlan_1 a0 (g_Vw_toStoItemS_0 a1) a2 a3 a4 a5 a6 a7 a8 a9) (1 : Int))) (1 : Int) < (0 : Int)) then false else bif g_Vw_heldOpPlan_0 (g_Vi_PlcPlan_0 a0 (g_Vw_toStoItemS_0 a1) a2 a3 a4 a5 a6 a7 a8 a9) (g_Vw_markStringS_1 (g_Vi_PlcPlan_1 a0 (g_Vw_toStoItemS_0 a1) a2 a3 a4 a5 a6 a7 a8 a9) (1 : Int)) (g_Vw_markStoWriteS_1 (g_Vi_PlcPlan_2 a0 (g_Vw_toStoItemS_0 a1) a2 a3 a4 a5 a6 a7 a8 a9) (g_Vw_markStringS_0 (g_Vi_PlcPlan_1 a0 (g_Vw_toStoItemS_0 a1) a2 a3 a4 a5 a6 a7 a8 a9) (1 : Int))) (1 : Int) != g_Vw_markStoWriteS_0 (g_Vi_PlcPlan_2 a0 (g_Vw_toStoItemS_0 a1) a2 a3 a4 a5 a6 a7 a8 a9) (g_Vw_markStringS_0 (g_Vi_PlcPlan_1 a0 (g_Vw_toStoItemS_0 a1) a2 a3 a4 a5 a6 a7 a8 a9) (1 : Int)) then false else true
noncomputable def Fw_FnExactPlcPlan : FSem := fun ys => match ys with
  | [.val false [.int .i64 a0], .val true [.sl .any 90 (.pair .str (.sl 3 (.int .i64))) a1], .val false [.int .i64 a2], .val true [.int .i64 a3, .int .i64 a4, .int .i64 a5, .int .i64 a6, .int .i64 a7, .int .i64 a8, .int .i64 a9]] => some ((g_Aw_FnExactPlcPlan a0 a1 a2 a3 a4 a5 a6 a7 a8 a9), .val false [.bool (g_Vw_FnExactPlcPlan_0 a0 a1 a2 a3 a4 a5 a6 a7 a8 a9)], [])
  | _ => none
theorem vw_FnExactPlcPlan (a0 : Int) (a1 : List ((ByteArray) × (List (Int)))) (a2 : Int) (a3 : Int) (a4 : Int) (a5 : Int) (a6 : Int) (a7 : Int) (a8 : Int) (a9 : Int) : collapseH .std Ew_FnExactPlcPlan Ow_FnExactPlcPlan_0 (execFn Ew_FnExactPlcPlan Go.Proofs.Tryz.f3 msw_FnExactPlcPlan [.val false [.int .i64 a0], .val true [.sl .any 90 (.pair .str (.sl 3 (.int .i64))) a1], .val false [.int .i64 a2], .val true [.int .i64 a3, .int .i64 a4, .int .i64 a5, .int .i64 a6, .int .i64 a7, .int .i64 a8, .int .i64 a9]]) = some ((g_Aw_FnExactPlcPlan a0 a1 a2 a3 a4 a5 a6 a7 a8 a9), .val false [.bool (g_Vw_FnExactPlcPlan_0 a0 a1 a2 a3 a4 a5 a6 a7 a8 a9)], []) := by kernel_rfl
theorem sw_FnExactPlcPlan : Sound Go.Proofs.Tryz.prog 3 msw_FnExactPlcPlan Fw_FnExactPlcPlan := by
  refine fn_gen goodw_FnExactPlcPlan (by kernel_rfl) .std (fn := Go.Proofs.Tryz.f3) (c := (Go.Proofs.Tryz.f3.body.getD .skip)) (o := Ow_FnExactPlcPlan_0) (k := 0) (by kernel_rfl) (by kernel_rfl) (by kernel_rfl) (by kernel_rfl) (by decide) kw_FnExactPlcPlan_0 ?_
  intro ys r outs h
  unfold Fw_FnExactPlcPlan at h
  split at h
  · exact (vw_FnExactPlcPlan _ _ _ _ _ _ _ _ _ _).trans h
  · cases h
end Go.Proofs.YtnbcdkbjmpadmaaGreatDoor.E
end
section
namespace Go.Proofs.YtnbcdkbjmpadmaaGreatDoor.E
open Go
set_option maxRecDepth 100000
set_option maxHeartbeats 0
set_option linter.all false
noncomputable def Es_WrtOk : Env where
  tt := mkTI Go.Proofs.Tryz.prog
  fn := fun f => match f with
    | 99 => some (mss_l1Key, FSem.wk mss_l1Key Fs_l1Key)
    | 100 => some (mss_l1Val, FSem.wk mss_l1Val Fs_l1Val)
    | _ => none
  bxf := fun _ => none
  mv := []
  keep := fun _ => []
  keepB := fun _ => []
  keepX := fun _ => []
  keepXB := fun _ => []
theorem goodFs_WrtOk : ∀ f ms F, Es_WrtOk.fn f = some (ms, F) → Sound Go.Proofs.Tryz.prog f ms F := fun f ms F h => by
  unfold Es_WrtOk at h
  dsimp only at h
  split at h
  · injection h with h; injection h with e1 e2; subst e1 e2; exact Sound.wk ss_l1Key
  · injection h with h; injection h with e1 e2; subst e1 e2; exact Sound.wk ss_l1Val
  · cases h
theorem goodBs_WrtOk : ∀ f ms F, Es_WrtOk.bxf f = some (ms, F) → SoundB Go.Proofs.Tryz.prog f ms F := fun f ms F h => by cases h
theorem goods_WrtOk : Good Go.Proofs.Tryz.prog Es_WrtOk := ⟨rfl, goodFs_WrtOk, goodBs_WrtOk⟩
noncomputable def Os_WrtOk_0 : Orc := fun _ _ => none
noncomputable def mss_WrtOk : List PM := [.rd]
noncomputable def lss_WrtOk : List (Nat × Code) := loopsAll 0 (Go.Proofs.Tryz.f118.body.getD .skip)

theorem ks_WrtOk_0 : OrcOk Es_WrtOk Os_WrtOk_0 lss_WrtOk 0 := orcOk_none
noncomputable def g_As_WrtOk (a0 : ByteArray) (a1 : Bool) (a2 : List (Int)) : Bool := bif a1 then g_As_l1Key a0 && (!g_Vs_l1Key_0 a0 || true) else g_As_l1Key a0 && (!g_Vs_l1Key_0 a0 || g_As_l1Val a2)
noncomputable def g_Vs_WrtOk_0 (a0 : ByteArray) (a1 : Bool) (a2 : List (Int)) : Bool := bif a1 then bif g_Vs_l1Key_0 a0 then (↑(List.length a2) : Int) == (0 : Int) else false else bif g_Vs_l1Key_0 a0 then g_Vs_l1Val_0 a2 else false
noncomputable def Fs_WrtOk : FSem := fun ys => match ys with
  | [.val true [.str a0, .bool a1, .sl .any 3 (.int .i64) a2]] => some ((g_As_WrtOk a0 a1 a2), .val false [.bool (g_Vs_WrtOk_0 a0 a1 a2)], [])
  | _ => none
theorem vs_WrtOk (a0 : ByteArray) (a1 : Bool) (a2 : List (Int)) : collapseH .std Es_WrtOk Os_WrtOk_0 (execFn Es_WrtOk Go.Proofs.Tryz.f118 mss_WrtOk [.val true [.str a0, .bool a1, .sl .any 3 (.int .i64) a2]]) = some ((g_As_WrtOk a0 a1 a2), .val false [.bool (g_Vs_WrtOk_0 a0 a1 a2)], []) := by kernel_rfl
theorem ss_WrtOk : Sound Go.Proofs.Tryz.prog 118 mss_WrtOk Fs_WrtOk := by
  refine fn_gen goods_WrtOk (by kernel_rfl) .std (fn := Go.Proofs.Tryz.f118) (c := (Go.Proofs.Tryz.f118.body.getD .skip)) (o := Os_WrtOk_0) (k := 0) (by kernel_rfl) (by kernel_rfl) (by kernel_rfl) (by kernel_rfl) (by decide) ks_WrtOk_0 ?_
  intro ys r outs h
  unfold Fs_WrtOk at h
  split at h
  · exact (vs_WrtOk _ _ _).trans h
  · cases h
end Go.Proofs.YtnbcdkbjmpadmaaGreatDoor.E
end
section
namespace Go.Proofs.YtnbcdkbjmpadmaaGreatDoor.E
open Go
set_option maxRecDepth 100000
set_option maxHeartbeats 0
set_option linter.all false
noncomputable def Es_l1Copy : Env where
  tt := mkTI Go.Proofs.Tryz.prog
  fn := fun _ => none
  bxf := fun _ => none
  mv := []
  keep := fun b => match b with
    | 0 => [(1, false), (2, false), (3, false), (4, false)]
    | _ => []
  keepB := fun b => match b with
    | 0 => [(1, false), (2, false), (3, false)]
    | _ => []
  keepX := fun b => match b with
    | 0 => [(2, false), (3, false)]
    | _ => []
  keepXB := fun b => match b with
    | 0 => [(2, false), (3, false)]
    | _ => []
theorem goodFs_l1Copy : ∀ f ms F, Es_l1Copy.fn f = some (ms, F) → Sound Go.Proofs.Tryz.prog f ms F := fun f ms F h => by cases h
theorem goodBs_l1Copy : ∀ f ms F, Es_l1Copy.bxf f = some (ms, F) → SoundB Go.Proofs.Tryz.prog f ms F := fun f ms F h => by cases h
theorem goods_l1Copy : Good Go.Proofs.Tryz.prog Es_l1Copy := ⟨rfl, goodFs_l1Copy, goodBs_l1Copy⟩
noncomputable def Os_l1Copy_0 : Orc := fun _ _ => none
noncomputable def mss_l1Copy : List PM := [.rd]
noncomputable def lss_l1Copy : List (Nat × Code) := loopsAll 0 (Go.Proofs.Tryz.f117.body.getD .skip)
noncomputable def cs_l1Copy_0 : Code := (loopOf 0 (Go.Proofs.Tryz.f117.body.getD .skip)).getD .skip
theorem lseqs_l1Copy : lss_l1Copy = [(0, cs_l1Copy_0)] := by kernel_rfl
theorem ms_l1Copy_0 : ∀ p, p ∈ lss_l1Copy → p.1 = 0 → p.2 = cs_l1Copy_0 := by
  intro p hp
  rw [lseqs_l1Copy] at hp
  simp only [List.mem_cons, List.not_mem_nil, or_false] at hp
  subst hp; simp
theorem ks_l1Copy_0 : OrcOk Es_l1Copy Os_l1Copy_0 lss_l1Copy 0 := orcOk_none
noncomputable def hs_l1Copy_0 (y0 : Int) (y1 : List ((ByteArray) × (List (Int)))) (y2 : List ((ByteArray) × (List (Int)))) (y3 : List ((ByteArray) × (List (Int)))) : List (Pl × LV) := [(.T 1, .t (.val false [.ptr 1 0 0])), (.T 2, .t (.val false [.ptr 2 0 0])), (.T 3, .t (.val false [.ptr 3 0 0])), (.T 4, .t (.val false [.int .i64 y0])), (.B 1, .b 0 false [.sl .any 60 (.pair .str (.sl 3 (.int .i64))) y1]), (.B 2, .b 0 false [.row 2 1 0]), (.R 2 1, .r 0 (some ⟨false, .any, true, 60, (.pair .str (.sl 3 (.int .i64))), y2⟩)), (.B 3, .b 0 false [.row 3 1 0]), (.R 3 1, .r 0 (some ⟨false, .any, true, 60, (.pair .str (.sl 3 (.int .i64))), y3⟩))]
noncomputable def g_Ss_l1Copy_0 (y1 : List ((ByteArray) × (List (Int)))) (y2 : List ((ByteArray) × (List (Int)))) : ((Int) × (List ((ByteArray) × (List (Int))))) → RT ((Int) × (List ((ByteArray) × (List (Int))))) (((List ((ByteArray) × (List (Int))))))
  | (y0, y3) => .br (true) (.br (decide (y0 < (↑(List.length y1) : Int))) (.br (decide ((0 : Int) ≤ y0 ∧ y0 < (↑(List.length y1) : Int))) (.br (decide ((0 : Int) ≤ y0 ∧ y0 < (↑(List.length y1) : Int))) (.br (decide ((nat_lit 0 + List.length (at_ (Ty.pair Ty.str (Ty.sl (nat_lit 3) (Ty.int IntKind.i64))) y1 (Int.toNat y0)).2) * nat_lit 8 ≤ nat_lit 140737488355328 ∧ nat_lit 0 + List.length (at_ (Ty.pair Ty.str (Ty.sl (nat_lit 3) (Ty.int IntKind.i64))) y1 (Int.toNat y0)).2 ≤ nat_lit 9223372036854775807)) (.br (decide ((List.length y3 + List.length [((at_ (Ty.pair Ty.str (Ty.sl (nat_lit 3) (Ty.int IntKind.i64))) y1 (Int.toNat y0)).1, [] ++ (at_ (Ty.pair Ty.str (Ty.sl (nat_lit 3) (Ty.int IntKind.i64))) y1 (Int.toNat y0)).2)]) * nat_lit 40 ≤ nat_lit 140737488355328 ∧ List.length y3 + List.length [((at_ (Ty.pair Ty.str (Ty.sl (nat_lit 3) (Ty.int IntKind.i64))) y1 (Int.toNat y0)).1, [] ++ (at_ (Ty.pair Ty.str (Ty.sl (nat_lit 3) (Ty.int IntKind.i64))) y1 (Int.toNat y0)).2)] ≤ nat_lit 9223372036854775807)) (.br (true) (.go ((IntKind.wrap IntKind.i64 (y0 + (1 : Int)), y3 ++ [((at_ (Ty.pair Ty.str (Ty.sl (nat_lit 3) (Ty.int IntKind.i64))) y1 (Int.toNat y0)).1, [] ++ (at_ (Ty.pair Ty.str (Ty.sl (nat_lit 3) (Ty.int IntKind.i64))) y1 (Int.toNat y0)).2)]))) (.bad)) (.bad)) (.bad)) (.bad)) (.bad)) (.out (y3))) (.bad)
noncomputable def g_Ls_l1Copy_0 (y1 : List ((ByteArray) × (List (Int)))) (y2 : List ((ByteArray) × (List (Int)))) (x : (Int) × (List ((ByteArray) × (List (Int))))) : Option (((List ((ByteArray) × (List (Int)))))) := loopO (g_Ss_l1Copy_0 y1 y2) x
noncomputable def xs_l1Copy_0 (y1 : List ((ByteArray) × (List (Int)))) (y2 : List ((ByteArray) × (List (Int)))) : (((List ((ByteArray) × (List (Int)))))) → Ex × List (Pl × LV) := fun r => (.exit 0, [(.T 2, .t (.val false [.ptr 2 0 0])), (.T 3, .t (.val false [.ptr 3 0 0])), (.B 2, .b 0 false [.row 2 1 0]), (.R 2 1, .r 0 (some ⟨false, .any, true, 60, (.pair .str (.sl 3 (.int .i64))), y2⟩)), (.B 3, .b 0 false [.row 3 1 0]), (.R 3 1, .r 0 (some ⟨false, .any, true, 60, (.pair .str (.sl 3 (.int .i64))), r⟩))])
noncomputable def Os_l1Copy_1 : Orc := fun b h => match b, h with
  | 0, [(.T 1, .t (.val false [.ptr 1 0 0])), (.T 2, .t (.val false [.ptr 2 0 0])), (.T 3, .t (.val false [.ptr 3 0 0])), (.T 4, .t (.val false [.int .i64 y0])), (.B 1, .b 0 false [.sl .any 60 (.pair .str (.sl 3 (.int .i64))) y1]), (.B 2, .b 0 false [.row 2 1 0]), (.R 2 1, .r 0 (some ⟨false, .any, true, 60, (.pair .str (.sl 3 (.int .i64))), y2⟩)), (.B 3, .b 0 false [.row 3 1 0]), (.R 3 1, .r 0 (some ⟨false, .any, true, 60, (.pair .str (.sl 3 (.int .i64))), y3⟩))] => some (okO (g_Ls_l1Copy_0 y1 y2 (y0, y3)), (.leaf (.exit 0) [(.T 2, .t (.val false [.ptr 2 0 0])), (.T 3, .t (.val false [.ptr 3 0 0])), (.B 2, .b 0 false [.row 2 1 0]), (.R 2 1, .r 0 (some ⟨false, .any, true, 60, (.pair .str (.sl 3 (.int .i64))), y2⟩)), (.B 3, .b 0 false [.row 3 1 0]), (.R 3 1, .r 0 (some ⟨false, .any, true, 60, (.pair .str (.sl 3 (.int .i64))), (valO (g_Ls_l1Copy_0 y1 y2 (y0, y3)))⟩))]))
  | b, h => Os_l1Copy_0 b h
theorem bs_l1Copy_0 (y0 : Int) (y1 : List ((ByteArray) × (List (Int)))) (y2 : List ((ByteArray) × (List (Int)))) (y3 : List ((ByteArray) × (List (Int)))) : Tr.bt Es_l1Copy Os_l1Copy_0 (exec Es_l1Copy 0 cs_l1Copy_0 (St.of (hs_l1Copy_0 y0 y1 y2 y3)) (leafRd Es_l1Copy 0)) = (g_Ss_l1Copy_0 y1 y2 (y0, y3)).bt (fun ((y0, y3) : (Int) × (List ((ByteArray) × (List (Int))))) => (hs_l1Copy_0 y0 y1 y2 y3)) (xs_l1Copy_0 y1 y2) := by kernel_rfl
theorem ks_l1Copy_1 : OrcOk Es_l1Copy Os_l1Copy_1 lss_l1Copy 1 := orc_add ks_l1Copy_0 (fun n p hp h ex h' ho => by
  obtain ⟨b, c⟩ := p
  obtain ⟨xt, h1, h2⟩ := ho
  have h1 : Os_l1Copy_1 b h = some (true, xt) := h1
  unfold Os_l1Copy_1 at h1
  split at h1
  · injection h1 with h1
    injection h1 with e1 e2
    subst e2
    have hc : c = cs_l1Copy_0 := ms_l1Copy_0 _ hp rfl
    subst hc
    right
    rename_i y0 y1 y2 y3
    have key := LT_step ks_l1Copy_0 hp (fun q hq => loopsAll_in _ _ _ _ hp hq) (fun ((y0, y3) : (Int) × (List ((ByteArray) × (List (Int))))) => (hs_l1Copy_0 y0 y1 y2 y3)) (xs_l1Copy_0 y1 y2) (g_Ss_l1Copy_0 y1 y2) (fun x => by first | exact bs_l1Copy_0 x.1 y1 y2 x.2) n (x := (y0, y3)) (okO_some e1)
    have hx : ∀ r, XT.sel (.leaf (.exit 0) [(.T 2, .t (.val false [.ptr 2 0 0])), (.T 3, .t (.val false [.ptr 3 0 0])), (.B 2, .b 0 false [.row 2 1 0]), (.R 2 1, .r 0 (some ⟨false, .any, true, 60, (.pair .str (.sl 3 (.int .i64))), y2⟩)), (.B 3, .b 0 false [.row 3 1 0]), (.R 3 1, .r 0 (some ⟨false, .any, true, 60, (.pair .str (.sl 3 (.int .i64))), r⟩))]) = xs_l1Copy_0 y1 y2 r := fun r => by first | rfl | (rcases r with r | r <;> rfl) | (rcases r with r | r | r <;> rfl) | (rcases r with r | r | r | r <;> rfl)
    have h3 := (hx (valO (g_Ls_l1Copy_0 y1 y2 (y0, y3)))).symm.trans h2
    have e3 := congrArg Prod.fst h3
    have e4 := congrArg Prod.snd h3
    simp only at e3 e4
    rw [← e3, ← e4]
    exact key
  · exact .inl ⟨xt, h1, h2⟩)
noncomputable def g_As_l1Copy (a0 : List ((ByteArray) × (List (Int)))) : Bool := okO (g_Ls_l1Copy_0 a0 [] ((0 : Int), []))
noncomputable def g_Vs_l1Copy_0 (a0 : List ((ByteArray) × (List (Int)))) : List ((ByteArray) × (List (Int))) := valO (g_Ls_l1Copy_0 a0 [] ((0 : Int), []))
noncomputable def Fs_l1Copy : FSem := fun ys => match ys with
  | [.val true [.sl .any 60 (.pair .str (.sl 3 (.int .i64))) a0]] => some ((g_As_l1Copy a0), .val true [.own .any true 60 (.pair .str (.sl 3 (.int .i64))) (g_Vs_l1Copy_0 a0)], [])
  | _ => none
theorem vs_l1Copy (a0 : List ((ByteArray) × (List (Int)))) : collapseH .std Es_l1Copy Os_l1Copy_1 (execFn Es_l1Copy Go.Proofs.Tryz.f117 mss_l1Copy [.val true [.sl .any 60 (.pair .str (.sl 3 (.int .i64))) a0]]) = some ((g_As_l1Copy a0), .val true [.own .any true 60 (.pair .str (.sl 3 (.int .i64))) (g_Vs_l1Copy_0 a0)], []) := by kernel_rfl
theorem ss_l1Copy : Sound Go.Proofs.Tryz.prog 117 mss_l1Copy Fs_l1Copy := by
  refine fn_gen goods_l1Copy (by kernel_rfl) .std (fn := Go.Proofs.Tryz.f117) (c := (Go.Proofs.Tryz.f117.body.getD .skip)) (o := Os_l1Copy_1) (k := 1) (by kernel_rfl) (by kernel_rfl) (by kernel_rfl) (by kernel_rfl) (by decide) ks_l1Copy_1 ?_
  intro ys r outs h
  unfold Fs_l1Copy at h
  split at h
  · exact (vs_l1Copy _).trans h
  · cases h
end Go.Proofs.YtnbcdkbjmpadmaaGreatDoor.E
end
section
namespace Go.Proofs.YtnbcdkbjmpadmaaGreatDoor.E
open Go
set_option maxRecDepth 100000
set_option maxHeartbeats 0
set_option linter.all false
noncomputable def Es_l1Write : Env where
  tt := mkTI Go.Proofs.Tryz.prog
  fn := fun _ => none
  bxf := fun _ => none
  mv := []
  keep := fun b => match b with
    | 0 => [(2, false), (3, false), (4, false), (5, true), (6, false), (7, false)]
    | _ => []
  keepB := fun b => match b with
    | 0 => [(2, false), (3, false), (4, false), (5, true)]
    | _ => []
  keepX := fun b => match b with
    | 0 => [(3, false), (4, false), (5, true), (6, false)]
    | _ => []
  keepXB := fun b => match b with
    | 0 => [(3, false), (4, false), (5, true)]
    | _ => []
theorem goodFs_l1Write : ∀ f ms F, Es_l1Write.fn f = some (ms, F) → Sound Go.Proofs.Tryz.prog f ms F := fun f ms F h => by cases h
theorem goodBs_l1Write : ∀ f ms F, Es_l1Write.bxf f = some (ms, F) → SoundB Go.Proofs.Tryz.prog f ms F := fun f ms F h => by cases h
theorem goods_l1Write : Good Go.Proofs.Tryz.prog Es_l1Write := ⟨rfl, goodFs_l1Write, goodBs_l1Write⟩
noncomputable def Os_l1Write_0 : Orc := fun _ _ => none
noncomputable def mss_l1Write : List PM := [.fz, .fz]
noncomputable def lss_l1Write : List (Nat × Code) := loopsAll 0 (Go.Proofs.Tryz.f119.body.getD .skip)
noncomputable def cs_l1Write_0 : Code := (loopOf 0 (Go.Proofs.Tryz.f119.body.getD .skip)).getD .skip
theorem lseqs_l1Write : lss_l1Write = [(0, cs_l1Write_0)] := by kernel_rfl
theorem ms_l1Write_0 : ∀ p, p ∈ lss_l1Write → p.1 = 0 → p.2 = cs_l1Write_0 := by
  intro p hp
  rw [lseqs_l1Write] at hp
  simp only [List.mem_cons, List.not_mem_nil, or_false] at hp
  subst hp; simp
theorem ks_l1Write_0 : OrcOk Es_l1Write Os_l1Write_0 lss_l1Write 0 := orcOk_none
noncomputable def hs_l1Write_0 (y0 : Bool) (y1 : Int) (y2 : List ((ByteArray) × (List (Int)))) (y3 : ByteArray) (y4 : Bool) (y5 : List (Int)) (y6 : List ((ByteArray) × (List (Int)))) (y7 : List ((ByteArray) × (List (Int)))) : List (Pl × LV) := [(.T 2, .t (.val false [.ptr 2 0 0])), (.T 3, .t (.val false [.ptr 3 0 0])), (.T 4, .t (.val false [.ptr 4 0 0])), (.T 5, .t (.val false [.ptr 5 0 0])), (.T 6, .t (.val false [.bool y0])), (.T 7, .t (.val false [.int .i64 y1])), (.B 2, .b 0 false [.sl .any 60 (.pair .str (.sl 3 (.int .i64))) y2]), (.B 3, .b 0 false [.str y3, .bool y4, .sl .any 3 (.int .i64) y5]), (.B 4, .b 0 false [.row 4 1 0]), (.R 4 1, .r 0 (some ⟨false, .any, true, 60, (.pair .str (.sl 3 (.int .i64))), y6⟩)), (.B 5, .b 0 false [.row 5 1 0]), (.R 5 1, .r 0 (some ⟨false, .any, false, 60, (.pair .str (.sl 3 (.int .i64))), y7⟩))]
noncomputable def g_Ss_l1Write_0 (y2 : List ((ByteArray) × (List (Int)))) (y3 : ByteArray) (y4 : Bool) (y5 : List (Int)) (y6 : List ((ByteArray) × (List (Int)))) : ((Bool) × (Int) × (List ((ByteArray) × (List (Int))))) → RT ((Bool) × (Int) × (List ((ByteArray) × (List (Int))))) (((Bool) × (List ((ByteArray) × (List (Int))))))
  | (y0, y1, y7) => .br (true) (.br (decide (y1 < (↑(List.length y2) : Int))) (.br (decide ((0 : Int) ≤ y1 ∧ y1 < (↑(List.length y2) : Int))) (.br (!y0) (.br (true) (.br (Op.bytesLess (ByteArray.toList y3) (ByteArray.toList (at_ (Ty.pair Ty.str (Ty.sl (nat_lit 3) (Ty.int IntKind.i64))) y2 (Int.toNat y1)).1)) (.br (decide ((nat_lit 0 + List.length y5) * nat_lit 8 ≤ nat_lit 140737488355328 ∧ nat_lit 0 + List.length y5 ≤ nat_lit 9223372036854775807)) (.br (decide ((List.length y7 + List.length [(y3, [] ++ y5)]) * nat_lit 40 ≤ nat_lit 140737488355328 ∧ List.length y7 + List.length [(y3, [] ++ y5)] ≤ nat_lit 9223372036854775807)) (.br (true) (.br (!ByteArray.toList (at_ (Ty.pair Ty.str (Ty.sl (nat_lit 3) (Ty.int IntKind.i64))) y2 (Int.toNat y1)).1 == ByteArray.toList y3) (.br (decide ((List.length (y7 ++ [(y3, [] ++ y5)]) + List.length [((at_ (Ty.pair Ty.str (Ty.sl (nat_lit 3) (Ty.int IntKind.i64))) y2 (Int.toNat y1)).1, (at_ (Ty.pair Ty.str (Ty.sl (nat_lit 3) (Ty.int IntKind.i64))) y2 (Int.toNat y1)).2)]) * nat_lit 40 ≤ nat_lit 140737488355328 ∧ List.length (y7 ++ [(y3, [] ++ y5)]) + List.length [((at_ (Ty.pair Ty.str (Ty.sl (nat_lit 3) (Ty.int IntKind.i64))) y2 (Int.toNat y1)).1, (at_ (Ty.pair Ty.str (Ty.sl (nat_lit 3) (Ty.int IntKind.i64))) y2 (Int.toNat y1)).2)] ≤ nat_lit 9223372036854775807)) (.br (true) (.go ((true, IntKind.wrap IntKind.i64 (y1 + (1 : Int)), y7 ++ [(y3, [] ++ y5)] ++ [((at_ (Ty.pair Ty.str (Ty.sl (nat_lit 3) (Ty.int IntKind.i64))) y2 (Int.toNat y1)).1, (at_ (Ty.pair Ty.str (Ty.sl (nat_lit 3) (Ty.int IntKind.i64))) y2 (Int.toNat y1)).2)]))) (.bad)) (.bad)) (.br (!y4) (.br (decide ((nat_lit 0 + List.length y5) * nat_lit 8 ≤ nat_lit 140737488355328 ∧ nat_lit 0 + List.length y5 ≤ nat_lit 9223372036854775807)) (.br (decide ((List.length (y7 ++ [(y3, [] ++ y5)]) + List.length [(y3, [] ++ y5)]) * nat_lit 40 ≤ nat_lit 140737488355328 ∧ List.length (y7 ++ [(y3, [] ++ y5)]) + List.length [(y3, [] ++ y5)] ≤ nat_lit 9223372036854775807)) (.br (true) (.go ((true, IntKind.wrap IntKind.i64 (y1 + (1 : Int)), y7 ++ [(y3, [] ++ y5)] ++ [(y3, [] ++ y5)]))) (.bad)) (.bad)) (.bad)) (.br (true) (.go ((true, IntKind.wrap IntKind.i64 (y1 + (1 : Int)), y7 ++ [(y3, [] ++ y5)]))) (.bad)))) (.bad)) (.bad)) (.bad)) (.br (true) (.br (!ByteArray.toList (at_ (Ty.pair Ty.str (Ty.sl (nat_lit 3) (Ty.int IntKind.i64))) y2 (Int.toNat y1)).1 == ByteArray.toList y3) (.br (decide ((List.length y7 + List.length [((at_ (Ty.pair Ty.str (Ty.sl (nat_lit 3) (Ty.int IntKind.i64))) y2 (Int.toNat y1)).1, (at_ (Ty.pair Ty.str (Ty.sl (nat_lit 3) (Ty.int IntKind.i64))) y2 (Int.toNat y1)).2)]) * nat_lit 40 ≤ nat_lit 140737488355328 ∧ List.length y7 + List.length [((at_ (Ty.pair Ty.str (Ty.sl (nat_lit 3) (Ty.int IntKind.i64))) y2 (Int.toNat y1)).1, (at_ (Ty.pair Ty.str (Ty.sl (nat_lit 3) (Ty.int IntKind.i64))) y2 (Int.toNat y1)).2)] ≤ nat_lit 9223372036854775807)) (.br (true) (.go ((y0, IntKind.wrap IntKind.i64 (y1 + (1 : Int)), y7 ++ [((at_ (Ty.pair Ty.str (Ty.sl (nat_lit 3) (Ty.int IntKind.i64))) y2 (Int.toNat y1)).1, (at_ (Ty.pair Ty.str (Ty.sl (nat_lit 3) (Ty.int IntKind.i64))) y2 (Int.toNat y1)).2)]))) (.bad)) (.bad)) (.br (!y4) (.br (decide ((nat_lit 0 + List.length y5) * nat_lit 8 ≤ nat_lit 140737488355328 ∧ nat_lit 0 + List.length y5 ≤ nat_lit 9223372036854775807)) (.br (decide ((List.length y7 + List.length [(y3, [] ++ y5)]) * nat_lit 40 ≤ nat_lit 140737488355328 ∧ List.length y7 + List.length [(y3, [] ++ y5)] ≤ nat_lit 9223372036854775807)) (.br (true) (.go ((true, IntKind.wrap IntKind.i64 (y1 + (1 : Int)), y7 ++ [(y3, [] ++ y5)]))) (.bad)) (.bad)) (.bad)) (.br (true) (.go ((y0, IntKind.wrap IntKind.i64 (y1 + (1 : Int)), y7))) (.bad)))) (.bad))) (.bad)) (.br (true) (.br (!ByteArray.toList (at_ (Ty.pair Ty.str (Ty.sl (nat_lit 3) (Ty.int IntKind.i64))) y2 (Int.toNat y1)).1 == ByteArray.toList y3) (.br (decide ((List.length y7 + List.length [((at_ (Ty.pair Ty.str (Ty.sl (nat_lit 3) (Ty.int IntKind.i64))) y2 (Int.toNat y1)).1, (at_ (Ty.pair Ty.str (Ty.sl (nat_lit 3) (Ty.int IntKind.i64))) y2 (Int.toNat y1)).2)]) * nat_lit 40 ≤ nat_lit 140737488355328 ∧ List.length y7 + List.length [((at_ (Ty.pair Ty.str (Ty.sl (nat_lit 3) (Ty.int IntKind.i64))) y2 (Int.toNat y1)).1, (at_ (Ty.pair Ty.str (Ty.sl (nat_lit 3) (Ty.int IntKind.i64))) y2 (Int.toNat y1)).2)] ≤ nat_lit 9223372036854775807)) (.br (true) (.go ((y0, IntKind.wrap IntKind.i64 (y1 + (1 : Int)), y7 ++ [((at_ (Ty.pair Ty.str (Ty.sl (nat_lit 3) (Ty.int IntKind.i64))) y2 (Int.toNat y1)).1, (at_ (Ty.pair Ty.str (Ty.sl (nat_lit 3) (Ty.int IntKind.i64))) y2 (Int.toNat y1)).2)]))) (.bad)) (.bad)) (.br (!y4) (.br (decide ((nat_lit 0 + List.length y5) * nat_lit 8 ≤ nat_lit 140737488355328 ∧ nat_lit 0 + List.length y5 ≤ nat_lit 9223372036854775807)) (.br (decide ((List.length y7 + List.length [(y3, [] ++ y5)]) * nat_lit 40 ≤ nat_lit 140737488355328 ∧ List.length y7 + List.length [(y3, [] ++ y5)] ≤ nat_lit 9223372036854775807)) (.br (true) (.go ((true, IntKind.wrap IntKind.i64 (y1 + (1 : Int)), y7 ++ [(y3, [] ++ y5)]))) (.bad)) (.bad)) (.bad)) (.br (true) (.go ((y0, IntKind.wrap IntKind.i64 (y1 + (1 : Int)), y7))) (.bad)))) (.bad))) (.bad)) (.out ((y0, y7)))) (.bad)
noncomputable def g_Ls_l1Write_0 (y2 : List ((ByteArray) × (List (Int)))) (y3 : ByteArray) (y4 : Bool) (y5 : List (Int)) (y6 : List ((ByteArray) × (List (Int)))) (x : (Bool) × (Int) × (List ((ByteArray) × (List (Int))))) : Option (((Bool) × (List ((ByteArray) × (List (Int)))))) := loopO (g_Ss_l1Write_0 y2 y3 y4 y5 y6) x
noncomputable def xs_l1Write_0 (y2 : List ((ByteArray) × (List (Int)))) (y3 : ByteArray) (y4 : Bool) (y5 : List (Int)) (y6 : List ((ByteArray) × (List (Int)))) : (((Bool) × (List ((ByteArray) × (List (Int)))))) → Ex × List (Pl × LV) := fun r => (.exit 0, [(.T 3, .t (.val false [.ptr 3 0 0])), (.T 4, .t (.val false [.ptr 4 0 0])), (.T 5, .t (.val false [.ptr 5 0 0])), (.T 6, .t (.val false [.bool r.1])), (.B 3, .b 0 false [.str y3, .bool y4, .sl .any 3 (.int .i64) y5]), (.B 4, .b 0 false [.row 4 1 0]), (.R 4 1, .r 0 (some ⟨false, .any, true, 60, (.pair .str (.sl 3 (.int .i64))), y6⟩)), (.B 5, .b 0 false [.row 5 1 0]), (.R 5 1, .r 0 (some ⟨false, .any, false, 60, (.pair .str (.sl 3 (.int .i64))), r.2⟩))])
noncomputable def Os_l1Write_1 : Orc := fun b h => match b, h with
  | 0, [(.T 2, .t (.val false [.ptr 2 0 0])), (.T 3, .t (.val false [.ptr 3 0 0])), (.T 4, .t (.val false [.ptr 4 0 0])), (.T 5, .t (.val false [.ptr 5 0 0])), (.T 6, .t (.val false [.bool y0])), (.T 7, .t (.val false [.int .i64 y1])), (.B 2, .b 0 false [.sl .any 60 (.pair .str (.sl 3 (.int .i64))) y2]), (.B 3, .b 0 false [.str y3, .bool y4, .sl .any 3 (.int .i64) y5]), (.B 4, .b 0 false [.row 4 1 0]), (.R 4 1, .r 0 (some ⟨false, .any, true, 60, (.pair .str (.sl 3 (.int .i64))), y6⟩)), (.B 5, .b 0 false [.row 5 1 0]), (.R 5 1, .r 0 (some ⟨false, .any, false, 60, (.pair .str (.sl 3 (.int .i64))), y7⟩))] => some (okO (g_Ls_l1Write_0 y2 y3 y4 y5 y6 (y0, y1, y7)), (.leaf (.exit 0) [(.T 3, .t (.val false [.ptr 3 0 0])), (.T 4, .t (.val false [.ptr 4 0 0])), (.T 5, .t (.val false [.ptr 5 0 0])), (.T 6, .t (.val false [.bool (valO (g_Ls_l1Write_0 y2 y3 y4 y5 y6 (y0, y1, y7))).1])), (.B 3, .b 0 false [.str y3, .bool y4, .sl .any 3 (.int .i64) y5]), (.B 4, .b 0 false [.row 4 1 0]), (.R 4 1, .r 0 (some ⟨false, .any, true, 60, (.pair .str (.sl 3 (.int .i64))), y6⟩)), (.B 5, .b 0 false [.row 5 1 0]), (.R 5 1, .r 0 (some ⟨false, .any, false, 60, (.pair .str (.sl 3 (.int .i64))), (valO (g_Ls_l1Write_0 y2 y3 y4 y5 y6 (y0, y1, y7))).2⟩))]))
  | b, h => Os_l1Write_0 b h
theorem bs_l1Write_0 (y0 : Bool) (y1 : Int) (y2 : List ((ByteArray) × (List (Int)))) (y3 : ByteArray) (y4 : Bool) (y5 : List (Int)) (y6 : List ((ByteArray) × (List (Int)))) (y7 : List ((ByteArray) × (List (Int)))) : Tr.bt Es_l1Write Os_l1Write_0 (exec Es_l1Write 0 cs_l1Write_0 (St.of (hs_l1Write_0 y0 y1 y2 y3 y4 y5 y6 y7)) (leafRd Es_l1Write 0)) = (g_Ss_l1Write_0 y2 y3 y4 y5 y6 (y0, y1, y7)).bt (fun ((y0, y1, y7) : (Bool) × (Int) × (List ((ByteArray) × (List (Int))))) => (hs_l1Write_0 y0 y1 y2 y3 y4 y5 y6 y7)) (xs_l1Write_0 y2 y3 y4 y5 y6) := by kernel_rfl
theorem ks_l1Write_1 : OrcOk Es_l1Write Os_l1Write_1 lss_l1Write 1 := orc_add ks_l1Write_0 (fun n p hp h ex h' ho => by
  obtain ⟨b, c⟩ := p
  obtain ⟨xt, h1, h2⟩ := ho
  have h1 : Os_l1Write_1 b h = some (true, xt) := h1
  unfold Os_l1Write_1 at h1
  split at h1
  · injection h1 with h1
    injection h1 with e1 e2
    subst e2
    have hc : c = cs_l1Write_0 := ms_l1Write_0 _ hp rfl
    subst hc
    right
    rename_i y0 y1 y2 y3 y4 y5 y6 y7
    have key := LT_step ks_l1Write_0 hp (fun q hq => loopsAll_in _ _ _ _ hp hq) (fun ((y0, y1, y7) : (Bool) × (Int) × (List ((ByteArray) × (List (Int))))) => (hs_l1Write_0 y0 y1 y2 y3 y4 y5 y6 y7)) (xs_l1Write_0 y2 y3 y4 y5 y6) (g_Ss_l1Write_0 y2 y3 y4 y5 y6) (fun x => by first | exact bs_l1Write_0 x.1 x.2.1 y2 y3 y4 y5 y6 x.2.2) n (x := (y0, y1, y7)) (okO_some e1)
    have hx : ∀ r, XT.sel (.leaf (.exit 0) [(.T 3, .t (.val false [.ptr 3 0 0])), (.T 4, .t (.val false [.ptr 4 0 0])), (.T 5, .t (.val false [.ptr 5 0 0])), (.T 6, .t (.val false [.bool r.1])), (.B 3, .b 0 false [.str y3, .bool y4, .sl .any 3 (.int .i64) y5]), (.B 4, .b 0 false [.row 4 1 0]), (.R 4 1, .r 0 (some ⟨false, .any, true, 60, (.pair .str (.sl 3 (.int .i64))), y6⟩)), (.B 5, .b 0 false [.row 5 1 0]), (.R 5 1, .r 0 (some ⟨false, .any, false, 60, (.pair .str (.sl 3 (.int .i64))), r.2⟩))]) = xs_l1Write_0 y2 y3 y4 y5 y6 r := fun r => by first | rfl | (rcases r with r | r <;> rfl) | (rcases r with r | r | r <;> rfl) | (rcases r with r | r | r | r <;> rfl)
    have h3 := (hx (valO (g_Ls_l1Write_0 y2 y3 y4 y5 y6 (y0, y1, y7)))).symm.trans h2
    have e3 := congrArg Prod.fst h3
    have e4 := congrArg Prod.snd h3
    simp only at e3 e4
    rw [← e3, ← e4]
    exact key
  · exact .inl ⟨xt, h1, h2⟩)
noncomputable def g_As_l1Write (a0 : List ((ByteArray) × (List (Int)))) (a1 : ByteArray) (a2 : Bool) (a3 : List (Int)) : Bool := okO (g_Ls_l1Write_0 a0 a1 a2 a3 [] (a2, (0 : Int), [])) && (!!(valO (g_Ls_l1Write_0 a0 a1 a2 a3 [] (a2, (0 : Int), []))).1 || decide ((nat_lit 0 + List.length a3) * nat_lit 8 ≤ nat_lit 140737488355328 ∧ nat_lit 0 + List.length a3 ≤ nat_lit 9223372036854775807) && decide ((List.length (valO (g_Ls_l1Write_0 a0 a1 a2 a3 [] (a2, (0 : Int), []))).2 + List.length [(a1, [] ++ a3)]) * nat_lit 40 ≤ nat_lit 140737488355328 ∧ List.length (valO (g_Ls_l1Write_0 a0 a1 a2 a3 [] (a2, (0 : Int), []))).2 + List.length [(a1, [] ++ a3)] ≤ nat_lit 9223372036854775807))
noncomputable def g_Vs_l1Write_0 (a0 : List ((ByteArray) × (List (Int)))) (a1 : ByteArray) (a2 : Bool) (a3 : List (Int)) : List ((ByteArray) × (List (Int))) := bif !(valO (g_Ls_l1Write_0 a0 a1 a2 a3 [] (a2, (0 : Int), []))).1 then (valO (g_Ls_l1Write_0 a0 a1 a2 a3 [] (a2, (0 : Int), []))).2 ++ [(a1, [] ++ a3)] else (valO (g_Ls_l1Write_0 a0 a1 a2 a3 [] (a2, (0 : Int), []))).2
noncomputable def Fs_l1Write : FSem := fun ys => match ys with
  | [.val true [.sl .any 60 (.pair .str (.sl 3 (.int .i64))) a0], .val true [.str a1, .bool a2, .sl .any 3 (.int .i64) a3]] => some ((g_As_l1Write a0 a1 a2 a3), .val true [.own .any false 60 (.pair .str (.sl 3 (.int .i64))) (g_Vs_l1Write_0 a0 a1 a2 a3)], [])
  | _ => none
theorem vs_l1Write (a0 : List ((ByteArray) × (List (Int)))) (a1 : ByteArray) (a2 : Bool) (a3 : List (Int)) : collapseH .std Es_l1Write Os_l1Write_1 (execFn Es_l1Write Go.Proofs.Tryz.f119 mss_l1Write [.val true [.sl .any 60 (.pair .str (.sl 3 (.int .i64))) a0], .val true [.str a1, .bool a2, .sl .any 3 (.int .i64) a3]]) = some ((g_As_l1Write a0 a1 a2 a3), .val true [.own .any false 60 (.pair .str (.sl 3 (.int .i64))) (g_Vs_l1Write_0 a0 a1 a2 a3)], []) := by kernel_rfl
theorem ss_l1Write : Sound Go.Proofs.Tryz.prog 119 mss_l1Write Fs_l1Write := by
  refine fn_gen goods_l1Write (by kernel_rfl) .std (fn := Go.Proofs.Tryz.f119) (c := (Go.Proofs.Tryz.f119.body.getD .skip)) (o := Os_l1Write_1) (k := 1) (by kernel_rfl) (by kernel_rfl) (by kernel_rfl) (by kernel_rfl) (by decide) ks_l1Write_1 ?_
  intro ys r outs h
  unfold Fs_l1Write at h
  split at h
  · exact (vs_l1Write _ _ _ _).trans h
  · cases h
end Go.Proofs.YtnbcdkbjmpadmaaGreatDoor.E
end
section
namespace Go.Proofs.YtnbcdkbjmpadmaaGreatDoor.E
open Go
set_option maxRecDepth 100000
set_option maxHeartbeats 0
set_option linter.all false
noncomputable def Es_StoDo : Env where
  tt := mkTI Go.Proofs.Tryz.prog
  fn := fun f => match f with
    | 66 => some (mss_StoOk, FSem.wk mss_StoOk Fs_StoOk)
    | 117 => some (mss_l1Copy, FSem.wk mss_l1Copy Fs_l1Copy)
    | 118 => some (mss_WrtOk, FSem.wk mss_WrtOk Fs_WrtOk)
    | 119 => some (mss_l1Write, FSem.wk mss_l1Write Fs_l1Write)
    | _ => none
  bxf := fun _ => none
  mv := []
  keep := fun b => match b with
    | 0 => [(1, false), (4, false), (5, true), (6, false)]
    | _ => []
  keepB := fun b => match b with
    | 0 => [(4, false), (5, true)]
    | _ => []
  keepX := fun b => match b with
    | 0 => [(4, false), (5, true)]
    | _ => []
  keepXB := fun b => match b with
    | 0 => [(4, false), (5, true)]
    | _ => []
theorem goodFs_StoDo : ∀ f ms F, Es_StoDo.fn f = some (ms, F) → Sound Go.Proofs.Tryz.prog f ms F := fun f ms F h => by
  unfold Es_StoDo at h
  dsimp only at h
  split at h
  · injection h with h; injection h with e1 e2; subst e1 e2; exact Sound.wk ss_StoOk
  · injection h with h; injection h with e1 e2; subst e1 e2; exact Sound.wk ss_l1Copy
  · injection h with h; injection h with e1 e2; subst e1 e2; exact Sound.wk ss_WrtOk
  · injection h with h; injection h with e1 e2; subst e1 e2; exact Sound.wk ss_l1Write
  · cases h
theorem goodBs_StoDo : ∀ f ms F, Es_StoDo.bxf f = some (ms, F) → SoundB Go.Proofs.Tryz.prog f ms F := fun f ms F h => by cases h
theorem goods_StoDo : Good Go.Proofs.Tryz.prog Es_StoDo := ⟨rfl, goodFs_StoDo, goodBs_StoDo⟩
noncomputable def Os_StoDo_0 : Orc := fun _ _ => none
noncomputable def mss_StoDo : List PM := [.rd, .rd]
noncomputable def lss_StoDo : List (Nat × Code) := loopsAll 0 (Go.Proofs.Tryz.f93.body.getD .skip)
noncomputable def cs_StoDo_0 : Code := (loopOf 0 (Go.Proofs.Tryz.f93.body.getD .skip)).getD .skip
theorem lseqs_StoDo : lss_StoDo = [(0, cs_StoDo_0)] := by kernel_rfl
theorem ms_StoDo_0 : ∀ p, p ∈ lss_StoDo → p.1 = 0 → p.2 = cs_StoDo_0 := by
  intro p hp
  rw [lseqs_StoDo] at hp
  simp only [List.mem_cons, List.not_mem_nil, or_false] at hp
  subst hp; simp
theorem ks_StoDo_0 : OrcOk Es_StoDo Os_StoDo_0 lss_StoDo 0 := orcOk_none
noncomputable def hs_StoDo_0 (y0 : List ((ByteArray) × ((Bool) × (List (Int))))) (y1 : Int) (y2 : List ((ByteArray) × (List (Int)))) (y3 : List ((ByteArray) × (List (Int)))) : List (Pl × LV) := [(.T 1, .t (.val false [.sl .any 50 (.pair .str (.pair .bool (.sl 3 (.int .i64)))) y0])), (.T 4, .t (.val false [.ptr 4 0 0])), (.T 5, .t (.val false [.ptr 5 0 0])), (.T 6, .t (.val false [.int .i64 y1])), (.B 4, .b 0 false [.row 4 1 0]), (.R 4 1, .r 0 (some ⟨false, .any, true, 60, (.pair .str (.sl 3 (.int .i64))), y2⟩)), (.B 5, .b 0 false [.row 5 1 0]), (.R 5 1, .r 0 (some ⟨false, .any, false, 60, (.pair .str (.sl 3 (.int .i64))), y3⟩))]
noncomputable def g_Ss_StoDo_0 (y0 : List ((ByteArray) × ((Bool) × (List (Int))))) (y2 : List ((ByteArray) × (List (Int)))) : ((Int) × (List ((ByteArray) × (List (Int))))) → RT ((Int) × (List ((ByteArray) × (List (Int))))) (((List ((ByteArray) × (List (Int)))) × (List ((ByteArray) × (List (Int))))) ⊕ ((List ((ByteArray) × (List (Int))))))
  | (y1, y3) => .br (true) (.br (decide (y1 < (↑(List.length y0) : Int))) (.br (decide ((0 : Int) ≤ y1 ∧ y1 < (↑(List.length y0) : Int))) (.br (g_As_WrtOk (at_ (Ty.pair Ty.str (Ty.pair Ty.bool (Ty.sl (nat_lit 3) (Ty.int IntKind.i64)))) y0 (Int.toNat y1)).1 (at_ (Ty.pair Ty.str (Ty.pair Ty.bool (Ty.sl (nat_lit 3) (Ty.int IntKind.i64)))) y0 (Int.toNat y1)).2.1 (at_ (Ty.pair Ty.str (Ty.pair Ty.bool (Ty.sl (nat_lit 3) (Ty.int IntKind.i64)))) y0 (Int.toNat y1)).2.2) (.br (!g_Vs_WrtOk_0 (at_ (Ty.pair Ty.str (Ty.pair Ty.bool (Ty.sl (nat_lit 3) (Ty.int IntKind.i64)))) y0 (Int.toNat y1)).1 (at_ (Ty.pair Ty.str (Ty.pair Ty.bool (Ty.sl (nat_lit 3) (Ty.int IntKind.i64)))) y0 (Int.toNat y1)).2.1 (at_ (Ty.pair Ty.str (Ty.pair Ty.bool (Ty.sl (nat_lit 3) (Ty.int IntKind.i64)))) y0 (Int.toNat y1)).2.2) (.out (.inl (([], y3)))) (.br (decide ((0 : Int) ≤ y1 ∧ y1 < (↑(List.length y0) : Int))) (.br (g_As_l1Write y3 (at_ (Ty.pair Ty.str (Ty.pair Ty.bool (Ty.sl (nat_lit 3) (Ty.int IntKind.i64)))) y0 (Int.toNat y1)).1 (at_ (Ty.pair Ty.str (Ty.pair Ty.bool (Ty.sl (nat_lit 3) (Ty.int IntKind.i64)))) y0 (Int.toNat y1)).2.1 (at_ (Ty.pair Ty.str (Ty.pair Ty.bool (Ty.sl (nat_lit 3) (Ty.int IntKind.i64)))) y0 (Int.toNat y1)).2.2) (.br (true) (.br (decide ((↑(List.length (g_Vs_l1Write_0 y3 (at_ (Ty.pair Ty.str (Ty.pair Ty.bool (Ty.sl (nat_lit 3) (Ty.int IntKind.i64)))) y0 (Int.toNat y1)).1 (at_ (Ty.pair Ty.str (Ty.pair Ty.bool (Ty.sl (nat_lit 3) (Ty.int IntKind.i64)))) y0 (Int.toNat y1)).2.1 (at_ (Ty.pair Ty.str (Ty.pair Ty.bool (Ty.sl (nat_lit 3) (Ty.int IntKind.i64)))) y0 (Int.toNat y1)).2.2)) : Int) > (40 : Int))) (.out (.inl (([], g_Vs_l1Write_0 y3 (at_ (Ty.pair Ty.str (Ty.pair Ty.bool (Ty.sl (nat_lit 3) (Ty.int IntKind.i64)))) y0 (Int.toNat y1)).1 (at_ (Ty.pair Ty.str (Ty.pair Ty.bool (Ty.sl (nat_lit 3) (Ty.int IntKind.i64)))) y0 (Int.toNat y1)).2.1 (at_ (Ty.pair Ty.str (Ty.pair Ty.bool (Ty.sl (nat_lit 3) (Ty.int IntKind.i64)))) y0 (Int.toNat y1)).2.2)))) (.br (true) (.go ((IntKind.wrap IntKind.i64 (y1 + (1 : Int)), g_Vs_l1Write_0 y3 (at_ (Ty.pair Ty.str (Ty.pair Ty.bool (Ty.sl (nat_lit 3) (Ty.int IntKind.i64)))) y0 (Int.toNat y1)).1 (at_ (Ty.pair Ty.str (Ty.pair Ty.bool (Ty.sl (nat_lit 3) (Ty.int IntKind.i64)))) y0 (Int.toNat y1)).2.1 (at_ (Ty.pair Ty.str (Ty.pair Ty.bool (Ty.sl (nat_lit 3) (Ty.int IntKind.i64)))) y0 (Int.toNat y1)).2.2))) (.bad))) (.bad)) (.bad)) (.bad))) (.bad)) (.bad)) (.out (.inr (y3)))) (.bad)
noncomputable def g_Ls_StoDo_0 (y0 : List ((ByteArray) × ((Bool) × (List (Int))))) (y2 : List ((ByteArray) × (List (Int)))) (x : (Int) × (List ((ByteArray) × (List (Int))))) : Option (((List ((ByteArray) × (List (Int)))) × (List ((ByteArray) × (List (Int))))) ⊕ ((List ((ByteArray) × (List (Int)))))) := loopO (g_Ss_StoDo_0 y0 y2) x
noncomputable def xs_StoDo_0 (y0 : List ((ByteArray) × ((Bool) × (List (Int))))) (y2 : List ((ByteArray) × (List (Int)))) : (((List ((ByteArray) × (List (Int)))) × (List ((ByteArray) × (List (Int))))) ⊕ ((List ((ByteArray) × (List (Int)))))) → Ex × List (Pl × LV) := fun
  | .inl r => (.ret, [(.T 4, .t (.val false [.ptr 4 0 0])), (.T 5, .t (.val false [.ptr 5 0 0])), (.B 4, .b 0 false [.row 4 1 0]), (.R 4 1, .r 0 (some ⟨false, .any, true, 60, (.pair .str (.sl 3 (.int .i64))), r.1⟩)), (.B 5, .b 0 false [.row 5 1 0]), (.R 5 1, .r 0 (some ⟨false, .any, false, 60, (.pair .str (.sl 3 (.int .i64))), r.2⟩))])
  | .inr (r) => (.exit 0, [(.T 4, .t (.val false [.ptr 4 0 0])), (.T 5, .t (.val false [.ptr 5 0 0])), (.B 4, .b 0 false [.row 4 1 0]), (.R 4 1, .r 0 (some ⟨false, .any, true, 60, (.pair .str (.sl 3 (.int .i64))), y2⟩)), (.B 5, .b 0 false [.row 5 1 0]), (.R 5 1, .r 0 (some ⟨false, .any, false, 60, (.pair .str (.sl 3 (.int .i64))), r⟩))])
noncomputable def Os_StoDo_1 : Orc := fun b h => match b, h with
  | 0, [(.T 1, .t (.val false [.sl .any 50 (.pair .str (.pair .bool (.sl 3 (.int .i64)))) y0])), (.T 4, .t (.val false [.ptr 4 0 0])), (.T 5, .t (.val false [.ptr 5 0 0])), (.T 6, .t (.val false [.int .i64 y1])), (.B 4, .b 0 false [.row 4 1 0]), (.R 4 1, .r 0 (some ⟨false, .any, true, 60, (.pair .str (.sl 3 (.int .i64))), y2⟩)), (.B 5, .b 0 false [.row 5 1 0]), (.R 5 1, .r 0 (some ⟨false, .any, false, 60, (.pair .str (.sl 3 (.int .i64))), y3⟩))] => some (okO (g_Ls_StoDo_0 y0 y2 (y1, y3)), (.br (isL (valO (g_Ls_StoDo_0 y0 y2 (y1, y3)))) (.leaf .ret [(.T 4, .t (.val false [.ptr 4 0 0])), (.T 5, .t (.val false [.ptr 5 0 0])), (.B 4, .b 0 false [.row 4 1 0]), (.R 4 1, .r 0 (some ⟨false, .any, true, 60, (.pair .str (.sl 3 (.int .i64))), (getL (valO (g_Ls_StoDo_0 y0 y2 (y1, y3)))).1⟩)), (.B 5, .b 0 false [.row 5 1 0]), (.R 5 1, .r 0 (some ⟨false, .any, false, 60, (.pair .str (.sl 3 (.int .i64))), (getL (valO (g_Ls_StoDo_0 y0 y2 (y1, y3)))).2⟩))]) (.leaf (.exit 0) [(.T 4, .t (.val false [.ptr 4 0 0])), (.T 5, .t (.val false [.ptr 5 0 0])), (.B 4, .b 0 false [.row 4 1 0]), (.R 4 1, .r 0 (some ⟨false, .any, true, 60, (.pair .str (.sl 3 (.int .i64))), y2⟩)), (.B 5, .b 0 false [.row 5 1 0]), (.R 5 1, .r 0 (some ⟨false, .any, false, 60, (.pair .str (.sl 3 (.int .i64))), (getR (valO (g_Ls_StoDo_0 y0 y2 (y1, y3))))⟩))])))
  | b, h => Os_StoDo_0 b h
theorem bs_StoDo_0 (y0 : List ((ByteArray) × ((Bool) × (List (Int))))) (y1 : Int) (y2 : List ((ByteArray) × (List (Int)))) (y3 : List ((ByteArray) × (List (Int)))) : Tr.bt Es_StoDo Os_StoDo_0 (exec Es_StoDo 0 cs_StoDo_0 (St.of (hs_StoDo_0 y0 y1 y2 y3)) (leafRd Es_StoDo 0)) = (g_Ss_StoDo_0 y0 y2 (y1, y3)).bt (fun ((y1, y3) : (Int) × (List ((ByteArray) × (List (Int))))) => (hs_StoDo_0 y0 y1 y2 y3)) (xs_StoDo_0 y0 y2) := by kernel_rfl
theorem ks_StoDo_1 : OrcOk Es_StoDo Os_StoDo_1 lss_StoDo 1 := orc_add ks_StoDo_0 (fun n p hp h ex h' ho => by
  obtain ⟨b, c⟩ := p
  obtain ⟨xt, h1, h2⟩ := ho
  have h1 : Os_StoDo_1 b h = some (true, xt) := h1
  unfold Os_StoDo_1 at h1
  split at h1
  · injection h1 with h1
    injection h1 with e1 e2
    subst e2
    have hc : c = cs_StoDo_0 := ms_StoDo_0 _ hp rfl
    subst hc
    right
    rename_i y0 y1 y2 y3
    have key := LT_step ks_StoDo_0 hp (fun q hq => loopsAll_in _ _ _ _ hp hq) (fun ((y1, y3) : (Int) × (List ((ByteArray) × (List (Int))))) => (hs_StoDo_0 y0 y1 y2 y3)) (xs_StoDo_0 y0 y2) (g_Ss_StoDo_0 y0 y2) (fun x => by first | exact bs_StoDo_0 y0 x.1 y2 x.2) n (x := (y1, y3)) (okO_some e1)
    have hx : ∀ r, XT.sel (.br (isL r) (.leaf .ret [(.T 4, .t (.val false [.ptr 4 0 0])), (.T 5, .t (.val false [.ptr 5 0 0])), (.B 4, .b 0 false [.row 4 1 0]), (.R 4 1, .r 0 (some ⟨false, .any, true, 60, (.pair .str (.sl 3 (.int .i64))), (getL r).1⟩)), (.B 5, .b 0 false [.row 5 1 0]), (.R 5 1, .r 0 (some ⟨false, .any, false, 60, (.pair .str (.sl 3 (.int .i64))), (getL r).2⟩))]) (.leaf (.exit 0) [(.T 4, .t (.val false [.ptr 4 0 0])), (.T 5, .t (.val false [.ptr 5 0 0])), (.B 4, .b 0 false [.row 4 1 0]), (.R 4 1, .r 0 (some ⟨false, .any, true, 60, (.pair .str (.sl 3 (.int .i64))), y2⟩)), (.B 5, .b 0 false [.row 5 1 0]), (.R 5 1, .r 0 (some ⟨false, .any, false, 60, (.pair .str (.sl 3 (.int .i64))), (getR r)⟩))])) = xs_StoDo_0 y0 y2 r := fun r => by first | rfl | (rcases r with r | r <;> rfl) | (rcases r with r | r | r <;> rfl) | (rcases r with r | r | r | r <;> rfl)
    have h3 := (hx (valO (g_Ls_StoDo_0 y0 y2 (y1, y3)))).symm.trans h2
    have e3 := congrArg Prod.fst h3
    have e4 := congrArg Prod.snd h3
    simp only at e3 e4
    rw [← e3, ← e4]
    exact key
  · exact .inl ⟨xt, h1, h2⟩)
noncomputable def g_As_StoDo (a0 : List ((ByteArray) × (List (Int)))) (a1 : List ((ByteArray) × ((Bool) × (List (Int))))) : Bool := g_As_StoOk a0 && (!g_Vs_StoOk_0 a0 || g_As_l1Copy a0 && (okO (g_Ls_StoDo_0 a1 [] ((0 : Int), g_Vs_l1Copy_0 a0)) && (isL (valO (g_Ls_StoDo_0 a1 [] ((0 : Int), g_Vs_l1Copy_0 a0))) || g_As_l1Copy (getR (valO (g_Ls_StoDo_0 a1 [] ((0 : Int), g_Vs_l1Copy_0 a0)))))))
noncomputable def g_Vs_StoDo_0 (a0 : List ((ByteArray) × (List (Int)))) (a1 : List ((ByteArray) × ((Bool) × (List (Int))))) : List ((ByteArray) × (List (Int))) := bif !g_Vs_StoOk_0 a0 then [] else bif isL (valO (g_Ls_StoDo_0 a1 [] ((0 : Int), g_Vs_l1Copy_0 a0))) then (getL (valO (g_Ls_StoDo_0 a1 [] ((0 : Int), g_Vs_l1Copy_0 a0)))).1 else g_Vs_l1Copy_0 (getR (valO (g_Ls_StoDo_0 a1 [] ((0 : Int), g_Vs_l1Copy_0 a0))))
noncomputable def Fs_StoDo : FSem := fun ys => match ys with
  | [.val true [.sl .any 60 (.pair .str (.sl 3 (.int .i64))) a0], .val false [.sl .any 50 (.pair .str (.pair .bool (.sl 3 (.int .i64)))) a1]] => some ((g_As_StoDo a0 a1), .val true [.own .any true 60 (.pair .str (.sl 3 (.int .i64))) (g_Vs_StoDo_0 a0 a1)], [])
  | _ => none
theorem vs_StoDo (a0 : List ((ByteArray) × (List (Int)))) (a1 : List ((ByteArray) × ((Bool) × (List (Int))))) : collapseH .std Es_StoDo Os_StoDo_1 (execFn Es_StoDo Go.Proofs.Tryz.f93 mss_StoDo [.val true [.sl .any 60 (.pair .str (.sl 3 (.int .i64))) a0], .val false [.sl .any 50 (.pair .str (.pair .bool (.sl 3 (.int .i64)))) a1]]) = some ((g_As_StoDo a0 a1), .val true [.own .any true 60 (.pair .str (.sl 3 (.int .i64))) (g_Vs_StoDo_0 a0 a1)], []) := by kernel_rfl
theorem ss_StoDo : Sound Go.Proofs.Tryz.prog 93 mss_StoDo Fs_StoDo := by
  refine fn_gen goods_StoDo (by kernel_rfl) .std (fn := Go.Proofs.Tryz.f93) (c := (Go.Proofs.Tryz.f93.body.getD .skip)) (o := Os_StoDo_1) (k := 1) (by kernel_rfl) (by kernel_rfl) (by kernel_rfl) (by kernel_rfl) (by decide) ks_StoDo_1 ?_
  intro ys r outs h
  unfold Fs_StoDo at h
  split at h
  · exact (vs_StoDo _ _).trans h
  · cases h
end Go.Proofs.YtnbcdkbjmpadmaaGreatDoor.E
end
