/- What the functions that are reached do, by the engine: for the proof (laws.FnExactPlcTick): part 3. No conditions. -/
import Derived.Test.YtkjeicijcecmlaaDoorGb
import Derived.Test.YtkjeicijcecmlaaDoorProg
set_option linter.all false
section
namespace Go.Proofs.YtkjeicijcecmlaaDoor.E
open Go
set_option maxRecDepth 100000
set_option maxHeartbeats 0
set_option linter.all false
noncomputable def Ew_szLogNoteS : Env where
  tt := mkTI Go.Proofs.Tryd.prog
  fn := fun f => match f with
    | 47 => some (msw_szLogNote, FSem.wk msw_szLogNote Fw_szLogNote)
    | _ => none
  bxf := fun _ => none
  mv := []
  keep := fun b => match b with
    | 0 => [(0, false), (1, false), (5, false)]
    | _ => []
  keepB := fun b => match b with
    | 0 => []
    | _ => []
  keepX := fun b => match b with
    | 0 => [(1, false), (4, false)]
    | _ => []
  keepXB := fun b => match b with
    | 0 => []
    | _ => []
theorem goodFw_szLogNoteS : ∀ f ms F, Ew_szLogNoteS.fn f = some (ms, F) → Sound Go.Proofs.Tryd.prog f ms F := fun f ms F h => by
  unfold Ew_szLogNoteS at h
  dsimp only at h
  split at h
  · injection h with h; injection h with e1 e2; subst e1 e2; exact Sound.wk sw_szLogNote
  · cases h
theorem goodBw_szLogNoteS : ∀ f ms F, Ew_szLogNoteS.bxf f = some (ms, F) → SoundB Go.Proofs.Tryd.prog f ms F := fun f ms F h => by cases h
theorem goodw_szLogNoteS : Good Go.Proofs.Tryd.prog Ew_szLogNoteS := ⟨rfl, goodFw_szLogNoteS, goodBw_szLogNoteS⟩
noncomputable def Ow_szLogNoteS_0 : Orc := fun _ _ => none
noncomputable def msw_szLogNoteS : List PM := [.rd, .own]
noncomputable def lsw_szLogNoteS : List (Nat × Code) := loopsAll 0 (Go.Proofs.Tryd.f97.body.getD .skip)
noncomputable def cw_szLogNoteS_0 : Code := (loopOf 0 (Go.Proofs.Tryd.f97.body.getD .skip)).getD .skip
theorem lseqw_szLogNoteS : lsw_szLogNoteS = [(0, cw_szLogNoteS_0)] := by kernel_rfl
theorem mw_szLogNoteS_0 : ∀ p, p ∈ lsw_szLogNoteS → p.1 = 0 → p.2 = cw_szLogNoteS_0 := by
  intro p hp
  rw [lseqw_szLogNoteS] at hp
  simp only [List.mem_cons, List.not_mem_nil, or_false] at hp
  subst hp; simp
theorem kw_szLogNoteS_0 : OrcOk Ew_szLogNoteS Ow_szLogNoteS_0 lsw_szLogNoteS 0 := orcOk_none
noncomputable def hw_szLogNoteS_0 (y0 : List ((Int) × ((Int) × ((List (ByteArray)) × (List ((ByteArray) × ((Bool) × (List (Int))))))))) (y1 : Int) (y2 : Int) : List (Pl × LV) := [(.T 0, .t (.val false [.sl .any 74 (.pair (.int .i64) (.pair (.int .i64) (.pair (.sl 9 .str) (.sl 113 (.pair .str (.pair .bool (.sl 3 (.int .i64)))))))) y0])), (.T 1, .t (.val false [.int .i64 y1])), (.T 5, .t (.val false [.int .i64 y2]))]
noncomputable def g_Sw_szLogNoteS_0 (y0 : List ((Int) × ((Int) × ((List (ByteArray)) × (List ((ByteArray) × ((Bool) × (List (Int))))))))) : ((Int) × (Int)) → RT ((Int) × (Int)) (((Int) × (Int)) ⊕ ((Int)))
  | (y1, y2) => .br (true) (.br (decide (y2 < (↑(List.length y0) : Int))) (.br (decide ((0 : Int) ≤ y2 ∧ y2 < (↑(List.length y0) : Int))) (.br (g_Aw_szLogNote (at_ (Ty.pair (Ty.int IntKind.i64) (Ty.pair (Ty.int IntKind.i64) (Ty.pair (Ty.sl (nat_lit 9) Ty.str) (Ty.sl (nat_lit 113) (Ty.pair Ty.str (Ty.pair Ty.bool (Ty.sl (nat_lit 3) (Ty.int IntKind.i64)))))))) y0 (Int.toNat y2)).1 (at_ (Ty.pair (Ty.int IntKind.i64) (Ty.pair (Ty.int IntKind.i64) (Ty.pair (Ty.sl (nat_lit 9) Ty.str) (Ty.sl (nat_lit 113) (Ty.pair Ty.str (Ty.pair Ty.bool (Ty.sl (nat_lit 3) (Ty.int IntKind.i64)))))))) y0 (Int.toNat y2)).2.1 (at_ (Ty.pair (Ty.int IntKind.i64) (Ty.pair (Ty.int IntKind.i64) (Ty.pair (Ty.sl (nat_lit 9) Ty.str) (Ty.sl (nat_lit 113) (Ty.pair Ty.str (Ty.pair Ty.bool (Ty.sl (nat_lit 3) (Ty.int IntKind.i64)))))))) y0 (Int.toNat y2)).2.2.1 (at_ (Ty.pair (Ty.int IntKind.i64) (Ty.pair (Ty.int IntKind.i64) (Ty.pair (Ty.sl (nat_lit 9) Ty.str) (Ty.sl (nat_lit 113) (Ty.pair Ty.str (Ty.pair Ty.bool (Ty.sl (nat_lit 3) (Ty.int IntKind.i64)))))))) y0 (Int.toNat y2)).2.2.2 y1) (.br (true) (.br (decide (g_Vw_szLogNote_0 (at_ (Ty.pair (Ty.int IntKind.i64) (Ty.pair (Ty.int IntKind.i64) (Ty.pair (Ty.sl (nat_lit 9) Ty.str) (Ty.sl (nat_lit 113) (Ty.pair Ty.str (Ty.pair Ty.bool (Ty.sl (nat_lit 3) (Ty.int IntKind.i64)))))))) y0 (Int.toNat y2)).1 (at_ (Ty.pair (Ty.int IntKind.i64) (Ty.pair (Ty.int IntKind.i64) (Ty.pair (Ty.sl (nat_lit 9) Ty.str) (Ty.sl (nat_lit 113) (Ty.pair Ty.str (Ty.pair Ty.bool (Ty.sl (nat_lit 3) (Ty.int IntKind.i64)))))))) y0 (Int.toNat y2)).2.1 (at_ (Ty.pair (Ty.int IntKind.i64) (Ty.pair (Ty.int IntKind.i64) (Ty.pair (Ty.sl (nat_lit 9) Ty.str) (Ty.sl (nat_lit 113) (Ty.pair Ty.str (Ty.pair Ty.bool (Ty.sl (nat_lit 3) (Ty.int IntKind.i64)))))))) y0 (Int.toNat y2)).2.2.1 (at_ (Ty.pair (Ty.int IntKind.i64) (Ty.pair (Ty.int IntKind.i64) (Ty.pair (Ty.sl (nat_lit 9) Ty.str) (Ty.sl (nat_lit 113) (Ty.pair Ty.str (Ty.pair Ty.bool (Ty.sl (nat_lit 3) (Ty.int IntKind.i64)))))))) y0 (Int.toNat y2)).2.2.2 y1 < (0 : Int))) (.out (.inl ((g_Vw_szLogNote_0 (at_ (Ty.pair (Ty.int IntKind.i64) (Ty.pair (Ty.int IntKind.i64) (Ty.pair (Ty.sl (nat_lit 9) Ty.str) (Ty.sl (nat_lit 113) (Ty.pair Ty.str (Ty.pair Ty.bool (Ty.sl (nat_lit 3) (Ty.int IntKind.i64)))))))) y0 (Int.toNat y2)).1 (at_ (Ty.pair (Ty.int IntKind.i64) (Ty.pair (Ty.int IntKind.i64) (Ty.pair (Ty.sl (nat_lit 9) Ty.str) (Ty.sl (nat_lit 113) (Ty.pair Ty.str (Ty.pair Ty.bool (Ty.sl (nat_lit 3) (Ty.int IntKind.i64)))))))) y0 (Int.toNat y2)).2.1 (at_ (Ty.pair (Ty.int IntKind.i64) (Ty.pair (Ty.int IntKind.i64) (Ty.pair (Ty.sl (nat_lit 9) Ty.str) (Ty.sl (nat_lit 113) (Ty.pair Ty.str (Ty.pair Ty.bool (Ty.sl (nat_lit 3) (Ty.int IntKind.i64)))))))) y0 (Int.toNat y2)).2.2.1 (at_ (Ty.pair (Ty.int IntKind.i64) (Ty.pair (Ty.int IntKind.i64) (Ty.pair (Ty.sl (nat_lit 9) Ty.str) (Ty.sl (nat_lit 113) (Ty.pair Ty.str (Ty.pair Ty.bool (Ty.sl (nat_lit 3) (Ty.int IntKind.i64)))))))) y0 (Int.toNat y2)).2.2.2 y1, (-1 : Int))))) (.br (true) (.go ((g_Vw_szLogNote_0 (at_ (Ty.pair (Ty.int IntKind.i64) (Ty.pair (Ty.int IntKind.i64) (Ty.pair (Ty.sl (nat_lit 9) Ty.str) (Ty.sl (nat_lit 113) (Ty.pair Ty.str (Ty.pair Ty.bool (Ty.sl (nat_lit 3) (Ty.int IntKind.i64)))))))) y0 (Int.toNat y2)).1 (at_ (Ty.pair (Ty.int IntKind.i64) (Ty.pair (Ty.int IntKind.i64) (Ty.pair (Ty.sl (nat_lit 9) Ty.str) (Ty.sl (nat_lit 113) (Ty.pair Ty.str (Ty.pair Ty.bool (Ty.sl (nat_lit 3) (Ty.int IntKind.i64)))))))) y0 (Int.toNat y2)).2.1 (at_ (Ty.pair (Ty.int IntKind.i64) (Ty.pair (Ty.int IntKind.i64) (Ty.pair (Ty.sl (nat_lit 9) Ty.str) (Ty.sl (nat_lit 113) (Ty.pair Ty.str (Ty.pair Ty.bool (Ty.sl (nat_lit 3) (Ty.int IntKind.i64)))))))) y0 (Int.toNat y2)).2.2.1 (at_ (Ty.pair (Ty.int IntKind.i64) (Ty.pair (Ty.int IntKind.i64) (Ty.pair (Ty.sl (nat_lit 9) Ty.str) (Ty.sl (nat_lit 113) (Ty.pair Ty.str (Ty.pair Ty.bool (Ty.sl (nat_lit 3) (Ty.int IntKind.i64)))))))) y0 (Int.toNat y2)).2.2.2 y1, IntKind.wrap IntKind.i64 (y2 + (1 : Int))))) (.bad))) (.bad)) (.bad)) (.bad)) (.out (.inr (y1)))) (.bad)
noncomputable def g_Lw_szLogNoteS_0 (y0 : List ((Int) × ((Int) × ((List (ByteArray)) × (List ((ByteArray) × ((Bool) × (List (Int))))))))) (x : (Int) × (Int)) : Option (((Int) × (Int)) ⊕ ((Int))) := loopO (g_Sw_szLogNoteS_0 y0) x
noncomputable def xw_szLogNoteS_0 (y0 : List ((Int) × ((Int) × ((List (ByteArray)) × (List ((ByteArray) × ((Bool) × (List (Int))))))))) : (((Int) × (Int)) ⊕ ((Int))) → Ex × List (Pl × LV) := fun
  | .inl r => (.ret, [(.T 1, .t (.val false [.int .i64 r.1])), (.T 4, .t (.val false [.int .i64 r.2]))])
  | .inr (r) => (.exit 0, [(.T 1, .t (.val false [.int .i64 r])), (.T 4, .t (.val false [.undef]))])
noncomputable def Ow_szLogNoteS_1 : Orc := fun b h => match b, h with
  | 0, [(.T 0, .t (.val false [.sl .any 74 (.pair (.int .i64) (.pair (.int .i64) (.pair (.sl 9 .str) (.sl 113 (.pair .str (.pair .bool (.sl 3 (.int .i64)))))))) y0])), (.T 1, .t (.val false [.int .i64 y1])), (.T 5, .t (.val false [.int .i64 y2]))] => some (okO (g_Lw_szLogNoteS_0 y0 (y1, y2)), (.br (isL (valO (g_Lw_szLogNoteS_0 y0 (y1, y2)))) (.leaf .ret [(.T 1, .t (.val false [.int .i64 (getL (valO (g_Lw_szLogNoteS_0 y0 (y1, y2)))).1])), (.T 4, .t (.val false [.int .i64 (getL (valO (g_Lw_szLogNoteS_0 y0 (y1, y2)))).2]))]) (.leaf (.exit 0) [(.T 1, .t (.val false [.int .i64 (getR (valO (g_Lw_szLogNoteS_0 y0 (y1, y2))))])), (.T 4, .t (.val false [.undef]))])))
  | b, h => Ow_szLogNoteS_0 b h
theorem bw_szLogNoteS_0 (y0 : List ((Int) × ((Int) × ((List (ByteArray)) × (List ((ByteArray) × ((Bool) × (List (Int))))))))) (y1 : Int) (y2 : Int) : Tr.bt Ew_szLogNoteS Ow_szLogNoteS_0 (exec Ew_szLogNoteS 0 cw_szLogNoteS_0 (St.of (hw_szLogNoteS_0 y0 y1 y2)) (leafRd Ew_szLogNoteS 0)) = (g_Sw_szLogNoteS_0 y0 (y1, y2)).bt (fun ((y1, y2) : (Int) × (Int)) => (hw_szLogNoteS_0 y0 y1 y2)) (xw_szLogNoteS_0 y0) := by kernel_rfl
theorem kw_szLogNoteS_1 : OrcOk Ew_szLogNoteS Ow_szLogNoteS_1 lsw_szLogNoteS 1 := orc_add kw_szLogNoteS_0 (fun n p hp h ex h' ho => by
  obtain ⟨b, c⟩ := p
  obtain ⟨xt, h1, h2⟩ := ho
  have h1 : Ow_szLogNoteS_1 b h = some (true, xt) := h1
  unfold Ow_szLogNoteS_1 at h1
  split at h1
  · injection h1 with h1
    injection h1 with e1 e2
    subst e2
    have hc : c = cw_szLogNoteS_0 := mw_szLogNoteS_0 _ hp rfl
    subst hc
    right
    rename_i y0 y1 y2
    have key := LT_step kw_szLogNoteS_0 hp (fun q hq => loopsAll_in _ _ _ _ hp hq) (fun ((y1, y2) : (Int) × (Int)) => (hw_szLogNoteS_0 y0 y1 y2)) (xw_szLogNoteS_0 y0) (g_Sw_szLogNoteS_0 y0) (fun x => by first | exact bw_szLogNoteS_0 y0 x.1 x.2) n (x := (y1, y2)) (okO_some e1)
    have hx : ∀ r, XT.sel (.br (isL r) (.leaf .ret [(.T 1, .t (.val false [.int .i64 (getL r).1])), (.T 4, .t (.val false [.int .i64 (getL r).2]))]) (.leaf (.exit 0) [(.T 1, .t (.val false [.int .i64 (getR r)])), (.T 4, .t (.val false [.undef]))])) = xw_szLogNoteS_0 y0 r := fun r => by first | rfl | (rcases r with r | r <;> rfl) | (rcases r with r | r | r <;> rfl) | (rcases r with r | r | r | r <;> rfl)
    have h3 := (hx (valO (g_Lw_szLogNoteS_0 y0 (y1, y2)))).symm.trans h2
    have e3 := congrArg Prod.fst h3
    have e4 := congrArg Prod.snd h3
    simp only at e3 e4
    rw [← e3, ← e4]
    exact key
  · exact .inl ⟨xt, h1, h2⟩)
noncomputable def g_Aw_szLogNoteS (a0 : List ((Int) × ((Int) × ((List (ByteArray)) × (List ((ByteArray) × ((Bool) × (List (Int))))))))) (a1 : Int) : Bool := decide (IntKind.wrap IntKind.i64 (a1 - (↑(List.length a0) : Int)) < (0 : Int)) || okO (g_Lw_szLogNoteS_0 a0 (IntKind.wrap IntKind.i64 (a1 - (↑(List.length a0) : Int)), (0 : Int)))
noncomputable def g_Vw_szLogNoteS_0 (a0 : List ((Int) × ((Int) × ((List (ByteArray)) × (List ((ByteArray) × ((Bool) × (List (Int))))))))) (a1 : Int) : Int := bif decide (IntKind.wrap IntKind.i64 (a1 - (↑(List.length a0) : Int)) < (0 : Int)) then (-1 : Int) else bif isL (valO (g_Lw_szLogNoteS_0 a0 (IntKind.wrap IntKind.i64 (a1 - (↑(List.length a0) : Int)), (0 : Int)))) then (getL (valO (g_Lw_szLogNoteS_0 a0 (IntKind.wrap IntKind.i64 (a1 - (↑(List.length a0) : Int)), (0 : Int))))).2 else getR (valO (g_Lw_szLogNoteS_0 a0 (IntKind.wrap IntKind.i64 (a1 - (↑(List.length a0) : Int)), (0 : Int))))
noncomputable def Fw_szLogNoteS : FSem := fun ys => match ys with
  | [.val false [.sl .any 74 (.pair (.int .i64) (.pair (.int .i64) (.pair (.sl 9 .str) (.sl 113 (.pair .str (.pair .bool (.sl 3 (.int .i64)))))))) a0], .val false [.int .i64 a1]] => some ((g_Aw_szLogNoteS a0 a1), .val false [.int .i64 (g_Vw_szLogNoteS_0 a0 a1)], [])
  | _ => none
theorem vw_szLogNoteS (a0 : List ((Int) × ((Int) × ((List (ByteArray)) × (List ((ByteArray) × ((Bool) × (List (Int))))))))) (a1 : Int) : collapseH .std Ew_szLogNoteS Ow_szLogNoteS_1 (execFn Ew_szLogNoteS Go.Proofs.Tryd.f97 msw_szLogNoteS [.val false [.sl .any 74 (.pair (.int .i64) (.pair (.int .i64) (.pair (.sl 9 .str) (.sl 113 (.pair .str (.pair .bool (.sl 3 (.int .i64)))))))) a0], .val false [.int .i64 a1]]) = some ((g_Aw_szLogNoteS a0 a1), .val false [.int .i64 (g_Vw_szLogNoteS_0 a0 a1)], []) := by kernel_rfl
theorem sw_szLogNoteS : Sound Go.Proofs.Tryd.prog 97 msw_szLogNoteS Fw_szLogNoteS := by
  refine fn_gen goodw_szLogNoteS (by kernel_rfl) .std (fn := Go.Proofs.Tryd.f97) (c := (Go.Proofs.Tryd.f97.body.getD .skip)) (o := Ow_szLogNoteS_1) (k := 1) (by kernel_rfl) (by kernel_rfl) (by kernel_rfl) (by kernel_rfl) (by decide) kw_szLogNoteS_1 ?_
  intro ys r outs h
  unfold Fw_szLogNoteS at h
  split at h
  · exact (vw_szLogNoteS _ _).trans h
  · cases h
end Go.Proofs.YtkjeicijcecmlaaDoor.E
end
section
namespace Go.Proofs.YtkjeicijcecmlaaDoor.E
open Go
set_option maxRecDepth 100000
set_option maxHeartbeats 0
set_option linter.all false
noncomputable def Ew_szLogDisk : Env where
  tt := mkTI Go.Proofs.Tryd.prog
  fn := fun f => match f with
    | 97 => some (msw_szLogNoteS, FSem.wk msw_szLogNoteS Fw_szLogNoteS)
    | _ => none
  bxf := fun _ => none
  mv := []
  keep := fun _ => []
  keepB := fun _ => []
  keepX := fun _ => []
  keepXB := fun _ => []
theorem goodFw_szLogDisk : ∀ f ms F, Ew_szLogDisk.fn f = some (ms, F) → Sound Go.Proofs.Tryd.prog f ms F := fun f ms F h => by
  unfold Ew_szLogDisk at h
  dsimp only at h
  split at h
  · injection h with h; injection h with e1 e2; subst e1 e2; exact Sound.wk sw_szLogNoteS
  · cases h
theorem goodBw_szLogDisk : ∀ f ms F, Ew_szLogDisk.bxf f = some (ms, F) → SoundB Go.Proofs.Tryd.prog f ms F := fun f ms F h => by cases h
theorem goodw_szLogDisk : Good Go.Proofs.Tryd.prog Ew_szLogDisk := ⟨rfl, goodFw_szLogDisk, goodBw_szLogDisk⟩
noncomputable def Ow_szLogDisk_0 : Orc := fun _ _ => none
noncomputable def msw_szLogDisk : List PM := [.rd, .own]
noncomputable def lsw_szLogDisk : List (Nat × Code) := loopsAll 0 (Go.Proofs.Tryd.f33.body.getD .skip)

theorem kw_szLogDisk_0 : OrcOk Ew_szLogDisk Ow_szLogDisk_0 lsw_szLogDisk 0 := orcOk_none
noncomputable def g_Aw_szLogDisk (a0 : List ((Int) × ((Int) × ((List (ByteArray)) × (List ((ByteArray) × ((Bool) × (List (Int))))))))) (a1 : Int) (a2 : Int) : Bool := g_Aw_szLogNoteS a0 a2 && true
noncomputable def g_Vw_szLogDisk_0 (a0 : List ((Int) × ((Int) × ((List (ByteArray)) × (List ((ByteArray) × ((Bool) × (List (Int))))))))) (a1 : Int) (a2 : Int) : Int := bif decide (g_Vw_szLogNoteS_0 a0 a2 < (0 : Int)) then (-1 : Int) else g_Vw_szLogNoteS_0 a0 a2
noncomputable def Fw_szLogDisk : FSem := fun ys => match ys with
  | [.val true [.sl .any 74 (.pair (.int .i64) (.pair (.int .i64) (.pair (.sl 9 .str) (.sl 113 (.pair .str (.pair .bool (.sl 3 (.int .i64)))))))) a0, .int .i64 a1], .val false [.int .i64 a2]] => some ((g_Aw_szLogDisk a0 a1 a2), .val false [.int .i64 (g_Vw_szLogDisk_0 a0 a1 a2)], [])
  | _ => none
theorem vw_szLogDisk (a0 : List ((Int) × ((Int) × ((List (ByteArray)) × (List ((ByteArray) × ((Bool) × (List (Int))))))))) (a1 : Int) (a2 : Int) : collapseH .std Ew_szLogDisk Ow_szLogDisk_0 (execFn Ew_szLogDisk Go.Proofs.Tryd.f33 msw_szLogDisk [.val true [.sl .any 74 (.pair (.int .i64) (.pair (.int .i64) (.pair (.sl 9 .str) (.sl 113 (.pair .str (.pair .bool (.sl 3 (.int .i64)))))))) a0, .int .i64 a1], .val false [.int .i64 a2]]) = some ((g_Aw_szLogDisk a0 a1 a2), .val false [.int .i64 (g_Vw_szLogDisk_0 a0 a1 a2)], []) := by kernel_rfl
theorem sw_szLogDisk : Sound Go.Proofs.Tryd.prog 33 msw_szLogDisk Fw_szLogDisk := by
  refine fn_gen goodw_szLogDisk (by kernel_rfl) .std (fn := Go.Proofs.Tryd.f33) (c := (Go.Proofs.Tryd.f33.body.getD .skip)) (o := Ow_szLogDisk_0) (k := 0) (by kernel_rfl) (by kernel_rfl) (by kernel_rfl) (by kernel_rfl) (by decide) kw_szLogDisk_0 ?_
  intro ys r outs h
  unfold Fw_szLogDisk at h
  split at h
  · exact (vw_szLogDisk _ _ _).trans h
  · cases h
end Go.Proofs.YtkjeicijcecmlaaDoor.E
end
section
namespace Go.Proofs.YtkjeicijcecmlaaDoor.E
open Go
set_option maxRecDepth 100000
set_option maxHeartbeats 0
set_option linter.all false
noncomputable def Ew_toIntS : Env where
  tt := mkTI Go.Proofs.Tryd.prog
  fn := fun _ => none
  bxf := fun _ => none
  mv := []
  keep := fun b => match b with
    | 0 => [(0, false), (3, false), (4, false)]
    | _ => []
  keepB := fun b => match b with
    | 0 => []
    | _ => []
  keepX := fun b => match b with
    | 0 => [(3, false)]
    | _ => []
  keepXB := fun b => match b with
    | 0 => []
    | _ => []
theorem goodFw_toIntS : ∀ f ms F, Ew_toIntS.fn f = some (ms, F) → Sound Go.Proofs.Tryd.prog f ms F := fun f ms F h => by cases h
theorem goodBw_toIntS : ∀ f ms F, Ew_toIntS.bxf f = some (ms, F) → SoundB Go.Proofs.Tryd.prog f ms F := fun f ms F h => by cases h
theorem goodw_toIntS : Good Go.Proofs.Tryd.prog Ew_toIntS := ⟨rfl, goodFw_toIntS, goodBw_toIntS⟩
noncomputable def Ow_toIntS_0 : Orc := fun _ _ => none
noncomputable def msw_toIntS : List PM := [.rd]
noncomputable def lsw_toIntS : List (Nat × Code) := loopsAll 0 (Go.Proofs.Tryd.f143.body.getD .skip)
noncomputable def cw_toIntS_0 : Code := (loopOf 0 (Go.Proofs.Tryd.f143.body.getD .skip)).getD .skip
theorem lseqw_toIntS : lsw_toIntS = [(0, cw_toIntS_0)] := by kernel_rfl
theorem mw_toIntS_0 : ∀ p, p ∈ lsw_toIntS → p.1 = 0 → p.2 = cw_toIntS_0 := by
  intro p hp
  rw [lseqw_toIntS] at hp
  simp only [List.mem_cons, List.not_mem_nil, or_false] at hp
  subst hp; simp
theorem kw_toIntS_0 : OrcOk Ew_toIntS Ow_toIntS_0 lsw_toIntS 0 := orcOk_none
noncomputable def hw_toIntS_0 (y0 : List (Int)) (y1 : List (Int)) (y2 : Int) : List (Pl × LV) := [(.T 0, .t (.val false [.sl .any 3 (.int .i64) y0])), (.T 3, .t (.val false [.row 3 0 0])), (.R 3 0, .r 0 (some ⟨false, .non, true, 3, (.int .i64), y1⟩)), (.T 4, .t (.val false [.int .i64 y2]))]
noncomputable def g_Sw_toIntS_0 (y0 : List (Int)) : ((List (Int)) × (Int)) → RT ((List (Int)) × (Int)) (((List (Int))))
  | (y1, y2) => .br (true) (.br (decide (y2 < (↑(List.length y0) : Int))) (.br (decide ((0 : Int) ≤ y2 ∧ y2 < (↑(List.length y0) : Int))) (.br (decide ((0 : Int) ≤ y2 ∧ y2 < (↑(List.length y1) : Int))) (.br (decide (Int.toNat y2 < List.length y1)) (.br (true) (.go ((List.set y1 (Int.toNat y2) (at_ (Ty.int IntKind.i64) y0 (Int.toNat y2)), IntKind.wrap IntKind.i64 (y2 + (1 : Int))))) (.bad)) (.bad)) (.bad)) (.bad)) (.out (y1))) (.bad)
noncomputable def g_Lw_toIntS_0 (y0 : List (Int)) (x : (List (Int)) × (Int)) : Option (((List (Int)))) := loopO (g_Sw_toIntS_0 y0) x
noncomputable def xw_toIntS_0 (y0 : List (Int)) : (((List (Int)))) → Ex × List (Pl × LV) := fun r => (.exit 0, [(.T 3, .t (.val false [.row 3 0 0])), (.R 3 0, .r 0 (some ⟨false, .non, true, 3, (.int .i64), r⟩))])
noncomputable def Ow_toIntS_1 : Orc := fun b h => match b, h with
  | 0, [(.T 0, .t (.val false [.sl .any 3 (.int .i64) y0])), (.T 3, .t (.val false [.row 3 0 0])), (.R 3 0, .r 0 (some ⟨false, .non, true, 3, (.int .i64), y1⟩)), (.T 4, .t (.val false [.int .i64 y2]))] => some (okO (g_Lw_toIntS_0 y0 (y1, y2)), (.leaf (.exit 0) [(.T 3, .t (.val false [.row 3 0 0])), (.R 3 0, .r 0 (some ⟨false, .non, true, 3, (.int .i64), (valO (g_Lw_toIntS_0 y0 (y1, y2)))⟩))]))
  | b, h => Ow_toIntS_0 b h
theorem bw_toIntS_0 (y0 : List (Int)) (y1 : List (Int)) (y2 : Int) : Tr.bt Ew_toIntS Ow_toIntS_0 (exec Ew_toIntS 0 cw_toIntS_0 (St.of (hw_toIntS_0 y0 y1 y2)) (leafRd Ew_toIntS 0)) = (g_Sw_toIntS_0 y0 (y1, y2)).bt (fun ((y1, y2) : (List (Int)) × (Int)) => (hw_toIntS_0 y0 y1 y2)) (xw_toIntS_0 y0) := by kernel_rfl
theorem kw_toIntS_1 : OrcOk Ew_toIntS Ow_toIntS_1 lsw_toIntS 1 := orc_add kw_toIntS_0 (fun n p hp h ex h' ho => by
  obtain ⟨b, c⟩ := p
  obtain ⟨xt, h1, h2⟩ := ho
  have h1 : Ow_toIntS_1 b h = some (true, xt) := h1
  unfold Ow_toIntS_1 at h1
  split at h1
  · injection h1 with h1
    injection h1 with e1 e2
    subst e2
    have hc : c = cw_toIntS_0 := mw_toIntS_0 _ hp rfl
    subst hc
    right
    rename_i y0 y1 y2
    have key := LT_step kw_toIntS_0 hp (fun q hq => loopsAll_in _ _ _ _ hp hq) (fun ((y1, y2) : (List (Int)) × (Int)) => (hw_toIntS_0 y0 y1 y2)) (xw_toIntS_0 y0) (g_Sw_toIntS_0 y0) (fun x => by first | exact bw_toIntS_0 y0 x.1 x.2) n (x := (y1, y2)) (okO_some e1)
    have hx : ∀ r, XT.sel (.leaf (.exit 0) [(.T 3, .t (.val false [.row 3 0 0])), (.R 3 0, .r 0 (some ⟨false, .non, true, 3, (.int .i64), r⟩))]) = xw_toIntS_0 y0 r := fun r => by first | rfl | (rcases r with r | r <;> rfl) | (rcases r with r | r | r <;> rfl) | (rcases r with r | r | r | r <;> rfl)
    have h3 := (hx (valO (g_Lw_toIntS_0 y0 (y1, y2)))).symm.trans h2
    have e3 := congrArg Prod.fst h3
    have e4 := congrArg Prod.snd h3
    simp only at e3 e4
    rw [← e3, ← e4]
    exact key
  · exact .inl ⟨xt, h1, h2⟩)
noncomputable def g_Aw_toIntS (a0 : List (Int)) : Bool := decide ((↑(List.length a0) : Int) = (↑(List.length a0) : Int) ∧ (0 : Int) ≤ (↑(List.length a0) : Int) ∧ (↑(List.length a0) : Int) ≤ (9223372036854775807 : Int) ∧ (8 : Int) * (↑(List.length a0) : Int) ≤ (281474976710656 : Int)) && okO (g_Lw_toIntS_0 a0 (List.replicate (Int.toNat (↑(List.length a0) : Int)) (0 : Int), (0 : Int)))
noncomputable def g_Vw_toIntS_0 (a0 : List (Int)) : List (Int) := valO (g_Lw_toIntS_0 a0 (List.replicate (Int.toNat (↑(List.length a0) : Int)) (0 : Int), (0 : Int)))
noncomputable def Fw_toIntS : FSem := fun ys => match ys with
  | [.val false [.sl .any 3 (.int .i64) a0]] => some ((g_Aw_toIntS a0), .val false [.own .any true 3 (.int .i64) (g_Vw_toIntS_0 a0)], [])
  | _ => none
theorem vw_toIntS (a0 : List (Int)) : collapseH .std Ew_toIntS Ow_toIntS_1 (execFn Ew_toIntS Go.Proofs.Tryd.f143 msw_toIntS [.val false [.sl .any 3 (.int .i64) a0]]) = some ((g_Aw_toIntS a0), .val false [.own .any true 3 (.int .i64) (g_Vw_toIntS_0 a0)], []) := by kernel_rfl
theorem sw_toIntS : Sound Go.Proofs.Tryd.prog 143 msw_toIntS Fw_toIntS := by
  refine fn_gen goodw_toIntS (by kernel_rfl) .std (fn := Go.Proofs.Tryd.f143) (c := (Go.Proofs.Tryd.f143.body.getD .skip)) (o := Ow_toIntS_1) (k := 1) (by kernel_rfl) (by kernel_rfl) (by kernel_rfl) (by kernel_rfl) (by decide) kw_toIntS_1 ?_
  intro ys r outs h
  unfold Fw_toIntS at h
  split at h
  · exact (vw_toIntS _).trans h
  · cases h
end Go.Proofs.YtkjeicijcecmlaaDoor.E
end
section
namespace Go.Proofs.YtkjeicijcecmlaaDoor.E
open Go
set_option maxRecDepth 100000
set_option maxHeartbeats 0
set_option linter.all false
noncomputable def Ew_toStoWrite : Env where
  tt := mkTI Go.Proofs.Tryd.prog
  fn := fun f => match f with
    | 143 => some (msw_toIntS, FSem.wk msw_toIntS Fw_toIntS)
    | _ => none
  bxf := fun _ => none
  mv := []
  keep := fun _ => []
  keepB := fun _ => []
  keepX := fun _ => []
  keepXB := fun _ => []
theorem goodFw_toStoWrite : ∀ f ms F, Ew_toStoWrite.fn f = some (ms, F) → Sound Go.Proofs.Tryd.prog f ms F := fun f ms F h => by
  unfold Ew_toStoWrite at h
  dsimp only at h
  split at h
  · injection h with h; injection h with e1 e2; subst e1 e2; exact Sound.wk sw_toIntS
  · cases h
theorem goodBw_toStoWrite : ∀ f ms F, Ew_toStoWrite.bxf f = some (ms, F) → SoundB Go.Proofs.Tryd.prog f ms F := fun f ms F h => by cases h
theorem goodw_toStoWrite : Good Go.Proofs.Tryd.prog Ew_toStoWrite := ⟨rfl, goodFw_toStoWrite, goodBw_toStoWrite⟩
noncomputable def Ow_toStoWrite_0 : Orc := fun _ _ => none
noncomputable def msw_toStoWrite : List PM := [.rd]
noncomputable def lsw_toStoWrite : List (Nat × Code) := loopsAll 0 (Go.Proofs.Tryd.f91.body.getD .skip)

theorem kw_toStoWrite_0 : OrcOk Ew_toStoWrite Ow_toStoWrite_0 lsw_toStoWrite 0 := orcOk_none
noncomputable def g_Aw_toStoWrite (a0 : ByteArray) (a1 : Bool) (a2 : List (Int)) : Bool := g_Aw_toIntS a2
noncomputable def Fw_toStoWrite : FSem := fun ys => match ys with
  | [.val true [.str a0, .bool a1, .sl .any 3 (.int .i64) a2]] => some ((g_Aw_toStoWrite a0 a1 a2), .val true [.str a0, .bool a1, .own .any true 3 (.int .i64) (g_Vw_toIntS_0 a2)], [])
  | _ => none
theorem vw_toStoWrite (a0 : ByteArray) (a1 : Bool) (a2 : List (Int)) : collapseH .std Ew_toStoWrite Ow_toStoWrite_0 (execFn Ew_toStoWrite Go.Proofs.Tryd.f91 msw_toStoWrite [.val true [.str a0, .bool a1, .sl .any 3 (.int .i64) a2]]) = some ((g_Aw_toStoWrite a0 a1 a2), .val true [.str a0, .bool a1, .own .any true 3 (.int .i64) (g_Vw_toIntS_0 a2)], []) := by kernel_rfl
theorem sw_toStoWrite : Sound Go.Proofs.Tryd.prog 91 msw_toStoWrite Fw_toStoWrite := by
  refine fn_gen goodw_toStoWrite (by kernel_rfl) .std (fn := Go.Proofs.Tryd.f91) (c := (Go.Proofs.Tryd.f91.body.getD .skip)) (o := Ow_toStoWrite_0) (k := 0) (by kernel_rfl) (by kernel_rfl) (by kernel_rfl) (by kernel_rfl) (by decide) kw_toStoWrite_0 ?_
  intro ys r outs h
  unfold Fw_toStoWrite at h
  split at h
  · exact (vw_toStoWrite _ _ _).trans h
  · cases h
end Go.Proofs.YtkjeicijcecmlaaDoor.E
end
section
namespace Go.Proofs.YtkjeicijcecmlaaDoor.E
open Go
set_option maxRecDepth 100000
set_option maxHeartbeats 0
set_option linter.all false
noncomputable def Ew_toStoWriteS : Env where
  tt := mkTI Go.Proofs.Tryd.prog
  fn := fun f => match f with
    | 91 => some (msw_toStoWrite, FSem.wk msw_toStoWrite Fw_toStoWrite)
    | _ => none
  bxf := fun _ => none
  mv := []
  keep := fun b => match b with
    | 0 => [(0, false), (3, false), (4, false)]
    | _ => []
  keepB := fun b => match b with
    | 0 => []
    | _ => []
  keepX := fun b => match b with
    | 0 => [(3, false)]
    | _ => []
  keepXB := fun b => match b with
    | 0 => []
    | _ => []
theorem goodFw_toStoWriteS : ∀ f ms F, Ew_toStoWriteS.fn f = some (ms, F) → Sound Go.Proofs.Tryd.prog f ms F := fun f ms F h => by
  unfold Ew_toStoWriteS at h
  dsimp only at h
  split at h
  · injection h with h; injection h with e1 e2; subst e1 e2; exact Sound.wk sw_toStoWrite
  · cases h
theorem goodBw_toStoWriteS : ∀ f ms F, Ew_toStoWriteS.bxf f = some (ms, F) → SoundB Go.Proofs.Tryd.prog f ms F := fun f ms F h => by cases h
theorem goodw_toStoWriteS : Good Go.Proofs.Tryd.prog Ew_toStoWriteS := ⟨rfl, goodFw_toStoWriteS, goodBw_toStoWriteS⟩
noncomputable def Ow_toStoWriteS_0 : Orc := fun _ _ => none
noncomputable def msw_toStoWriteS : List PM := [.rd]
noncomputable def lsw_toStoWriteS : List (Nat × Code) := loopsAll 0 (Go.Proofs.Tryd.f27.body.getD .skip)
noncomputable def cw_toStoWriteS_0 : Code := (loopOf 0 (Go.Proofs.Tryd.f27.body.getD .skip)).getD .skip
theorem lseqw_toStoWriteS : lsw_toStoWriteS = [(0, cw_toStoWriteS_0)] := by kernel_rfl
theorem mw_toStoWriteS_0 : ∀ p, p ∈ lsw_toStoWriteS → p.1 = 0 → p.2 = cw_toStoWriteS_0 := by
  intro p hp
  rw [lseqw_toStoWriteS] at hp
  simp only [List.mem_cons, List.not_mem_nil, or_false] at hp
  subst hp; simp
theorem kw_toStoWriteS_0 : OrcOk Ew_toStoWriteS Ow_toStoWriteS_0 lsw_toStoWriteS 0 := orcOk_none
noncomputable def hw_toStoWriteS_0 (y0 : List ((ByteArray) × ((Bool) × (List (Int))))) (y1 : List ((ByteArray) × ((Bool) × (List (Int))))) (y2 : Int) : List (Pl × LV) := [(.T 0, .t (.val false [.sl .any 113 (.pair .str (.pair .bool (.sl 3 (.int .i64)))) y0])), (.T 3, .t (.val false [.row 3 0 0])), (.R 3 0, .r 0 (some ⟨false, .non, true, 38, (.pair .str (.pair .bool (.sl 3 (.int .i64)))), y1⟩)), (.T 4, .t (.val false [.int .i64 y2]))]
noncomputable def g_Sw_toStoWriteS_0 (y0 : List ((ByteArray) × ((Bool) × (List (Int))))) : ((List ((ByteArray) × ((Bool) × (List (Int))))) × (Int)) → RT ((List ((ByteArray) × ((Bool) × (List (Int))))) × (Int)) (((List ((ByteArray) × ((Bool) × (List (Int)))))))
  | (y1, y2) => .br (true) (.br (decide (y2 < (↑(List.length y0) : Int))) (.br (decide ((0 : Int) ≤ y2 ∧ y2 < (↑(List.length y0) : Int))) (.br (g_Aw_toStoWrite (at_ (Ty.pair Ty.str (Ty.pair Ty.bool (Ty.sl (nat_lit 3) (Ty.int IntKind.i64)))) y0 (Int.toNat y2)).1 (at_ (Ty.pair Ty.str (Ty.pair Ty.bool (Ty.sl (nat_lit 3) (Ty.int IntKind.i64)))) y0 (Int.toNat y2)).2.1 (at_ (Ty.pair Ty.str (Ty.pair Ty.bool (Ty.sl (nat_lit 3) (Ty.int IntKind.i64)))) y0 (Int.toNat y2)).2.2) (.br (decide ((0 : Int) ≤ y2 ∧ y2 < (↑(List.length y1) : Int))) (.br (decide (Int.toNat y2 < List.length y1)) (.br (true) (.go ((List.set y1 (Int.toNat y2) ((at_ (Ty.pair Ty.str (Ty.pair Ty.bool (Ty.sl (nat_lit 3) (Ty.int IntKind.i64)))) y0 (Int.toNat y2)).1, (at_ (Ty.pair Ty.str (Ty.pair Ty.bool (Ty.sl (nat_lit 3) (Ty.int IntKind.i64)))) y0 (Int.toNat y2)).2.1, g_Vw_toIntS_0 (at_ (Ty.pair Ty.str (Ty.pair Ty.bool (Ty.sl (nat_lit 3) (Ty.int IntKind.i64)))) y0 (Int.toNat y2)).2.2), IntKind.wrap IntKind.i64 (y2 + (1 : Int))))) (.bad)) (.bad)) (.bad)) (.bad)) (.bad)) (.out (y1))) (.bad)
noncomputable def g_Lw_toStoWriteS_0 (y0 : List ((ByteArray) × ((Bool) × (List (Int))))) (x : (List ((ByteArray) × ((Bool) × (List (Int))))) × (Int)) : Option (((List ((ByteArray) × ((Bool) × (List (Int))))))) := loopO (g_Sw_toStoWriteS_0 y0) x
noncomputable def xw_toStoWriteS_0 (y0 : List ((ByteArray) × ((Bool) × (List (Int))))) : (((List ((ByteArray) × ((Bool) × (List (Int))))))) → Ex × List (Pl × LV) := fun r => (.exit 0, [(.T 3, .t (.val false [.row 3 0 0])), (.R 3 0, .r 0 (some ⟨false, .non, true, 38, (.pair .str (.pair .bool (.sl 3 (.int .i64)))), r⟩))])
noncomputable def Ow_toStoWriteS_1 : Orc := fun b h => match b, h with
  | 0, [(.T 0, .t (.val false [.sl .any 113 (.pair .str (.pair .bool (.sl 3 (.int .i64)))) y0])), (.T 3, .t (.val false [.row 3 0 0])), (.R 3 0, .r 0 (some ⟨false, .non, true, 38, (.pair .str (.pair .bool (.sl 3 (.int .i64)))), y1⟩)), (.T 4, .t (.val false [.int .i64 y2]))] => some (okO (g_Lw_toStoWriteS_0 y0 (y1, y2)), (.leaf (.exit 0) [(.T 3, .t (.val false [.row 3 0 0])), (.R 3 0, .r 0 (some ⟨false, .non, true, 38, (.pair .str (.pair .bool (.sl 3 (.int .i64)))), (valO (g_Lw_toStoWriteS_0 y0 (y1, y2)))⟩))]))
  | b, h => Ow_toStoWriteS_0 b h
theorem bw_toStoWriteS_0 (y0 : List ((ByteArray) × ((Bool) × (List (Int))))) (y1 : List ((ByteArray) × ((Bool) × (List (Int))))) (y2 : Int) : Tr.bt Ew_toStoWriteS Ow_toStoWriteS_0 (exec Ew_toStoWriteS 0 cw_toStoWriteS_0 (St.of (hw_toStoWriteS_0 y0 y1 y2)) (leafRd Ew_toStoWriteS 0)) = (g_Sw_toStoWriteS_0 y0 (y1, y2)).bt (fun ((y1, y2) : (List ((ByteArray) × ((Bool) × (List (Int))))) × (Int)) => (hw_toStoWriteS_0 y0 y1 y2)) (xw_toStoWriteS_0 y0) := by kernel_rfl
theorem kw_toStoWriteS_1 : OrcOk Ew_toStoWriteS Ow_toStoWriteS_1 lsw_toStoWriteS 1 := orc_add kw_toStoWriteS_0 (fun n p hp h ex h' ho => by
  obtain ⟨b, c⟩ := p
  obtain ⟨xt, h1, h2⟩ := ho
  have h1 : Ow_toStoWriteS_1 b h = some (true, xt) := h1
  unfold Ow_toStoWriteS_1 at h1
  split at h1
  · injection h1 with h1
    injection h1 with e1 e2
    subst e2
    have hc : c = cw_toStoWriteS_0 := mw_toStoWriteS_0 _ hp rfl
    subst hc
    right
    rename_i y0 y1 y2
    have key := LT_step kw_toStoWriteS_0 hp (fun q hq => loopsAll_in _ _ _ _ hp hq) (fun ((y1, y2) : (List ((ByteArray) × ((Bool) × (List (Int))))) × (Int)) => (hw_toStoWriteS_0 y0 y1 y2)) (xw_toStoWriteS_0 y0) (g_Sw_toStoWriteS_0 y0) (fun x => by first | exact bw_toStoWriteS_0 y0 x.1 x.2) n (x := (y1, y2)) (okO_some e1)
    have hx : ∀ r, XT.sel (.leaf (.exit 0) [(.T 3, .t (.val false [.row 3 0 0])), (.R 3 0, .r 0 (some ⟨false, .non, true, 38, (.pair .str (.pair .bool (.sl 3 (.int .i64)))), r⟩))]) = xw_toStoWriteS_0 y0 r := fun r => by first | rfl | (rcases r with r | r <;> rfl) | (rcases r with r | r | r <;> rfl) | (rcases r with r | r | r | r <;> rfl)
    have h3 := (hx (valO (g_Lw_toStoWriteS_0 y0 (y1, y2)))).symm.trans h2
    have e3 := congrArg Prod.fst h3
    have e4 := congrArg Prod.snd h3
    simp only at e3 e4
    rw [← e3, ← e4]
    exact key
  · exact .inl ⟨xt, h1, h2⟩)
noncomputable def g_Aw_toStoWriteS (a0 : List ((ByteArray) × ((Bool) × (List (Int))))) : Bool := decide ((↑(List.length a0) : Int) = (↑(List.length a0) : Int) ∧ (0 : Int) ≤ (↑(List.length a0) : Int) ∧ (↑(List.length a0) : Int) ≤ (9223372036854775807 : Int) ∧ (48 : Int) * (↑(List.length a0) : Int) ≤ (281474976710656 : Int)) && okO (g_Lw_toStoWriteS_0 a0 (List.replicate (Int.toNat (↑(List.length a0) : Int)) (lit [], false, []), (0 : Int)))
noncomputable def g_Vw_toStoWriteS_0 (a0 : List ((ByteArray) × ((Bool) × (List (Int))))) : List ((ByteArray) × ((Bool) × (List (Int)))) := valO (g_Lw_toStoWriteS_0 a0 (List.replicate (Int.toNat (↑(List.length a0) : Int)) (lit [], false, []), (0 : Int)))
noncomputable def Fw_toStoWriteS : FSem := fun ys => match ys with
  | [.val false [.sl .any 113 (.pair .str (.pair .bool (.sl 3 (.int .i64)))) a0]] => some ((g_Aw_toStoWriteS a0), .val false [.own .any true 38 (.pair .str (.pair .bool (.sl 3 (.int .i64)))) (g_Vw_toStoWriteS_0 a0)], [])
  | _ => none
theorem vw_toStoWriteS (a0 : List ((ByteArray) × ((Bool) × (List (Int))))) : collapseH .std Ew_toStoWriteS Ow_toStoWriteS_1 (execFn Ew_toStoWriteS Go.Proofs.Tryd.f27 msw_toStoWriteS [.val false [.sl .any 113 (.pair .str (.pair .bool (.sl 3 (.int .i64)))) a0]]) = some ((g_Aw_toStoWriteS a0), .val false [.own .any true 38 (.pair .str (.pair .bool (.sl 3 (.int .i64)))) (g_Vw_toStoWriteS_0 a0)], []) := by kernel_rfl
theorem sw_toStoWriteS : Sound Go.Proofs.Tryd.prog 27 msw_toStoWriteS Fw_toStoWriteS := by
  refine fn_gen goodw_toStoWriteS (by kernel_rfl) .std (fn := Go.Proofs.Tryd.f27) (c := (Go.Proofs.Tryd.f27.body.getD .skip)) (o := Ow_toStoWriteS_1) (k := 1) (by kernel_rfl) (by kernel_rfl) (by kernel_rfl) (by kernel_rfl) (by decide) kw_toStoWriteS_1 ?_
  intro ys r outs h
  unfold Fw_toStoWriteS at h
  split at h
  · exact (vw_toStoWriteS _).trans h
  · cases h
end Go.Proofs.YtkjeicijcecmlaaDoor.E
end
section
namespace Go.Proofs.YtkjeicijcecmlaaDoor.E
open Go
set_option maxRecDepth 100000
set_option maxHeartbeats 0
set_option linter.all false
noncomputable def Ew_toStringS : Env where
  tt := mkTI Go.Proofs.Tryd.prog
  fn := fun _ => none
  bxf := fun _ => none
  mv := []
  keep := fun b => match b with
    | 0 => [(0, false), (3, false), (4, false)]
    | _ => []
  keepB := fun b => match b with
    | 0 => []
    | _ => []
  keepX := fun b => match b with
    | 0 => [(3, false)]
    | _ => []
  keepXB := fun b => match b with
    | 0 => []
    | _ => []
theorem goodFw_toStringS : ∀ f ms F, Ew_toStringS.fn f = some (ms, F) → Sound Go.Proofs.Tryd.prog f ms F := fun f ms F h => by cases h
theorem goodBw_toStringS : ∀ f ms F, Ew_toStringS.bxf f = some (ms, F) → SoundB Go.Proofs.Tryd.prog f ms F := fun f ms F h => by cases h
theorem goodw_toStringS : Good Go.Proofs.Tryd.prog Ew_toStringS := ⟨rfl, goodFw_toStringS, goodBw_toStringS⟩
noncomputable def Ow_toStringS_0 : Orc := fun _ _ => none
noncomputable def msw_toStringS : List PM := [.rd]
noncomputable def lsw_toStringS : List (Nat × Code) := loopsAll 0 (Go.Proofs.Tryd.f112.body.getD .skip)
noncomputable def cw_toStringS_0 : Code := (loopOf 0 (Go.Proofs.Tryd.f112.body.getD .skip)).getD .skip
theorem lseqw_toStringS : lsw_toStringS = [(0, cw_toStringS_0)] := by kernel_rfl
theorem mw_toStringS_0 : ∀ p, p ∈ lsw_toStringS → p.1 = 0 → p.2 = cw_toStringS_0 := by
  intro p hp
  rw [lseqw_toStringS] at hp
  simp only [List.mem_cons, List.not_mem_nil, or_false] at hp
  subst hp; simp
theorem kw_toStringS_0 : OrcOk Ew_toStringS Ow_toStringS_0 lsw_toStringS 0 := orcOk_none
noncomputable def hw_toStringS_0 (y0 : List (ByteArray)) (y1 : List (ByteArray)) (y2 : Int) : List (Pl × LV) := [(.T 0, .t (.val false [.sl .any 9 .str y0])), (.T 3, .t (.val false [.row 3 0 0])), (.R 3 0, .r 0 (some ⟨false, .non, true, 9, .str, y1⟩)), (.T 4, .t (.val false [.int .i64 y2]))]
noncomputable def g_Sw_toStringS_0 (y0 : List (ByteArray)) : ((List (ByteArray)) × (Int)) → RT ((List (ByteArray)) × (Int)) (((List (ByteArray))))
  | (y1, y2) => .br (true) (.br (decide (y2 < (↑(List.length y0) : Int))) (.br (decide ((0 : Int) ≤ y2 ∧ y2 < (↑(List.length y0) : Int))) (.br (decide ((0 : Int) ≤ y2 ∧ y2 < (↑(List.length y1) : Int))) (.br (decide (Int.toNat y2 < List.length y1)) (.br (true) (.go ((List.set y1 (Int.toNat y2) (at_ Ty.str y0 (Int.toNat y2)), IntKind.wrap IntKind.i64 (y2 + (1 : Int))))) (.bad)) (.bad)) (.bad)) (.bad)) (.out (y1))) (.bad)
noncomputable def g_Lw_toStringS_0 (y0 : List (ByteArray)) (x : (List (ByteArray)) × (Int)) : Option (((List (ByteArray)))) := loopO (g_Sw_toStringS_0 y0) x
noncomputable def xw_toStringS_0 (y0 : List (ByteArray)) : (((List (ByteArray)))) → Ex × List (Pl × LV) := fun r => (.exit 0, [(.T 3, .t (.val false [.row 3 0 0])), (.R 3 0, .r 0 (some ⟨false, .non, true, 9, .str, r⟩))])
noncomputable def Ow_toStringS_1 : Orc := fun b h => match b, h with
  | 0, [(.T 0, .t (.val false [.sl .any 9 .str y0])), (.T 3, .t (.val false [.row 3 0 0])), (.R 3 0, .r 0 (some ⟨false, .non, true, 9, .str, y1⟩)), (.T 4, .t (.val false [.int .i64 y2]))] => some (okO (g_Lw_toStringS_0 y0 (y1, y2)), (.leaf (.exit 0) [(.T 3, .t (.val false [.row 3 0 0])), (.R 3 0, .r 0 (some ⟨false, .non, true, 9, .str, (valO (g_Lw_toStringS_0 y0 (y1, y2)))⟩))]))
  | b, h => Ow_toStringS_0 b h
theorem bw_toStringS_0 (y0 : List (ByteArray)) (y1 : List (ByteArray)) (y2 : Int) : Tr.bt Ew_toStringS Ow_toStringS_0 (exec Ew_toStringS 0 cw_toStringS_0 (St.of (hw_toStringS_0 y0 y1 y2)) (leafRd Ew_toStringS 0)) = (g_Sw_toStringS_0 y0 (y1, y2)).bt (fun ((y1, y2) : (List (ByteArray)) × (Int)) => (hw_toStringS_0 y0 y1 y2)) (xw_toStringS_0 y0) := by kernel_rfl
theorem kw_toStringS_1 : OrcOk Ew_toStringS Ow_toStringS_1 lsw_toStringS 1 := orc_add kw_toStringS_0 (fun n p hp h ex h' ho => by
  obtain ⟨b, c⟩ := p
  obtain ⟨xt, h1, h2⟩ := ho
  have h1 : Ow_toStringS_1 b h = some (true, xt) := h1
  unfold Ow_toStringS_1 at h1
  split at h1
  · injection h1 with h1
    injection h1 with e1 e2
    subst e2
    have hc : c = cw_toStringS_0 := mw_toStringS_0 _ hp rfl
    subst hc
    right
    rename_i y0 y1 y2
    have key := LT_step kw_toStringS_0 hp (fun q hq => loopsAll_in _ _ _ _ hp hq) (fun ((y1, y2) : (List (ByteArray)) × (Int)) => (hw_toStringS_0 y0 y1 y2)) (xw_toStringS_0 y0) (g_Sw_toStringS_0 y0) (fun x => by first | exact bw_toStringS_0 y0 x.1 x.2) n (x := (y1, y2)) (okO_some e1)
    have hx : ∀ r, XT.sel (.leaf (.exit 0) [(.T 3, .t (.val false [.row 3 0 0])), (.R 3 0, .r 0 (some ⟨false, .non, true, 9, .str, r⟩))]) = xw_toStringS_0 y0 r := fun r => by first | rfl | (rcases r with r | r <;> rfl) | (rcases r with r | r | r <;> rfl) | (rcases r with r | r | r | r <;> rfl)
    have h3 := (hx (valO (g_Lw_toStringS_0 y0 (y1, y2)))).symm.trans h2
    have e3 := congrArg Prod.fst h3
    have e4 := congrArg Prod.snd h3
    simp only at e3 e4
    rw [← e3, ← e4]
    exact key
  · exact .inl ⟨xt, h1, h2⟩)
noncomputable def g_Aw_toStringS (a0 : List (ByteArray)) : Bool := decide ((↑(List.length a0) : Int) = (↑(List.length a0) : Int) ∧ (0 : Int) ≤ (↑(List.length a0) : Int) ∧ (↑(List.length a0) : Int) ≤ (9223372036854775807 : Int) ∧ (16 : Int) * (↑(List.length a0) : Int) ≤ (281474976710656 : Int)) && okO (g_Lw_toStringS_0 a0 (List.replicate (Int.toNat (↑(List.length a0) : Int)) (lit []), (0 : Int)))
noncomputable def g_Vw_toStringS_0 (a0 : List (ByteArray)) : List (ByteArray) := valO (g_Lw_toStringS_0 a0 (List.replicate (Int.toNat (↑(List.length a0) : Int)) (lit []), (0 : Int)))
noncomputable def Fw_toStringS : FSem := fun ys => match ys with
  | [.val false [.sl .any 9 .str a0]] => some ((g_Aw_toStringS a0), .val false [.own .any true 9 .str (g_Vw_toStringS_0 a0)], [])
  | _ => none
theorem vw_toStringS (a0 : List (ByteArray)) : collapseH .std Ew_toStringS Ow_toStringS_1 (execFn Ew_toStringS Go.Proofs.Tryd.f112 msw_toStringS [.val false [.sl .any 9 .str a0]]) = some ((g_Aw_toStringS a0), .val false [.own .any true 9 .str (g_Vw_toStringS_0 a0)], []) := by kernel_rfl
theorem sw_toStringS : Sound Go.Proofs.Tryd.prog 112 msw_toStringS Fw_toStringS := by
  refine fn_gen goodw_toStringS (by kernel_rfl) .std (fn := Go.Proofs.Tryd.f112) (c := (Go.Proofs.Tryd.f112.body.getD .skip)) (o := Ow_toStringS_1) (k := 1) (by kernel_rfl) (by kernel_rfl) (by kernel_rfl) (by kernel_rfl) (by decide) kw_toStringS_1 ?_
  intro ys r outs h
  unfold Fw_toStringS at h
  split at h
  · exact (vw_toStringS _).trans h
  · cases h
end Go.Proofs.YtkjeicijcecmlaaDoor.E
end
section
namespace Go.Proofs.YtkjeicijcecmlaaDoor.E
open Go
set_option maxRecDepth 100000
set_option maxHeartbeats 0
set_option linter.all false
noncomputable def Ew_toLogNote : Env where
  tt := mkTI Go.Proofs.Tryd.prog
  fn := fun f => match f with
    | 27 => some (msw_toStoWriteS, FSem.wk msw_toStoWriteS Fw_toStoWriteS)
    | 112 => some (msw_toStringS, FSem.wk msw_toStringS Fw_toStringS)
    | _ => none
  bxf := fun _ => none
  mv := []
  keep := fun _ => []
  keepB := fun _ => []
  keepX := fun _ => []
  keepXB := fun _ => []
theorem goodFw_toLogNote : ∀ f ms F, Ew_toLogNote.fn f = some (ms, F) → Sound Go.Proofs.Tryd.prog f ms F := fun f ms F h => by
  unfold Ew_toLogNote at h
  dsimp only at h
  split at h
  · injection h with h; injection h with e1 e2; subst e1 e2; exact Sound.wk sw_toStoWriteS
  · injection h with h; injection h with e1 e2; subst e1 e2; exact Sound.wk sw_toStringS
  · cases h
theorem goodBw_toLogNote : ∀ f ms F, Ew_toLogNote.bxf f = some (ms, F) → SoundB Go.Proofs.Tryd.prog f ms F := fun f ms F h => by cases h
theorem goodw_toLogNote : Good Go.Proofs.Tryd.prog Ew_toLogNote := ⟨rfl, goodFw_toLogNote, goodBw_toLogNote⟩
noncomputable def Ow_toLogNote_0 : Orc := fun _ _ => none
noncomputable def msw_toLogNote : List PM := [.rd]
noncomputable def lsw_toLogNote : List (Nat × Code) := loopsAll 0 (Go.Proofs.Tryd.f49.body.getD .skip)

theorem kw_toLogNote_0 : OrcOk Ew_toLogNote Ow_toLogNote_0 lsw_toLogNote 0 := orcOk_none
noncomputable def g_Aw_toLogNote (a0 : Int) (a1 : Int) (a2 : List (ByteArray)) (a3 : List ((ByteArray) × ((Bool) × (List (Int))))) : Bool := g_Aw_toStringS a2 && g_Aw_toStoWriteS a3
noncomputable def Fw_toLogNote : FSem := fun ys => match ys with
  | [.val true [.int .i64 a0, .int .i64 a1, .sl .any 9 .str a2, .sl .any 113 (.pair .str (.pair .bool (.sl 3 (.int .i64)))) a3]] => some ((g_Aw_toLogNote a0 a1 a2 a3), .val true [.int .i64 a0, .int .i64 a1, .own .any true 9 .str (g_Vw_toStringS_0 a2), .own .any true 38 (.pair .str (.pair .bool (.sl 3 (.int .i64)))) (g_Vw_toStoWriteS_0 a3)], [])
  | _ => none
theorem vw_toLogNote (a0 : Int) (a1 : Int) (a2 : List (ByteArray)) (a3 : List ((ByteArray) × ((Bool) × (List (Int))))) : collapseH .std Ew_toLogNote Ow_toLogNote_0 (execFn Ew_toLogNote Go.Proofs.Tryd.f49 msw_toLogNote [.val true [.int .i64 a0, .int .i64 a1, .sl .any 9 .str a2, .sl .any 113 (.pair .str (.pair .bool (.sl 3 (.int .i64)))) a3]]) = some ((g_Aw_toLogNote a0 a1 a2 a3), .val true [.int .i64 a0, .int .i64 a1, .own .any true 9 .str (g_Vw_toStringS_0 a2), .own .any true 38 (.pair .str (.pair .bool (.sl 3 (.int .i64)))) (g_Vw_toStoWriteS_0 a3)], []) := by kernel_rfl
theorem sw_toLogNote : Sound Go.Proofs.Tryd.prog 49 msw_toLogNote Fw_toLogNote := by
  refine fn_gen goodw_toLogNote (by kernel_rfl) .std (fn := Go.Proofs.Tryd.f49) (c := (Go.Proofs.Tryd.f49.body.getD .skip)) (o := Ow_toLogNote_0) (k := 0) (by kernel_rfl) (by kernel_rfl) (by kernel_rfl) (by kernel_rfl) (by decide) kw_toLogNote_0 ?_
  intro ys r outs h
  unfold Fw_toLogNote at h
  split at h
  · exact (vw_toLogNote _ _ _ _).trans h
  · cases h
end Go.Proofs.YtkjeicijcecmlaaDoor.E
end
section
namespace Go.Proofs.YtkjeicijcecmlaaDoor.E
open Go
set_option maxRecDepth 100000
set_option maxHeartbeats 0
set_option linter.all false
noncomputable def Ew_toLogNoteS : Env where
  tt := mkTI Go.Proofs.Tryd.prog
  fn := fun f => match f with
    | 49 => some (msw_toLogNote, FSem.wk msw_toLogNote Fw_toLogNote)
    | _ => none
  bxf := fun _ => none
  mv := []
  keep := fun b => match b with
    | 0 => [(0, false), (3, false), (4, false)]
    | _ => []
  keepB := fun b => match b with
    | 0 => []
    | _ => []
  keepX := fun b => match b with
    | 0 => [(3, false)]
    | _ => []
  keepXB := fun b => match b with
    | 0 => []
    | _ => []
theorem goodFw_toLogNoteS : ∀ f ms F, Ew_toLogNoteS.fn f = some (ms, F) → Sound Go.Proofs.Tryd.prog f ms F := fun f ms F h => by
  unfold Ew_toLogNoteS at h
  dsimp only at h
  split at h
  · injection h with h; injection h with e1 e2; subst e1 e2; exact Sound.wk sw_toLogNote
  · cases h
theorem goodBw_toLogNoteS : ∀ f ms F, Ew_toLogNoteS.bxf f = some (ms, F) → SoundB Go.Proofs.Tryd.prog f ms F := fun f ms F h => by cases h
theorem goodw_toLogNoteS : Good Go.Proofs.Tryd.prog Ew_toLogNoteS := ⟨rfl, goodFw_toLogNoteS, goodBw_toLogNoteS⟩
noncomputable def Ow_toLogNoteS_0 : Orc := fun _ _ => none
noncomputable def msw_toLogNoteS : List PM := [.rd]
noncomputable def lsw_toLogNoteS : List (Nat × Code) := loopsAll 0 (Go.Proofs.Tryd.f100.body.getD .skip)
noncomputable def cw_toLogNoteS_0 : Code := (loopOf 0 (Go.Proofs.Tryd.f100.body.getD .skip)).getD .skip
theorem lseqw_toLogNoteS : lsw_toLogNoteS = [(0, cw_toLogNoteS_0)] := by kernel_rfl
theorem mw_toLogNoteS_0 : ∀ p, p ∈ lsw_toLogNoteS → p.1 = 0 → p.2 = cw_toLogNoteS_0 := by
  intro p hp
  rw [lseqw_toLogNoteS] at hp
  simp only [List.mem_cons, List.not_mem_nil, or_false] at hp
  subst hp; simp
theorem kw_toLogNoteS_0 : OrcOk Ew_toLogNoteS Ow_toLogNoteS_0 lsw_toLogNoteS 0 := orcOk_none
noncomputable def hw_toLogNoteS_0 (y0 : List ((Int) × ((Int) × ((List (ByteArray)) × (List ((ByteArray) × ((Bool) × (List (Int))))))))) (y1 : List ((Int) × ((Int) × ((List (ByteArray)) × (List ((ByteArray) × ((Bool) × (List (Int))))))))) (y2 : Int) : List (Pl × LV) := [(.T 0, .t (.val false [.sl .any 74 (.pair (.int .i64) (.pair (.int .i64) (.pair (.sl 9 .str) (.sl 113 (.pair .str (.pair .bool (.sl 3 (.int .i64)))))))) y0])), (.T 3, .t (.val false [.row 3 0 0])), (.R 3 0, .r 0 (some ⟨false, .non, true, 79, (.pair (.int .i64) (.pair (.int .i64) (.pair (.sl 9 .str) (.sl 38 (.pair .str (.pair .bool (.sl 3 (.int .i64)))))))), y1⟩)), (.T 4, .t (.val false [.int .i64 y2]))]
noncomputable def g_Sw_toLogNoteS_0 (y0 : List ((Int) × ((Int) × ((List (ByteArray)) × (List ((ByteArray) × ((Bool) × (List (Int))))))))) : ((List ((Int) × ((Int) × ((List (ByteArray)) × (List ((ByteArray) × ((Bool) × (List (Int))))))))) × (Int)) → RT ((List ((Int) × ((Int) × ((List (ByteArray)) × (List ((ByteArray) × ((Bool) × (List (Int))))))))) × (Int)) (((List ((Int) × ((Int) × ((List (ByteArray)) × (List ((ByteArray) × ((Bool) × (List (Int)))))))))))
  | (y1, y2) => .br (true) (.br (decide (y2 < (↑(List.length y0) : Int))) (.br (decide ((0 : Int) ≤ y2 ∧ y2 < (↑(List.length y0) : Int))) (.br (g_Aw_toLogNote (at_ (Ty.pair (Ty.int IntKind.i64) (Ty.pair (Ty.int IntKind.i64) (Ty.pair (Ty.sl (nat_lit 9) Ty.str) (Ty.sl (nat_lit 113) (Ty.pair Ty.str (Ty.pair Ty.bool (Ty.sl (nat_lit 3) (Ty.int IntKind.i64)))))))) y0 (Int.toNat y2)).1 (at_ (Ty.pair (Ty.int IntKind.i64) (Ty.pair (Ty.int IntKind.i64) (Ty.pair (Ty.sl (nat_lit 9) Ty.str) (Ty.sl (nat_lit 113) (Ty.pair Ty.str (Ty.pair Ty.bool (Ty.sl (nat_lit 3) (Ty.int IntKind.i64)))))))) y0 (Int.toNat y2)).2.1 (at_ (Ty.pair (Ty.int IntKind.i64) (Ty.pair (Ty.int IntKind.i64) (Ty.pair (Ty.sl (nat_lit 9) Ty.str) (Ty.sl (nat_lit 113) (Ty.pair Ty.str (Ty.pair Ty.bool (Ty.sl (nat_lit 3) (Ty.int IntKind.i64)))))))) y0 (Int.toNat y2)).2.2.1 (at_ (Ty.pair (Ty.int IntKind.i64) (Ty.pair (Ty.int IntKind.i64) (Ty.pair (Ty.sl (nat_lit 9) Ty.str) (Ty.sl (nat_lit 113) (Ty.pair Ty.str (Ty.pair Ty.bool (Ty.sl (nat_lit 3) (Ty.int IntKind.i64)))))))) y0 (Int.toNat y2)).2.2.2) (.br (decide ((0 : Int) ≤ y2 ∧ y2 < (↑(List.length y1) : Int))) (.br (decide (Int.toNat y2 < List.length y1)) (.br (true) (.go ((List.set y1 (Int.toNat y2) ((at_ (Ty.pair (Ty.int IntKind.i64) (Ty.pair (Ty.int IntKind.i64) (Ty.pair (Ty.sl (nat_lit 9) Ty.str) (Ty.sl (nat_lit 113) (Ty.pair Ty.str (Ty.pair Ty.bool (Ty.sl (nat_lit 3) (Ty.int IntKind.i64)))))))) y0 (Int.toNat y2)).1, (at_ (Ty.pair (Ty.int IntKind.i64) (Ty.pair (Ty.int IntKind.i64) (Ty.pair (Ty.sl (nat_lit 9) Ty.str) (Ty.sl (nat_lit 113) (Ty.pair Ty.str (Ty.pair Ty.bool (Ty.sl (nat_lit 3) (Ty.int IntKind.i64)))))))) y0 (Int.toNat y2)).2.1, g_Vw_toStringS_0 (at_ (Ty.pair (Ty.int IntKind.i64) (Ty.pair (Ty.int IntKind.i64) (Ty.pair (Ty.sl (nat_lit 9) Ty.str) (Ty.sl (nat_lit 113) (Ty.pair Ty.str (Ty.pair Ty.bool (Ty.sl (nat_lit 3) (Ty.int IntKind.i64)))))))) y0 (Int.toNat y2)).2.2.1, g_Vw_toStoWriteS_0 (at_ (Ty.pair (Ty.int IntKind.i64) (Ty.pair (Ty.int IntKind.i64) (Ty.pair (Ty.sl (nat_lit 9) Ty.str) (Ty.sl (nat_lit 113) (Ty.pair Ty.str (Ty.pair Ty.bool (Ty.sl (nat_lit 3) (Ty.int IntKind.i64)))))))) y0 (Int.toNat y2)).2.2.2), IntKind.wrap IntKind.i64 (y2 + (1 : Int))))) (.bad)) (.bad)) (.bad)) (.bad)) (.bad)) (.out (y1))) (.bad)
noncomputable def g_Lw_toLogNoteS_0 (y0 : List ((Int) × ((Int) × ((List (ByteArray)) × (List ((ByteArray) × ((Bool) × (List (Int))))))))) (x : (List ((Int) × ((Int) × ((List (ByteArray)) × (List ((ByteArray) × ((Bool) × (List (Int))))))))) × (Int)) : Option (((List ((Int) × ((Int) × ((List (ByteArray)) × (List ((ByteArray) × ((Bool) × (List (Int))))))))))) := loopO (g_Sw_toLogNoteS_0 y0) x
noncomputable def xw_toLogNoteS_0 (y0 : List ((Int) × ((Int) × ((List (ByteArray)) × (List ((ByteArray) × ((Bool) × (List (Int))))))))) : (((List ((Int) × ((Int) × ((List (ByteArray)) × (List ((ByteArray) × ((Bool) × (List (Int))))))))))) → Ex × List (Pl × LV) := fun r => (.exit 0, [(.T 3, .t (.val false [.row 3 0 0])), (.R 3 0, .r 0 (some ⟨false, .non, true, 79, (.pair (.int .i64) (.pair (.int .i64) (.pair (.sl 9 .str) (.sl 38 (.pair .str (.pair .bool (.sl 3 (.int .i64)))))))), r⟩))])
noncomputable def Ow_toLogNoteS_1 : Orc := fun b h => match b, h with
  | 0, [(.T 0, .t (.val false [.sl .any 74 (.pair (.int .i64) (.pair (.int .i64) (.pair (.sl 9 .str) (.sl 113 (.pair .str (.pair .bool (.sl 3 (.int .i64)))))))) y0])), (.T 3, .t (.val false [.row 3 0 0])), (.R 3 0, .r 0 (some ⟨false, .non, true, 79, (.pair (.int .i64) (.pair (.int .i64) (.pair (.sl 9 .str) (.sl 38 (.pair .str (.pair .bool (.sl 3 (.int .i64)))))))), y1⟩)), (.T 4, .t (.val false [.int .i64 y2]))] => some (okO (g_Lw_toLogNoteS_0 y0 (y1, y2)), (.leaf (.exit 0) [(.T 3, .t (.val false [.row 3 0 0])), (.R 3 0, .r 0 (some ⟨false, .non, true, 79, (.pair (.int .i64) (.pair (.int .i64) (.pair (.sl 9 .str) (.sl 38 (.pair .str (.pair .bool (.sl 3 (.int .i64)))))))), (valO (g_Lw_toLogNoteS_0 y0 (y1, y2)))⟩))]))
  | b, h => Ow_toLogNoteS_0 b h
theorem bw_toLogNoteS_0 (y0 : List ((Int) × ((Int) × ((List (ByteArray)) × (List ((ByteArray) × ((Bool) × (List (Int))))))))) (y1 : List ((Int) × ((Int) × ((List (ByteArray)) × (List ((ByteArray) × ((Bool) × (List (Int))))))))) (y2 : Int) : Tr.bt Ew_toLogNoteS Ow_toLogNoteS_0 (exec Ew_toLogNoteS 0 cw_toLogNoteS_0 (St.of (hw_toLogNoteS_0 y0 y1 y2)) (leafRd Ew_toLogNoteS 0)) = (g_Sw_toLogNoteS_0 y0 (y1, y2)).bt (fun ((y1, y2) : (List ((Int) × ((Int) × ((List (ByteArray)) × (List ((ByteArray) × ((Bool) × (List (Int))))))))) × (Int)) => (hw_toLogNoteS_0 y0 y1 y2)) (xw_toLogNoteS_0 y0) := by kernel_rfl
theorem kw_toLogNoteS_1 : OrcOk Ew_toLogNoteS Ow_toLogNoteS_1 lsw_toLogNoteS 1 := orc_add kw_toLogNoteS_0 (fun n p hp h ex h' ho => by
  obtain ⟨b, c⟩ := p
  obtain ⟨xt, h1, h2⟩ := ho
  have h1 : Ow_toLogNoteS_1 b h = some (true, xt) := h1
  unfold Ow_toLogNoteS_1 at h1
  split at h1
  · injection h1 with h1
    injection h1 with e1 e2
    subst e2
    have hc : c = cw_toLogNoteS_0 := mw_toLogNoteS_0 _ hp rfl
    subst hc
    right
    rename_i y0 y1 y2
    have key := LT_step kw_toLogNoteS_0 hp (fun q hq => loopsAll_in _ _ _ _ hp hq) (fun ((y1, y2) : (List ((Int) × ((Int) × ((List (ByteArray)) × (List ((ByteArray) × ((Bool) × (List (Int))))))))) × (Int)) => (hw_toLogNoteS_0 y0 y1 y2)) (xw_toLogNoteS_0 y0) (g_Sw_toLogNoteS_0 y0) (fun x => by first | exact bw_toLogNoteS_0 y0 x.1 x.2) n (x := (y1, y2)) (okO_some e1)
    have hx : ∀ r, XT.sel (.leaf (.exit 0) [(.T 3, .t (.val false [.row 3 0 0])), (.R 3 0, .r 0 (some ⟨false, .non, true, 79, (.pair (.int .i64) (.pair (.int .i64) (.pair (.sl 9 .str) (.sl 38 (.pair .str (.pair .bool (.sl 3 (.int .i64)))))))), r⟩))]) = xw_toLogNoteS_0 y0 r := fun r => by first | rfl | (rcases r with r | r <;> rfl) | (rcases r with r | r | r <;> rfl) | (rcases r with r | r | r | r <;> rfl)
    have h3 := (hx (valO (g_Lw_toLogNoteS_0 y0 (y1, y2)))).symm.trans h2
    have e3 := congrArg Prod.fst h3
    have e4 := congrArg Prod.snd h3
    simp only at e3 e4
    rw [← e3, ← e4]
    exact key
  · exact .inl ⟨xt, h1, h2⟩)
noncomputable def g_Aw_toLogNoteS (a0 : List ((Int) × ((Int) × ((List (ByteArray)) × (List ((ByteArray) × ((Bool) × (List (Int))))))))) : Bool := decide ((↑(List.length a0) : Int) = (↑(List.length a0) : Int) ∧ (0 : Int) ≤ (↑(List.length a0) : Int) ∧ (↑(List.length a0) : Int) ≤ (9223372036854775807 : Int) ∧ (64 : Int) * (↑(List.length a0) : Int) ≤ (281474976710656 : Int)) && okO (g_Lw_toLogNoteS_0 a0 (List.replicate (Int.toNat (↑(List.length a0) : Int)) ((0 : Int), (0 : Int), [], []), (0 : Int)))
noncomputable def g_Vw_toLogNoteS_0 (a0 : List ((Int) × ((Int) × ((List (ByteArray)) × (List ((ByteArray) × ((Bool) × (List (Int))))))))) : List ((Int) × ((Int) × ((List (ByteArray)) × (List ((ByteArray) × ((Bool) × (List (Int)))))))) := valO (g_Lw_toLogNoteS_0 a0 (List.replicate (Int.toNat (↑(List.length a0) : Int)) ((0 : Int), (0 : Int), [], []), (0 : Int)))
noncomputable def Fw_toLogNoteS : FSem := fun ys => match ys with
  | [.val false [.sl .any 74 (.pair (.int .i64) (.pair (.int .i64) (.pair (.sl 9 .str) (.sl 113 (.pair .str (.pair .bool (.sl 3 (.int .i64)))))))) a0]] => some ((g_Aw_toLogNoteS a0), .val false [.own .any true 79 (.pair (.int .i64) (.pair (.int .i64) (.pair (.sl 9 .str) (.sl 38 (.pair .str (.pair .bool (.sl 3 (.int .i64)))))))) (g_Vw_toLogNoteS_0 a0)], [])
  | _ => none
theorem vw_toLogNoteS (a0 : List ((Int) × ((Int) × ((List (ByteArray)) × (List ((ByteArray) × ((Bool) × (List (Int))))))))) : collapseH .std Ew_toLogNoteS Ow_toLogNoteS_1 (execFn Ew_toLogNoteS Go.Proofs.Tryd.f100 msw_toLogNoteS [.val false [.sl .any 74 (.pair (.int .i64) (.pair (.int .i64) (.pair (.sl 9 .str) (.sl 113 (.pair .str (.pair .bool (.sl 3 (.int .i64)))))))) a0]]) = some ((g_Aw_toLogNoteS a0), .val false [.own .any true 79 (.pair (.int .i64) (.pair (.int .i64) (.pair (.sl 9 .str) (.sl 38 (.pair .str (.pair .bool (.sl 3 (.int .i64)))))))) (g_Vw_toLogNoteS_0 a0)], []) := by kernel_rfl
theorem sw_toLogNoteS : Sound Go.Proofs.Tryd.prog 100 msw_toLogNoteS Fw_toLogNoteS := by
  refine fn_gen goodw_toLogNoteS (by kernel_rfl) .std (fn := Go.Proofs.Tryd.f100) (c := (Go.Proofs.Tryd.f100.body.getD .skip)) (o := Ow_toLogNoteS_1) (k := 1) (by kernel_rfl) (by kernel_rfl) (by kernel_rfl) (by kernel_rfl) (by decide) kw_toLogNoteS_1 ?_
  intro ys r outs h
  unfold Fw_toLogNoteS at h
  split at h
  · exact (vw_toLogNoteS _).trans h
  · cases h
end Go.Proofs.YtkjeicijcecmlaaDoor.E
end
section
namespace Go.Proofs.YtkjeicijcecmlaaDoor.E
open Go
set_option maxRecDepth 100000
set_option maxHeartbeats 0
set_option linter.all false
noncomputable def Ew_toLogDisk : Env where
  tt := mkTI Go.Proofs.Tryd.prog
  fn := fun f => match f with
    | 100 => some (msw_toLogNoteS, FSem.wk msw_toLogNoteS Fw_toLogNoteS)
    | _ => none
  bxf := fun _ => none
  mv := []
  keep := fun _ => []
  keepB := fun _ => []
  keepX := fun _ => []
  keepXB := fun _ => []
theorem goodFw_toLogDisk : ∀ f ms F, Ew_toLogDisk.fn f = some (ms, F) → Sound Go.Proofs.Tryd.prog f ms F := fun f ms F h => by
  unfold Ew_toLogDisk at h
  dsimp only at h
  split at h
  · injection h with h; injection h with e1 e2; subst e1 e2; exact Sound.wk sw_toLogNoteS
  · cases h
theorem goodBw_toLogDisk : ∀ f ms F, Ew_toLogDisk.bxf f = some (ms, F) → SoundB Go.Proofs.Tryd.prog f ms F := fun f ms F h => by cases h
theorem goodw_toLogDisk : Good Go.Proofs.Tryd.prog Ew_toLogDisk := ⟨rfl, goodFw_toLogDisk, goodBw_toLogDisk⟩
noncomputable def Ow_toLogDisk_0 : Orc := fun _ _ => none
noncomputable def msw_toLogDisk : List PM := [.rd]
noncomputable def lsw_toLogDisk : List (Nat × Code) := loopsAll 0 (Go.Proofs.Tryd.f35.body.getD .skip)

theorem kw_toLogDisk_0 : OrcOk Ew_toLogDisk Ow_toLogDisk_0 lsw_toLogDisk 0 := orcOk_none
noncomputable def g_Aw_toLogDisk (a0 : List ((Int) × ((Int) × ((List (ByteArray)) × (List ((ByteArray) × ((Bool) × (List (Int))))))))) (a1 : Int) : Bool := g_Aw_toLogNoteS a0
noncomputable def Fw_toLogDisk : FSem := fun ys => match ys with
  | [.val true [.sl .any 74 (.pair (.int .i64) (.pair (.int .i64) (.pair (.sl 9 .str) (.sl 113 (.pair .str (.pair .bool (.sl 3 (.int .i64)))))))) a0, .int .i64 a1]] => some ((g_Aw_toLogDisk a0 a1), .val true [.own .any true 79 (.pair (.int .i64) (.pair (.int .i64) (.pair (.sl 9 .str) (.sl 38 (.pair .str (.pair .bool (.sl 3 (.int .i64)))))))) (g_Vw_toLogNoteS_0 a0), .int .i64 a1], [])
  | _ => none
theorem vw_toLogDisk (a0 : List ((Int) × ((Int) × ((List (ByteArray)) × (List ((ByteArray) × ((Bool) × (List (Int))))))))) (a1 : Int) : collapseH .std Ew_toLogDisk Ow_toLogDisk_0 (execFn Ew_toLogDisk Go.Proofs.Tryd.f35 msw_toLogDisk [.val true [.sl .any 74 (.pair (.int .i64) (.pair (.int .i64) (.pair (.sl 9 .str) (.sl 113 (.pair .str (.pair .bool (.sl 3 (.int .i64)))))))) a0, .int .i64 a1]]) = some ((g_Aw_toLogDisk a0 a1), .val true [.own .any true 79 (.pair (.int .i64) (.pair (.int .i64) (.pair (.sl 9 .str) (.sl 38 (.pair .str (.pair .bool (.sl 3 (.int .i64)))))))) (g_Vw_toLogNoteS_0 a0), .int .i64 a1], []) := by kernel_rfl
theorem sw_toLogDisk : Sound Go.Proofs.Tryd.prog 35 msw_toLogDisk Fw_toLogDisk := by
  refine fn_gen goodw_toLogDisk (by kernel_rfl) .std (fn := Go.Proofs.Tryd.f35) (c := (Go.Proofs.Tryd.f35.body.getD .skip)) (o := Ow_toLogDisk_0) (k := 0) (by kernel_rfl) (by kernel_rfl) (by kernel_rfl) (by kernel_rfl) (by decide) kw_toLogDisk_0 ?_
  intro ys r outs h
  unfold Fw_toLogDisk at h
  split at h
  · exact (vw_toLogDisk _ _).trans h
  · cases h
end Go.Proofs.YtkjeicijcecmlaaDoor.E
end
section
namespace Go.Proofs.YtkjeicijcecmlaaDoor.E
open Go
set_option maxRecDepth 100000
set_option maxHeartbeats 0
set_option linter.all false
noncomputable def Ew_FnExactPlcTick : Env where
  tt := mkTI Go.Proofs.Tryd.prog
  fn := fun f => match f with
    | 33 => some (msw_szLogDisk, FSem.wk msw_szLogDisk Fw_szLogDisk)
    | 35 => some (msw_toLogDisk, FSem.wk msw_toLogDisk Fw_toLogDisk)
    | 38 => some (msw_eqLogDisk, FSem.wk msw_eqLogDisk Fw_eqLogDisk)
    | 39 => some (msw_markLogDisk, FSem.wk msw_markLogDisk Fw_markLogDisk)
    | 63 => some (mss_PlcTick, FSem.wk mss_PlcTick Fs_PlcTick)
    | 64 => some (msi_PlcTick, FSem.wk msi_PlcTick Fi_PlcTick)
    | 65 => some (msw_eqMsgMsgS, FSem.wk msw_eqMsgMsgS Fw_eqMsgMsgS)
    | 66 => some (msw_markMsgMsgS, FSem.wk msw_markMsgMsgS Fw_markMsgMsgS)
    | 67 => some (msw_heldMsgMsgS, FSem.wk msw_heldMsgMsgS Fw_heldMsgMsgS)
    | _ => none
  bxf := fun _ => none
  mv := []
  keep := fun _ => []
  keepB := fun _ => []
  keepX := fun _ => []
  keepXB := fun _ => []
theorem goodFw_FnExactPlcTick : ∀ f ms F, Ew_FnExactPlcTick.fn f = some (ms, F) → Sound Go.Proofs.Tryd.prog f ms F := fun f ms F h => by
  unfold Ew_FnExactPlcTick at h
  dsimp only at h
  split at h
  · injection h with h; injection h with e1 e2; subst e1 e2; exact Sound.wk sw_szLogDisk
  · injection h with h; injection h with e1 e2; subst e1 e2; exact Sound.wk sw_toLogDisk
  · injection h with h; injection h with e1 e2; subst e1 e2; exact Sound.wk sw_eqLogDisk
  · injection h with h; injection h with e1 e2; subst e1 e2; exact Sound.wk sw_markLogDisk
  · injection h with h; injection h with e1 e2; subst e1 e2; exact Sound.wk ss_PlcTick
  · injection h with h; injection h with e1 e2; subst e1 e2; exact Sound.wk si_PlcTick
  · injection h with h; injection h with e1 e2; subst e1 e2; exact Sound.wk sw_eqMsgMsgS
  · injection h with h; injection h with e1 e2; subst e1 e2; exact Sound.wk sw_markMsgMsgS
  · injection h with h; injection h with e1 e2; subst e1 e2; exact Sound.wk sw_heldMsgMsgS
  · cases h
theorem goodBw_FnExactPlcTick : ∀ f ms F, Ew_FnExactPlcTick.bxf f = some (ms, F) → SoundB Go.Proofs.Tryd.prog f ms F := fun f ms F h => by cases h
theorem goodw_FnExactPlcTick : Good Go.Proofs.Tryd.prog Ew_FnExactPlcTick := ⟨rfl, goodFw_FnExactPlcTick, goodBw_FnExactPlcTick⟩
noncomputable def Ow_FnExactPlcTick_0 : Orc := fun _ _ => none
noncomputable def msw_FnExactPlcTick : List PM := [.own, .rd]
noncomputable def lsw_FnExactPlcTick : List (Nat × Code) := loopsAll 0 (Go.Proofs.Tryd.f11.body.getD .skip)

theorem kw_FnExactPlcTick_0 : OrcOk Ew_FnExactPlcTick Ow_FnExactPlcTick_0 lsw_FnExactPlcTick 0 := orcOk_none
noncomputable def g_Aw_FnExactPlcTick (a0 : Int) (a1 : List ((Int) × ((Int) × ((List (ByteArray)) × (List ((ByteArray) × ((Bool) × (List (Int))))))))) (a2 : Int) : Bool := g_Aw_szLogDisk a1 a2 (1048576 : Int) && (decide (g_Vw_szLogDisk_0 a1 a2 (1048576 : Int) < (0 : Int)) || g_Aw_toLogDisk a1 a2 && (g_As_PlcTick a0 (g_Vw_toLogNoteS_0 a1) a2 && (g_Aw_toLogDisk a1 a2 && (g_Ai_PlcTick a0 (g_Vw_toLogNoteS_0 a1) a2 && (g_Aw_eqMsgMsgS (g_Vi_PlcTick_0 a0 (g_Vw_toLogNoteS_0 a1) a2) (g_Vs_PlcTick_0 a0 (g_Vw_toLogNoteS_0 a1) a2) && (!g_Vw_eqMsgMsgS_0 (g_Vi_PlcTick_0 a0 (g_Vw_toLogNoteS_0 a1) a2) (g_Vs_PlcTick_0 a0 (g_Vw_toLogNoteS_0 a1) a2) || g_Aw_toLogDisk a1 a2 && (g_Aw_eqLogDisk (g_Vw_toLogNoteS_0 a1) a2 (g_Vw_toLogNoteS_0 a1) a2 && (!g_Vw_eqLogDisk_0 (g_Vw_toLogNoteS_0 a1) a2 (g_Vw_toLogNoteS_0 a1) a2 || g_Aw_markLogDisk (g_Vw_toLogNoteS_0 a1) a2 (1 : Int) && (decide (g_Vw_markLogNoteS_0 (g_Vw_toLogNoteS_0 a1) (1 : Int) < (0 : Int)) || g_Aw_eqMsgMsgS (g_Vi_PlcTick_0 a0 (g_Vw_toLogNoteS_0 a1) a2) (g_Vs_PlcTick_0 a0 (g_Vw_toLogNoteS_0 a1) a2) && (!g_Vw_eqMsgMsgS_0 (g_Vi_PlcTick_0 a0 (g_Vw_toLogNoteS_0 a1) a2) (g_Vs_PlcTick_0 a0 (g_Vw_toLogNoteS_0 a1) a2) || g_Aw_markMsgMsgS (g_Vi_PlcTick_0 a0 (g_Vw_toLogNoteS_0 a1) a2) (1 : Int) && (g_Aw_heldMsgMsgS (g_Vw_markMsgMsgS_1 (g_Vi_PlcTick_0 a0 (g_Vw_toLogNoteS_0 a1) a2) (1 : Int)) (1 : Int) && (decide (g_Vw_heldMsgMsgS_0 (g_Vw_markMsgMsgS_1 (g_Vi_PlcTick_0 a0 (g_Vw_toLogNoteS_0 a1) a2) (1 : Int)) (1 : Int) < (0 : Int)) || (g_Vw_heldMsgMsgS_0 (g_Vw_markMsgMsgS_1 (g_Vi_PlcTick_0 a0 (g_Vw_toLogNoteS_0 a1) a2) (1 : Int)) (1 : Int) != g_Vw_markMsgMsgS_0 (g_Vi_PlcTick_0 a0 (g_Vw_toLogNoteS_0 a1) a2) (1 : Int) || g_Aw_toLogDisk a1 a2 && (g_Ai_PlcTick a0 (g_Vw_toLogNoteS_0 a1) a2 && (g_Aw_eqMsgMsgS (g_Vi_PlcTick_0 a0 (g_Vw_toLogNoteS_0 a1) a2) (g_Vs_PlcTick_0 a0 (g_Vw_toLogNoteS_0 a1) a2) && (!g_Vw_eqMsgMsgS_0 (g_Vi_PlcTick_0 a0 (g_Vw_toLogNoteS_0 a1) a2) (g_Vs_PlcTick_0 a0 (g_Vw_toLogNoteS_0 a1) a2) || g_Aw_heldMsgMsgS (g_Vw_markMsgMsgS_1 (g_Vi_PlcTick_0 a0 (g_Vw_toLogNoteS_0 a1) a2) (1 : Int)) (1 : Int) && (decide (g_Vw_heldMsgMsgS_0 (g_Vw_markMsgMsgS_1 (g_Vi_PlcTick_0 a0 (g_Vw_toLogNoteS_0 a1) a2) (1 : Int)) (1 : Int) < (0 : Int)) || true)))))))))))))))))
noncomputable def g_Vw_FnExactPlcTick_0 (a0 : Int) (a1 : List ((Int) × ((Int) × ((List (ByteArray)) × (List ((ByteArray) × ((Bool) × (List (Int))))))))) (a2 : Int) : Bool := bif decide (g_Vw_szLogDisk_0 a1 a2 (1048576 : Int) < (0 : Int)) then true else bif !g_Vw_eqMsgMsgS_0 (g_Vi_PlcTick_0 a0 (g_Vw_toLogNoteS_0 a1) a2) (g_Vs_PlcTick_0 a0 (g_Vw_toLogNoteS_0 a1) a2) then false else bif !g_Vw_eqLogDisk_0 (g_Vw_toLogNoteS_0 a1) a2 (g_Vw_toLogNoteS_0 a1) a2 then false else bif decide (g_Vw_markLogNoteS_0 (g_Vw_toLogNoteS_0 a1) (1 : Int) < (0 : Int)) then false else bif !g_Vw_eqMsgMsgS_0 (g_Vi_PlcTick_0 a0 (g_Vw_toLogNoteS_0 a1) a2) (g_Vs_PlcTick_0 a0 (g_Vw_toLogNoteS_0 a1) a2) then false else bif decide (g_Vw_heldMsgMsgS_0 (g_Vw_markMsgMsgS_1 (g_Vi_PlcTick_0 a0 (g_Vw_toLogNoteS_0 a1) a2) (1 : Int)) (1 : Int) < (0 : Int)) then false else bif g_Vw_heldMsgMsgS_0 (g_Vw_markMsgMsgS_1 (g_Vi_PlcTick_0 a0 (g_Vw_toLogNoteS_0 a1) a2) (1 : Int)) (1 : Int) != g_Vw_markMsgMsgS_0 (g_Vi_PlcTick_0 a0 (g_Vw_toLogNoteS_0 a1) a2) (1 : Int) then false else bif !g_Vw_eqMsgMsgS_0 (g_Vi_PlcTick_0 a0 (g_Vw_toLogNoteS_0 a1) a2) (g_Vs_PlcTick_0 a0 (g_Vw_toLogNoteS_0 a1) a2) then false else bif decide (g_Vw_heldMsgMsgS_0 (g_Vw_markMsgMsgS_1 (g_Vi_PlcTick_0 a0 (g_Vw_toLogNoteS_0 a1) a2) (1 : Int)) (1 : Int) < (0 : Int)) then false else bif g_Vw_heldMsgMsgS_0 (g_Vw_markMsgMsgS_1 (g_Vi_PlcTick_0 a0 (g_Vw_toLogNoteS_0 a1) a2) (1 : Int)) (1 : Int) != g_Vw_markMsgMsgS_0 (g_Vi_PlcTick_0 a0 (g_Vw_toLogNoteS_0 a1) a2) (1 : Int) then false else true
noncomputable def Fw_FnExactPlcTick : FSem := fun ys => match ys with
  | [.val false [.int .i64 a0], .val true [.sl .any 74 (.pair (.int .i64) (.pair (.int .i64) (.pair (.sl 9 .str) (.sl 113 (.pair .str (.pair .bool (.sl 3 (.int .i64)))))))) a1, .int .i64 a2]] => some ((g_Aw_FnExactPlcTick a0 a1 a2), .val false [.bool (g_Vw_FnExactPlcTick_0 a0 a1 a2)], [])
  | _ => none
theorem vw_FnExactPlcTick (a0 : Int) (a1 : List ((Int) × ((Int) × ((List (ByteArray)) × (List ((ByteArray) × ((Bool) × (List (Int))))))))) (a2 : Int) : collapseH .std Ew_FnExactPlcTick Ow_FnExactPlcTick_0 (execFn Ew_FnExactPlcTick Go.Proofs.Tryd.f11 msw_FnExactPlcTick [.val false [.int .i64 a0], .val true [.sl .any 74 (.pair (.int .i64) (.pair (.int .i64) (.pair (.sl 9 .str) (.sl 113 (.pair .str (.pair .bool (.sl 3 (.int .i64)))))))) a1, .int .i64 a2]]) = some ((g_Aw_FnExactPlcTick a0 a1 a2), .val false [.bool (g_Vw_FnExactPlcTick_0 a0 a1 a2)], []) := by kernel_rfl
theorem sw_FnExactPlcTick : Sound Go.Proofs.Tryd.prog 11 msw_FnExactPlcTick Fw_FnExactPlcTick := by
  refine fn_gen goodw_FnExactPlcTick (by kernel_rfl) .std (fn := Go.Proofs.Tryd.f11) (c := (Go.Proofs.Tryd.f11.body.getD .skip)) (o := Ow_FnExactPlcTick_0) (k := 0) (by kernel_rfl) (by kernel_rfl) (by kernel_rfl) (by kernel_rfl) (by decide) kw_FnExactPlcTick_0 ?_
  intro ys r outs h
  unfold Fw_FnExactPlcTick at h
  split at h
  · exact (vw_FnExactPlcTick _ _ _).trans h
  · cases h
end Go.Proofs.YtkjeicijcecmlaaDoor.E
end
section
namespace Go.Proofs.YtkjeicijcecmlaaDoor.E
open Go
set_option maxRecDepth 100000
set_option maxHeartbeats 0
set_option linter.all false
noncomputable def Ew_heldIntS : Env where
  tt := mkTI Go.Proofs.Tryd.prog
  fn := fun _ => none
  bxf := fun _ => none
  mv := []
  keep := fun b => match b with
    | 0 => [(0, false), (1, false), (5, false)]
    | _ => []
  keepB := fun b => match b with
    | 0 => []
    | _ => []
  keepX := fun b => match b with
    | 0 => [(1, false), (4, false)]
    | _ => []
  keepXB := fun b => match b with
    | 0 => []
    | _ => []
theorem goodFw_heldIntS : ∀ f ms F, Ew_heldIntS.fn f = some (ms, F) → Sound Go.Proofs.Tryd.prog f ms F := fun f ms F h => by cases h
theorem goodBw_heldIntS : ∀ f ms F, Ew_heldIntS.bxf f = some (ms, F) → SoundB Go.Proofs.Tryd.prog f ms F := fun f ms F h => by cases h
theorem goodw_heldIntS : Good Go.Proofs.Tryd.prog Ew_heldIntS := ⟨rfl, goodFw_heldIntS, goodBw_heldIntS⟩
noncomputable def Ow_heldIntS_0 : Orc := fun _ _ => none
noncomputable def msw_heldIntS : List PM := [.rd, .own]
noncomputable def lsw_heldIntS : List (Nat × Code) := loopsAll 0 (Go.Proofs.Tryd.f41.body.getD .skip)
noncomputable def cw_heldIntS_0 : Code := (loopOf 0 (Go.Proofs.Tryd.f41.body.getD .skip)).getD .skip
theorem lseqw_heldIntS : lsw_heldIntS = [(0, cw_heldIntS_0)] := by kernel_rfl
theorem mw_heldIntS_0 : ∀ p, p ∈ lsw_heldIntS → p.1 = 0 → p.2 = cw_heldIntS_0 := by
  intro p hp
  rw [lseqw_heldIntS] at hp
  simp only [List.mem_cons, List.not_mem_nil, or_false] at hp
  subst hp; simp
theorem kw_heldIntS_0 : OrcOk Ew_heldIntS Ow_heldIntS_0 lsw_heldIntS 0 := orcOk_none
noncomputable def hw_heldIntS_0 (y0 : List (Int)) (y1 : Int) (y2 : Int) : List (Pl × LV) := [(.T 0, .t (.val false [.sl .any 3 (.int .i64) y0])), (.T 1, .t (.val false [.int .i64 y1])), (.T 5, .t (.val false [.int .i64 y2]))]
noncomputable def g_Sw_heldIntS_0 (y0 : List (Int)) : ((Int) × (Int)) → RT ((Int) × (Int)) (((Int) × (Int)) ⊕ ((Int)))
  | (y1, y2) => .br (true) (.br (decide (y2 < (↑(List.length y0) : Int))) (.br (decide ((0 : Int) ≤ y2 ∧ y2 < (↑(List.length y0) : Int))) (.br (true) (.br (at_ (Ty.int IntKind.i64) y0 (Int.toNat y2) != y1) (.out (.inl ((y1, (-1 : Int))))) (.br (true) (.br (true) (.go ((IntKind.wrap IntKind.i64 (y1 + (1 : Int)), IntKind.wrap IntKind.i64 (y2 + (1 : Int))))) (.bad)) (.bad))) (.bad)) (.bad)) (.out (.inr (y1)))) (.bad)
noncomputable def g_Lw_heldIntS_0 (y0 : List (Int)) (x : (Int) × (Int)) : Option (((Int) × (Int)) ⊕ ((Int))) := loopO (g_Sw_heldIntS_0 y0) x
noncomputable def xw_heldIntS_0 (y0 : List (Int)) : (((Int) × (Int)) ⊕ ((Int))) → Ex × List (Pl × LV) := fun
  | .inl r => (.ret, [(.T 1, .t (.val false [.int .i64 r.1])), (.T 4, .t (.val false [.int .i64 r.2]))])
  | .inr (r) => (.exit 0, [(.T 1, .t (.val false [.int .i64 r])), (.T 4, .t (.val false [.undef]))])
noncomputable def Ow_heldIntS_1 : Orc := fun b h => match b, h with
  | 0, [(.T 0, .t (.val false [.sl .any 3 (.int .i64) y0])), (.T 1, .t (.val false [.int .i64 y1])), (.T 5, .t (.val false [.int .i64 y2]))] => some (okO (g_Lw_heldIntS_0 y0 (y1, y2)), (.br (isL (valO (g_Lw_heldIntS_0 y0 (y1, y2)))) (.leaf .ret [(.T 1, .t (.val false [.int .i64 (getL (valO (g_Lw_heldIntS_0 y0 (y1, y2)))).1])), (.T 4, .t (.val false [.int .i64 (getL (valO (g_Lw_heldIntS_0 y0 (y1, y2)))).2]))]) (.leaf (.exit 0) [(.T 1, .t (.val false [.int .i64 (getR (valO (g_Lw_heldIntS_0 y0 (y1, y2))))])), (.T 4, .t (.val false [.undef]))])))
  | b, h => Ow_heldIntS_0 b h
theorem bw_heldIntS_0 (y0 : List (Int)) (y1 : Int) (y2 : Int) : Tr.bt Ew_heldIntS Ow_heldIntS_0 (exec Ew_heldIntS 0 cw_heldIntS_0 (St.of (hw_heldIntS_0 y0 y1 y2)) (leafRd Ew_heldIntS 0)) = (g_Sw_heldIntS_0 y0 (y1, y2)).bt (fun ((y1, y2) : (Int) × (Int)) => (hw_heldIntS_0 y0 y1 y2)) (xw_heldIntS_0 y0) := by kernel_rfl
theorem kw_heldIntS_1 : OrcOk Ew_heldIntS Ow_heldIntS_1 lsw_heldIntS 1 := orc_add kw_heldIntS_0 (fun n p hp h ex h' ho => by
  obtain ⟨b, c⟩ := p
  obtain ⟨xt, h1, h2⟩ := ho
  have h1 : Ow_heldIntS_1 b h = some (true, xt) := h1
  unfold Ow_heldIntS_1 at h1
  split at h1
  · injection h1 with h1
    injection h1 with e1 e2
    subst e2
    have hc : c = cw_heldIntS_0 := mw_heldIntS_0 _ hp rfl
    subst hc
    right
    rename_i y0 y1 y2
    have key := LT_step kw_heldIntS_0 hp (fun q hq => loopsAll_in _ _ _ _ hp hq) (fun ((y1, y2) : (Int) × (Int)) => (hw_heldIntS_0 y0 y1 y2)) (xw_heldIntS_0 y0) (g_Sw_heldIntS_0 y0) (fun x => by first | exact bw_heldIntS_0 y0 x.1 x.2) n (x := (y1, y2)) (okO_some e1)
    have hx : ∀ r, XT.sel (.br (isL r) (.leaf .ret [(.T 1, .t (.val false [.int .i64 (getL r).1])), (.T 4, .t (.val false [.int .i64 (getL r).2]))]) (.leaf (.exit 0) [(.T 1, .t (.val false [.int .i64 (getR r)])), (.T 4, .t (.val false [.undef]))])) = xw_heldIntS_0 y0 r := fun r => by first | rfl | (rcases r with r | r <;> rfl) | (rcases r with r | r | r <;> rfl) | (rcases r with r | r | r | r <;> rfl)
    have h3 := (hx (valO (g_Lw_heldIntS_0 y0 (y1, y2)))).symm.trans h2
    have e3 := congrArg Prod.fst h3
    have e4 := congrArg Prod.snd h3
    simp only at e3 e4
    rw [← e3, ← e4]
    exact key
  · exact .inl ⟨xt, h1, h2⟩)
noncomputable def g_Aw_heldIntS (a0 : List (Int)) (a1 : Int) : Bool := okO (g_Lw_heldIntS_0 a0 (a1, (0 : Int)))
noncomputable def g_Vw_heldIntS_0 (a0 : List (Int)) (a1 : Int) : Int := bif isL (valO (g_Lw_heldIntS_0 a0 (a1, (0 : Int)))) then (getL (valO (g_Lw_heldIntS_0 a0 (a1, (0 : Int))))).2 else getR (valO (g_Lw_heldIntS_0 a0 (a1, (0 : Int))))
noncomputable def Fw_heldIntS : FSem := fun ys => match ys with
  | [.val false [.sl .any 3 (.int .i64) a0], .val false [.int .i64 a1]] => some ((g_Aw_heldIntS a0 a1), .val false [.int .i64 (g_Vw_heldIntS_0 a0 a1)], [])
  | _ => none
theorem vw_heldIntS (a0 : List (Int)) (a1 : Int) : collapseH .std Ew_heldIntS Ow_heldIntS_1 (execFn Ew_heldIntS Go.Proofs.Tryd.f41 msw_heldIntS [.val false [.sl .any 3 (.int .i64) a0], .val false [.int .i64 a1]]) = some ((g_Aw_heldIntS a0 a1), .val false [.int .i64 (g_Vw_heldIntS_0 a0 a1)], []) := by kernel_rfl
theorem sw_heldIntS : Sound Go.Proofs.Tryd.prog 41 msw_heldIntS Fw_heldIntS := by
  refine fn_gen goodw_heldIntS (by kernel_rfl) .std (fn := Go.Proofs.Tryd.f41) (c := (Go.Proofs.Tryd.f41.body.getD .skip)) (o := Ow_heldIntS_1) (k := 1) (by kernel_rfl) (by kernel_rfl) (by kernel_rfl) (by kernel_rfl) (by decide) kw_heldIntS_1 ?_
  intro ys r outs h
  unfold Fw_heldIntS at h
  split at h
  · exact (vw_heldIntS _ _).trans h
  · cases h
end Go.Proofs.YtkjeicijcecmlaaDoor.E
end
section
namespace Go.Proofs.YtkjeicijcecmlaaDoor.E
open Go
set_option maxRecDepth 100000
set_option maxHeartbeats 0
set_option linter.all false
noncomputable def Ew_heldStringS : Env where
  tt := mkTI Go.Proofs.Tryd.prog
  fn := fun f => match f with
    | 95 => some (msw_markText, FSem.wk msw_markText Fw_markText)
    | _ => none
  bxf := fun _ => none
  mv := []
  keep := fun b => match b with
    | 0 => [(0, false), (1, false), (5, false)]
    | _ => []
  keepB := fun b => match b with
    | 0 => []
    | _ => []
  keepX := fun b => match b with
    | 0 => [(1, false), (4, false)]
    | _ => []
  keepXB := fun b => match b with
    | 0 => []
    | _ => []
theorem goodFw_heldStringS : ∀ f ms F, Ew_heldStringS.fn f = some (ms, F) → Sound Go.Proofs.Tryd.prog f ms F := fun f ms F h => by
  unfold Ew_heldStringS at h
  dsimp only at h
  split at h
  · injection h with h; injection h with e1 e2; subst e1 e2; exact Sound.wk sw_markText
  · cases h
theorem goodBw_heldStringS : ∀ f ms F, Ew_heldStringS.bxf f = some (ms, F) → SoundB Go.Proofs.Tryd.prog f ms F := fun f ms F h => by cases h
theorem goodw_heldStringS : Good Go.Proofs.Tryd.prog Ew_heldStringS := ⟨rfl, goodFw_heldStringS, goodBw_heldStringS⟩
noncomputable def Ow_heldStringS_0 : Orc := fun _ _ => none
noncomputable def msw_heldStringS : List PM := [.rd, .own]
noncomputable def lsw_heldStringS : List (Nat × Code) := loopsAll 0 (Go.Proofs.Tryd.f46.body.getD .skip)
noncomputable def cw_heldStringS_0 : Code := (loopOf 0 (Go.Proofs.Tryd.f46.body.getD .skip)).getD .skip
theorem lseqw_heldStringS : lsw_heldStringS = [(0, cw_heldStringS_0)] := by kernel_rfl
theorem mw_heldStringS_0 : ∀ p, p ∈ lsw_heldStringS → p.1 = 0 → p.2 = cw_heldStringS_0 := by
  intro p hp
  rw [lseqw_heldStringS] at hp
  simp only [List.mem_cons, List.not_mem_nil, or_false] at hp
  subst hp; simp
theorem kw_heldStringS_0 : OrcOk Ew_heldStringS Ow_heldStringS_0 lsw_heldStringS 0 := orcOk_none
noncomputable def hw_heldStringS_0 (y0 : List (ByteArray)) (y1 : Int) (y2 : Int) : List (Pl × LV) := [(.T 0, .t (.val false [.sl .any 9 .str y0])), (.T 1, .t (.val false [.int .i64 y1])), (.T 5, .t (.val false [.int .i64 y2]))]
noncomputable def g_Sw_heldStringS_0 (y0 : List (ByteArray)) : ((Int) × (Int)) → RT ((Int) × (Int)) (((Int) × (Int)) ⊕ ((Int)))
  | (y1, y2) => .br (true) (.br (decide (y2 < (↑(List.length y0) : Int))) (.br (decide ((0 : Int) ≤ y2 ∧ y2 < (↑(List.length y0) : Int))) (.br (g_Aw_markText y1) (.br (true) (.br (!ByteArray.toList (at_ Ty.str y0 (Int.toNat y2)) == ByteArray.toList (g_Vw_markText_0 y1)) (.out (.inl ((y1, (-1 : Int))))) (.br (true) (.br (true) (.go ((IntKind.wrap IntKind.i64 (y1 + (1 : Int)), IntKind.wrap IntKind.i64 (y2 + (1 : Int))))) (.bad)) (.bad))) (.bad)) (.bad)) (.bad)) (.out (.inr (y1)))) (.bad)
noncomputable def g_Lw_heldStringS_0 (y0 : List (ByteArray)) (x : (Int) × (Int)) : Option (((Int) × (Int)) ⊕ ((Int))) := loopO (g_Sw_heldStringS_0 y0) x
noncomputable def xw_heldStringS_0 (y0 : List (ByteArray)) : (((Int) × (Int)) ⊕ ((Int))) → Ex × List (Pl × LV) := fun
  | .inl r => (.ret, [(.T 1, .t (.val false [.int .i64 r.1])), (.T 4, .t (.val false [.int .i64 r.2]))])
  | .inr (r) => (.exit 0, [(.T 1, .t (.val false [.int .i64 r])), (.T 4, .t (.val false [.undef]))])
noncomputable def Ow_heldStringS_1 : Orc := fun b h => match b, h with
  | 0, [(.T 0, .t (.val false [.sl .any 9 .str y0])), (.T 1, .t (.val false [.int .i64 y1])), (.T 5, .t (.val false [.int .i64 y2]))] => some (okO (g_Lw_heldStringS_0 y0 (y1, y2)), (.br (isL (valO (g_Lw_heldStringS_0 y0 (y1, y2)))) (.leaf .ret [(.T 1, .t (.val false [.int .i64 (getL (valO (g_Lw_heldStringS_0 y0 (y1, y2)))).1])), (.T 4, .t (.val false [.int .i64 (getL (valO (g_Lw_heldStringS_0 y0 (y1, y2)))).2]))]) (.leaf (.exit 0) [(.T 1, .t (.val false [.int .i64 (getR (valO (g_Lw_heldStringS_0 y0 (y1, y2))))])), (.T 4, .t (.val false [.undef]))])))
  | b, h => Ow_heldStringS_0 b h
theorem bw_heldStringS_0 (y0 : List (ByteArray)) (y1 : Int) (y2 : Int) : Tr.bt Ew_heldStringS Ow_heldStringS_0 (exec Ew_heldStringS 0 cw_heldStringS_0 (St.of (hw_heldStringS_0 y0 y1 y2)) (leafRd Ew_heldStringS 0)) = (g_Sw_heldStringS_0 y0 (y1, y2)).bt (fun ((y1, y2) : (Int) × (Int)) => (hw_heldStringS_0 y0 y1 y2)) (xw_heldStringS_0 y0) := by kernel_rfl
theorem kw_heldStringS_1 : OrcOk Ew_heldStringS Ow_heldStringS_1 lsw_heldStringS 1 := orc_add kw_heldStringS_0 (fun n p hp h ex h' ho => by
  obtain ⟨b, c⟩ := p
  obtain ⟨xt, h1, h2⟩ := ho
  have h1 : Ow_heldStringS_1 b h = some (true, xt) := h1
  unfold Ow_heldStringS_1 at h1
  split at h1
  · injection h1 with h1
    injection h1 with e1 e2
    subst e2
    have hc : c = cw_heldStringS_0 := mw_heldStringS_0 _ hp rfl
    subst hc
    right
    rename_i y0 y1 y2
    have key := LT_step kw_heldStringS_0 hp (fun q hq => loopsAll_in _ _ _ _ hp hq) (fun ((y1, y2) : (Int) × (Int)) => (hw_heldStringS_0 y0 y1 y2)) (xw_heldStringS_0 y0) (g_Sw_heldStringS_0 y0) (fun x => by first | exact bw_heldStringS_0 y0 x.1 x.2) n (x := (y1, y2)) (okO_some e1)
    have hx : ∀ r, XT.sel (.br (isL r) (.leaf .ret [(.T 1, .t (.val false [.int .i64 (getL r).1])), (.T 4, .t (.val false [.int .i64 (getL r).2]))]) (.leaf (.exit 0) [(.T 1, .t (.val false [.int .i64 (getR r)])), (.T 4, .t (.val false [.undef]))])) = xw_heldStringS_0 y0 r := fun r => by first | rfl | (rcases r with r | r <;> rfl) | (rcases r with r | r | r <;> rfl) | (rcases r with r | r | r | r <;> rfl)
    have h3 := (hx (valO (g_Lw_heldStringS_0 y0 (y1, y2)))).symm.trans h2
    have e3 := congrArg Prod.fst h3
    have e4 := congrArg Prod.snd h3
    simp only at e3 e4
    rw [← e3, ← e4]
    exact key
  · exact .inl ⟨xt, h1, h2⟩)
noncomputable def g_Aw_heldStringS (a0 : List (ByteArray)) (a1 : Int) : Bool := okO (g_Lw_heldStringS_0 a0 (a1, (0 : Int)))
noncomputable def g_Vw_heldStringS_0 (a0 : List (ByteArray)) (a1 : Int) : Int := bif isL (valO (g_Lw_heldStringS_0 a0 (a1, (0 : Int)))) then (getL (valO (g_Lw_heldStringS_0 a0 (a1, (0 : Int))))).2 else getR (valO (g_Lw_heldStringS_0 a0 (a1, (0 : Int))))
noncomputable def Fw_heldStringS : FSem := fun ys => match ys with
  | [.val false [.sl .any 9 .str a0], .val false [.int .i64 a1]] => some ((g_Aw_heldStringS a0 a1), .val false [.int .i64 (g_Vw_heldStringS_0 a0 a1)], [])
  | _ => none
theorem vw_heldStringS (a0 : List (ByteArray)) (a1 : Int) : collapseH .std Ew_heldStringS Ow_heldStringS_1 (execFn Ew_heldStringS Go.Proofs.Tryd.f46 msw_heldStringS [.val false [.sl .any 9 .str a0], .val false [.int .i64 a1]]) = some ((g_Aw_heldStringS a0 a1), .val false [.int .i64 (g_Vw_heldStringS_0 a0 a1)], []) := by kernel_rfl
theorem sw_heldStringS : Sound Go.Proofs.Tryd.prog 46 msw_heldStringS Fw_heldStringS := by
  refine fn_gen goodw_heldStringS (by kernel_rfl) .std (fn := Go.Proofs.Tryd.f46) (c := (Go.Proofs.Tryd.f46.body.getD .skip)) (o := Ow_heldStringS_1) (k := 1) (by kernel_rfl) (by kernel_rfl) (by kernel_rfl) (by kernel_rfl) (by decide) kw_heldStringS_1 ?_
  intro ys r outs h
  unfold Fw_heldStringS at h
  split at h
  · exact (vw_heldStringS _ _).trans h
  · cases h
end Go.Proofs.YtkjeicijcecmlaaDoor.E
end
section
namespace Go.Proofs.YtkjeicijcecmlaaDoor.E
open Go
set_option maxRecDepth 100000
set_option maxHeartbeats 0
set_option linter.all false
noncomputable def Ew_heldStoWriteS : Env where
  tt := mkTI Go.Proofs.Tryd.prog
  fn := fun f => match f with
    | 41 => some (msw_heldIntS, FSem.wk msw_heldIntS Fw_heldIntS)
    | 95 => some (msw_markText, FSem.wk msw_markText Fw_markText)
    | _ => none
  bxf := fun _ => none
  mv := []
  keep := fun b => match b with
    | 0 => [(0, false), (1, false), (5, false)]
    | _ => []
  keepB := fun b => match b with
    | 0 => []
    | _ => []
  keepX := fun b => match b with
    | 0 => [(1, false), (4, false)]
    | _ => []
  keepXB := fun b => match b with
    | 0 => []
    | _ => []
theorem goodFw_heldStoWriteS : ∀ f ms F, Ew_heldStoWriteS.fn f = some (ms, F) → Sound Go.Proofs.Tryd.prog f ms F := fun f ms F h => by
  unfold Ew_heldStoWriteS at h
  dsimp only at h
  split at h
  · injection h with h; injection h with e1 e2; subst e1 e2; exact Sound.wk sw_heldIntS
  · injection h with h; injection h with e1 e2; subst e1 e2; exact Sound.wk sw_markText
  · cases h
theorem goodBw_heldStoWriteS : ∀ f ms F, Ew_heldStoWriteS.bxf f = some (ms, F) → SoundB Go.Proofs.Tryd.prog f ms F := fun f ms F h => by cases h
theorem goodw_heldStoWriteS : Good Go.Proofs.Tryd.prog Ew_heldStoWriteS := ⟨rfl, goodFw_heldStoWriteS, goodBw_heldStoWriteS⟩
noncomputable def Ow_heldStoWriteS_0 : Orc := fun _ _ => none
noncomputable def msw_heldStoWriteS : List PM := [.rd, .own]
noncomputable def lsw_heldStoWriteS : List (Nat × Code) := loopsAll 0 (Go.Proofs.Tryd.f154.body.getD .skip)
noncomputable def cw_heldStoWriteS_0 : Code := (loopOf 0 (Go.Proofs.Tryd.f154.body.getD .skip)).getD .skip
theorem lseqw_heldStoWriteS : lsw_heldStoWriteS = [(0, cw_heldStoWriteS_0)] := by kernel_rfl
theorem mw_heldStoWriteS_0 : ∀ p, p ∈ lsw_heldStoWriteS → p.1 = 0 → p.2 = cw_heldStoWriteS_0 := by
  intro p hp
  rw [lseqw_heldStoWriteS] at hp
  simp only [List.mem_cons, List.not_mem_nil, or_false] at hp
  subst hp; simp
theorem kw_heldStoWriteS_0 : OrcOk Ew_heldStoWriteS Ow_heldStoWriteS_0 lsw_heldStoWriteS 0 := orcOk_none
noncomputable def hw_heldStoWriteS_0 (y0 : List ((ByteArray) × ((Bool) × (List (Int))))) (y1 : Int) (y2 : Int) : List (Pl × LV) := [(.T 0, .t (.val false [.sl .any 38 (.pair .str (.pair .bool (.sl 3 (.int .i64)))) y0])), (.T 1, .t (.val false [.int .i64 y1])), (.T 5, .t (.val false [.int .i64 y2]))]
noncomputable def g_Sw_heldStoWriteS_0 (y0 : List ((ByteArray) × ((Bool) × (List (Int))))) : ((Int) × (Int)) → RT ((Int) × (Int)) (((Int) × (Int)) ⊕ ((Int)))
  | (y1, y2) => .br (true) (.br (decide (y2 < (↑(List.length y0) : Int))) (.br (decide ((0 : Int) ≤ y2 ∧ y2 < (↑(List.length y0) : Int))) (.br (g_Aw_markText y1) (.br (true) (.br (!ByteArray.toList (at_ (Ty.pair Ty.str (Ty.pair Ty.bool (Ty.sl (nat_lit 3) (Ty.int IntKind.i64)))) y0 (Int.toNat y2)).1 == ByteArray.toList (g_Vw_markText_0 y1)) (.out (.inl ((y1, (-1 : Int))))) (.br (true) (.br (decide ((0 : Int) ≤ y2 ∧ y2 < (↑(List.length y0) : Int))) (.br (true) (.br (true) (.br (!(at_ (Ty.pair Ty.str (Ty.pair Ty.bool (Ty.sl (nat_lit 3) (Ty.int IntKind.i64)))) y0 (Int.toNat y2)).2.1 == (Int.tmod (IntKind.wrap IntKind.i64 (y1 + (1 : Int))) (3 : Int) == (0 : Int))) (.out (.inl ((IntKind.wrap IntKind.i64 (y1 + (1 : Int)), (-1 : Int))))) (.br (true) (.br (decide ((0 : Int) ≤ y2 ∧ y2 < (↑(List.length y0) : Int))) (.br (g_Aw_heldIntS (at_ (Ty.pair Ty.str (Ty.pair Ty.bool (Ty.sl (nat_lit 3) (Ty.int IntKind.i64)))) y0 (Int.toNat y2)).2.2 (IntKind.wrap IntKind.i64 (IntKind.wrap IntKind.i64 (y1 + (1 : Int)) + (1 : Int)))) (.br (true) (.br (decide (g_Vw_heldIntS_0 (at_ (Ty.pair Ty.str (Ty.pair Ty.bool (Ty.sl (nat_lit 3) (Ty.int IntKind.i64)))) y0 (Int.toNat y2)).2.2 (IntKind.wrap IntKind.i64 (IntKind.wrap IntKind.i64 (y1 + (1 : Int)) + (1 : Int))) < (0 : Int))) (.out (.inl ((g_Vw_heldIntS_0 (at_ (Ty.pair Ty.str (Ty.pair Ty.bool (Ty.sl (nat_lit 3) (Ty.int IntKind.i64)))) y0 (Int.toNat y2)).2.2 (IntKind.wrap IntKind.i64 (IntKind.wrap IntKind.i64 (y1 + (1 : Int)) + (1 : Int))), (-1 : Int))))) (.br (true) (.go ((g_Vw_heldIntS_0 (at_ (Ty.pair Ty.str (Ty.pair Ty.bool (Ty.sl (nat_lit 3) (Ty.int IntKind.i64)))) y0 (Int.toNat y2)).2.2 (IntKind.wrap IntKind.i64 (IntKind.wrap IntKind.i64 (y1 + (1 : Int)) + (1 : Int))), IntKind.wrap IntKind.i64 (y2 + (1 : Int))))) (.bad))) (.bad)) (.bad)) (.bad)) (.bad))) (.bad)) (.bad)) (.bad)) (.bad))) (.bad)) (.bad)) (.bad)) (.out (.inr (y1)))) (.bad)
noncomputable def g_Lw_heldStoWriteS_0 (y0 : List ((ByteArray) × ((Bool) × (List (Int))))) (x : (Int) × (Int)) : Option (((Int) × (Int)) ⊕ ((Int))) := loopO (g_Sw_heldStoWriteS_0 y0) x
noncomputable def xw_heldStoWriteS_0 (y0 : List ((ByteArray) × ((Bool) × (List (Int))))) : (((Int) × (Int)) ⊕ ((Int))) → Ex × List (Pl × LV) := fun
  | .inl r => (.ret, [(.T 1, .t (.val false [.int .i64 r.1])), (.T 4, .t (.val false [.int .i64 r.2]))])
  | .inr (r) => (.exit 0, [(.T 1, .t (.val false [.int .i64 r])), (.T 4, .t (.val false [.undef]))])
noncomputable def Ow_heldStoWriteS_1 : Orc := fun b h => match b, h with
  | 0, [(.T 0, .t (.val false [.sl .any 38 (.pair .str (.pair .bool (.sl 3 (.int .i64)))) y0])), (.T 1, .t (.val false [.int .i64 y1])), (.T 5, .t (.val false [.int .i64 y2]))] => some (okO (g_Lw_heldStoWriteS_0 y0 (y1, y2)), (.br (isL (valO (g_Lw_heldStoWriteS_0 y0 (y1, y2)))) (.leaf .ret [(.T 1, .t (.val false [.int .i64 (getL (valO (g_Lw_heldStoWriteS_0 y0 (y1, y2)))).1])), (.T 4, .t (.val false [.int .i64 (getL (valO (g_Lw_heldStoWriteS_0 y0 (y1, y2)))).2]))]) (.leaf (.exit 0) [(.T 1, .t (.val false [.int .i64 (getR (valO (g_Lw_heldStoWriteS_0 y0 (y1, y2))))])), (.T 4, .t (.val false [.undef]))])))
  | b, h => Ow_heldStoWriteS_0 b h
theorem bw_heldStoWriteS_0 (y0 : List ((ByteArray) × ((Bool) × (List (Int))))) (y1 : Int) (y2 : Int) : Tr.bt Ew_heldStoWriteS Ow_heldStoWriteS_0 (exec Ew_heldStoWriteS 0 cw_heldStoWriteS_0 (St.of (hw_heldStoWriteS_0 y0 y1 y2)) (leafRd Ew_heldStoWriteS 0)) = (g_Sw_heldStoWriteS_0 y0 (y1, y2)).bt (fun ((y1, y2) : (Int) × (Int)) => (hw_heldStoWriteS_0 y0 y1 y2)) (xw_heldStoWriteS_0 y0) := by kernel_rfl
theorem kw_heldStoWriteS_1 : OrcOk Ew_heldStoWriteS Ow_heldStoWriteS_1 lsw_heldStoWriteS 1 := orc_add kw_heldStoWriteS_0 (fun n p hp h ex h' ho => by
  obtain ⟨b, c⟩ := p
  obtain ⟨xt, h1, h2⟩ := ho
  have h1 : Ow_heldStoWriteS_1 b h = some (true, xt) := h1
  unfold Ow_heldStoWriteS_1 at h1
  split at h1
  · injection h1 with h1
    injection h1 with e1 e2
    subst e2
    have hc : c = cw_heldStoWriteS_0 := mw_heldStoWriteS_0 _ hp rfl
    subst hc
    right
    rename_i y0 y1 y2
    have key := LT_step kw_heldStoWriteS_0 hp (fun q hq => loopsAll_in _ _ _ _ hp hq) (fun ((y1, y2) : (Int) × (Int)) => (hw_heldStoWriteS_0 y0 y1 y2)) (xw_heldStoWriteS_0 y0) (g_Sw_heldStoWriteS_0 y0) (fun x => by first | exact bw_heldStoWriteS_0 y0 x.1 x.2) n (x := (y1, y2)) (okO_some e1)
    have hx : ∀ r, XT.sel (.br (isL r) (.leaf .ret [(.T 1, .t (.val false [.int .i64 (getL r).1])), (.T 4, .t (.val false [.int .i64 (getL r).2]))]) (.leaf (.exit 0) [(.T 1, .t (.val false [.int .i64 (getR r)])), (.T 4, .t (.val false [.undef]))])) = xw_heldStoWriteS_0 y0 r := fun r => by first | rfl | (rcases r with r | r <;> rfl) | (rcases r with r | r | r <;> rfl) | (rcases r with r | r | r | r <;> rfl)
    have h3 := (hx (valO (g_Lw_heldStoWriteS_0 y0 (y1, y2)))).symm.trans h2
    have e3 := congrArg Prod.fst h3
    have e4 := congrArg Prod.snd h3
    simp only at e3 e4
    rw [← e3, ← e4]
    exact key
  · exact .inl ⟨xt, h1, h2⟩)
noncomputable def g_Aw_heldStoWriteS (a0 : List ((ByteArray) × ((Bool) × (List (Int))))) (a1 : Int) : Bool := okO (g_Lw_heldStoWriteS_0 a0 (a1, (0 : Int)))
noncomputable def g_Vw_heldStoWriteS_0 (a0 : List ((ByteArray) × ((Bool) × (List (Int))))) (a1 : Int) : Int := bif isL (valO (g_Lw_heldStoWriteS_0 a0 (a1, (0 : Int)))) then (getL (valO (g_Lw_heldStoWriteS_0 a0 (a1, (0 : Int))))).2 else getR (valO (g_Lw_heldStoWriteS_0 a0 (a1, (0 : Int))))
noncomputable def Fw_heldStoWriteS : FSem := fun ys => match ys with
  | [.val false [.sl .any 38 (.pair .str (.pair .bool (.sl 3 (.int .i64)))) a0], .val false [.int .i64 a1]] => some ((g_Aw_heldStoWriteS a0 a1), .val false [.int .i64 (g_Vw_heldStoWriteS_0 a0 a1)], [])
  | _ => none
theorem vw_heldStoWriteS (a0 : List ((ByteArray) × ((Bool) × (List (Int))))) (a1 : Int) : collapseH .std Ew_heldStoWriteS Ow_heldStoWriteS_1 (execFn Ew_heldStoWriteS Go.Proofs.Tryd.f154 msw_heldStoWriteS [.val false [.sl .any 38 (.pair .str (.pair .bool (.sl 3 (.int .i64)))) a0], .val false [.int .i64 a1]]) = some ((g_Aw_heldStoWriteS a0 a1), .val false [.int .i64 (g_Vw_heldStoWriteS_0 a0 a1)], []) := by kernel_rfl
theorem sw_heldStoWriteS : Sound Go.Proofs.Tryd.prog 154 msw_heldStoWriteS Fw_heldStoWriteS := by
  refine fn_gen goodw_heldStoWriteS (by kernel_rfl) .std (fn := Go.Proofs.Tryd.f154) (c := (Go.Proofs.Tryd.f154.body.getD .skip)) (o := Ow_heldStoWriteS_1) (k := 1) (by kernel_rfl) (by kernel_rfl) (by kernel_rfl) (by kernel_rfl) (by decide) kw_heldStoWriteS_1 ?_
  intro ys r outs h
  unfold Fw_heldStoWriteS at h
  split at h
  · exact (vw_heldStoWriteS _ _).trans h
  · cases h
end Go.Proofs.YtkjeicijcecmlaaDoor.E
end
