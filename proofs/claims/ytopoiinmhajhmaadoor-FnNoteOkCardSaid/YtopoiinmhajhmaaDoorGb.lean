/- What the functions that are reached do, by the engine: for the proof (laws.FnNoteOk): part 2. No conditions. -/
import Derived.Test.YtopoiinmhajhmaaDoorGa
import Derived.Test.YtopoiinmhajhmaaDoorProg
set_option linter.all false
section
namespace Go.Proofs.YtopoiinmhajhmaaDoor.E
open Go
set_option maxRecDepth 100000
set_option maxHeartbeats 0
set_option linter.all false
noncomputable def Ew_FnNoteOk : Env where
  tt := mkTI Go.Proofs.Tryd.prog
  fn := fun f => match f with
    | 18 => some (msw_jaOk, FSem.wk msw_jaOk Fw_jaOk)
    | 43 => some (mss_DrawNoteOk, FSem.wk mss_DrawNoteOk Fs_DrawNoteOk)
    | 44 => some (msi_NoteOk, FSem.wk msi_NoteOk Fi_NoteOk)
    | 45 => some (mss_NoteOk, FSem.wk mss_NoteOk Fs_NoteOk)
    | 46 => some (msw_jaHas, FSem.wk msw_jaHas Fw_jaHas)
    | _ => none
  bxf := fun _ => none
  mv := []
  keep := fun b => match b with
    | 0 => [(3, false), (5, false)]
    | _ => []
  keepB := fun b => match b with
    | 0 => [(3, false)]
    | _ => []
  keepX := fun b => match b with
    | 0 => [(2, false), (3, false)]
    | _ => []
  keepXB := fun b => match b with
    | 0 => [(3, false)]
    | _ => []
theorem goodFw_FnNoteOk : ∀ f ms F, Ew_FnNoteOk.fn f = some (ms, F) → Sound Go.Proofs.Tryd.prog f ms F := fun f ms F h => by
  unfold Ew_FnNoteOk at h
  dsimp only at h
  split at h
  · injection h with h; injection h with e1 e2; subst e1 e2; exact Sound.wk sw_jaOk
  · injection h with h; injection h with e1 e2; subst e1 e2; exact Sound.wk ss_DrawNoteOk
  · injection h with h; injection h with e1 e2; subst e1 e2; exact Sound.wk si_NoteOk
  · injection h with h; injection h with e1 e2; subst e1 e2; exact Sound.wk ss_NoteOk
  · injection h with h; injection h with e1 e2; subst e1 e2; exact Sound.wk sw_jaHas
  · cases h
theorem goodBw_FnNoteOk : ∀ f ms F, Ew_FnNoteOk.bxf f = some (ms, F) → SoundB Go.Proofs.Tryd.prog f ms F := fun f ms F h => by cases h
theorem goodw_FnNoteOk : Good Go.Proofs.Tryd.prog Ew_FnNoteOk := ⟨rfl, goodFw_FnNoteOk, goodBw_FnNoteOk⟩
noncomputable def Ow_FnNoteOk_0 : Orc := fun _ _ => none
noncomputable def msw_FnNoteOk : List PM := [.rd]
noncomputable def lsw_FnNoteOk : List (Nat × Code) := loopsAll 0 (Go.Proofs.Tryd.f11.body.getD .skip)
noncomputable def cw_FnNoteOk_0 : Code := (loopOf 0 (Go.Proofs.Tryd.f11.body.getD .skip)).getD .skip
theorem lseqw_FnNoteOk : lsw_FnNoteOk = [(0, cw_FnNoteOk_0)] := by kernel_rfl
theorem mw_FnNoteOk_0 : ∀ p, p ∈ lsw_FnNoteOk → p.1 = 0 → p.2 = cw_FnNoteOk_0 := by
  intro p hp
  rw [lseqw_FnNoteOk] at hp
  simp only [List.mem_cons, List.not_mem_nil, or_false] at hp
  subst hp; simp
theorem kw_FnNoteOk_0 : OrcOk Ew_FnNoteOk Ow_FnNoteOk_0 lsw_FnNoteOk 0 := orcOk_none
noncomputable def hw_FnNoteOk_0 (y0 : Int) (y1 : Int) (y2 : Int) (y3 : List (ByteArray)) (y4 : List ((ByteArray) × ((Bool) × (List (Int))))) : List (Pl × LV) := [(.T 3, .t (.val false [.ptr 3 0 0])), (.T 5, .t (.val false [.int .i64 y0])), (.B 3, .b 0 false [.int .i64 y1, .int .i64 y2, .sl .any 9 .str y3, .sl .any 32 (.pair .str (.pair .bool (.sl 3 (.int .i64)))) y4])]
noncomputable def g_Sw_FnNoteOk_0 (y1 : Int) (y2 : Int) (y3 : List (ByteArray)) (y4 : List ((ByteArray) × ((Bool) × (List (Int))))) : ((Int)) → RT ((Int)) (((Bool)) ⊕ (Unit))
  | y0 => .br (true) (.br (decide (y0 < (↑(List.length y4) : Int))) (.br (decide ((0 : Int) ≤ y0 ∧ y0 < (↑(List.length y4) : Int))) (.br (g_Aw_jaHas y3 (at_ (Ty.pair Ty.str (Ty.pair Ty.bool (Ty.sl (nat_lit 3) (Ty.int IntKind.i64)))) y4 (Int.toNat y0)).1) (.br (!g_Vw_jaHas_0 y3 (at_ (Ty.pair Ty.str (Ty.pair Ty.bool (Ty.sl (nat_lit 3) (Ty.int IntKind.i64)))) y4 (Int.toNat y0)).1) (.out (.inl false)) (.br (true) (.go (IntKind.wrap IntKind.i64 (y0 + (1 : Int)))) (.bad))) (.bad)) (.bad)) (.out (.inr (())))) (.bad)
noncomputable def g_Lw_FnNoteOk_0 (y1 : Int) (y2 : Int) (y3 : List (ByteArray)) (y4 : List ((ByteArray) × ((Bool) × (List (Int))))) (x : (Int)) : Option (((Bool)) ⊕ (Unit)) := loopO (g_Sw_FnNoteOk_0 y1 y2 y3 y4) x
noncomputable def xw_FnNoteOk_0 (y1 : Int) (y2 : Int) (y3 : List (ByteArray)) (y4 : List ((ByteArray) × ((Bool) × (List (Int))))) : (((Bool)) ⊕ (Unit)) → Ex × List (Pl × LV) := fun
  | .inl r => (.ret, [(.T 2, .t (.val false [.bool r])), (.T 3, .t (.val false [.ptr 3 0 0])), (.B 3, .b 0 false [.int .i64 y1, .int .i64 y2, .sl .any 9 .str y3, .sl .any 32 (.pair .str (.pair .bool (.sl 3 (.int .i64)))) y4])])
  | .inr (r) => (.exit 0, [(.T 2, .t (.val false [.undef])), (.T 3, .t (.val false [.ptr 3 0 0])), (.B 3, .b 0 false [.int .i64 y1, .int .i64 y2, .sl .any 9 .str y3, .sl .any 32 (.pair .str (.pair .bool (.sl 3 (.int .i64)))) y4])])
noncomputable def Ow_FnNoteOk_1 : Orc := fun b h => match b, h with
  | 0, [(.T 3, .t (.val false [.ptr 3 0 0])), (.T 5, .t (.val false [.int .i64 y0])), (.B 3, .b 0 false [.int .i64 y1, .int .i64 y2, .sl .any 9 .str y3, .sl .any 32 (.pair .str (.pair .bool (.sl 3 (.int .i64)))) y4])] => some (okO (g_Lw_FnNoteOk_0 y1 y2 y3 y4 y0), (.br (isL (valO (g_Lw_FnNoteOk_0 y1 y2 y3 y4 y0))) (.leaf .ret [(.T 2, .t (.val false [.bool (getL (valO (g_Lw_FnNoteOk_0 y1 y2 y3 y4 y0)))])), (.T 3, .t (.val false [.ptr 3 0 0])), (.B 3, .b 0 false [.int .i64 y1, .int .i64 y2, .sl .any 9 .str y3, .sl .any 32 (.pair .str (.pair .bool (.sl 3 (.int .i64)))) y4])]) (.leaf (.exit 0) [(.T 2, .t (.val false [.undef])), (.T 3, .t (.val false [.ptr 3 0 0])), (.B 3, .b 0 false [.int .i64 y1, .int .i64 y2, .sl .any 9 .str y3, .sl .any 32 (.pair .str (.pair .bool (.sl 3 (.int .i64)))) y4])])))
  | b, h => Ow_FnNoteOk_0 b h
theorem bw_FnNoteOk_0 (y0 : Int) (y1 : Int) (y2 : Int) (y3 : List (ByteArray)) (y4 : List ((ByteArray) × ((Bool) × (List (Int))))) : Tr.bt Ew_FnNoteOk Ow_FnNoteOk_0 (exec Ew_FnNoteOk 0 cw_FnNoteOk_0 (St.of (hw_FnNoteOk_0 y0 y1 y2 y3 y4)) (leafRd Ew_FnNoteOk 0)) = (g_Sw_FnNoteOk_0 y1 y2 y3 y4 y0).bt (fun (y0 : (Int)) => (hw_FnNoteOk_0 y0 y1 y2 y3 y4)) (xw_FnNoteOk_0 y1 y2 y3 y4) := by kernel_rfl
theorem kw_FnNoteOk_1 : OrcOk Ew_FnNoteOk Ow_FnNoteOk_1 lsw_FnNoteOk 1 := orc_add kw_FnNoteOk_0 (fun n p hp h ex h' ho => by
  obtain ⟨b, c⟩ := p
  obtain ⟨xt, h1, h2⟩ := ho
  have h1 : Ow_FnNoteOk_1 b h = some (true, xt) := h1
  unfold Ow_FnNoteOk_1 at h1
  split at h1
  · injection h1 with h1
    injection h1 with e1 e2
    subst e2
    have hc : c = cw_FnNoteOk_0 := mw_FnNoteOk_0 _ hp rfl
    subst hc
    right
    rename_i y0 y1 y2 y3 y4
    have key := LT_step kw_FnNoteOk_0 hp (fun q hq => loopsAll_in _ _ _ _ hp hq) (fun (y0 : (Int)) => (hw_FnNoteOk_0 y0 y1 y2 y3 y4)) (xw_FnNoteOk_0 y1 y2 y3 y4) (g_Sw_FnNoteOk_0 y1 y2 y3 y4) (fun x => by first | exact bw_FnNoteOk_0 x y1 y2 y3 y4) n (x := y0) (okO_some e1)
    have hx : ∀ r, XT.sel (.br (isL r) (.leaf .ret [(.T 2, .t (.val false [.bool (getL r)])), (.T 3, .t (.val false [.ptr 3 0 0])), (.B 3, .b 0 false [.int .i64 y1, .int .i64 y2, .sl .any 9 .str y3, .sl .any 32 (.pair .str (.pair .bool (.sl 3 (.int .i64)))) y4])]) (.leaf (.exit 0) [(.T 2, .t (.val false [.undef])), (.T 3, .t (.val false [.ptr 3 0 0])), (.B 3, .b 0 false [.int .i64 y1, .int .i64 y2, .sl .any 9 .str y3, .sl .any 32 (.pair .str (.pair .bool (.sl 3 (.int .i64)))) y4])])) = xw_FnNoteOk_0 y1 y2 y3 y4 r := fun r => by first | rfl | (rcases r with r | r <;> rfl) | (rcases r with r | r | r <;> rfl) | (rcases r with r | r | r | r <;> rfl)
    have h3 := (hx (valO (g_Lw_FnNoteOk_0 y1 y2 y3 y4 y0))).symm.trans h2
    have e3 := congrArg Prod.fst h3
    have e4 := congrArg Prod.snd h3
    simp only at e3 e4
    rw [← e3, ← e4]
    exact key
  · exact .inl ⟨xt, h1, h2⟩)
noncomputable def g_Aw_FnNoteOk (a0 : List (Int)) : Bool := decide ((↑(List.length a0) : Int) > (1048576 : Int)) || g_As_DrawNoteOk a0 && (g_Ai_NoteOk (g_Vs_DrawNoteOk_0 a0) (g_Vs_DrawNoteOk_1 a0) (g_Vs_DrawNoteOk_2 a0) (g_Vs_DrawNoteOk_3 a0) && (g_As_NoteOk (g_Vs_DrawNoteOk_0 a0) (g_Vs_DrawNoteOk_1 a0) (g_Vs_DrawNoteOk_2 a0) (g_Vs_DrawNoteOk_3 a0) && (!g_Vi_NoteOk_0 (g_Vs_DrawNoteOk_0 a0) (g_Vs_DrawNoteOk_1 a0) (g_Vs_DrawNoteOk_2 a0) (g_Vs_DrawNoteOk_3 a0) == g_Vs_NoteOk_0 (g_Vs_DrawNoteOk_0 a0) (g_Vs_DrawNoteOk_1 a0) (g_Vs_DrawNoteOk_2 a0) (g_Vs_DrawNoteOk_3 a0) || bif !g_Vi_NoteOk_0 (g_Vs_DrawNoteOk_0 a0) (g_Vs_DrawNoteOk_1 a0) (g_Vs_DrawNoteOk_2 a0) (g_Vs_DrawNoteOk_3 a0) then g_Aw_jaOk else okO (g_Lw_FnNoteOk_0 (g_Vs_DrawNoteOk_0 a0) (g_Vs_DrawNoteOk_1 a0) (g_Vs_DrawNoteOk_2 a0) (g_Vs_DrawNoteOk_3 a0) (0 : Int)) && (isL (valO (g_Lw_FnNoteOk_0 (g_Vs_DrawNoteOk_0 a0) (g_Vs_DrawNoteOk_1 a0) (g_Vs_DrawNoteOk_2 a0) (g_Vs_DrawNoteOk_3 a0) (0 : Int))) || bif g_Vs_DrawNoteOk_0 a0 == (1 : Int) then g_Ai_NoteOk (g_Vs_DrawNoteOk_0 a0) (g_Vs_DrawNoteOk_1 a0) [] [] else !IntKind.wrap IntKind.i64 ((↑(List.length (g_Vs_DrawNoteOk_2 a0)) : Int) + (↑(List.length (g_Vs_DrawNoteOk_3 a0)) : Int)) == (0 : Int) || g_Ai_NoteOk (g_Vs_DrawNoteOk_0 a0) (g_Vs_DrawNoteOk_1 a0) [] []))))
noncomputable def g_Vw_FnNoteOk_0 (a0 : List (Int)) : Bool := bif decide ((↑(List.length a0) : Int) > (1048576 : Int)) then true else bif !g_Vi_NoteOk_0 (g_Vs_DrawNoteOk_0 a0) (g_Vs_DrawNoteOk_1 a0) (g_Vs_DrawNoteOk_2 a0) (g_Vs_DrawNoteOk_3 a0) == g_Vs_NoteOk_0 (g_Vs_DrawNoteOk_0 a0) (g_Vs_DrawNoteOk_1 a0) (g_Vs_DrawNoteOk_2 a0) (g_Vs_DrawNoteOk_3 a0) then false else bif !g_Vi_NoteOk_0 (g_Vs_DrawNoteOk_0 a0) (g_Vs_DrawNoteOk_1 a0) (g_Vs_DrawNoteOk_2 a0) (g_Vs_DrawNoteOk_3 a0) then g_Vw_jaOk_0 else bif isL (valO (g_Lw_FnNoteOk_0 (g_Vs_DrawNoteOk_0 a0) (g_Vs_DrawNoteOk_1 a0) (g_Vs_DrawNoteOk_2 a0) (g_Vs_DrawNoteOk_3 a0) (0 : Int))) then getL (valO (g_Lw_FnNoteOk_0 (g_Vs_DrawNoteOk_0 a0) (g_Vs_DrawNoteOk_1 a0) (g_Vs_DrawNoteOk_2 a0) (g_Vs_DrawNoteOk_3 a0) (0 : Int))) else bif g_Vs_DrawNoteOk_0 a0 == (1 : Int) then g_Vi_NoteOk_0 (g_Vs_DrawNoteOk_0 a0) (g_Vs_DrawNoteOk_1 a0) [] [] else bif IntKind.wrap IntKind.i64 ((↑(List.length (g_Vs_DrawNoteOk_2 a0)) : Int) + (↑(List.length (g_Vs_DrawNoteOk_3 a0)) : Int)) == (0 : Int) then g_Vi_NoteOk_0 (g_Vs_DrawNoteOk_0 a0) (g_Vs_DrawNoteOk_1 a0) [] [] else false
noncomputable def Fw_FnNoteOk : FSem := fun ys => match ys with
  | [.val false [.sl .any 5 (.int .u8) a0]] => some ((g_Aw_FnNoteOk a0), .val false [.bool (g_Vw_FnNoteOk_0 a0)], [])
  | _ => none
theorem vw_FnNoteOk (a0 : List (Int)) : collapseH .std Ew_FnNoteOk Ow_FnNoteOk_1 (execFn Ew_FnNoteOk Go.Proofs.Tryd.f11 msw_FnNoteOk [.val false [.sl .any 5 (.int .u8) a0]]) = some ((g_Aw_FnNoteOk a0), .val false [.bool (g_Vw_FnNoteOk_0 a0)], []) := by kernel_rfl
theorem sw_FnNoteOk : Sound Go.Proofs.Tryd.prog 11 msw_FnNoteOk Fw_FnNoteOk := by
  refine fn_gen goodw_FnNoteOk (by kernel_rfl) .std (fn := Go.Proofs.Tryd.f11) (c := (Go.Proofs.Tryd.f11.body.getD .skip)) (o := Ow_FnNoteOk_1) (k := 1) (by kernel_rfl) (by kernel_rfl) (by kernel_rfl) (by kernel_rfl) (by decide) kw_FnNoteOk_1 ?_
  intro ys r outs h
  unfold Fw_FnNoteOk at h
  split at h
  · exact (vw_FnNoteOk _).trans h
  · cases h
end Go.Proofs.YtopoiinmhajhmaaDoor.E
end
