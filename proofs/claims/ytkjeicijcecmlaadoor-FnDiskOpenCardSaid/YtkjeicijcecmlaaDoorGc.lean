/- What the functions that are reached do, by the engine: for the proof (laws.FnDiskOpen): part 3. No conditions. -/
import Derived.Test.YtkjeicijcecmlaaDoorGb
import Derived.Test.YtkjeicijcecmlaaDoorProg
import Derived.Test.YtkjeicijcecmlaaDoorShelf
set_option linter.all false
section
namespace Go.Proofs.YtkjeicijcecmlaaDoor.E
open Go
set_option maxRecDepth 100000
set_option maxHeartbeats 0
set_option linter.all false
noncomputable def Ei_writesOf : Env where
  tt := mkTI Go.Proofs.Tryd.prog
  fn := fun f => match f with
    | 136 => some (msslices_Clone_int_int, FSem.wk msslices_Clone_int_int Fslices_Clone_int_int)
    | _ => none
  bxf := fun _ => none
  mv := []
  keep := fun b => match b with
    | 0 => [(3, false), (6, false), (7, false), (8, false)]
    | _ => []
  keepB := fun b => match b with
    | 0 => []
    | _ => []
  keepX := fun b => match b with
    | 0 => [(3, false)]
    | _ => []
  keepXB := fun b => match b with
    | 0 => []
    | _ => []
theorem goodFi_writesOf : ∀ f ms F, Ei_writesOf.fn f = some (ms, F) → Sound Go.Proofs.Tryd.prog f ms F := fun f ms F h => by
  unfold Ei_writesOf at h
  dsimp only at h
  split at h
  · injection h with h; injection h with e1 e2; subst e1 e2; exact Sound.wk sslices_Clone_int_int
  · cases h
theorem goodBi_writesOf : ∀ f ms F, Ei_writesOf.bxf f = some (ms, F) → SoundB Go.Proofs.Tryd.prog f ms F := fun f ms F h => by cases h
theorem goodi_writesOf : Good Go.Proofs.Tryd.prog Ei_writesOf := ⟨rfl, goodFi_writesOf, goodBi_writesOf⟩
noncomputable def Oi_writesOf_0 : Orc := fun _ _ => none
noncomputable def msi_writesOf : List PM := [.rd]
noncomputable def lsi_writesOf : List (Nat × Code) := loopsAll 0 (Go.Proofs.Tryd.f175.body.getD .skip)
noncomputable def ci_writesOf_0 : Code := (loopOf 0 (Go.Proofs.Tryd.f175.body.getD .skip)).getD .skip
theorem lseqi_writesOf : lsi_writesOf = [(0, ci_writesOf_0)] := by kernel_rfl
theorem mi_writesOf_0 : ∀ p, p ∈ lsi_writesOf → p.1 = 0 → p.2 = ci_writesOf_0 := by
  intro p hp
  rw [lseqi_writesOf] at hp
  simp only [List.mem_cons, List.not_mem_nil, or_false] at hp
  subst hp; simp
theorem ki_writesOf_0 : OrcOk Ei_writesOf Oi_writesOf_0 lsi_writesOf 0 := orcOk_none
noncomputable def hi_writesOf_0 (y0 : List ((ByteArray) × ((Bool) × (List (Int))))) (y1 : List ((ByteArray) × ((Bool) × (List (Int))))) (y2 : Int) (y3 : Int) : List (Pl × LV) := [(.T 3, .t (.val false [.row 3 0 0])), (.R 3 0, .r 0 (some ⟨false, .any, true, 38, (.pair .str (.pair .bool (.sl 3 (.int .i64)))), y0⟩)), (.T 6, .t (.val false [.sl .any 38 (.pair .str (.pair .bool (.sl 3 (.int .i64)))) y1])), (.T 7, .t (.val false [.int .i64 y2])), (.T 8, .t (.val false [.int .i64 y3]))]
noncomputable def g_Si_writesOf_0 (y1 : List ((ByteArray) × ((Bool) × (List (Int))))) (y2 : Int) : ((List ((ByteArray) × ((Bool) × (List (Int))))) × (Int)) → RT ((List ((ByteArray) × ((Bool) × (List (Int))))) × (Int)) (((List ((ByteArray) × ((Bool) × (List (Int)))))))
  | (y0, y3) => .br (true) (.br (decide (y3 < y2)) (.br (decide ((0 : Int) ≤ y3 ∧ y3 < (↑(List.length y1) : Int))) (.br (g_Aslices_Clone_int_int_b (at_ (Ty.pair Ty.str (Ty.pair Ty.bool (Ty.sl (nat_lit 3) (Ty.int IntKind.i64)))) y1 (Int.toNat y3)).2.2) (.br (decide ((List.length y0 + List.length [((at_ (Ty.pair Ty.str (Ty.pair Ty.bool (Ty.sl (nat_lit 3) (Ty.int IntKind.i64)))) y1 (Int.toNat y3)).1, (at_ (Ty.pair Ty.str (Ty.pair Ty.bool (Ty.sl (nat_lit 3) (Ty.int IntKind.i64)))) y1 (Int.toNat y3)).2.1, (at_ (Ty.pair Ty.str (Ty.pair Ty.bool (Ty.sl (nat_lit 3) (Ty.int IntKind.i64)))) y1 (Int.toNat y3)).2.2)]) * nat_lit 48 ≤ nat_lit 140737488355328 ∧ List.length y0 + List.length [((at_ (Ty.pair Ty.str (Ty.pair Ty.bool (Ty.sl (nat_lit 3) (Ty.int IntKind.i64)))) y1 (Int.toNat y3)).1, (at_ (Ty.pair Ty.str (Ty.pair Ty.bool (Ty.sl (nat_lit 3) (Ty.int IntKind.i64)))) y1 (Int.toNat y3)).2.1, (at_ (Ty.pair Ty.str (Ty.pair Ty.bool (Ty.sl (nat_lit 3) (Ty.int IntKind.i64)))) y1 (Int.toNat y3)).2.2)] ≤ nat_lit 9223372036854775807)) (.br (true) (.go ((y0 ++ [((at_ (Ty.pair Ty.str (Ty.pair Ty.bool (Ty.sl (nat_lit 3) (Ty.int IntKind.i64)))) y1 (Int.toNat y3)).1, (at_ (Ty.pair Ty.str (Ty.pair Ty.bool (Ty.sl (nat_lit 3) (Ty.int IntKind.i64)))) y1 (Int.toNat y3)).2.1, (at_ (Ty.pair Ty.str (Ty.pair Ty.bool (Ty.sl (nat_lit 3) (Ty.int IntKind.i64)))) y1 (Int.toNat y3)).2.2)], IntKind.wrap IntKind.i64 (y3 + (1 : Int))))) (.bad)) (.bad)) (.bad)) (.bad)) (.out (y0))) (.bad)
noncomputable def g_Li_writesOf_0 (y1 : List ((ByteArray) × ((Bool) × (List (Int))))) (y2 : Int) (x : (List ((ByteArray) × ((Bool) × (List (Int))))) × (Int)) : Option (((List ((ByteArray) × ((Bool) × (List (Int))))))) := loopO (g_Si_writesOf_0 y1 y2) x
noncomputable def xi_writesOf_0 (y1 : List ((ByteArray) × ((Bool) × (List (Int))))) (y2 : Int) : (((List ((ByteArray) × ((Bool) × (List (Int))))))) → Ex × List (Pl × LV) := fun r => (.exit 0, [(.T 3, .t (.val false [.row 3 0 0])), (.R 3 0, .r 0 (some ⟨false, .any, true, 38, (.pair .str (.pair .bool (.sl 3 (.int .i64)))), r⟩))])
noncomputable def Oi_writesOf_1 : Orc := fun b h => match b, h with
  | 0, [(.T 3, .t (.val false [.row 3 0 0])), (.R 3 0, .r 0 (some ⟨false, .any, true, 38, (.pair .str (.pair .bool (.sl 3 (.int .i64)))), y0⟩)), (.T 6, .t (.val false [.sl .any 38 (.pair .str (.pair .bool (.sl 3 (.int .i64)))) y1])), (.T 7, .t (.val false [.int .i64 y2])), (.T 8, .t (.val false [.int .i64 y3]))] => some (okO (g_Li_writesOf_0 y1 y2 (y0, y3)), (.leaf (.exit 0) [(.T 3, .t (.val false [.row 3 0 0])), (.R 3 0, .r 0 (some ⟨false, .any, true, 38, (.pair .str (.pair .bool (.sl 3 (.int .i64)))), (valO (g_Li_writesOf_0 y1 y2 (y0, y3)))⟩))]))
  | b, h => Oi_writesOf_0 b h
theorem bi_writesOf_0 (y0 : List ((ByteArray) × ((Bool) × (List (Int))))) (y1 : List ((ByteArray) × ((Bool) × (List (Int))))) (y2 : Int) (y3 : Int) : Tr.bt Ei_writesOf Oi_writesOf_0 (exec Ei_writesOf 0 ci_writesOf_0 (St.of (hi_writesOf_0 y0 y1 y2 y3)) (leafRd Ei_writesOf 0)) = (g_Si_writesOf_0 y1 y2 (y0, y3)).bt (fun ((y0, y3) : (List ((ByteArray) × ((Bool) × (List (Int))))) × (Int)) => (hi_writesOf_0 y0 y1 y2 y3)) (xi_writesOf_0 y1 y2) := by kernel_rfl
theorem ki_writesOf_1 : OrcOk Ei_writesOf Oi_writesOf_1 lsi_writesOf 1 := orc_add ki_writesOf_0 (fun n p hp h ex h' ho => by
  obtain ⟨b, c⟩ := p
  obtain ⟨xt, h1, h2⟩ := ho
  have h1 : Oi_writesOf_1 b h = some (true, xt) := h1
  unfold Oi_writesOf_1 at h1
  split at h1
  · injection h1 with h1
    injection h1 with e1 e2
    subst e2
    have hc : c = ci_writesOf_0 := mi_writesOf_0 _ hp rfl
    subst hc
    right
    rename_i y0 y1 y2 y3
    have key := LT_step ki_writesOf_0 hp (fun q hq => loopsAll_in _ _ _ _ hp hq) (fun ((y0, y3) : (List ((ByteArray) × ((Bool) × (List (Int))))) × (Int)) => (hi_writesOf_0 y0 y1 y2 y3)) (xi_writesOf_0 y1 y2) (g_Si_writesOf_0 y1 y2) (fun x => by first | exact bi_writesOf_0 x.1 y1 y2 x.2) n (x := (y0, y3)) (okO_some e1)
    have hx : ∀ r, XT.sel (.leaf (.exit 0) [(.T 3, .t (.val false [.row 3 0 0])), (.R 3 0, .r 0 (some ⟨false, .any, true, 38, (.pair .str (.pair .bool (.sl 3 (.int .i64)))), r⟩))]) = xi_writesOf_0 y1 y2 r := fun r => by first | rfl | (rcases r with r | r <;> rfl) | (rcases r with r | r | r <;> rfl) | (rcases r with r | r | r | r <;> rfl)
    have h3 := (hx (valO (g_Li_writesOf_0 y1 y2 (y0, y3)))).symm.trans h2
    have e3 := congrArg Prod.fst h3
    have e4 := congrArg Prod.snd h3
    simp only at e3 e4
    rw [← e3, ← e4]
    exact key
  · exact .inl ⟨xt, h1, h2⟩)
noncomputable def g_Ai_writesOf (a0 : List ((ByteArray) × ((Bool) × (List (Int))))) : Bool := okO (g_Li_writesOf_0 a0 (↑(List.length a0) : Int) ([], (0 : Int)))
noncomputable def g_Vi_writesOf_0 (a0 : List ((ByteArray) × ((Bool) × (List (Int))))) : List ((ByteArray) × ((Bool) × (List (Int)))) := valO (g_Li_writesOf_0 a0 (↑(List.length a0) : Int) ([], (0 : Int)))
noncomputable def Fi_writesOf : FSem := fun ys => match ys with
  | [.val false [.sl .any 38 (.pair .str (.pair .bool (.sl 3 (.int .i64)))) a0]] => some ((g_Ai_writesOf a0), .val false [.own .any true 38 (.pair .str (.pair .bool (.sl 3 (.int .i64)))) (g_Vi_writesOf_0 a0)], [])
  | _ => none
theorem vi_writesOf (a0 : List ((ByteArray) × ((Bool) × (List (Int))))) : collapseH .std Ei_writesOf Oi_writesOf_1 (execFn Ei_writesOf Go.Proofs.Tryd.f175 msi_writesOf [.val false [.sl .any 38 (.pair .str (.pair .bool (.sl 3 (.int .i64)))) a0]]) = some ((g_Ai_writesOf a0), .val false [.own .any true 38 (.pair .str (.pair .bool (.sl 3 (.int .i64)))) (g_Vi_writesOf_0 a0)], []) := by kernel_rfl
theorem si_writesOf : Sound Go.Proofs.Tryd.prog 175 msi_writesOf Fi_writesOf := by
  refine fn_gen goodi_writesOf (by kernel_rfl) .std (fn := Go.Proofs.Tryd.f175) (c := (Go.Proofs.Tryd.f175.body.getD .skip)) (o := Oi_writesOf_1) (k := 1) (by kernel_rfl) (by kernel_rfl) (by kernel_rfl) (by kernel_rfl) (by decide) ki_writesOf_1 ?_
  intro ys r outs h
  unfold Fi_writesOf at h
  split at h
  · exact (vi_writesOf _).trans h
  · cases h
end Go.Proofs.YtkjeicijcecmlaaDoor.E
end
section
namespace Go.Proofs.YtkjeicijcecmlaaDoor.E
open Go
set_option maxRecDepth 100000
set_option maxHeartbeats 0
set_option linter.all false
noncomputable def Eslices_Clone_string_string_a : Env where
  tt := mkTI Go.Proofs.Tryd.prog
  fn := fun _ => none
  bxf := fun _ => none
  mv := []
  keep := fun _ => []
  keepB := fun _ => []
  keepX := fun _ => []
  keepXB := fun _ => []
theorem goodFslices_Clone_string_string_a : ∀ f ms F, Eslices_Clone_string_string_a.fn f = some (ms, F) → Sound Go.Proofs.Tryd.prog f ms F := fun f ms F h => by cases h
theorem goodBslices_Clone_string_string_a : ∀ f ms F, Eslices_Clone_string_string_a.bxf f = some (ms, F) → SoundB Go.Proofs.Tryd.prog f ms F := fun f ms F h => by cases h
theorem goodslices_Clone_string_string_a : Good Go.Proofs.Tryd.prog Eslices_Clone_string_string_a := ⟨rfl, goodFslices_Clone_string_string_a, goodBslices_Clone_string_string_a⟩
noncomputable def Oslices_Clone_string_string_a_0 : Orc := fun _ _ => none
noncomputable def msslices_Clone_string_string_a : List PM := [.rd]
noncomputable def lsslices_Clone_string_string_a : List (Nat × Code) := loopsAll 0 (Go.Proofs.Tryd.f174.body.getD .skip)

theorem kslices_Clone_string_string_a_0 : OrcOk Eslices_Clone_string_string_a Oslices_Clone_string_string_a_0 lsslices_Clone_string_string_a 0 := orcOk_none
noncomputable def g_Vslices_Clone_string_string_a_0 : List (ByteArray) := []
noncomputable def Fslices_Clone_string_string_a : FSem := fun ys => match ys with
  | [.val false [.nil 9 .str]] => some (true, .val false [.own .any true 9 .str g_Vslices_Clone_string_string_a_0], [])
  | _ => none
theorem vslices_Clone_string_string_a : collapseH .std Eslices_Clone_string_string_a Oslices_Clone_string_string_a_0 (execFn Eslices_Clone_string_string_a Go.Proofs.Tryd.f174 msslices_Clone_string_string_a [.val false [.nil 9 .str]]) = some (true, .val false [.own .any true 9 .str g_Vslices_Clone_string_string_a_0], []) := by kernel_rfl
theorem sslices_Clone_string_string_a : Sound Go.Proofs.Tryd.prog 174 msslices_Clone_string_string_a Fslices_Clone_string_string_a := by
  refine fn_gen goodslices_Clone_string_string_a (by kernel_rfl) .std (fn := Go.Proofs.Tryd.f174) (c := (Go.Proofs.Tryd.f174.body.getD .skip)) (o := Oslices_Clone_string_string_a_0) (k := 0) (by kernel_rfl) (by kernel_rfl) (by kernel_rfl) (by kernel_rfl) (by decide) kslices_Clone_string_string_a_0 ?_
  intro ys r outs h
  unfold Fslices_Clone_string_string_a at h
  split at h
  · exact (vslices_Clone_string_string_a).trans h
  · cases h
end Go.Proofs.YtkjeicijcecmlaaDoor.E
end
section
namespace Go.Proofs.YtkjeicijcecmlaaDoor.E
open Go
set_option maxRecDepth 100000
set_option maxHeartbeats 0
set_option linter.all false
noncomputable def Eslices_Clone_string_string_b : Env where
  tt := mkTI Go.Proofs.Tryd.prog
  fn := fun _ => none
  bxf := fun _ => none
  mv := []
  keep := fun _ => []
  keepB := fun _ => []
  keepX := fun _ => []
  keepXB := fun _ => []
theorem goodFslices_Clone_string_string_b : ∀ f ms F, Eslices_Clone_string_string_b.fn f = some (ms, F) → Sound Go.Proofs.Tryd.prog f ms F := fun f ms F h => by cases h
theorem goodBslices_Clone_string_string_b : ∀ f ms F, Eslices_Clone_string_string_b.bxf f = some (ms, F) → SoundB Go.Proofs.Tryd.prog f ms F := fun f ms F h => by cases h
theorem goodslices_Clone_string_string_b : Good Go.Proofs.Tryd.prog Eslices_Clone_string_string_b := ⟨rfl, goodFslices_Clone_string_string_b, goodBslices_Clone_string_string_b⟩
noncomputable def Oslices_Clone_string_string_b_0 : Orc := fun _ _ => none
noncomputable def msslices_Clone_string_string_b : List PM := [.rd]
noncomputable def lsslices_Clone_string_string_b : List (Nat × Code) := loopsAll 0 (Go.Proofs.Tryd.f174.body.getD .skip)

theorem kslices_Clone_string_string_b_0 : OrcOk Eslices_Clone_string_string_b Oslices_Clone_string_string_b_0 lsslices_Clone_string_string_b 0 := orcOk_none
noncomputable def g_Aslices_Clone_string_string_b (a0 : List (ByteArray)) : Bool := decide ((nat_lit 0 + List.length a0) * nat_lit 16 ≤ nat_lit 140737488355328 ∧ nat_lit 0 + List.length a0 ≤ nat_lit 9223372036854775807)
noncomputable def g_Vslices_Clone_string_string_b_0 (a0 : List (ByteArray)) : List (ByteArray) := [] ++ a0
noncomputable def Fslices_Clone_string_string_b : FSem := fun ys => match ys with
  | [.val false [.sl .non 9 .str a0]] => some ((g_Aslices_Clone_string_string_b a0), .val false [.own .any true 9 .str (g_Vslices_Clone_string_string_b_0 a0)], [])
  | _ => none
theorem vslices_Clone_string_string_b (a0 : List (ByteArray)) : collapseH .std Eslices_Clone_string_string_b Oslices_Clone_string_string_b_0 (execFn Eslices_Clone_string_string_b Go.Proofs.Tryd.f174 msslices_Clone_string_string_b [.val false [.sl .non 9 .str a0]]) = some ((g_Aslices_Clone_string_string_b a0), .val false [.own .any true 9 .str (g_Vslices_Clone_string_string_b_0 a0)], []) := by kernel_rfl
theorem sslices_Clone_string_string_b : Sound Go.Proofs.Tryd.prog 174 msslices_Clone_string_string_b Fslices_Clone_string_string_b := by
  refine fn_gen goodslices_Clone_string_string_b (by kernel_rfl) .std (fn := Go.Proofs.Tryd.f174) (c := (Go.Proofs.Tryd.f174.body.getD .skip)) (o := Oslices_Clone_string_string_b_0) (k := 0) (by kernel_rfl) (by kernel_rfl) (by kernel_rfl) (by kernel_rfl) (by decide) kslices_Clone_string_string_b_0 ?_
  intro ys r outs h
  unfold Fslices_Clone_string_string_b at h
  split at h
  · exact (vslices_Clone_string_string_b _).trans h
  · cases h
end Go.Proofs.YtkjeicijcecmlaaDoor.E
end
section
namespace Go.Proofs.YtkjeicijcecmlaaDoor.E
open Go
set_option maxRecDepth 100000
set_option linter.all false
def msslices_Clone_string_string : List PM := [.rd]
noncomputable def Fslices_Clone_string_string : FSem := fun ys => match ys with
  | [.val false [.sl .any 9 .str a0]] => some ((g_Aslices_Clone_string_string_b a0), .val false [.own .any true 9 .str a0], [])
  | _ => none
theorem sslices_Clone_string_string : Sound Go.Proofs.Tryd.prog 174 msslices_Clone_string_string Fslices_Clone_string_string := by
  refine sound_cases (el := 9) (e := .str) sslices_Clone_string_string_a sslices_Clone_string_string_b (fun ys r outs h => ?_)
  unfold Fslices_Clone_string_string at h
  split at h
  · rename_i a0
    simp only [Option.some.injEq, Prod.mk.injEq] at h
    obtain ⟨h1, rfl, rfl⟩ := h
    refine ⟨a0, rfl, fun e => ?_, ?_⟩
    · subst e
      rfl
    · show some ((g_Aslices_Clone_string_string_b a0), RV.val false [Cell.own .any true 9 .str ([] ++ a0)], []) = _
      rw [h1, List.nil_append]
  · cases h
end Go.Proofs.YtkjeicijcecmlaaDoor.E
end
section
namespace Go.Proofs.YtkjeicijcecmlaaDoor.E
open Go
set_option maxRecDepth 100000
set_option maxHeartbeats 0
set_option linter.all false
noncomputable def Ei_LogNote_copied : Env where
  tt := mkTI Go.Proofs.Tryd.prog
  fn := fun f => match f with
    | 174 => some (msslices_Clone_string_string, FSem.wk msslices_Clone_string_string Fslices_Clone_string_string)
    | 175 => some (msi_writesOf, FSem.wk msi_writesOf Fi_writesOf)
    | _ => none
  bxf := fun _ => none
  mv := []
  keep := fun _ => []
  keepB := fun _ => []
  keepX := fun _ => []
  keepXB := fun _ => []
theorem goodFi_LogNote_copied : ∀ f ms F, Ei_LogNote_copied.fn f = some (ms, F) → Sound Go.Proofs.Tryd.prog f ms F := fun f ms F h => by
  unfold Ei_LogNote_copied at h
  dsimp only at h
  split at h
  · injection h with h; injection h with e1 e2; subst e1 e2; exact Sound.wk sslices_Clone_string_string
  · injection h with h; injection h with e1 e2; subst e1 e2; exact Sound.wk si_writesOf
  · cases h
theorem goodBi_LogNote_copied : ∀ f ms F, Ei_LogNote_copied.bxf f = some (ms, F) → SoundB Go.Proofs.Tryd.prog f ms F := fun f ms F h => by cases h
theorem goodi_LogNote_copied : Good Go.Proofs.Tryd.prog Ei_LogNote_copied := ⟨rfl, goodFi_LogNote_copied, goodBi_LogNote_copied⟩
noncomputable def Oi_LogNote_copied_0 : Orc := fun _ _ => none
noncomputable def msi_LogNote_copied : List PM := [.rd]
noncomputable def lsi_LogNote_copied : List (Nat × Code) := loopsAll 0 (Go.Proofs.Tryd.f153.body.getD .skip)

theorem ki_LogNote_copied_0 : OrcOk Ei_LogNote_copied Oi_LogNote_copied_0 lsi_LogNote_copied 0 := orcOk_none
noncomputable def g_Ai_LogNote_copied (a0 : Int) (a1 : Int) (a2 : List (ByteArray)) (a3 : List ((ByteArray) × ((Bool) × (List (Int))))) : Bool := g_Aslices_Clone_string_string_b a2 && g_Ai_writesOf a3
noncomputable def Fi_LogNote_copied : FSem := fun ys => match ys with
  | [.val true [.int .i64 a0, .int .i64 a1, .sl .any 9 .str a2, .sl .any 38 (.pair .str (.pair .bool (.sl 3 (.int .i64)))) a3]] => some ((g_Ai_LogNote_copied a0 a1 a2 a3), .val true [.int .i64 a0, .int .i64 a1, .own .any true 9 .str a2, .own .any true 38 (.pair .str (.pair .bool (.sl 3 (.int .i64)))) (g_Vi_writesOf_0 a3)], [])
  | _ => none
theorem vi_LogNote_copied (a0 : Int) (a1 : Int) (a2 : List (ByteArray)) (a3 : List ((ByteArray) × ((Bool) × (List (Int))))) : collapseH .std Ei_LogNote_copied Oi_LogNote_copied_0 (execFn Ei_LogNote_copied Go.Proofs.Tryd.f153 msi_LogNote_copied [.val true [.int .i64 a0, .int .i64 a1, .sl .any 9 .str a2, .sl .any 38 (.pair .str (.pair .bool (.sl 3 (.int .i64)))) a3]]) = some ((g_Ai_LogNote_copied a0 a1 a2 a3), .val true [.int .i64 a0, .int .i64 a1, .own .any true 9 .str a2, .own .any true 38 (.pair .str (.pair .bool (.sl 3 (.int .i64)))) (g_Vi_writesOf_0 a3)], []) := by kernel_rfl
theorem si_LogNote_copied : Sound Go.Proofs.Tryd.prog 153 msi_LogNote_copied Fi_LogNote_copied := by
  refine fn_gen goodi_LogNote_copied (by kernel_rfl) .std (fn := Go.Proofs.Tryd.f153) (c := (Go.Proofs.Tryd.f153.body.getD .skip)) (o := Oi_LogNote_copied_0) (k := 0) (by kernel_rfl) (by kernel_rfl) (by kernel_rfl) (by kernel_rfl) (by decide) ki_LogNote_copied_0 ?_
  intro ys r outs h
  unfold Fi_LogNote_copied at h
  split at h
  · exact (vi_LogNote_copied _ _ _ _).trans h
  · cases h
end Go.Proofs.YtkjeicijcecmlaaDoor.E
end
section
namespace Go.Proofs.YtkjeicijcecmlaaDoor.E
open Go
set_option maxRecDepth 100000
set_option maxHeartbeats 0
set_option linter.all false
noncomputable def Ei_LogDisk_add : Env where
  tt := mkTI Go.Proofs.Tryd.prog
  fn := fun f => match f with
    | 153 => some (msi_LogNote_copied, FSem.wk msi_LogNote_copied Fi_LogNote_copied)
    | _ => none
  bxf := fun _ => none
  mv := []
  keep := fun _ => []
  keepB := fun _ => []
  keepX := fun _ => []
  keepXB := fun _ => []
theorem goodFi_LogDisk_add : ∀ f ms F, Ei_LogDisk_add.fn f = some (ms, F) → Sound Go.Proofs.Tryd.prog f ms F := fun f ms F h => by
  unfold Ei_LogDisk_add at h
  dsimp only at h
  split at h
  · injection h with h; injection h with e1 e2; subst e1 e2; exact Sound.wk si_LogNote_copied
  · cases h
theorem goodBi_LogDisk_add : ∀ f ms F, Ei_LogDisk_add.bxf f = some (ms, F) → SoundB Go.Proofs.Tryd.prog f ms F := fun f ms F h => by cases h
theorem goodi_LogDisk_add : Good Go.Proofs.Tryd.prog Ei_LogDisk_add := ⟨rfl, goodFi_LogDisk_add, goodBi_LogDisk_add⟩
noncomputable def Oi_LogDisk_add_0 : Orc := fun _ _ => none
noncomputable def msi_LogDisk_add : List PM := [.bx, .rd, .own]
noncomputable def lsi_LogDisk_add : List (Nat × Code) := loopsAll 0 (Go.Proofs.Tryd.f115.body.getD .skip)

theorem ki_LogDisk_add_0 : OrcOk Ei_LogDisk_add Oi_LogDisk_add_0 lsi_LogDisk_add 0 := orcOk_none
noncomputable def g_Ai_LogDisk_add (a0 : List ((Int) × ((Int) × ((List (ByteArray)) × (List ((ByteArray) × ((Bool) × (List (Int))))))))) (a1 : Int) (a2 : Int) (a3 : Int) (a4 : List (ByteArray)) (a5 : List ((ByteArray) × ((Bool) × (List (Int))))) (a6 : Bool) : Bool := (↑(List.length a0) : Int) == (120 : Int) || g_Ai_LogNote_copied a2 a3 a4 a5 && decide ((List.length a0 + List.length [(a2, a3, a4, g_Vi_writesOf_0 a5)]) * nat_lit 64 ≤ nat_lit 140737488355328 ∧ List.length a0 + List.length [(a2, a3, a4, g_Vi_writesOf_0 a5)] ≤ nat_lit 9223372036854775807)
noncomputable def g_Vi_LogDisk_add_0 (a0 : List ((Int) × ((Int) × ((List (ByteArray)) × (List ((ByteArray) × ((Bool) × (List (Int))))))))) (a1 : Int) (a2 : Int) (a3 : Int) (a4 : List (ByteArray)) (a5 : List ((ByteArray) × ((Bool) × (List (Int))))) (a6 : Bool) : Bool := bif (↑(List.length a0) : Int) == (120 : Int) then false else bif a6 then true else true
noncomputable def g_Vi_LogDisk_add_1 (a0 : List ((Int) × ((Int) × ((List (ByteArray)) × (List ((ByteArray) × ((Bool) × (List (Int))))))))) (a1 : Int) (a2 : Int) (a3 : Int) (a4 : List (ByteArray)) (a5 : List ((ByteArray) × ((Bool) × (List (Int))))) (a6 : Bool) : List ((Int) × ((Int) × ((List (ByteArray)) × (List ((ByteArray) × ((Bool) × (List (Int)))))))) := bif (↑(List.length a0) : Int) == (120 : Int) then a0 else bif a6 then a0 ++ [(a2, a3, a4, g_Vi_writesOf_0 a5)] else a0 ++ [(a2, a3, a4, g_Vi_writesOf_0 a5)]
noncomputable def g_Vi_LogDisk_add_2 (a0 : List ((Int) × ((Int) × ((List (ByteArray)) × (List ((ByteArray) × ((Bool) × (List (Int))))))))) (a1 : Int) (a2 : Int) (a3 : Int) (a4 : List (ByteArray)) (a5 : List ((ByteArray) × ((Bool) × (List (Int))))) (a6 : Bool) : Int := bif (↑(List.length a0) : Int) == (120 : Int) then a1 else bif a6 then (↑(List.length (a0 ++ [(a2, a3, a4, g_Vi_writesOf_0 a5)])) : Int) else a1
noncomputable def Fi_LogDisk_add : FSem := fun ys => match ys with
  | [.val true [.own .any true 79 (.pair (.int .i64) (.pair (.int .i64) (.pair (.sl 9 .str) (.sl 38 (.pair .str (.pair .bool (.sl 3 (.int .i64)))))))) a0, .int .i64 a1], .val true [.int .i64 a2, .int .i64 a3, .sl .any 9 .str a4, .sl .any 38 (.pair .str (.pair .bool (.sl 3 (.int .i64)))) a5], .val false [.bool a6]] => some ((g_Ai_LogDisk_add a0 a1 a2 a3 a4 a5 a6), .val false [.bool (g_Vi_LogDisk_add_0 a0 a1 a2 a3 a4 a5 a6)], [[.own .any true 79 (.pair (.int .i64) (.pair (.int .i64) (.pair (.sl 9 .str) (.sl 38 (.pair .str (.pair .bool (.sl 3 (.int .i64)))))))) (g_Vi_LogDisk_add_1 a0 a1 a2 a3 a4 a5 a6), .int .i64 (g_Vi_LogDisk_add_2 a0 a1 a2 a3 a4 a5 a6)]])
  | _ => none
theorem vi_LogDisk_add (a0 : List ((Int) × ((Int) × ((List (ByteArray)) × (List ((ByteArray) × ((Bool) × (List (Int))))))))) (a1 : Int) (a2 : Int) (a3 : Int) (a4 : List (ByteArray)) (a5 : List ((ByteArray) × ((Bool) × (List (Int))))) (a6 : Bool) : collapseH .std Ei_LogDisk_add Oi_LogDisk_add_0 (execFn Ei_LogDisk_add Go.Proofs.Tryd.f115 msi_LogDisk_add [.val true [.own .any true 79 (.pair (.int .i64) (.pair (.int .i64) (.pair (.sl 9 .str) (.sl 38 (.pair .str (.pair .bool (.sl 3 (.int .i64)))))))) a0, .int .i64 a1], .val true [.int .i64 a2, .int .i64 a3, .sl .any 9 .str a4, .sl .any 38 (.pair .str (.pair .bool (.sl 3 (.int .i64)))) a5], .val false [.bool a6]]) = some ((g_Ai_LogDisk_add a0 a1 a2 a3 a4 a5 a6), .val false [.bool (g_Vi_LogDisk_add_0 a0 a1 a2 a3 a4 a5 a6)], [[.own .any true 79 (.pair (.int .i64) (.pair (.int .i64) (.pair (.sl 9 .str) (.sl 38 (.pair .str (.pair .bool (.sl 3 (.int .i64)))))))) (g_Vi_LogDisk_add_1 a0 a1 a2 a3 a4 a5 a6), .int .i64 (g_Vi_LogDisk_add_2 a0 a1 a2 a3 a4 a5 a6)]]) := by kernel_rfl
theorem si_LogDisk_add : Sound Go.Proofs.Tryd.prog 115 msi_LogDisk_add Fi_LogDisk_add := by
  refine fn_gen goodi_LogDisk_add (by kernel_rfl) .std (fn := Go.Proofs.Tryd.f115) (c := (Go.Proofs.Tryd.f115.body.getD .skip)) (o := Oi_LogDisk_add_0) (k := 0) (by kernel_rfl) (by kernel_rfl) (by kernel_rfl) (by kernel_rfl) (by decide) ki_LogDisk_add_0 ?_
  intro ys r outs h
  unfold Fi_LogDisk_add at h
  split at h
  · exact (vi_LogDisk_add _ _ _ _ _ _ _).trans h
  · cases h
end Go.Proofs.YtkjeicijcecmlaaDoor.E
end
section
namespace Go.Proofs.YtkjeicijcecmlaaDoor.E
open Go
set_option maxRecDepth 100000
set_option maxHeartbeats 0
set_option linter.all false
noncomputable def Ei_LogDisk_copied : Env where
  tt := mkTI Go.Proofs.Tryd.prog
  fn := fun f => match f with
    | 153 => some (msi_LogNote_copied, FSem.wk msi_LogNote_copied Fi_LogNote_copied)
    | _ => none
  bxf := fun _ => none
  mv := []
  keep := fun b => match b with
    | 0 => [(2, false), (3, false), (10, false), (11, false), (12, false)]
    | _ => []
  keepB := fun b => match b with
    | 0 => [(2, false), (3, false)]
    | _ => []
  keepX := fun b => match b with
    | 0 => [(2, false), (3, false)]
    | _ => []
  keepXB := fun b => match b with
    | 0 => [(2, false), (3, false)]
    | _ => []
theorem goodFi_LogDisk_copied : ∀ f ms F, Ei_LogDisk_copied.fn f = some (ms, F) → Sound Go.Proofs.Tryd.prog f ms F := fun f ms F h => by
  unfold Ei_LogDisk_copied at h
  dsimp only at h
  split at h
  · injection h with h; injection h with e1 e2; subst e1 e2; exact Sound.wk si_LogNote_copied
  · cases h
theorem goodBi_LogDisk_copied : ∀ f ms F, Ei_LogDisk_copied.bxf f = some (ms, F) → SoundB Go.Proofs.Tryd.prog f ms F := fun f ms F h => by cases h
theorem goodi_LogDisk_copied : Good Go.Proofs.Tryd.prog Ei_LogDisk_copied := ⟨rfl, goodFi_LogDisk_copied, goodBi_LogDisk_copied⟩
noncomputable def Oi_LogDisk_copied_0 : Orc := fun _ _ => none
noncomputable def msi_LogDisk_copied : List PM := [.rd]
noncomputable def lsi_LogDisk_copied : List (Nat × Code) := loopsAll 0 (Go.Proofs.Tryd.f114.body.getD .skip)
noncomputable def ci_LogDisk_copied_0 : Code := (loopOf 0 (Go.Proofs.Tryd.f114.body.getD .skip)).getD .skip
theorem lseqi_LogDisk_copied : lsi_LogDisk_copied = [(0, ci_LogDisk_copied_0)] := by kernel_rfl
theorem mi_LogDisk_copied_0 : ∀ p, p ∈ lsi_LogDisk_copied → p.1 = 0 → p.2 = ci_LogDisk_copied_0 := by
  intro p hp
  rw [lseqi_LogDisk_copied] at hp
  simp only [List.mem_cons, List.not_mem_nil, or_false] at hp
  subst hp; simp
theorem ki_LogDisk_copied_0 : OrcOk Ei_LogDisk_copied Oi_LogDisk_copied_0 lsi_LogDisk_copied 0 := orcOk_none
noncomputable def hi_LogDisk_copied_0 (y0 : List ((Int) × ((Int) × ((List (ByteArray)) × (List ((ByteArray) × ((Bool) × (List (Int))))))))) (y1 : Int) (y2 : Int) (y3 : Int) (y4 : List ((Int) × ((Int) × ((List (ByteArray)) × (List ((ByteArray) × ((Bool) × (List (Int))))))))) (y5 : Int) (y6 : List ((Int) × ((Int) × ((List (ByteArray)) × (List ((ByteArray) × ((Bool) × (List (Int))))))))) : List (Pl × LV) := [(.T 2, .t (.val false [.ptr 2 0 0])), (.T 3, .t (.val false [.ptr 3 0 0])), (.T 10, .t (.val false [.sl .any 79 (.pair (.int .i64) (.pair (.int .i64) (.pair (.sl 9 .str) (.sl 38 (.pair .str (.pair .bool (.sl 3 (.int .i64)))))))) y0])), (.T 11, .t (.val false [.int .i64 y1])), (.T 12, .t (.val false [.int .i64 y2])), (.B 2, .b 0 false [.row 2 1 0, .int .i64 y3]), (.R 2 1, .r 0 (some ⟨false, .any, true, 79, (.pair (.int .i64) (.pair (.int .i64) (.pair (.sl 9 .str) (.sl 38 (.pair .str (.pair .bool (.sl 3 (.int .i64)))))))), y4⟩)), (.B 3, .b 0 false [.row 3 1 0, .int .i64 y5]), (.R 3 1, .r 0 (some ⟨false, .any, true, 79, (.pair (.int .i64) (.pair (.int .i64) (.pair (.sl 9 .str) (.sl 38 (.pair .str (.pair .bool (.sl 3 (.int .i64)))))))), y6⟩))]
noncomputable def g_Si_LogDisk_copied_0 (y0 : List ((Int) × ((Int) × ((List (ByteArray)) × (List ((ByteArray) × ((Bool) × (List (Int))))))))) (y1 : Int) (y3 : Int) (y4 : List ((Int) × ((Int) × ((List (ByteArray)) × (List ((ByteArray) × ((Bool) × (List (Int))))))))) (y5 : Int) : ((Int) × (List ((Int) × ((Int) × ((List (ByteArray)) × (List ((ByteArray) × ((Bool) × (List (Int)))))))))) → RT ((Int) × (List ((Int) × ((Int) × ((List (ByteArray)) × (List ((ByteArray) × ((Bool) × (List (Int)))))))))) (((List ((Int) × ((Int) × ((List (ByteArray)) × (List ((ByteArray) × ((Bool) × (List (Int)))))))))))
  | (y2, y6) => .br (true) (.br (decide (y2 < y1)) (.br (decide ((0 : Int) ≤ y2 ∧ y2 < (↑(List.length y0) : Int))) (.br (g_Ai_LogNote_copied (at_ (Ty.pair (Ty.int IntKind.i64) (Ty.pair (Ty.int IntKind.i64) (Ty.pair (Ty.sl (nat_lit 9) Ty.str) (Ty.sl (nat_lit 38) (Ty.pair Ty.str (Ty.pair Ty.bool (Ty.sl (nat_lit 3) (Ty.int IntKind.i64)))))))) y0 (Int.toNat y2)).1 (at_ (Ty.pair (Ty.int IntKind.i64) (Ty.pair (Ty.int IntKind.i64) (Ty.pair (Ty.sl (nat_lit 9) Ty.str) (Ty.sl (nat_lit 38) (Ty.pair Ty.str (Ty.pair Ty.bool (Ty.sl (nat_lit 3) (Ty.int IntKind.i64)))))))) y0 (Int.toNat y2)).2.1 (at_ (Ty.pair (Ty.int IntKind.i64) (Ty.pair (Ty.int IntKind.i64) (Ty.pair (Ty.sl (nat_lit 9) Ty.str) (Ty.sl (nat_lit 38) (Ty.pair Ty.str (Ty.pair Ty.bool (Ty.sl (nat_lit 3) (Ty.int IntKind.i64)))))))) y0 (Int.toNat y2)).2.2.1 (at_ (Ty.pair (Ty.int IntKind.i64) (Ty.pair (Ty.int IntKind.i64) (Ty.pair (Ty.sl (nat_lit 9) Ty.str) (Ty.sl (nat_lit 38) (Ty.pair Ty.str (Ty.pair Ty.bool (Ty.sl (nat_lit 3) (Ty.int IntKind.i64)))))))) y0 (Int.toNat y2)).2.2.2) (.br (decide ((List.length y6 + List.length [((at_ (Ty.pair (Ty.int IntKind.i64) (Ty.pair (Ty.int IntKind.i64) (Ty.pair (Ty.sl (nat_lit 9) Ty.str) (Ty.sl (nat_lit 38) (Ty.pair Ty.str (Ty.pair Ty.bool (Ty.sl (nat_lit 3) (Ty.int IntKind.i64)))))))) y0 (Int.toNat y2)).1, (at_ (Ty.pair (Ty.int IntKind.i64) (Ty.pair (Ty.int IntKind.i64) (Ty.pair (Ty.sl (nat_lit 9) Ty.str) (Ty.sl (nat_lit 38) (Ty.pair Ty.str (Ty.pair Ty.bool (Ty.sl (nat_lit 3) (Ty.int IntKind.i64)))))))) y0 (Int.toNat y2)).2.1, (at_ (Ty.pair (Ty.int IntKind.i64) (Ty.pair (Ty.int IntKind.i64) (Ty.pair (Ty.sl (nat_lit 9) Ty.str) (Ty.sl (nat_lit 38) (Ty.pair Ty.str (Ty.pair Ty.bool (Ty.sl (nat_lit 3) (Ty.int IntKind.i64)))))))) y0 (Int.toNat y2)).2.2.1, g_Vi_writesOf_0 (at_ (Ty.pair (Ty.int IntKind.i64) (Ty.pair (Ty.int IntKind.i64) (Ty.pair (Ty.sl (nat_lit 9) Ty.str) (Ty.sl (nat_lit 38) (Ty.pair Ty.str (Ty.pair Ty.bool (Ty.sl (nat_lit 3) (Ty.int IntKind.i64)))))))) y0 (Int.toNat y2)).2.2.2)]) * nat_lit 64 ≤ nat_lit 140737488355328 ∧ List.length y6 + List.length [((at_ (Ty.pair (Ty.int IntKind.i64) (Ty.pair (Ty.int IntKind.i64) (Ty.pair (Ty.sl (nat_lit 9) Ty.str) (Ty.sl (nat_lit 38) (Ty.pair Ty.str (Ty.pair Ty.bool (Ty.sl (nat_lit 3) (Ty.int IntKind.i64)))))))) y0 (Int.toNat y2)).1, (at_ (Ty.pair (Ty.int IntKind.i64) (Ty.pair (Ty.int IntKind.i64) (Ty.pair (Ty.sl (nat_lit 9) Ty.str) (Ty.sl (nat_lit 38) (Ty.pair Ty.str (Ty.pair Ty.bool (Ty.sl (nat_lit 3) (Ty.int IntKind.i64)))))))) y0 (Int.toNat y2)).2.1, (at_ (Ty.pair (Ty.int IntKind.i64) (Ty.pair (Ty.int IntKind.i64) (Ty.pair (Ty.sl (nat_lit 9) Ty.str) (Ty.sl (nat_lit 38) (Ty.pair Ty.str (Ty.pair Ty.bool (Ty.sl (nat_lit 3) (Ty.int IntKind.i64)))))))) y0 (Int.toNat y2)).2.2.1, g_Vi_writesOf_0 (at_ (Ty.pair (Ty.int IntKind.i64) (Ty.pair (Ty.int IntKind.i64) (Ty.pair (Ty.sl (nat_lit 9) Ty.str) (Ty.sl (nat_lit 38) (Ty.pair Ty.str (Ty.pair Ty.bool (Ty.sl (nat_lit 3) (Ty.int IntKind.i64)))))))) y0 (Int.toNat y2)).2.2.2)] ≤ nat_lit 9223372036854775807)) (.br (true) (.go ((IntKind.wrap IntKind.i64 (y2 + (1 : Int)), y6 ++ [((at_ (Ty.pair (Ty.int IntKind.i64) (Ty.pair (Ty.int IntKind.i64) (Ty.pair (Ty.sl (nat_lit 9) Ty.str) (Ty.sl (nat_lit 38) (Ty.pair Ty.str (Ty.pair Ty.bool (Ty.sl (nat_lit 3) (Ty.int IntKind.i64)))))))) y0 (Int.toNat y2)).1, (at_ (Ty.pair (Ty.int IntKind.i64) (Ty.pair (Ty.int IntKind.i64) (Ty.pair (Ty.sl (nat_lit 9) Ty.str) (Ty.sl (nat_lit 38) (Ty.pair Ty.str (Ty.pair Ty.bool (Ty.sl (nat_lit 3) (Ty.int IntKind.i64)))))))) y0 (Int.toNat y2)).2.1, (at_ (Ty.pair (Ty.int IntKind.i64) (Ty.pair (Ty.int IntKind.i64) (Ty.pair (Ty.sl (nat_lit 9) Ty.str) (Ty.sl (nat_lit 38) (Ty.pair Ty.str (Ty.pair Ty.bool (Ty.sl (nat_lit 3) (Ty.int IntKind.i64)))))))) y0 (Int.toNat y2)).2.2.1, g_Vi_writesOf_0 (at_ (Ty.pair (Ty.int IntKind.i64) (Ty.pair (Ty.int IntKind.i64) (Ty.pair (Ty.sl (nat_lit 9) Ty.str) (Ty.sl (nat_lit 38) (Ty.pair Ty.str (Ty.pair Ty.bool (Ty.sl (nat_lit 3) (Ty.int IntKind.i64)))))))) y0 (Int.toNat y2)).2.2.2)]))) (.bad)) (.bad)) (.bad)) (.bad)) (.out (y6))) (.bad)
noncomputable def g_Li_LogDisk_copied_0 (y0 : List ((Int) × ((Int) × ((List (ByteArray)) × (List ((ByteArray) × ((Bool) × (List (Int))))))))) (y1 : Int) (y3 : Int) (y4 : List ((Int) × ((Int) × ((List (ByteArray)) × (List ((ByteArray) × ((Bool) × (List (Int))))))))) (y5 : Int) (x : (Int) × (List ((Int) × ((Int) × ((List (ByteArray)) × (List ((ByteArray) × ((Bool) × (List (Int)))))))))) : Option (((List ((Int) × ((Int) × ((List (ByteArray)) × (List ((ByteArray) × ((Bool) × (List (Int))))))))))) := loopO (g_Si_LogDisk_copied_0 y0 y1 y3 y4 y5) x
noncomputable def xi_LogDisk_copied_0 (y0 : List ((Int) × ((Int) × ((List (ByteArray)) × (List ((ByteArray) × ((Bool) × (List (Int))))))))) (y1 : Int) (y3 : Int) (y4 : List ((Int) × ((Int) × ((List (ByteArray)) × (List ((ByteArray) × ((Bool) × (List (Int))))))))) (y5 : Int) : (((List ((Int) × ((Int) × ((List (ByteArray)) × (List ((ByteArray) × ((Bool) × (List (Int))))))))))) → Ex × List (Pl × LV) := fun r => (.exit 0, [(.T 2, .t (.val false [.ptr 2 0 0])), (.T 3, .t (.val false [.ptr 3 0 0])), (.B 2, .b 0 false [.row 2 1 0, .int .i64 y3]), (.R 2 1, .r 0 (some ⟨false, .any, true, 79, (.pair (.int .i64) (.pair (.int .i64) (.pair (.sl 9 .str) (.sl 38 (.pair .str (.pair .bool (.sl 3 (.int .i64)))))))), y4⟩)), (.B 3, .b 0 false [.row 3 1 0, .int .i64 y5]), (.R 3 1, .r 0 (some ⟨false, .any, true, 79, (.pair (.int .i64) (.pair (.int .i64) (.pair (.sl 9 .str) (.sl 38 (.pair .str (.pair .bool (.sl 3 (.int .i64)))))))), r⟩))])
noncomputable def Oi_LogDisk_copied_1 : Orc := fun b h => match b, h with
  | 0, [(.T 2, .t (.val false [.ptr 2 0 0])), (.T 3, .t (.val false [.ptr 3 0 0])), (.T 10, .t (.val false [.sl .any 79 (.pair (.int .i64) (.pair (.int .i64) (.pair (.sl 9 .str) (.sl 38 (.pair .str (.pair .bool (.sl 3 (.int .i64)))))))) y0])), (.T 11, .t (.val false [.int .i64 y1])), (.T 12, .t (.val false [.int .i64 y2])), (.B 2, .b 0 false [.row 2 1 0, .int .i64 y3]), (.R 2 1, .r 0 (some ⟨false, .any, true, 79, (.pair (.int .i64) (.pair (.int .i64) (.pair (.sl 9 .str) (.sl 38 (.pair .str (.pair .bool (.sl 3 (.int .i64)))))))), y4⟩)), (.B 3, .b 0 false [.row 3 1 0, .int .i64 y5]), (.R 3 1, .r 0 (some ⟨false, .any, true, 79, (.pair (.int .i64) (.pair (.int .i64) (.pair (.sl 9 .str) (.sl 38 (.pair .str (.pair .bool (.sl 3 (.int .i64)))))))), y6⟩))] => some (okO (g_Li_LogDisk_copied_0 y0 y1 y3 y4 y5 (y2, y6)), (.leaf (.exit 0) [(.T 2, .t (.val false [.ptr 2 0 0])), (.T 3, .t (.val false [.ptr 3 0 0])), (.B 2, .b 0 false [.row 2 1 0, .int .i64 y3]), (.R 2 1, .r 0 (some ⟨false, .any, true, 79, (.pair (.int .i64) (.pair (.int .i64) (.pair (.sl 9 .str) (.sl 38 (.pair .str (.pair .bool (.sl 3 (.int .i64)))))))), y4⟩)), (.B 3, .b 0 false [.row 3 1 0, .int .i64 y5]), (.R 3 1, .r 0 (some ⟨false, .any, true, 79, (.pair (.int .i64) (.pair (.int .i64) (.pair (.sl 9 .str) (.sl 38 (.pair .str (.pair .bool (.sl 3 (.int .i64)))))))), (valO (g_Li_LogDisk_copied_0 y0 y1 y3 y4 y5 (y2, y6)))⟩))]))
  | b, h => Oi_LogDisk_copied_0 b h
theorem bi_LogDisk_copied_0 (y0 : List ((Int) × ((Int) × ((List (ByteArray)) × (List ((ByteArray) × ((Bool) × (List (Int))))))))) (y1 : Int) (y2 : Int) (y3 : Int) (y4 : List ((Int) × ((Int) × ((List (ByteArray)) × (List ((ByteArray) × ((Bool) × (List (Int))))))))) (y5 : Int) (y6 : List ((Int) × ((Int) × ((List (ByteArray)) × (List ((ByteArray) × ((Bool) × (List (Int))))))))) : Tr.bt Ei_LogDisk_copied Oi_LogDisk_copied_0 (exec Ei_LogDisk_copied 0 ci_LogDisk_copied_0 (St.of (hi_LogDisk_copied_0 y0 y1 y2 y3 y4 y5 y6)) (leafRd Ei_LogDisk_copied 0)) = (g_Si_LogDisk_copied_0 y0 y1 y3 y4 y5 (y2, y6)).bt (fun ((y2, y6) : (Int) × (List ((Int) × ((Int) × ((List (ByteArray)) × (List ((ByteArray) × ((Bool) × (List (Int)))))))))) => (hi_LogDisk_copied_0 y0 y1 y2 y3 y4 y5 y6)) (xi_LogDisk_copied_0 y0 y1 y3 y4 y5) := by kernel_rfl
theorem ki_LogDisk_copied_1 : OrcOk Ei_LogDisk_copied Oi_LogDisk_copied_1 lsi_LogDisk_copied 1 := orc_add ki_LogDisk_copied_0 (fun n p hp h ex h' ho => by
  obtain ⟨b, c⟩ := p
  obtain ⟨xt, h1, h2⟩ := ho
  have h1 : Oi_LogDisk_copied_1 b h = some (true, xt) := h1
  unfold Oi_LogDisk_copied_1 at h1
  split at h1
  · injection h1 with h1
    injection h1 with e1 e2
    subst e2
    have hc : c = ci_LogDisk_copied_0 := mi_LogDisk_copied_0 _ hp rfl
    subst hc
    right
    rename_i y0 y1 y2 y3 y4 y5 y6
    have key := LT_step ki_LogDisk_copied_0 hp (fun q hq => loopsAll_in _ _ _ _ hp hq) (fun ((y2, y6) : (Int) × (List ((Int) × ((Int) × ((List (ByteArray)) × (List ((ByteArray) × ((Bool) × (List (Int)))))))))) => (hi_LogDisk_copied_0 y0 y1 y2 y3 y4 y5 y6)) (xi_LogDisk_copied_0 y0 y1 y3 y4 y5) (g_Si_LogDisk_copied_0 y0 y1 y3 y4 y5) (fun x => by first | exact bi_LogDisk_copied_0 y0 y1 x.1 y3 y4 y5 x.2) n (x := (y2, y6)) (okO_some e1)
    have hx : ∀ r, XT.sel (.leaf (.exit 0) [(.T 2, .t (.val false [.ptr 2 0 0])), (.T 3, .t (.val false [.ptr 3 0 0])), (.B 2, .b 0 false [.row 2 1 0, .int .i64 y3]), (.R 2 1, .r 0 (some ⟨false, .any, true, 79, (.pair (.int .i64) (.pair (.int .i64) (.pair (.sl 9 .str) (.sl 38 (.pair .str (.pair .bool (.sl 3 (.int .i64)))))))), y4⟩)), (.B 3, .b 0 false [.row 3 1 0, .int .i64 y5]), (.R 3 1, .r 0 (some ⟨false, .any, true, 79, (.pair (.int .i64) (.pair (.int .i64) (.pair (.sl 9 .str) (.sl 38 (.pair .str (.pair .bool (.sl 3 (.int .i64)))))))), r⟩))]) = xi_LogDisk_copied_0 y0 y1 y3 y4 y5 r := fun r => by first | rfl | (rcases r with r | r <;> rfl) | (rcases r with r | r | r <;> rfl) | (rcases r with r | r | r | r <;> rfl)
    have h3 := (hx (valO (g_Li_LogDisk_copied_0 y0 y1 y3 y4 y5 (y2, y6)))).symm.trans h2
    have e3 := congrArg Prod.fst h3
    have e4 := congrArg Prod.snd h3
    simp only at e3 e4
    rw [← e3, ← e4]
    exact key
  · exact .inl ⟨xt, h1, h2⟩)
noncomputable def g_Ai_LogDisk_copied (a0 : List ((Int) × ((Int) × ((List (ByteArray)) × (List ((ByteArray) × ((Bool) × (List (Int))))))))) (a1 : Int) : Bool := okO (g_Li_LogDisk_copied_0 a0 (↑(List.length a0) : Int) (0 : Int) [] a1 ((0 : Int), []))
noncomputable def g_Vi_LogDisk_copied_0 (a0 : List ((Int) × ((Int) × ((List (ByteArray)) × (List ((ByteArray) × ((Bool) × (List (Int))))))))) (a1 : Int) : List ((Int) × ((Int) × ((List (ByteArray)) × (List ((ByteArray) × ((Bool) × (List (Int)))))))) := valO (g_Li_LogDisk_copied_0 a0 (↑(List.length a0) : Int) (0 : Int) [] a1 ((0 : Int), []))
noncomputable def Fi_LogDisk_copied : FSem := fun ys => match ys with
  | [.val true [.sl .any 79 (.pair (.int .i64) (.pair (.int .i64) (.pair (.sl 9 .str) (.sl 38 (.pair .str (.pair .bool (.sl 3 (.int .i64)))))))) a0, .int .i64 a1]] => some ((g_Ai_LogDisk_copied a0 a1), .val true [.own .any true 79 (.pair (.int .i64) (.pair (.int .i64) (.pair (.sl 9 .str) (.sl 38 (.pair .str (.pair .bool (.sl 3 (.int .i64)))))))) (g_Vi_LogDisk_copied_0 a0 a1), .int .i64 a1], [])
  | _ => none
theorem vi_LogDisk_copied (a0 : List ((Int) × ((Int) × ((List (ByteArray)) × (List ((ByteArray) × ((Bool) × (List (Int))))))))) (a1 : Int) : collapseH .std Ei_LogDisk_copied Oi_LogDisk_copied_1 (execFn Ei_LogDisk_copied Go.Proofs.Tryd.f114 msi_LogDisk_copied [.val true [.sl .any 79 (.pair (.int .i64) (.pair (.int .i64) (.pair (.sl 9 .str) (.sl 38 (.pair .str (.pair .bool (.sl 3 (.int .i64)))))))) a0, .int .i64 a1]]) = some ((g_Ai_LogDisk_copied a0 a1), .val true [.own .any true 79 (.pair (.int .i64) (.pair (.int .i64) (.pair (.sl 9 .str) (.sl 38 (.pair .str (.pair .bool (.sl 3 (.int .i64)))))))) (g_Vi_LogDisk_copied_0 a0 a1), .int .i64 a1], []) := by kernel_rfl
theorem si_LogDisk_copied : Sound Go.Proofs.Tryd.prog 114 msi_LogDisk_copied Fi_LogDisk_copied := by
  refine fn_gen goodi_LogDisk_copied (by kernel_rfl) .std (fn := Go.Proofs.Tryd.f114) (c := (Go.Proofs.Tryd.f114.body.getD .skip)) (o := Oi_LogDisk_copied_1) (k := 1) (by kernel_rfl) (by kernel_rfl) (by kernel_rfl) (by kernel_rfl) (by decide) ki_LogDisk_copied_1 ?_
  intro ys r outs h
  unfold Fi_LogDisk_copied at h
  split at h
  · exact (vi_LogDisk_copied _ _).trans h
  · cases h
end Go.Proofs.YtkjeicijcecmlaaDoor.E
end
section
namespace Go.Proofs.YtkjeicijcecmlaaDoor.E
open Go
set_option maxRecDepth 100000
set_option maxHeartbeats 0
set_option linter.all false
noncomputable def Ei_DiskAdd : Env where
  tt := mkTI Go.Proofs.Tryd.prog
  fn := fun f => match f with
    | 101 => some (msi_DiskOk, FSem.wk msi_DiskOk Fi_DiskOk)
    | 113 => some (msi_NoteOk, FSem.wk msi_NoteOk Fi_NoteOk)
    | 114 => some (msi_LogDisk_copied, FSem.wk msi_LogDisk_copied Fi_LogDisk_copied)
    | 115 => some (msi_LogDisk_add, FSem.wk msi_LogDisk_add Fi_LogDisk_add)
    | _ => none
  bxf := fun _ => none
  mv := []
  keep := fun _ => []
  keepB := fun _ => []
  keepX := fun _ => []
  keepXB := fun _ => []
theorem goodFi_DiskAdd : ∀ f ms F, Ei_DiskAdd.fn f = some (ms, F) → Sound Go.Proofs.Tryd.prog f ms F := fun f ms F h => by
  unfold Ei_DiskAdd at h
  dsimp only at h
  split at h
  · injection h with h; injection h with e1 e2; subst e1 e2; exact Sound.wk si_DiskOk
  · injection h with h; injection h with e1 e2; subst e1 e2; exact Sound.wk si_NoteOk
  · injection h with h; injection h with e1 e2; subst e1 e2; exact Sound.wk si_LogDisk_copied
  · injection h with h; injection h with e1 e2; subst e1 e2; exact Sound.wk si_LogDisk_add
  · cases h
theorem goodBi_DiskAdd : ∀ f ms F, Ei_DiskAdd.bxf f = some (ms, F) → SoundB Go.Proofs.Tryd.prog f ms F := fun f ms F h => by cases h
theorem goodi_DiskAdd : Good Go.Proofs.Tryd.prog Ei_DiskAdd := ⟨rfl, goodFi_DiskAdd, goodBi_DiskAdd⟩
noncomputable def Oi_DiskAdd_0 : Orc := fun _ _ => none
noncomputable def msi_DiskAdd : List PM := [.rd, .rd, .own]
noncomputable def lsi_DiskAdd : List (Nat × Code) := loopsAll 0 (Go.Proofs.Tryd.f50.body.getD .skip)

theorem ki_DiskAdd_0 : OrcOk Ei_DiskAdd Oi_DiskAdd_0 lsi_DiskAdd 0 := orcOk_none
noncomputable def g_Ai_DiskAdd (a0 : List ((Int) × ((Int) × ((List (ByteArray)) × (List ((ByteArray) × ((Bool) × (List (Int))))))))) (a1 : Int) (a2 : Int) (a3 : Int) (a4 : List (ByteArray)) (a5 : List ((ByteArray) × ((Bool) × (List (Int))))) (a6 : Bool) : Bool := g_Ai_DiskOk a0 a1 && (!g_Vi_DiskOk_0 a0 a1 || g_Ai_NoteOk a2 a3 a4 a5 && (!g_Vi_NoteOk_0 a2 a3 a4 a5 || g_Ai_LogDisk_copied a0 a1 && g_Ai_LogDisk_add (g_Vi_LogDisk_copied_0 a0 a1) a1 a2 a3 a4 a5 a6))
noncomputable def g_Vi_DiskAdd_0 (a0 : List ((Int) × ((Int) × ((List (ByteArray)) × (List ((ByteArray) × ((Bool) × (List (Int))))))))) (a1 : Int) (a2 : Int) (a3 : Int) (a4 : List (ByteArray)) (a5 : List ((ByteArray) × ((Bool) × (List (Int))))) (a6 : Bool) : List ((Int) × ((Int) × ((List (ByteArray)) × (List ((ByteArray) × ((Bool) × (List (Int)))))))) := bif !g_Vi_DiskOk_0 a0 a1 then [] else bif !g_Vi_NoteOk_0 a2 a3 a4 a5 then [] else g_Vi_LogDisk_add_1 (g_Vi_LogDisk_copied_0 a0 a1) a1 a2 a3 a4 a5 a6
noncomputable def g_Vi_DiskAdd_1 (a0 : List ((Int) × ((Int) × ((List (ByteArray)) × (List ((ByteArray) × ((Bool) × (List (Int))))))))) (a1 : Int) (a2 : Int) (a3 : Int) (a4 : List (ByteArray)) (a5 : List ((ByteArray) × ((Bool) × (List (Int))))) (a6 : Bool) : Int := bif !g_Vi_DiskOk_0 a0 a1 then (0 : Int) else bif !g_Vi_NoteOk_0 a2 a3 a4 a5 then (0 : Int) else g_Vi_LogDisk_add_2 (g_Vi_LogDisk_copied_0 a0 a1) a1 a2 a3 a4 a5 a6
noncomputable def g_Vi_DiskAdd_2 (a0 : List ((Int) × ((Int) × ((List (ByteArray)) × (List ((ByteArray) × ((Bool) × (List (Int))))))))) (a1 : Int) (a2 : Int) (a3 : Int) (a4 : List (ByteArray)) (a5 : List ((ByteArray) × ((Bool) × (List (Int))))) (a6 : Bool) : Bool := bif !g_Vi_DiskOk_0 a0 a1 then false else bif !g_Vi_NoteOk_0 a2 a3 a4 a5 then false else g_Vi_LogDisk_add_0 (g_Vi_LogDisk_copied_0 a0 a1) a1 a2 a3 a4 a5 a6
noncomputable def Fi_DiskAdd : FSem := fun ys => match ys with
  | [.val true [.sl .any 79 (.pair (.int .i64) (.pair (.int .i64) (.pair (.sl 9 .str) (.sl 38 (.pair .str (.pair .bool (.sl 3 (.int .i64)))))))) a0, .int .i64 a1], .val true [.int .i64 a2, .int .i64 a3, .sl .any 9 .str a4, .sl .any 38 (.pair .str (.pair .bool (.sl 3 (.int .i64)))) a5], .val false [.bool a6]] => some ((g_Ai_DiskAdd a0 a1 a2 a3 a4 a5 a6), .tup [(true, [.own .any true 79 (.pair (.int .i64) (.pair (.int .i64) (.pair (.sl 9 .str) (.sl 38 (.pair .str (.pair .bool (.sl 3 (.int .i64)))))))) (g_Vi_DiskAdd_0 a0 a1 a2 a3 a4 a5 a6), .int .i64 (g_Vi_DiskAdd_1 a0 a1 a2 a3 a4 a5 a6)]), (false, [.bool (g_Vi_DiskAdd_2 a0 a1 a2 a3 a4 a5 a6)])], [])
  | _ => none
theorem vi_DiskAdd (a0 : List ((Int) × ((Int) × ((List (ByteArray)) × (List ((ByteArray) × ((Bool) × (List (Int))))))))) (a1 : Int) (a2 : Int) (a3 : Int) (a4 : List (ByteArray)) (a5 : List ((ByteArray) × ((Bool) × (List (Int))))) (a6 : Bool) : collapseH .std Ei_DiskAdd Oi_DiskAdd_0 (execFn Ei_DiskAdd Go.Proofs.Tryd.f50 msi_DiskAdd [.val true [.sl .any 79 (.pair (.int .i64) (.pair (.int .i64) (.pair (.sl 9 .str) (.sl 38 (.pair .str (.pair .bool (.sl 3 (.int .i64)))))))) a0, .int .i64 a1], .val true [.int .i64 a2, .int .i64 a3, .sl .any 9 .str a4, .sl .any 38 (.pair .str (.pair .bool (.sl 3 (.int .i64)))) a5], .val false [.bool a6]]) = some ((g_Ai_DiskAdd a0 a1 a2 a3 a4 a5 a6), .tup [(true, [.own .any true 79 (.pair (.int .i64) (.pair (.int .i64) (.pair (.sl 9 .str) (.sl 38 (.pair .str (.pair .bool (.sl 3 (.int .i64)))))))) (g_Vi_DiskAdd_0 a0 a1 a2 a3 a4 a5 a6), .int .i64 (g_Vi_DiskAdd_1 a0 a1 a2 a3 a4 a5 a6)]), (false, [.bool (g_Vi_DiskAdd_2 a0 a1 a2 a3 a4 a5 a6)])], []) := by kernel_rfl
theorem si_DiskAdd : Sound Go.Proofs.Tryd.prog 50 msi_DiskAdd Fi_DiskAdd := by
  refine fn_gen goodi_DiskAdd (by kernel_rfl) .std (fn := Go.Proofs.Tryd.f50) (c := (Go.Proofs.Tryd.f50.body.getD .skip)) (o := Oi_DiskAdd_0) (k := 0) (by kernel_rfl) (by kernel_rfl) (by kernel_rfl) (by kernel_rfl) (by decide) ki_DiskAdd_0 ?_
  intro ys r outs h
  unfold Fi_DiskAdd at h
  split at h
  · exact (vi_DiskAdd _ _ _ _ _ _ _).trans h
  · cases h
end Go.Proofs.YtkjeicijcecmlaaDoor.E
end
