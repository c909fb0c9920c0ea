/- What the functions that are reached do, by the engine: for the proof (laws.FnExactPlcTick): part 1. No conditions. -/
import Derived.Test.YtkjeicijcecmlaaDoorEc
import Derived.Test.YtkjeicijcecmlaaDoorProg
import Derived.Test.YtkjeicijcecmlaaDoorShelf
import Derived.RangeFuncNested
import Derived.RangeFuncBound
import Derived.RangeFuncCalls
import Derived.RangeFuncLeaves
import Derived.RangeFuncBox
import Derived.Shelf.Abstract
import Derived.WalkKit
import Derived.OwnWalkIn
import Derived.TacticsInMore
import Derived.LoopNIn
import Derived.LoopIn
set_option linter.all false
section
namespace Go.Proofs.YtkjeicijcecmlaaDoor.E
open Go
set_option maxRecDepth 100000
set_option maxHeartbeats 0
set_option linter.all false
noncomputable def Ei_in : Env where
  tt := mkTI Go.Proofs.Tryd.prog
  fn := fun _ => none
  bxf := fun _ => none
  mv := []
  keep := fun _ => []
  keepB := fun _ => []
  keepX := fun _ => []
  keepXB := fun _ => []
theorem goodFi_in : ∀ f ms F, Ei_in.fn f = some (ms, F) → Sound Go.Proofs.Tryd.prog f ms F := fun f ms F h => by cases h
theorem goodBi_in : ∀ f ms F, Ei_in.bxf f = some (ms, F) → SoundB Go.Proofs.Tryd.prog f ms F := fun f ms F h => by cases h
theorem goodi_in : Good Go.Proofs.Tryd.prog Ei_in := ⟨rfl, goodFi_in, goodBi_in⟩
noncomputable def Oi_in_0 : Orc := fun _ _ => none
noncomputable def msi_in : List PM := [.own, .own, .own]
noncomputable def lsi_in : List (Nat × Code) := loopsAll 0 (Go.Proofs.Tryd.f129.body.getD .skip)

theorem ki_in_0 : OrcOk Ei_in Oi_in_0 lsi_in 0 := orcOk_none
noncomputable def g_Ai_in (a0 : Int) (a1 : Int) (a2 : Int) : Bool := !decide (a0 ≥ a1) || true
noncomputable def g_Vi_in_0 (a0 : Int) (a1 : Int) (a2 : Int) : Bool := bif decide (a0 ≥ a1) then decide (a0 ≤ a2) else false
noncomputable def Fi_in : FSem := fun ys => match ys with
  | [.val false [.int .i64 a0], .val false [.int .i64 a1], .val false [.int .i64 a2]] => some ((g_Ai_in a0 a1 a2), .val false [.bool (g_Vi_in_0 a0 a1 a2)], [])
  | _ => none
theorem vi_in (a0 : Int) (a1 : Int) (a2 : Int) : collapseH .std Ei_in Oi_in_0 (execFn Ei_in Go.Proofs.Tryd.f129 msi_in [.val false [.int .i64 a0], .val false [.int .i64 a1], .val false [.int .i64 a2]]) = some ((g_Ai_in a0 a1 a2), .val false [.bool (g_Vi_in_0 a0 a1 a2)], []) := by kernel_rfl
theorem si_in : Sound Go.Proofs.Tryd.prog 129 msi_in Fi_in := by
  refine fn_gen goodi_in (by kernel_rfl) .std (fn := Go.Proofs.Tryd.f129) (c := (Go.Proofs.Tryd.f129.body.getD .skip)) (o := Oi_in_0) (k := 0) (by kernel_rfl) (by kernel_rfl) (by kernel_rfl) (by kernel_rfl) (by decide) ki_in_0 ?_
  intro ys r outs h
  unfold Fi_in at h
  split at h
  · exact (vi_in _ _ _).trans h
  · cases h
end Go.Proofs.YtkjeicijcecmlaaDoor.E
end
section
namespace Go.Proofs.YtkjeicijcecmlaaDoor.E
open Go
set_option maxRecDepth 100000
set_option maxHeartbeats 0
set_option linter.all false
noncomputable def Ei_isTx : Env where
  tt := mkTI Go.Proofs.Tryd.prog
  fn := fun f => match f with
    | 129 => some (msi_in, FSem.wk msi_in Fi_in)
    | _ => none
  bxf := fun _ => none
  mv := []
  keep := fun _ => []
  keepB := fun _ => []
  keepX := fun _ => []
  keepXB := fun _ => []
theorem goodFi_isTx : ∀ f ms F, Ei_isTx.fn f = some (ms, F) → Sound Go.Proofs.Tryd.prog f ms F := fun f ms F h => by
  unfold Ei_isTx at h
  dsimp only at h
  split at h
  · injection h with h; injection h with e1 e2; subst e1 e2; exact Sound.wk si_in
  · cases h
theorem goodBi_isTx : ∀ f ms F, Ei_isTx.bxf f = some (ms, F) → SoundB Go.Proofs.Tryd.prog f ms F := fun f ms F h => by cases h
theorem goodi_isTx : Good Go.Proofs.Tryd.prog Ei_isTx := ⟨rfl, goodFi_isTx, goodBi_isTx⟩
noncomputable def Oi_isTx_0 : Orc := fun _ _ => none
noncomputable def msi_isTx : List PM := [.own]
noncomputable def lsi_isTx : List (Nat × Code) := loopsAll 0 (Go.Proofs.Tryd.f149.body.getD .skip)

theorem ki_isTx_0 : OrcOk Ei_isTx Oi_isTx_0 lsi_isTx 0 := orcOk_none
noncomputable def g_Ai_isTx (a0 : Int) : Bool := g_Ai_in a0 (0 : Int) (29 : Int)
noncomputable def g_Vi_isTx_0 (a0 : Int) : Bool := g_Vi_in_0 a0 (0 : Int) (29 : Int)
noncomputable def Fi_isTx : FSem := fun ys => match ys with
  | [.val false [.int .i64 a0]] => some ((g_Ai_isTx a0), .val false [.bool (g_Vi_isTx_0 a0)], [])
  | _ => none
theorem vi_isTx (a0 : Int) : collapseH .std Ei_isTx Oi_isTx_0 (execFn Ei_isTx Go.Proofs.Tryd.f149 msi_isTx [.val false [.int .i64 a0]]) = some ((g_Ai_isTx a0), .val false [.bool (g_Vi_isTx_0 a0)], []) := by kernel_rfl
theorem si_isTx : Sound Go.Proofs.Tryd.prog 149 msi_isTx Fi_isTx := by
  refine fn_gen goodi_isTx (by kernel_rfl) .std (fn := Go.Proofs.Tryd.f149) (c := (Go.Proofs.Tryd.f149.body.getD .skip)) (o := Oi_isTx_0) (k := 0) (by kernel_rfl) (by kernel_rfl) (by kernel_rfl) (by kernel_rfl) (by decide) ki_isTx_0 ?_
  intro ys r outs h
  unfold Fi_isTx at h
  split at h
  · exact (vi_isTx _).trans h
  · cases h
end Go.Proofs.YtkjeicijcecmlaaDoor.E
end
section
namespace Go.Proofs.YtkjeicijcecmlaaDoor.E
open Go
set_option maxRecDepth 100000
set_option linter.all false
def msstrings_Trim : List PM := [.own, .own]
def g_trim (s c : ByteArray) : ByteArray := ⟨(Lib.trimS s.data.toList c.data.toList).toArray⟩
def g_ascii (c : ByteArray) : Bool := c.data.toList.all fun b => decide (b.toNat < 128)
def Fstrings_Trim : FSem := fun ys => match ys with
  | [.val false [.str s], .val false [.str c]] => some (decide (s.size ≤ 9223372036854775807) && (decide (c.size < 4294967281) && g_ascii c), .val false [.str (g_trim s c)], [])
  | _ => none
theorem sstrings_Trim : Sound Go.Proofs.Tryd.prog 130 msstrings_Trim Fstrings_Trim := by
  refine sound_plain (by simp [msstrings_Trim]) ⟨_, Tryd.func130, by kernel_rfl, by kernel_rfl⟩ (fun w ys r outs h => ?_)
  unfold Fstrings_Trim at h
  split at h
  · rename_i s c
    simp only [Option.some.injEq, Prod.mk.injEq, Bool.and_eq_true, decide_eq_true_eq] at h
    obtain ⟨⟨h1, h2, h3⟩, rfl, rfl⟩ := h
    refine ⟨rfl, [.string s, .string c], .string (g_trim s c), rfl, rfl, ?_⟩
    exact Tryd.strings_Trim_laid s c w h1 h2 (fun j b hb => by
      have := List.all_eq_true.1 h3 b (List.mem_of_getElem? hb)
      simpa using this)
  · cases h
end Go.Proofs.YtkjeicijcecmlaaDoor.E
end
section
namespace Go.Proofs.YtkjeicijcecmlaaDoor.E
open Go
set_option maxRecDepth 100000
set_option maxHeartbeats 0
set_option linter.all false
noncomputable def Ei_keyOk : Env where
  tt := mkTI Go.Proofs.Tryd.prog
  fn := fun f => match f with
    | 129 => some (msi_in, FSem.wk msi_in Fi_in)
    | 130 => some (msstrings_Trim, FSem.wk msstrings_Trim Fstrings_Trim)
    | _ => none
  bxf := fun _ => none
  mv := []
  keep := fun _ => []
  keepB := fun _ => []
  keepX := fun _ => []
  keepXB := fun _ => []
theorem goodFi_keyOk : ∀ f ms F, Ei_keyOk.fn f = some (ms, F) → Sound Go.Proofs.Tryd.prog f ms F := fun f ms F h => by
  unfold Ei_keyOk at h
  dsimp only at h
  split at h
  · injection h with h; injection h with e1 e2; subst e1 e2; exact Sound.wk si_in
  · injection h with h; injection h with e1 e2; subst e1 e2; exact Sound.wk sstrings_Trim
  · cases h
theorem goodBi_keyOk : ∀ f ms F, Ei_keyOk.bxf f = some (ms, F) → SoundB Go.Proofs.Tryd.prog f ms F := fun f ms F h => by cases h
theorem goodi_keyOk : Good Go.Proofs.Tryd.prog Ei_keyOk := ⟨rfl, goodFi_keyOk, goodBi_keyOk⟩
noncomputable def Oi_keyOk_0 : Orc := fun _ _ => none
noncomputable def msi_keyOk : List PM := [.own]
noncomputable def lsi_keyOk : List (Nat × Code) := loopsAll 0 (Go.Proofs.Tryd.f73.body.getD .skip)

theorem ki_keyOk_0 : OrcOk Ei_keyOk Oi_keyOk_0 lsi_keyOk 0 := orcOk_none
noncomputable def g_Ai_keyOk (a0 : ByteArray) : Bool := g_Ai_in (↑(ByteArray.size a0) : Int) (2 : Int) (3 : Int) && (!g_Vi_in_0 (↑(ByteArray.size a0) : Int) (2 : Int) (3 : Int) || decide ((0 : Int) ≤ (0 : Int) ∧ (0 : Int) < (↑(ByteArray.size a0) : Int)) && (g_Ai_in (IntKind.wrap IntKind.i64 (byteAt a0 (nat_lit 0))) (97 : Int) (122 : Int) && (!g_Vi_in_0 (IntKind.wrap IntKind.i64 (byteAt a0 (nat_lit 0))) (97 : Int) (122 : Int) || decide ((0 : Int) ≤ (1 : Int) ∧ (1 : Int) ≤ (↑(ByteArray.size a0) : Int)) && (decide (ByteArray.size (ByteArray.extract a0 (nat_lit 1) (ByteArray.size a0)) ≤ nat_lit 9223372036854775807) && g_ascii (lit [(48 : Nat), (49 : Nat), (50 : Nat), (51 : Nat), (52 : Nat), (53 : Nat), (54 : Nat), (55 : Nat), (56 : Nat), (57 : Nat)]) && true))))
noncomputable def g_Vi_keyOk_0 (a0 : ByteArray) : Bool := bif g_Vi_in_0 (↑(ByteArray.size a0) : Int) (2 : Int) (3 : Int) then bif g_Vi_in_0 (IntKind.wrap IntKind.i64 (byteAt a0 (nat_lit 0))) (97 : Int) (122 : Int) then ByteArray.toList (g_trim (ByteArray.extract a0 (nat_lit 1) (ByteArray.size a0)) (lit [(48 : Nat), (49 : Nat), (50 : Nat), (51 : Nat), (52 : Nat), (53 : Nat), (54 : Nat), (55 : Nat), (56 : Nat), (57 : Nat)])) == [] else false else false
noncomputable def Fi_keyOk : FSem := fun ys => match ys with
  | [.val false [.str a0]] => some ((g_Ai_keyOk a0), .val false [.bool (g_Vi_keyOk_0 a0)], [])
  | _ => none
theorem vi_keyOk (a0 : ByteArray) : collapseH .std Ei_keyOk Oi_keyOk_0 (execFn Ei_keyOk Go.Proofs.Tryd.f73 msi_keyOk [.val false [.str a0]]) = some ((g_Ai_keyOk a0), .val false [.bool (g_Vi_keyOk_0 a0)], []) := by kernel_rfl
theorem si_keyOk : Sound Go.Proofs.Tryd.prog 73 msi_keyOk Fi_keyOk := by
  refine fn_gen goodi_keyOk (by kernel_rfl) .std (fn := Go.Proofs.Tryd.f73) (c := (Go.Proofs.Tryd.f73.body.getD .skip)) (o := Oi_keyOk_0) (k := 0) (by kernel_rfl) (by kernel_rfl) (by kernel_rfl) (by kernel_rfl) (by decide) ki_keyOk_0 ?_
  intro ys r outs h
  unfold Fi_keyOk at h
  split at h
  · exact (vi_keyOk _).trans h
  · cases h
end Go.Proofs.YtkjeicijcecmlaaDoor.E
end
section
namespace Go.Proofs.YtkjeicijcecmlaaDoor.E
open Go
set_option maxRecDepth 100000
set_option maxHeartbeats 0
set_option linter.all false
noncomputable def Ei_valOk_1 : Env where
  tt := mkTI Go.Proofs.Tryd.prog
  fn := fun f => match f with
    | 129 => some (msi_in, FSem.wk msi_in Fi_in)
    | _ => none
  bxf := fun _ => none
  mv := []
  keep := fun _ => []
  keepB := fun _ => []
  keepX := fun _ => []
  keepXB := fun _ => []
theorem goodFi_valOk_1 : ∀ f ms F, Ei_valOk_1.fn f = some (ms, F) → Sound Go.Proofs.Tryd.prog f ms F := fun f ms F h => by
  unfold Ei_valOk_1 at h
  dsimp only at h
  split at h
  · injection h with h; injection h with e1 e2; subst e1 e2; exact Sound.wk si_in
  · cases h
theorem goodBi_valOk_1 : ∀ f ms F, Ei_valOk_1.bxf f = some (ms, F) → SoundB Go.Proofs.Tryd.prog f ms F := fun f ms F h => by cases h
theorem goodi_valOk_1 : Good Go.Proofs.Tryd.prog Ei_valOk_1 := ⟨rfl, goodFi_valOk_1, goodBi_valOk_1⟩
noncomputable def Oi_valOk_1_0 : Orc := fun _ _ => none
noncomputable def msi_valOk_1 : List PM := [.own]
noncomputable def lsi_valOk_1 : List (Nat × Code) := loopsAll 0 (Go.Proofs.Tryd.f132.body.getD .skip)

theorem ki_valOk_1_0 : OrcOk Ei_valOk_1 Oi_valOk_1_0 lsi_valOk_1 0 := orcOk_none
noncomputable def g_Ai_valOk_1 (a0 : Int) : Bool := g_Ai_in a0 (0 : Int) (9999 : Int)
noncomputable def g_Vi_valOk_1_0 (a0 : Int) : Bool := !g_Vi_in_0 a0 (0 : Int) (9999 : Int)
noncomputable def Fi_valOk_1 : FSem := fun ys => match ys with
  | [.val false [.int .i64 a0]] => some ((g_Ai_valOk_1 a0), .val false [.bool (g_Vi_valOk_1_0 a0)], [])
  | _ => none
theorem vi_valOk_1 (a0 : Int) : collapseH .std Ei_valOk_1 Oi_valOk_1_0 (execFn Ei_valOk_1 Go.Proofs.Tryd.f132 msi_valOk_1 [.val false [.int .i64 a0]]) = some ((g_Ai_valOk_1 a0), .val false [.bool (g_Vi_valOk_1_0 a0)], []) := by kernel_rfl
theorem si_valOk_1 : Sound Go.Proofs.Tryd.prog 132 msi_valOk_1 Fi_valOk_1 := by
  refine fn_gen goodi_valOk_1 (by kernel_rfl) .std (fn := Go.Proofs.Tryd.f132) (c := (Go.Proofs.Tryd.f132.body.getD .skip)) (o := Oi_valOk_1_0) (k := 0) (by kernel_rfl) (by kernel_rfl) (by kernel_rfl) (by kernel_rfl) (by decide) ki_valOk_1_0 ?_
  intro ys r outs h
  unfold Fi_valOk_1 at h
  split at h
  · exact (vi_valOk_1 _).trans h
  · cases h
end Go.Proofs.YtkjeicijcecmlaaDoor.E
end
section
namespace Go.Proofs.YtkjeicijcecmlaaDoor.E
open Go
set_option maxRecDepth 100000
set_option maxHeartbeats 0
set_option linter.all false
noncomputable def Eslices_IndexFunc_int_int__i_valOk_1 : Env where
  tt := mkTI Go.Proofs.Tryd.prog
  fn := fun f => match f with
    | 132 => some (msi_valOk_1, FSem.wk msi_valOk_1 Fi_valOk_1)
    | _ => none
  bxf := fun _ => none
  mv := []
  keep := fun b => match b with
    | 0 => [(0, false), (1, false), (7, false), (8, false)]
    | _ => []
  keepB := fun b => match b with
    | 0 => []
    | _ => []
  keepX := fun b => match b with
    | 0 => [(4, false)]
    | _ => []
  keepXB := fun b => match b with
    | 0 => []
    | _ => []
theorem goodFslices_IndexFunc_int_int__i_valOk_1 : ∀ f ms F, Eslices_IndexFunc_int_int__i_valOk_1.fn f = some (ms, F) → Sound Go.Proofs.Tryd.prog f ms F := fun f ms F h => by
  unfold Eslices_IndexFunc_int_int__i_valOk_1 at h
  dsimp only at h
  split at h
  · injection h with h; injection h with e1 e2; subst e1 e2; exact Sound.wk si_valOk_1
  · cases h
theorem goodBslices_IndexFunc_int_int__i_valOk_1 : ∀ f ms F, Eslices_IndexFunc_int_int__i_valOk_1.bxf f = some (ms, F) → SoundB Go.Proofs.Tryd.prog f ms F := fun f ms F h => by cases h
theorem goodslices_IndexFunc_int_int__i_valOk_1 : Good Go.Proofs.Tryd.prog Eslices_IndexFunc_int_int__i_valOk_1 := ⟨rfl, goodFslices_IndexFunc_int_int__i_valOk_1, goodBslices_IndexFunc_int_int__i_valOk_1⟩
noncomputable def Oslices_IndexFunc_int_int__i_valOk_1_0 : Orc := fun _ _ => none
noncomputable def msslices_IndexFunc_int_int__i_valOk_1 : List PM := [.rd, .rd]
noncomputable def lsslices_IndexFunc_int_int__i_valOk_1 : List (Nat × Code) := loopsAll 0 (Go.Proofs.Tryd.f165.body.getD .skip)
noncomputable def cslices_IndexFunc_int_int__i_valOk_1_0 : Code := (loopOf 0 (Go.Proofs.Tryd.f165.body.getD .skip)).getD .skip
theorem lseqslices_IndexFunc_int_int__i_valOk_1 : lsslices_IndexFunc_int_int__i_valOk_1 = [(0, cslices_IndexFunc_int_int__i_valOk_1_0)] := by kernel_rfl
theorem mslices_IndexFunc_int_int__i_valOk_1_0 : ∀ p, p ∈ lsslices_IndexFunc_int_int__i_valOk_1 → p.1 = 0 → p.2 = cslices_IndexFunc_int_int__i_valOk_1_0 := by
  intro p hp
  rw [lseqslices_IndexFunc_int_int__i_valOk_1] at hp
  simp only [List.mem_cons, List.not_mem_nil, or_false] at hp
  subst hp; simp
theorem kslices_IndexFunc_int_int__i_valOk_1_0 : OrcOk Eslices_IndexFunc_int_int__i_valOk_1 Oslices_IndexFunc_int_int__i_valOk_1_0 lsslices_IndexFunc_int_int__i_valOk_1 0 := orcOk_none
noncomputable def hslices_IndexFunc_int_int__i_valOk_1_0 (y0 : List (Int)) (y1 : Int) (y2 : Int) : List (Pl × LV) := [(.T 0, .t (.val false [.sl .any 3 (.int .i64) y0])), (.T 1, .t (.val false [.fn 132 []])), (.T 7, .t (.val false [.int .i64 y1])), (.T 8, .t (.val false [.int .i64 y2]))]
noncomputable def g_Sslices_IndexFunc_int_int__i_valOk_1_0 (y0 : List (Int)) (y1 : Int) : ((Int)) → RT ((Int)) (((Int)) ⊕ (Unit))
  | y2 => .br (true) (.br (decide (y2 < y1)) (.br (decide ((0 : Int) ≤ y2 ∧ y2 < (↑(List.length y0) : Int))) (.br (g_Ai_valOk_1 (at_ (Ty.int IntKind.i64) y0 (Int.toNat y2))) (.br (g_Vi_valOk_1_0 (at_ (Ty.int IntKind.i64) y0 (Int.toNat y2))) (.out (.inl y2)) (.br (true) (.go (IntKind.wrap IntKind.i64 (y2 + (1 : Int)))) (.bad))) (.bad)) (.bad)) (.out (.inr (())))) (.bad)
noncomputable def g_Lslices_IndexFunc_int_int__i_valOk_1_0 (y0 : List (Int)) (y1 : Int) (x : (Int)) : Option (((Int)) ⊕ (Unit)) := loopO (g_Sslices_IndexFunc_int_int__i_valOk_1_0 y0 y1) x
noncomputable def xslices_IndexFunc_int_int__i_valOk_1_0 (y0 : List (Int)) (y1 : Int) : (((Int)) ⊕ (Unit)) → Ex × List (Pl × LV) := fun
  | .inl r => (.ret, [(.T 4, .t (.val false [.int .i64 r]))])
  | .inr (r) => (.exit 0, [(.T 4, .t (.val false [.undef]))])
noncomputable def Oslices_IndexFunc_int_int__i_valOk_1_1 : Orc := fun b h => match b, h with
  | 0, [(.T 0, .t (.val false [.sl .any 3 (.int .i64) y0])), (.T 1, .t (.val false [.fn 132 []])), (.T 7, .t (.val false [.int .i64 y1])), (.T 8, .t (.val false [.int .i64 y2]))] => some (okO (g_Lslices_IndexFunc_int_int__i_valOk_1_0 y0 y1 y2), (.br (isL (valO (g_Lslices_IndexFunc_int_int__i_valOk_1_0 y0 y1 y2))) (.leaf .ret [(.T 4, .t (.val false [.int .i64 (getL (valO (g_Lslices_IndexFunc_int_int__i_valOk_1_0 y0 y1 y2)))]))]) (.leaf (.exit 0) [(.T 4, .t (.val false [.undef]))])))
  | b, h => Oslices_IndexFunc_int_int__i_valOk_1_0 b h
theorem bslices_IndexFunc_int_int__i_valOk_1_0 (y0 : List (Int)) (y1 : Int) (y2 : Int) : Tr.bt Eslices_IndexFunc_int_int__i_valOk_1 Oslices_IndexFunc_int_int__i_valOk_1_0 (exec Eslices_IndexFunc_int_int__i_valOk_1 0 cslices_IndexFunc_int_int__i_valOk_1_0 (St.of (hslices_IndexFunc_int_int__i_valOk_1_0 y0 y1 y2)) (leafRd Eslices_IndexFunc_int_int__i_valOk_1 0)) = (g_Sslices_IndexFunc_int_int__i_valOk_1_0 y0 y1 y2).bt (fun (y2 : (Int)) => (hslices_IndexFunc_int_int__i_valOk_1_0 y0 y1 y2)) (xslices_IndexFunc_int_int__i_valOk_1_0 y0 y1) := by kernel_rfl
theorem kslices_IndexFunc_int_int__i_valOk_1_1 : OrcOk Eslices_IndexFunc_int_int__i_valOk_1 Oslices_IndexFunc_int_int__i_valOk_1_1 lsslices_IndexFunc_int_int__i_valOk_1 1 := orc_add kslices_IndexFunc_int_int__i_valOk_1_0 (fun n p hp h ex h' ho => by
  obtain ⟨b, c⟩ := p
  obtain ⟨xt, h1, h2⟩ := ho
  have h1 : Oslices_IndexFunc_int_int__i_valOk_1_1 b h = some (true, xt) := h1
  unfold Oslices_IndexFunc_int_int__i_valOk_1_1 at h1
  split at h1
  · injection h1 with h1
    injection h1 with e1 e2
    subst e2
    have hc : c = cslices_IndexFunc_int_int__i_valOk_1_0 := mslices_IndexFunc_int_int__i_valOk_1_0 _ hp rfl
    subst hc
    right
    rename_i y0 y1 y2
    have key := LT_step kslices_IndexFunc_int_int__i_valOk_1_0 hp (fun q hq => loopsAll_in _ _ _ _ hp hq) (fun (y2 : (Int)) => (hslices_IndexFunc_int_int__i_valOk_1_0 y0 y1 y2)) (xslices_IndexFunc_int_int__i_valOk_1_0 y0 y1) (g_Sslices_IndexFunc_int_int__i_valOk_1_0 y0 y1) (fun x => by first | exact bslices_IndexFunc_int_int__i_valOk_1_0 y0 y1 x) n (x := y2) (okO_some e1)
    have hx : ∀ r, XT.sel (.br (isL r) (.leaf .ret [(.T 4, .t (.val false [.int .i64 (getL r)]))]) (.leaf (.exit 0) [(.T 4, .t (.val false [.undef]))])) = xslices_IndexFunc_int_int__i_valOk_1_0 y0 y1 r := fun r => by first | rfl | (rcases r with r | r <;> rfl) | (rcases r with r | r | r <;> rfl) | (rcases r with r | r | r | r <;> rfl)
    have h3 := (hx (valO (g_Lslices_IndexFunc_int_int__i_valOk_1_0 y0 y1 y2))).symm.trans h2
    have e3 := congrArg Prod.fst h3
    have e4 := congrArg Prod.snd h3
    simp only at e3 e4
    rw [← e3, ← e4]
    exact key
  · exact .inl ⟨xt, h1, h2⟩)
noncomputable def g_Aslices_IndexFunc_int_int__i_valOk_1 (a0 : List (Int)) : Bool := okO (g_Lslices_IndexFunc_int_int__i_valOk_1_0 a0 (↑(List.length a0) : Int) (0 : Int))
noncomputable def g_Vslices_IndexFunc_int_int__i_valOk_1_0 (a0 : List (Int)) : Int := bif isL (valO (g_Lslices_IndexFunc_int_int__i_valOk_1_0 a0 (↑(List.length a0) : Int) (0 : Int))) then getL (valO (g_Lslices_IndexFunc_int_int__i_valOk_1_0 a0 (↑(List.length a0) : Int) (0 : Int))) else (-1 : Int)
noncomputable def Fslices_IndexFunc_int_int__i_valOk_1 : FSem := fun ys => match ys with
  | [.val false [.sl .any 3 (.int .i64) a0], .val false [.fn 132 []]] => some ((g_Aslices_IndexFunc_int_int__i_valOk_1 a0), .val false [.int .i64 (g_Vslices_IndexFunc_int_int__i_valOk_1_0 a0)], [])
  | _ => none
theorem vslices_IndexFunc_int_int__i_valOk_1 (a0 : List (Int)) : collapseH .std Eslices_IndexFunc_int_int__i_valOk_1 Oslices_IndexFunc_int_int__i_valOk_1_1 (execFn Eslices_IndexFunc_int_int__i_valOk_1 Go.Proofs.Tryd.f165 msslices_IndexFunc_int_int__i_valOk_1 [.val false [.sl .any 3 (.int .i64) a0], .val false [.fn 132 []]]) = some ((g_Aslices_IndexFunc_int_int__i_valOk_1 a0), .val false [.int .i64 (g_Vslices_IndexFunc_int_int__i_valOk_1_0 a0)], []) := by kernel_rfl
theorem sslices_IndexFunc_int_int__i_valOk_1 : Sound Go.Proofs.Tryd.prog 165 msslices_IndexFunc_int_int__i_valOk_1 Fslices_IndexFunc_int_int__i_valOk_1 := by
  refine fn_gen goodslices_IndexFunc_int_int__i_valOk_1 (by kernel_rfl) .std (fn := Go.Proofs.Tryd.f165) (c := (Go.Proofs.Tryd.f165.body.getD .skip)) (o := Oslices_IndexFunc_int_int__i_valOk_1_1) (k := 1) (by kernel_rfl) (by kernel_rfl) (by kernel_rfl) (by kernel_rfl) (by decide) kslices_IndexFunc_int_int__i_valOk_1_1 ?_
  intro ys r outs h
  unfold Fslices_IndexFunc_int_int__i_valOk_1 at h
  split at h
  · exact (vslices_IndexFunc_int_int__i_valOk_1 _).trans h
  · cases h
end Go.Proofs.YtkjeicijcecmlaaDoor.E
end
section
namespace Go.Proofs.YtkjeicijcecmlaaDoor.E
open Go
set_option maxRecDepth 100000
set_option maxHeartbeats 0
set_option linter.all false
noncomputable def Eslices_ContainsFunc_int_int__i_valOk_1 : Env where
  tt := mkTI Go.Proofs.Tryd.prog
  fn := fun f => match f with
    | 132 => some (msi_valOk_1, FSem.wk msi_valOk_1 Fi_valOk_1)
    | 165 => some (msslices_IndexFunc_int_int__i_valOk_1, FSem.wk msslices_IndexFunc_int_int__i_valOk_1 Fslices_IndexFunc_int_int__i_valOk_1)
    | _ => none
  bxf := fun _ => none
  mv := []
  keep := fun _ => []
  keepB := fun _ => []
  keepX := fun _ => []
  keepXB := fun _ => []
theorem goodFslices_ContainsFunc_int_int__i_valOk_1 : ∀ f ms F, Eslices_ContainsFunc_int_int__i_valOk_1.fn f = some (ms, F) → Sound Go.Proofs.Tryd.prog f ms F := fun f ms F h => by
  unfold Eslices_ContainsFunc_int_int__i_valOk_1 at h
  dsimp only at h
  split at h
  · injection h with h; injection h with e1 e2; subst e1 e2; exact Sound.wk si_valOk_1
  · injection h with h; injection h with e1 e2; subst e1 e2; exact Sound.wk sslices_IndexFunc_int_int__i_valOk_1
  · cases h
theorem goodBslices_ContainsFunc_int_int__i_valOk_1 : ∀ f ms F, Eslices_ContainsFunc_int_int__i_valOk_1.bxf f = some (ms, F) → SoundB Go.Proofs.Tryd.prog f ms F := fun f ms F h => by cases h
theorem goodslices_ContainsFunc_int_int__i_valOk_1 : Good Go.Proofs.Tryd.prog Eslices_ContainsFunc_int_int__i_valOk_1 := ⟨rfl, goodFslices_ContainsFunc_int_int__i_valOk_1, goodBslices_ContainsFunc_int_int__i_valOk_1⟩
noncomputable def Oslices_ContainsFunc_int_int__i_valOk_1_0 : Orc := fun _ _ => none
noncomputable def msslices_ContainsFunc_int_int__i_valOk_1 : List PM := [.rd, .rd]
noncomputable def lsslices_ContainsFunc_int_int__i_valOk_1 : List (Nat × Code) := loopsAll 0 (Go.Proofs.Tryd.f131.body.getD .skip)

theorem kslices_ContainsFunc_int_int__i_valOk_1_0 : OrcOk Eslices_ContainsFunc_int_int__i_valOk_1 Oslices_ContainsFunc_int_int__i_valOk_1_0 lsslices_ContainsFunc_int_int__i_valOk_1 0 := orcOk_none
noncomputable def g_Aslices_ContainsFunc_int_int__i_valOk_1 (a0 : List (Int)) : Bool := g_Aslices_IndexFunc_int_int__i_valOk_1 a0 && true
noncomputable def g_Vslices_ContainsFunc_int_int__i_valOk_1_0 (a0 : List (Int)) : Bool := decide (g_Vslices_IndexFunc_int_int__i_valOk_1_0 a0 ≥ (0 : Int))
noncomputable def Fslices_ContainsFunc_int_int__i_valOk_1 : FSem := fun ys => match ys with
  | [.val false [.sl .any 3 (.int .i64) a0], .val false [.fn 132 []]] => some ((g_Aslices_ContainsFunc_int_int__i_valOk_1 a0), .val false [.bool (g_Vslices_ContainsFunc_int_int__i_valOk_1_0 a0)], [])
  | _ => none
theorem vslices_ContainsFunc_int_int__i_valOk_1 (a0 : List (Int)) : collapseH .std Eslices_ContainsFunc_int_int__i_valOk_1 Oslices_ContainsFunc_int_int__i_valOk_1_0 (execFn Eslices_ContainsFunc_int_int__i_valOk_1 Go.Proofs.Tryd.f131 msslices_ContainsFunc_int_int__i_valOk_1 [.val false [.sl .any 3 (.int .i64) a0], .val false [.fn 132 []]]) = some ((g_Aslices_ContainsFunc_int_int__i_valOk_1 a0), .val false [.bool (g_Vslices_ContainsFunc_int_int__i_valOk_1_0 a0)], []) := by kernel_rfl
theorem sslices_ContainsFunc_int_int__i_valOk_1 : Sound Go.Proofs.Tryd.prog 131 msslices_ContainsFunc_int_int__i_valOk_1 Fslices_ContainsFunc_int_int__i_valOk_1 := by
  refine fn_gen goodslices_ContainsFunc_int_int__i_valOk_1 (by kernel_rfl) .std (fn := Go.Proofs.Tryd.f131) (c := (Go.Proofs.Tryd.f131.body.getD .skip)) (o := Oslices_ContainsFunc_int_int__i_valOk_1_0) (k := 0) (by kernel_rfl) (by kernel_rfl) (by kernel_rfl) (by kernel_rfl) (by decide) kslices_ContainsFunc_int_int__i_valOk_1_0 ?_
  intro ys r outs h
  unfold Fslices_ContainsFunc_int_int__i_valOk_1 at h
  split at h
  · exact (vslices_ContainsFunc_int_int__i_valOk_1 _).trans h
  · cases h
end Go.Proofs.YtkjeicijcecmlaaDoor.E
end
section
namespace Go.Proofs.YtkjeicijcecmlaaDoor.E
open Go
set_option maxRecDepth 100000
set_option maxHeartbeats 0
set_option linter.all false
noncomputable def Ei_valOk : Env where
  tt := mkTI Go.Proofs.Tryd.prog
  fn := fun f => match f with
    | 129 => some (msi_in, FSem.wk msi_in Fi_in)
    | 131 => some (msslices_ContainsFunc_int_int__i_valOk_1, FSem.wk msslices_ContainsFunc_int_int__i_valOk_1 Fslices_ContainsFunc_int_int__i_valOk_1)
    | _ => none
  bxf := fun _ => none
  mv := []
  keep := fun _ => []
  keepB := fun _ => []
  keepX := fun _ => []
  keepXB := fun _ => []
theorem goodFi_valOk : ∀ f ms F, Ei_valOk.fn f = some (ms, F) → Sound Go.Proofs.Tryd.prog f ms F := fun f ms F h => by
  unfold Ei_valOk at h
  dsimp only at h
  split at h
  · injection h with h; injection h with e1 e2; subst e1 e2; exact Sound.wk si_in
  · injection h with h; injection h with e1 e2; subst e1 e2; exact Sound.wk sslices_ContainsFunc_int_int__i_valOk_1
  · cases h
theorem goodBi_valOk : ∀ f ms F, Ei_valOk.bxf f = some (ms, F) → SoundB Go.Proofs.Tryd.prog f ms F := fun f ms F h => by cases h
theorem goodi_valOk : Good Go.Proofs.Tryd.prog Ei_valOk := ⟨rfl, goodFi_valOk, goodBi_valOk⟩
noncomputable def Oi_valOk_0 : Orc := fun _ _ => none
noncomputable def msi_valOk : List PM := [.rd]
noncomputable def lsi_valOk : List (Nat × Code) := loopsAll 0 (Go.Proofs.Tryd.f74.body.getD .skip)

theorem ki_valOk_0 : OrcOk Ei_valOk Oi_valOk_0 lsi_valOk 0 := orcOk_none
noncomputable def g_Ai_valOk (a0 : List (Int)) : Bool := g_Ai_in (↑(List.length a0) : Int) (1 : Int) (3 : Int) && (!g_Vi_in_0 (↑(List.length a0) : Int) (1 : Int) (3 : Int) || g_Aslices_ContainsFunc_int_int__i_valOk_1 a0)
noncomputable def g_Vi_valOk_0 (a0 : List (Int)) : Bool := bif g_Vi_in_0 (↑(List.length a0) : Int) (1 : Int) (3 : Int) then !g_Vslices_ContainsFunc_int_int__i_valOk_1_0 a0 else false
noncomputable def Fi_valOk : FSem := fun ys => match ys with
  | [.val false [.sl .any 3 (.int .i64) a0]] => some ((g_Ai_valOk a0), .val false [.bool (g_Vi_valOk_0 a0)], [])
  | _ => none
theorem vi_valOk (a0 : List (Int)) : collapseH .std Ei_valOk Oi_valOk_0 (execFn Ei_valOk Go.Proofs.Tryd.f74 msi_valOk [.val false [.sl .any 3 (.int .i64) a0]]) = some ((g_Ai_valOk a0), .val false [.bool (g_Vi_valOk_0 a0)], []) := by kernel_rfl
theorem si_valOk : Sound Go.Proofs.Tryd.prog 74 msi_valOk Fi_valOk := by
  refine fn_gen goodi_valOk (by kernel_rfl) .std (fn := Go.Proofs.Tryd.f74) (c := (Go.Proofs.Tryd.f74.body.getD .skip)) (o := Oi_valOk_0) (k := 0) (by kernel_rfl) (by kernel_rfl) (by kernel_rfl) (by kernel_rfl) (by decide) ki_valOk_0 ?_
  intro ys r outs h
  unfold Fi_valOk at h
  split at h
  · exact (vi_valOk _).trans h
  · cases h
end Go.Proofs.YtkjeicijcecmlaaDoor.E
end
section
namespace Go.Proofs.YtkjeicijcecmlaaDoor.E
open Go
set_option maxRecDepth 100000
set_option maxHeartbeats 0
set_option linter.all false
noncomputable def Ei_WrtOk : Env where
  tt := mkTI Go.Proofs.Tryd.prog
  fn := fun f => match f with
    | 73 => some (msi_keyOk, FSem.wk msi_keyOk Fi_keyOk)
    | 74 => some (msi_valOk, FSem.wk msi_valOk Fi_valOk)
    | _ => none
  bxf := fun _ => none
  mv := []
  keep := fun _ => []
  keepB := fun _ => []
  keepX := fun _ => []
  keepXB := fun _ => []
theorem goodFi_WrtOk : ∀ f ms F, Ei_WrtOk.fn f = some (ms, F) → Sound Go.Proofs.Tryd.prog f ms F := fun f ms F h => by
  unfold Ei_WrtOk at h
  dsimp only at h
  split at h
  · injection h with h; injection h with e1 e2; subst e1 e2; exact Sound.wk si_keyOk
  · injection h with h; injection h with e1 e2; subst e1 e2; exact Sound.wk si_valOk
  · cases h
theorem goodBi_WrtOk : ∀ f ms F, Ei_WrtOk.bxf f = some (ms, F) → SoundB Go.Proofs.Tryd.prog f ms F := fun f ms F h => by cases h
theorem goodi_WrtOk : Good Go.Proofs.Tryd.prog Ei_WrtOk := ⟨rfl, goodFi_WrtOk, goodBi_WrtOk⟩
noncomputable def Oi_WrtOk_0 : Orc := fun _ _ => none
noncomputable def msi_WrtOk : List PM := [.rd]
noncomputable def lsi_WrtOk : List (Nat × Code) := loopsAll 0 (Go.Proofs.Tryd.f77.body.getD .skip)

theorem ki_WrtOk_0 : OrcOk Ei_WrtOk Oi_WrtOk_0 lsi_WrtOk 0 := orcOk_none
noncomputable def g_Ai_WrtOk (a0 : ByteArray) (a1 : Bool) (a2 : List (Int)) : Bool := bif a1 then g_Ai_keyOk a0 && (!g_Vi_keyOk_0 a0 || true) else g_Ai_keyOk a0 && (!g_Vi_keyOk_0 a0 || g_Ai_valOk a2)
noncomputable def g_Vi_WrtOk_0 (a0 : ByteArray) (a1 : Bool) (a2 : List (Int)) : Bool := bif a1 then bif g_Vi_keyOk_0 a0 then (↑(List.length a2) : Int) == (0 : Int) else false else bif g_Vi_keyOk_0 a0 then g_Vi_valOk_0 a2 else false
noncomputable def Fi_WrtOk : FSem := fun ys => match ys with
  | [.val true [.str a0, .bool a1, .sl .any 3 (.int .i64) a2]] => some ((g_Ai_WrtOk a0 a1 a2), .val false [.bool (g_Vi_WrtOk_0 a0 a1 a2)], [])
  | _ => none
theorem vi_WrtOk (a0 : ByteArray) (a1 : Bool) (a2 : List (Int)) : collapseH .std Ei_WrtOk Oi_WrtOk_0 (execFn Ei_WrtOk Go.Proofs.Tryd.f77 msi_WrtOk [.val true [.str a0, .bool a1, .sl .any 3 (.int .i64) a2]]) = some ((g_Ai_WrtOk a0 a1 a2), .val false [.bool (g_Vi_WrtOk_0 a0 a1 a2)], []) := by kernel_rfl
theorem si_WrtOk : Sound Go.Proofs.Tryd.prog 77 msi_WrtOk Fi_WrtOk := by
  refine fn_gen goodi_WrtOk (by kernel_rfl) .std (fn := Go.Proofs.Tryd.f77) (c := (Go.Proofs.Tryd.f77.body.getD .skip)) (o := Oi_WrtOk_0) (k := 0) (by kernel_rfl) (by kernel_rfl) (by kernel_rfl) (by kernel_rfl) (by decide) ki_WrtOk_0 ?_
  intro ys r outs h
  unfold Fi_WrtOk at h
  split at h
  · exact (vi_WrtOk _ _ _).trans h
  · cases h
end Go.Proofs.YtkjeicijcecmlaaDoor.E
end
section
namespace Go.Proofs.YtkjeicijcecmlaaDoor.E
open Go
set_option maxRecDepth 100000
set_option maxHeartbeats 0
set_option linter.all false
noncomputable def Eslices_Index_string_string : Env where
  tt := mkTI Go.Proofs.Tryd.prog
  fn := fun _ => none
  bxf := fun _ => none
  mv := []
  keep := fun b => match b with
    | 0 => [(0, false), (1, false), (7, false), (8, false)]
    | _ => []
  keepB := fun b => match b with
    | 0 => []
    | _ => []
  keepX := fun b => match b with
    | 0 => [(4, false)]
    | _ => []
  keepXB := fun b => match b with
    | 0 => []
    | _ => []
theorem goodFslices_Index_string_string : ∀ f ms F, Eslices_Index_string_string.fn f = some (ms, F) → Sound Go.Proofs.Tryd.prog f ms F := fun f ms F h => by cases h
theorem goodBslices_Index_string_string : ∀ f ms F, Eslices_Index_string_string.bxf f = some (ms, F) → SoundB Go.Proofs.Tryd.prog f ms F := fun f ms F h => by cases h
theorem goodslices_Index_string_string : Good Go.Proofs.Tryd.prog Eslices_Index_string_string := ⟨rfl, goodFslices_Index_string_string, goodBslices_Index_string_string⟩
noncomputable def Oslices_Index_string_string_0 : Orc := fun _ _ => none
noncomputable def msslices_Index_string_string : List PM := [.rd, .own]
noncomputable def lsslices_Index_string_string : List (Nat × Code) := loopsAll 0 (Go.Proofs.Tryd.f148.body.getD .skip)
noncomputable def cslices_Index_string_string_0 : Code := (loopOf 0 (Go.Proofs.Tryd.f148.body.getD .skip)).getD .skip
theorem lseqslices_Index_string_string : lsslices_Index_string_string = [(0, cslices_Index_string_string_0)] := by kernel_rfl
theorem mslices_Index_string_string_0 : ∀ p, p ∈ lsslices_Index_string_string → p.1 = 0 → p.2 = cslices_Index_string_string_0 := by
  intro p hp
  rw [lseqslices_Index_string_string] at hp
  simp only [List.mem_cons, List.not_mem_nil, or_false] at hp
  subst hp; simp
theorem kslices_Index_string_string_0 : OrcOk Eslices_Index_string_string Oslices_Index_string_string_0 lsslices_Index_string_string 0 := orcOk_none
noncomputable def hslices_Index_string_string_0 (y0 : List (ByteArray)) (y1 : ByteArray) (y2 : Int) (y3 : Int) : List (Pl × LV) := [(.T 0, .t (.val false [.sl .any 9 .str y0])), (.T 1, .t (.val false [.str y1])), (.T 7, .t (.val false [.int .i64 y2])), (.T 8, .t (.val false [.int .i64 y3]))]
noncomputable def g_Sslices_Index_string_string_0 (y0 : List (ByteArray)) (y1 : ByteArray) (y2 : Int) : ((Int)) → RT ((Int)) (((Int)) ⊕ (Unit))
  | y3 => .br (true) (.br (decide (y3 < y2)) (.br (decide ((0 : Int) ≤ y3 ∧ y3 < (↑(List.length y0) : Int))) (.br (true) (.br (ByteArray.toList y1 == ByteArray.toList (at_ Ty.str y0 (Int.toNat y3))) (.out (.inl y3)) (.br (true) (.go (IntKind.wrap IntKind.i64 (y3 + (1 : Int)))) (.bad))) (.bad)) (.bad)) (.out (.inr (())))) (.bad)
noncomputable def g_Lslices_Index_string_string_0 (y0 : List (ByteArray)) (y1 : ByteArray) (y2 : Int) (x : (Int)) : Option (((Int)) ⊕ (Unit)) := loopO (g_Sslices_Index_string_string_0 y0 y1 y2) x
noncomputable def xslices_Index_string_string_0 (y0 : List (ByteArray)) (y1 : ByteArray) (y2 : Int) : (((Int)) ⊕ (Unit)) → Ex × List (Pl × LV) := fun
  | .inl r => (.ret, [(.T 4, .t (.val false [.int .i64 r]))])
  | .inr (r) => (.exit 0, [(.T 4, .t (.val false [.undef]))])
noncomputable def Oslices_Index_string_string_1 : Orc := fun b h => match b, h with
  | 0, [(.T 0, .t (.val false [.sl .any 9 .str y0])), (.T 1, .t (.val false [.str y1])), (.T 7, .t (.val false [.int .i64 y2])), (.T 8, .t (.val false [.int .i64 y3]))] => some (okO (g_Lslices_Index_string_string_0 y0 y1 y2 y3), (.br (isL (valO (g_Lslices_Index_string_string_0 y0 y1 y2 y3))) (.leaf .ret [(.T 4, .t (.val false [.int .i64 (getL (valO (g_Lslices_Index_string_string_0 y0 y1 y2 y3)))]))]) (.leaf (.exit 0) [(.T 4, .t (.val false [.undef]))])))
  | b, h => Oslices_Index_string_string_0 b h
theorem bslices_Index_string_string_0 (y0 : List (ByteArray)) (y1 : ByteArray) (y2 : Int) (y3 : Int) : Tr.bt Eslices_Index_string_string Oslices_Index_string_string_0 (exec Eslices_Index_string_string 0 cslices_Index_string_string_0 (St.of (hslices_Index_string_string_0 y0 y1 y2 y3)) (leafRd Eslices_Index_string_string 0)) = (g_Sslices_Index_string_string_0 y0 y1 y2 y3).bt (fun (y3 : (Int)) => (hslices_Index_string_string_0 y0 y1 y2 y3)) (xslices_Index_string_string_0 y0 y1 y2) := by kernel_rfl
theorem kslices_Index_string_string_1 : OrcOk Eslices_Index_string_string Oslices_Index_string_string_1 lsslices_Index_string_string 1 := orc_add kslices_Index_string_string_0 (fun n p hp h ex h' ho => by
  obtain ⟨b, c⟩ := p
  obtain ⟨xt, h1, h2⟩ := ho
  have h1 : Oslices_Index_string_string_1 b h = some (true, xt) := h1
  unfold Oslices_Index_string_string_1 at h1
  split at h1
  · injection h1 with h1
    injection h1 with e1 e2
    subst e2
    have hc : c = cslices_Index_string_string_0 := mslices_Index_string_string_0 _ hp rfl
    subst hc
    right
    rename_i y0 y1 y2 y3
    have key := LT_step kslices_Index_string_string_0 hp (fun q hq => loopsAll_in _ _ _ _ hp hq) (fun (y3 : (Int)) => (hslices_Index_string_string_0 y0 y1 y2 y3)) (xslices_Index_string_string_0 y0 y1 y2) (g_Sslices_Index_string_string_0 y0 y1 y2) (fun x => by first | exact bslices_Index_string_string_0 y0 y1 y2 x) n (x := y3) (okO_some e1)
    have hx : ∀ r, XT.sel (.br (isL r) (.leaf .ret [(.T 4, .t (.val false [.int .i64 (getL r)]))]) (.leaf (.exit 0) [(.T 4, .t (.val false [.undef]))])) = xslices_Index_string_string_0 y0 y1 y2 r := fun r => by first | rfl | (rcases r with r | r <;> rfl) | (rcases r with r | r | r <;> rfl) | (rcases r with r | r | r | r <;> rfl)
    have h3 := (hx (valO (g_Lslices_Index_string_string_0 y0 y1 y2 y3))).symm.trans h2
    have e3 := congrArg Prod.fst h3
    have e4 := congrArg Prod.snd h3
    simp only at e3 e4
    rw [← e3, ← e4]
    exact key
  · exact .inl ⟨xt, h1, h2⟩)
noncomputable def g_Aslices_Index_string_string (a0 : List (ByteArray)) (a1 : ByteArray) : Bool := okO (g_Lslices_Index_string_string_0 a0 a1 (↑(List.length a0) : Int) (0 : Int))
noncomputable def g_Vslices_Index_string_string_0 (a0 : List (ByteArray)) (a1 : ByteArray) : Int := bif isL (valO (g_Lslices_Index_string_string_0 a0 a1 (↑(List.length a0) : Int) (0 : Int))) then getL (valO (g_Lslices_Index_string_string_0 a0 a1 (↑(List.length a0) : Int) (0 : Int))) else (-1 : Int)
noncomputable def Fslices_Index_string_string : FSem := fun ys => match ys with
  | [.val false [.sl .any 9 .str a0], .val false [.str a1]] => some ((g_Aslices_Index_string_string a0 a1), .val false [.int .i64 (g_Vslices_Index_string_string_0 a0 a1)], [])
  | _ => none
theorem vslices_Index_string_string (a0 : List (ByteArray)) (a1 : ByteArray) : collapseH .std Eslices_Index_string_string Oslices_Index_string_string_1 (execFn Eslices_Index_string_string Go.Proofs.Tryd.f148 msslices_Index_string_string [.val false [.sl .any 9 .str a0], .val false [.str a1]]) = some ((g_Aslices_Index_string_string a0 a1), .val false [.int .i64 (g_Vslices_Index_string_string_0 a0 a1)], []) := by kernel_rfl
theorem sslices_Index_string_string : Sound Go.Proofs.Tryd.prog 148 msslices_Index_string_string Fslices_Index_string_string := by
  refine fn_gen goodslices_Index_string_string (by kernel_rfl) .std (fn := Go.Proofs.Tryd.f148) (c := (Go.Proofs.Tryd.f148.body.getD .skip)) (o := Oslices_Index_string_string_1) (k := 1) (by kernel_rfl) (by kernel_rfl) (by kernel_rfl) (by kernel_rfl) (by decide) kslices_Index_string_string_1 ?_
  intro ys r outs h
  unfold Fslices_Index_string_string at h
  split at h
  · exact (vslices_Index_string_string _ _).trans h
  · cases h
end Go.Proofs.YtkjeicijcecmlaaDoor.E
end
section
namespace Go.Proofs.YtkjeicijcecmlaaDoor.E
open Go
set_option maxRecDepth 100000
set_option maxHeartbeats 0
set_option linter.all false
noncomputable def Eslices_Contains_string_string : Env where
  tt := mkTI Go.Proofs.Tryd.prog
  fn := fun f => match f with
    | 148 => some (msslices_Index_string_string, FSem.wk msslices_Index_string_string Fslices_Index_string_string)
    | _ => none
  bxf := fun _ => none
  mv := []
  keep := fun _ => []
  keepB := fun _ => []
  keepX := fun _ => []
  keepXB := fun _ => []
theorem goodFslices_Contains_string_string : ∀ f ms F, Eslices_Contains_string_string.fn f = some (ms, F) → Sound Go.Proofs.Tryd.prog f ms F := fun f ms F h => by
  unfold Eslices_Contains_string_string at h
  dsimp only at h
  split at h
  · injection h with h; injection h with e1 e2; subst e1 e2; exact Sound.wk sslices_Index_string_string
  · cases h
theorem goodBslices_Contains_string_string : ∀ f ms F, Eslices_Contains_string_string.bxf f = some (ms, F) → SoundB Go.Proofs.Tryd.prog f ms F := fun f ms F h => by cases h
theorem goodslices_Contains_string_string : Good Go.Proofs.Tryd.prog Eslices_Contains_string_string := ⟨rfl, goodFslices_Contains_string_string, goodBslices_Contains_string_string⟩
noncomputable def Oslices_Contains_string_string_0 : Orc := fun _ _ => none
noncomputable def msslices_Contains_string_string : List PM := [.rd, .own]
noncomputable def lsslices_Contains_string_string : List (Nat × Code) := loopsAll 0 (Go.Proofs.Tryd.f107.body.getD .skip)

theorem kslices_Contains_string_string_0 : OrcOk Eslices_Contains_string_string Oslices_Contains_string_string_0 lsslices_Contains_string_string 0 := orcOk_none
noncomputable def g_Aslices_Contains_string_string (a0 : List (ByteArray)) (a1 : ByteArray) : Bool := g_Aslices_Index_string_string a0 a1 && true
noncomputable def g_Vslices_Contains_string_string_0 (a0 : List (ByteArray)) (a1 : ByteArray) : Bool := decide (g_Vslices_Index_string_string_0 a0 a1 ≥ (0 : Int))
noncomputable def Fslices_Contains_string_string : FSem := fun ys => match ys with
  | [.val false [.sl .any 9 .str a0], .val false [.str a1]] => some ((g_Aslices_Contains_string_string a0 a1), .val false [.bool (g_Vslices_Contains_string_string_0 a0 a1)], [])
  | _ => none
theorem vslices_Contains_string_string (a0 : List (ByteArray)) (a1 : ByteArray) : collapseH .std Eslices_Contains_string_string Oslices_Contains_string_string_0 (execFn Eslices_Contains_string_string Go.Proofs.Tryd.f107 msslices_Contains_string_string [.val false [.sl .any 9 .str a0], .val false [.str a1]]) = some ((g_Aslices_Contains_string_string a0 a1), .val false [.bool (g_Vslices_Contains_string_string_0 a0 a1)], []) := by kernel_rfl
theorem sslices_Contains_string_string : Sound Go.Proofs.Tryd.prog 107 msslices_Contains_string_string Fslices_Contains_string_string := by
  refine fn_gen goodslices_Contains_string_string (by kernel_rfl) .std (fn := Go.Proofs.Tryd.f107) (c := (Go.Proofs.Tryd.f107.body.getD .skip)) (o := Oslices_Contains_string_string_0) (k := 0) (by kernel_rfl) (by kernel_rfl) (by kernel_rfl) (by kernel_rfl) (by decide) kslices_Contains_string_string_0 ?_
  intro ys r outs h
  unfold Fslices_Contains_string_string at h
  split at h
  · exact (vslices_Contains_string_string _ _).trans h
  · cases h
end Go.Proofs.YtkjeicijcecmlaaDoor.E
end
section
namespace Go.Proofs.YtkjeicijcecmlaaDoor.E
open Go
set_option maxRecDepth 100000
set_option maxHeartbeats 0
set_option linter.all false
noncomputable def Ei_NoteOk_2 : Env where
  tt := mkTI Go.Proofs.Tryd.prog
  fn := fun f => match f with
    | 77 => some (msi_WrtOk, FSem.wk msi_WrtOk Fi_WrtOk)
    | 107 => some (msslices_Contains_string_string, FSem.wk msslices_Contains_string_string Fslices_Contains_string_string)
    | _ => none
  bxf := fun _ => none
  mv := []
  keep := fun _ => []
  keepB := fun _ => []
  keepX := fun _ => []
  keepXB := fun _ => []
theorem goodFi_NoteOk_2 : ∀ f ms F, Ei_NoteOk_2.fn f = some (ms, F) → Sound Go.Proofs.Tryd.prog f ms F := fun f ms F h => by
  unfold Ei_NoteOk_2 at h
  dsimp only at h
  split at h
  · injection h with h; injection h with e1 e2; subst e1 e2; exact Sound.wk si_WrtOk
  · injection h with h; injection h with e1 e2; subst e1 e2; exact Sound.wk sslices_Contains_string_string
  · cases h
theorem goodBi_NoteOk_2 : ∀ f ms F, Ei_NoteOk_2.bxf f = some (ms, F) → SoundB Go.Proofs.Tryd.prog f ms F := fun f ms F h => by cases h
theorem goodi_NoteOk_2 : Good Go.Proofs.Tryd.prog Ei_NoteOk_2 := ⟨rfl, goodFi_NoteOk_2, goodBi_NoteOk_2⟩
noncomputable def Oi_NoteOk_2_0 : Orc := fun _ _ => none
noncomputable def msi_NoteOk_2 : List PM := [.rd, .rd]
noncomputable def lsi_NoteOk_2 : List (Nat × Code) := loopsAll 0 (Go.Proofs.Tryd.f152.body.getD .skip)

theorem ki_NoteOk_2_0 : OrcOk Ei_NoteOk_2 Oi_NoteOk_2_0 lsi_NoteOk_2 0 := orcOk_none
noncomputable def g_Ai_NoteOk_2 (a0 : ByteArray) (a1 : Bool) (a2 : List (Int)) (c0 : (Int) × ((Int) × ((List (ByteArray)) × (List ((ByteArray) × ((Bool) × (List (Int)))))))) : Bool := g_Ai_WrtOk a0 a1 a2 && (!g_Vi_WrtOk_0 a0 a1 a2 || g_Aslices_Contains_string_string c0.2.2.1 a0)
noncomputable def g_Vi_NoteOk_2_0 (a0 : ByteArray) (a1 : Bool) (a2 : List (Int)) (c0 : (Int) × ((Int) × ((List (ByteArray)) × (List ((ByteArray) × ((Bool) × (List (Int)))))))) : Bool := bif !g_Vi_WrtOk_0 a0 a1 a2 then true else !g_Vslices_Contains_string_string_0 c0.2.2.1 a0
noncomputable def Fi_NoteOk_2 : FSem := fun ys => match ys with
  | [.val true [.str a0, .bool a1, .sl .any 3 (.int .i64) a2], .val false [.sptr (.pair (.int .i64) (.pair (.int .i64) (.pair (.sl 9 .str) (.sl 38 (.pair .str (.pair .bool (.sl 3 (.int .i64)))))))) c0 0]] => some ((g_Ai_NoteOk_2 a0 a1 a2 c0), .val false [.bool (g_Vi_NoteOk_2_0 a0 a1 a2 c0)], [])
  | _ => none
theorem vi_NoteOk_2 (a0 : ByteArray) (a1 : Bool) (a2 : List (Int)) (c0 : (Int) × ((Int) × ((List (ByteArray)) × (List ((ByteArray) × ((Bool) × (List (Int)))))))) : collapseH .std Ei_NoteOk_2 Oi_NoteOk_2_0 (execFn Ei_NoteOk_2 Go.Proofs.Tryd.f152 msi_NoteOk_2 [.val true [.str a0, .bool a1, .sl .any 3 (.int .i64) a2], .val false [.sptr (.pair (.int .i64) (.pair (.int .i64) (.pair (.sl 9 .str) (.sl 38 (.pair .str (.pair .bool (.sl 3 (.int .i64)))))))) c0 0]]) = some ((g_Ai_NoteOk_2 a0 a1 a2 c0), .val false [.bool (g_Vi_NoteOk_2_0 a0 a1 a2 c0)], []) := by kernel_rfl
theorem si_NoteOk_2 : Sound Go.Proofs.Tryd.prog 152 msi_NoteOk_2 Fi_NoteOk_2 := by
  refine fn_gen goodi_NoteOk_2 (by kernel_rfl) .std (fn := Go.Proofs.Tryd.f152) (c := (Go.Proofs.Tryd.f152.body.getD .skip)) (o := Oi_NoteOk_2_0) (k := 0) (by kernel_rfl) (by kernel_rfl) (by kernel_rfl) (by kernel_rfl) (by decide) ki_NoteOk_2_0 ?_
  intro ys r outs h
  unfold Fi_NoteOk_2 at h
  split at h
  · exact (vi_NoteOk_2 _ _ _ _).trans h
  · cases h
end Go.Proofs.YtkjeicijcecmlaaDoor.E
end
section
namespace Go.Proofs.YtkjeicijcecmlaaDoor.E
open Go
set_option maxRecDepth 100000
set_option maxHeartbeats 0
set_option linter.all false
noncomputable def Eslices_IndexFunc_i_StoWrite_i_StoWrite__i_NoteOk_2 : Env where
  tt := mkTI Go.Proofs.Tryd.prog
  fn := fun f => match f with
    | 152 => some (msi_NoteOk_2, FSem.wk msi_NoteOk_2 Fi_NoteOk_2)
    | _ => none
  bxf := fun _ => none
  mv := []
  keep := fun b => match b with
    | 0 => [(0, false), (1, false), (7, false), (8, false)]
    | _ => []
  keepB := fun b => match b with
    | 0 => []
    | _ => []
  keepX := fun b => match b with
    | 0 => [(4, false)]
    | _ => []
  keepXB := fun b => match b with
    | 0 => []
    | _ => []
theorem goodFslices_IndexFunc_i_StoWrite_i_StoWrite__i_NoteOk_2 : ∀ f ms F, Eslices_IndexFunc_i_StoWrite_i_StoWrite__i_NoteOk_2.fn f = some (ms, F) → Sound Go.Proofs.Tryd.prog f ms F := fun f ms F h => by
  unfold Eslices_IndexFunc_i_StoWrite_i_StoWrite__i_NoteOk_2 at h
  dsimp only at h
  split at h
  · injection h with h; injection h with e1 e2; subst e1 e2; exact Sound.wk si_NoteOk_2
  · cases h
theorem goodBslices_IndexFunc_i_StoWrite_i_StoWrite__i_NoteOk_2 : ∀ f ms F, Eslices_IndexFunc_i_StoWrite_i_StoWrite__i_NoteOk_2.bxf f = some (ms, F) → SoundB Go.Proofs.Tryd.prog f ms F := fun f ms F h => by cases h
theorem goodslices_IndexFunc_i_StoWrite_i_StoWrite__i_NoteOk_2 : Good Go.Proofs.Tryd.prog Eslices_IndexFunc_i_StoWrite_i_StoWrite__i_NoteOk_2 := ⟨rfl, goodFslices_IndexFunc_i_StoWrite_i_StoWrite__i_NoteOk_2, goodBslices_IndexFunc_i_StoWrite_i_StoWrite__i_NoteOk_2⟩
noncomputable def Oslices_IndexFunc_i_StoWrite_i_StoWrite__i_NoteOk_2_0 : Orc := fun _ _ => none
noncomputable def msslices_IndexFunc_i_StoWrite_i_StoWrite__i_NoteOk_2 : List PM := [.rd, .rd]
noncomputable def lsslices_IndexFunc_i_StoWrite_i_StoWrite__i_NoteOk_2 : List (Nat × Code) := loopsAll 0 (Go.Proofs.Tryd.f135.body.getD .skip)
noncomputable def cslices_IndexFunc_i_StoWrite_i_StoWrite__i_NoteOk_2_0 : Code := (loopOf 0 (Go.Proofs.Tryd.f135.body.getD .skip)).getD .skip
theorem lseqslices_IndexFunc_i_StoWrite_i_StoWrite__i_NoteOk_2 : lsslices_IndexFunc_i_StoWrite_i_StoWrite__i_NoteOk_2 = [(0, cslices_IndexFunc_i_StoWrite_i_StoWrite__i_NoteOk_2_0)] := by kernel_rfl
theorem mslices_IndexFunc_i_StoWrite_i_StoWrite__i_NoteOk_2_0 : ∀ p, p ∈ lsslices_IndexFunc_i_StoWrite_i_StoWrite__i_NoteOk_2 → p.1 = 0 → p.2 = cslices_IndexFunc_i_StoWrite_i_StoWrite__i_NoteOk_2_0 := by
  intro p hp
  rw [lseqslices_IndexFunc_i_StoWrite_i_StoWrite__i_NoteOk_2] at hp
  simp only [List.mem_cons, List.not_mem_nil, or_false] at hp
  subst hp; simp
theorem kslices_IndexFunc_i_StoWrite_i_StoWrite__i_NoteOk_2_0 : OrcOk Eslices_IndexFunc_i_StoWrite_i_StoWrite__i_NoteOk_2 Oslices_IndexFunc_i_StoWrite_i_StoWrite__i_NoteOk_2_0 lsslices_IndexFunc_i_StoWrite_i_StoWrite__i_NoteOk_2 0 := orcOk_none
noncomputable def hslices_IndexFunc_i_StoWrite_i_StoWrite__i_NoteOk_2_0 (y0 : List ((ByteArray) × ((Bool) × (List (Int))))) (y1 : (Int) × ((Int) × ((List (ByteArray)) × (List ((ByteArray) × ((Bool) × (List (Int)))))))) (y2 : Int) (y3 : Int) : List (Pl × LV) := [(.T 0, .t (.val false [.sl .any 38 (.pair .str (.pair .bool (.sl 3 (.int .i64)))) y0])), (.T 1, .t (.val false [.fn 152 [.sptr (.pair (.int .i64) (.pair (.int .i64) (.pair (.sl 9 .str) (.sl 38 (.pair .str (.pair .bool (.sl 3 (.int .i64)))))))) y1 0]])), (.T 7, .t (.val false [.int .i64 y2])), (.T 8, .t (.val false [.int .i64 y3]))]
noncomputable def g_Sslices_IndexFunc_i_StoWrite_i_StoWrite__i_NoteOk_2_0 (y0 : List ((ByteArray) × ((Bool) × (List (Int))))) (y1 : (Int) × ((Int) × ((List (ByteArray)) × (List ((ByteArray) × ((Bool) × (List (Int)))))))) (y2 : Int) : ((Int)) → RT ((Int)) (((Int)) ⊕ (Unit))
  | y3 => .br (true) (.br (decide (y3 < y2)) (.br (decide ((0 : Int) ≤ y3 ∧ y3 < (↑(List.length y0) : Int))) (.br (g_Ai_NoteOk_2 (at_ (Ty.pair Ty.str (Ty.pair Ty.bool (Ty.sl (nat_lit 3) (Ty.int IntKind.i64)))) y0 (Int.toNat y3)).1 (at_ (Ty.pair Ty.str (Ty.pair Ty.bool (Ty.sl (nat_lit 3) (Ty.int IntKind.i64)))) y0 (Int.toNat y3)).2.1 (at_ (Ty.pair Ty.str (Ty.pair Ty.bool (Ty.sl (nat_lit 3) (Ty.int IntKind.i64)))) y0 (Int.toNat y3)).2.2 y1) (.br (g_Vi_NoteOk_2_0 (at_ (Ty.pair Ty.str (Ty.pair Ty.bool (Ty.sl (nat_lit 3) (Ty.int IntKind.i64)))) y0 (Int.toNat y3)).1 (at_ (Ty.pair Ty.str (Ty.pair Ty.bool (Ty.sl (nat_lit 3) (Ty.int IntKind.i64)))) y0 (Int.toNat y3)).2.1 (at_ (Ty.pair Ty.str (Ty.pair Ty.bool (Ty.sl (nat_lit 3) (Ty.int IntKind.i64)))) y0 (Int.toNat y3)).2.2 y1) (.out (.inl y3)) (.br (true) (.go (IntKind.wrap IntKind.i64 (y3 + (1 : Int)))) (.bad))) (.bad)) (.bad)) (.out (.inr (())))) (.bad)
noncomputable def g_Lslices_IndexFunc_i_StoWrite_i_StoWrite__i_NoteOk_2_0 (y0 : List ((ByteArray) × ((Bool) × (List (Int))))) (y1 : (Int) × ((Int) × ((List (ByteArray)) × (List ((ByteArray) × ((Bool) × (List (Int)))))))) (y2 : Int) (x : (Int)) : Option (((Int)) ⊕ (Unit)) := loopO (g_Sslices_IndexFunc_i_StoWrite_i_StoWrite__i_NoteOk_2_0 y0 y1 y2) x
noncomputable def xslices_IndexFunc_i_StoWrite_i_StoWrite__i_NoteOk_2_0 (y0 : List ((ByteArray) × ((Bool) × (List (Int))))) (y1 : (Int) × ((Int) × ((List (ByteArray)) × (List ((ByteArray) × ((Bool) × (List (Int)))))))) (y2 : Int) : (((Int)) ⊕ (Unit)) → Ex × List (Pl × LV) := fun
  | .inl r => (.ret, [(.T 4, .t (.val false [.int .i64 r]))])
  | .inr (r) => (.exit 0, [(.T 4, .t (.val false [.undef]))])
noncomputable def Oslices_IndexFunc_i_StoWrite_i_StoWrite__i_NoteOk_2_1 : Orc := fun b h => match b, h with
  | 0, [(.T 0, .t (.val false [.sl .any 38 (.pair .str (.pair .bool (.sl 3 (.int .i64)))) y0])), (.T 1, .t (.val false [.fn 152 [.sptr (.pair (.int .i64) (.pair (.int .i64) (.pair (.sl 9 .str) (.sl 38 (.pair .str (.pair .bool (.sl 3 (.int .i64)))))))) y1 0]])), (.T 7, .t (.val false [.int .i64 y2])), (.T 8, .t (.val false [.int .i64 y3]))] => some (okO (g_Lslices_IndexFunc_i_StoWrite_i_StoWrite__i_NoteOk_2_0 y0 y1 y2 y3), (.br (isL (valO (g_Lslices_IndexFunc_i_StoWrite_i_StoWrite__i_NoteOk_2_0 y0 y1 y2 y3))) (.leaf .ret [(.T 4, .t (.val false [.int .i64 (getL (valO (g_Lslices_IndexFunc_i_StoWrite_i_StoWrite__i_NoteOk_2_0 y0 y1 y2 y3)))]))]) (.leaf (.exit 0) [(.T 4, .t (.val false [.undef]))])))
  | b, h => Oslices_IndexFunc_i_StoWrite_i_StoWrite__i_NoteOk_2_0 b h
theorem bslices_IndexFunc_i_StoWrite_i_StoWrite__i_NoteOk_2_0 (y0 : List ((ByteArray) × ((Bool) × (List (Int))))) (y1 : (Int) × ((Int) × ((List (ByteArray)) × (List ((ByteArray) × ((Bool) × (List (Int)))))))) (y2 : Int) (y3 : Int) : Tr.bt Eslices_IndexFunc_i_StoWrite_i_StoWrite__i_NoteOk_2 Oslices_IndexFunc_i_StoWrite_i_StoWrite__i_NoteOk_2_0 (exec Eslices_IndexFunc_i_StoWrite_i_StoWrite__i_NoteOk_2 0 cslices_IndexFunc_i_StoWrite_i_StoWrite__i_NoteOk_2_0 (St.of (hslices_IndexFunc_i_StoWrite_i_StoWrite__i_NoteOk_2_0 y0 y1 y2 y3)) (leafRd Eslices_IndexFunc_i_StoWrite_i_StoWrite__i_NoteOk_2 0)) = (g_Sslices_IndexFunc_i_StoWrite_i_StoWrite__i_NoteOk_2_0 y0 y1 y2 y3).bt (fun (y3 : (Int)) => (hslices_IndexFunc_i_StoWrite_i_StoWrite__i_NoteOk_2_0 y0 y1 y2 y3)) (xslices_IndexFunc_i_StoWrite_i_StoWrite__i_NoteOk_2_0 y0 y1 y2) := by kernel_rfl
theorem kslices_IndexFunc_i_StoWrite_i_StoWrite__i_NoteOk_2_1 : OrcOk Eslices_IndexFunc_i_StoWrite_i_StoWrite__i_NoteOk_2 Oslices_IndexFunc_i_StoWrite_i_StoWrite__i_NoteOk_2_1 lsslices_IndexFunc_i_StoWrite_i_StoWrite__i_NoteOk_2 1 := orc_add kslices_IndexFunc_i_StoWrite_i_StoWrite__i_NoteOk_2_0 (fun n p hp h ex h' ho => by
  obtain ⟨b, c⟩ := p
  obtain ⟨xt, h1, h2⟩ := ho
  have h1 : Oslices_IndexFunc_i_StoWrite_i_StoWrite__i_NoteOk_2_1 b h = some (true, xt) := h1
  unfold Oslices_IndexFunc_i_StoWrite_i_StoWrite__i_NoteOk_2_1 at h1
  split at h1
  · injection h1 with h1
    injection h1 with e1 e2
    subst e2
    have hc : c = cslices_IndexFunc_i_StoWrite_i_StoWrite__i_NoteOk_2_0 := mslices_IndexFunc_i_StoWrite_i_StoWrite__i_NoteOk_2_0 _ hp rfl
    subst hc
    right
    rename_i y0 y1 y2 y3
    have key := LT_step kslices_IndexFunc_i_StoWrite_i_StoWrite__i_NoteOk_2_0 hp (fun q hq => loopsAll_in _ _ _ _ hp hq) (fun (y3 : (Int)) => (hslices_IndexFunc_i_StoWrite_i_StoWrite__i_NoteOk_2_0 y0 y1 y2 y3)) (xslices_IndexFunc_i_StoWrite_i_StoWrite__i_NoteOk_2_0 y0 y1 y2) (g_Sslices_IndexFunc_i_StoWrite_i_StoWrite__i_NoteOk_2_0 y0 y1 y2) (fun x => by first | exact bslices_IndexFunc_i_StoWrite_i_StoWrite__i_NoteOk_2_0 y0 y1 y2 x) n (x := y3) (okO_some e1)
    have hx : ∀ r, XT.sel (.br (isL r) (.leaf .ret [(.T 4, .t (.val false [.int .i64 (getL r)]))]) (.leaf (.exit 0) [(.T 4, .t (.val false [.undef]))])) = xslices_IndexFunc_i_StoWrite_i_StoWrite__i_NoteOk_2_0 y0 y1 y2 r := fun r => by first | rfl | (rcases r with r | r <;> rfl) | (rcases r with r | r | r <;> rfl) | (rcases r with r | r | r | r <;> rfl)
    have h3 := (hx (valO (g_Lslices_IndexFunc_i_StoWrite_i_StoWrite__i_NoteOk_2_0 y0 y1 y2 y3))).symm.trans h2
    have e3 := congrArg Prod.fst h3
    have e4 := congrArg Prod.snd h3
    simp only at e3 e4
    rw [← e3, ← e4]
    exact key
  · exact .inl ⟨xt, h1, h2⟩)
noncomputable def g_Aslices_IndexFunc_i_StoWrite_i_StoWrite__i_NoteOk_2 (a0 : List ((ByteArray) × ((Bool) × (List (Int))))) (c0 : (Int) × ((Int) × ((List (ByteArray)) × (List ((ByteArray) × ((Bool) × (List (Int)))))))) : Bool := okO (g_Lslices_IndexFunc_i_StoWrite_i_StoWrite__i_NoteOk_2_0 a0 c0 (↑(List.length a0) : Int) (0 : Int))
noncomputable def g_Vslices_IndexFunc_i_StoWrite_i_StoWrite__i_NoteOk_2_0 (a0 : List ((ByteArray) × ((Bool) × (List (Int))))) (c0 : (Int) × ((Int) × ((List (ByteArray)) × (List ((ByteArray) × ((Bool) × (List (Int)))))))) : Int := bif isL (valO (g_Lslices_IndexFunc_i_StoWrite_i_StoWrite__i_NoteOk_2_0 a0 c0 (↑(List.length a0) : Int) (0 : Int))) then getL (valO (g_Lslices_IndexFunc_i_StoWrite_i_StoWrite__i_NoteOk_2_0 a0 c0 (↑(List.length a0) : Int) (0 : Int))) else (-1 : Int)
noncomputable def Fslices_IndexFunc_i_StoWrite_i_StoWrite__i_NoteOk_2 : FSem := fun ys => match ys with
  | [.val false [.sl .any 38 (.pair .str (.pair .bool (.sl 3 (.int .i64)))) a0], .val false [.fn 152 [.sptr (.pair (.int .i64) (.pair (.int .i64) (.pair (.sl 9 .str) (.sl 38 (.pair .str (.pair .bool (.sl 3 (.int .i64)))))))) c0 0]]] => some ((g_Aslices_IndexFunc_i_StoWrite_i_StoWrite__i_NoteOk_2 a0 c0), .val false [.int .i64 (g_Vslices_IndexFunc_i_StoWrite_i_StoWrite__i_NoteOk_2_0 a0 c0)], [])
  | _ => none
theorem vslices_IndexFunc_i_StoWrite_i_StoWrite__i_NoteOk_2 (a0 : List ((ByteArray) × ((Bool) × (List (Int))))) (c0 : (Int) × ((Int) × ((List (ByteArray)) × (List ((ByteArray) × ((Bool) × (List (Int)))))))) : collapseH .std Eslices_IndexFunc_i_StoWrite_i_StoWrite__i_NoteOk_2 Oslices_IndexFunc_i_StoWrite_i_StoWrite__i_NoteOk_2_1 (execFn Eslices_IndexFunc_i_StoWrite_i_StoWrite__i_NoteOk_2 Go.Proofs.Tryd.f135 msslices_IndexFunc_i_StoWrite_i_StoWrite__i_NoteOk_2 [.val false [.sl .any 38 (.pair .str (.pair .bool (.sl 3 (.int .i64)))) a0], .val false [.fn 152 [.sptr (.pair (.int .i64) (.pair (.int .i64) (.pair (.sl 9 .str) (.sl 38 (.pair .str (.pair .bool (.sl 3 (.int .i64)))))))) c0 0]]]) = some ((g_Aslices_IndexFunc_i_StoWrite_i_StoWrite__i_NoteOk_2 a0 c0), .val false [.int .i64 (g_Vslices_IndexFunc_i_StoWrite_i_StoWrite__i_NoteOk_2_0 a0 c0)], []) := by kernel_rfl
theorem sslices_IndexFunc_i_StoWrite_i_StoWrite__i_NoteOk_2 : Sound Go.Proofs.Tryd.prog 135 msslices_IndexFunc_i_StoWrite_i_StoWrite__i_NoteOk_2 Fslices_IndexFunc_i_StoWrite_i_StoWrite__i_NoteOk_2 := by
  refine fn_gen goodslices_IndexFunc_i_StoWrite_i_StoWrite__i_NoteOk_2 (by kernel_rfl) .std (fn := Go.Proofs.Tryd.f135) (c := (Go.Proofs.Tryd.f135.body.getD .skip)) (o := Oslices_IndexFunc_i_StoWrite_i_StoWrite__i_NoteOk_2_1) (k := 1) (by kernel_rfl) (by kernel_rfl) (by kernel_rfl) (by kernel_rfl) (by decide) kslices_IndexFunc_i_StoWrite_i_StoWrite__i_NoteOk_2_1 ?_
  intro ys r outs h
  unfold Fslices_IndexFunc_i_StoWrite_i_StoWrite__i_NoteOk_2 at h
  split at h
  · exact (vslices_IndexFunc_i_StoWrite_i_StoWrite__i_NoteOk_2 _ _).trans h
  · cases h
end Go.Proofs.YtkjeicijcecmlaaDoor.E
end
section
namespace Go.Proofs.YtkjeicijcecmlaaDoor.E
open Go
set_option maxRecDepth 100000
set_option maxHeartbeats 0
set_option linter.all false
noncomputable def Eslices_ContainsFunc_i_StoWrite_i_StoWrite__i_NoteOk_2 : Env where
  tt := mkTI Go.Proofs.Tryd.prog
  fn := fun f => match f with
    | 135 => some (msslices_IndexFunc_i_StoWrite_i_StoWrite__i_NoteOk_2, FSem.wk msslices_IndexFunc_i_StoWrite_i_StoWrite__i_NoteOk_2 Fslices_IndexFunc_i_StoWrite_i_StoWrite__i_NoteOk_2)
    | 152 => some (msi_NoteOk_2, FSem.wk msi_NoteOk_2 Fi_NoteOk_2)
    | _ => none
  bxf := fun _ => none
  mv := []
  keep := fun _ => []
  keepB := fun _ => []
  keepX := fun _ => []
  keepXB := fun _ => []
theorem goodFslices_ContainsFunc_i_StoWrite_i_StoWrite__i_NoteOk_2 : ∀ f ms F, Eslices_ContainsFunc_i_StoWrite_i_StoWrite__i_NoteOk_2.fn f = some (ms, F) → Sound Go.Proofs.Tryd.prog f ms F := fun f ms F h => by
  unfold Eslices_ContainsFunc_i_StoWrite_i_StoWrite__i_NoteOk_2 at h
  dsimp only at h
  split at h
  · injection h with h; injection h with e1 e2; subst e1 e2; exact Sound.wk sslices_IndexFunc_i_StoWrite_i_StoWrite__i_NoteOk_2
  · injection h with h; injection h with e1 e2; subst e1 e2; exact Sound.wk si_NoteOk_2
  · cases h
theorem goodBslices_ContainsFunc_i_StoWrite_i_StoWrite__i_NoteOk_2 : ∀ f ms F, Eslices_ContainsFunc_i_StoWrite_i_StoWrite__i_NoteOk_2.bxf f = some (ms, F) → SoundB Go.Proofs.Tryd.prog f ms F := fun f ms F h => by cases h
theorem goodslices_ContainsFunc_i_StoWrite_i_StoWrite__i_NoteOk_2 : Good Go.Proofs.Tryd.prog Eslices_ContainsFunc_i_StoWrite_i_StoWrite__i_NoteOk_2 := ⟨rfl, goodFslices_ContainsFunc_i_StoWrite_i_StoWrite__i_NoteOk_2, goodBslices_ContainsFunc_i_StoWrite_i_StoWrite__i_NoteOk_2⟩
noncomputable def Oslices_ContainsFunc_i_StoWrite_i_StoWrite__i_NoteOk_2_0 : Orc := fun _ _ => none
noncomputable def msslices_ContainsFunc_i_StoWrite_i_StoWrite__i_NoteOk_2 : List PM := [.rd, .rd]
noncomputable def lsslices_ContainsFunc_i_StoWrite_i_StoWrite__i_NoteOk_2 : List (Nat × Code) := loopsAll 0 (Go.Proofs.Tryd.f81.body.getD .skip)

theorem kslices_ContainsFunc_i_StoWrite_i_StoWrite__i_NoteOk_2_0 : OrcOk Eslices_ContainsFunc_i_StoWrite_i_StoWrite__i_NoteOk_2 Oslices_ContainsFunc_i_StoWrite_i_StoWrite__i_NoteOk_2_0 lsslices_ContainsFunc_i_StoWrite_i_StoWrite__i_NoteOk_2 0 := orcOk_none
noncomputable def g_Aslices_ContainsFunc_i_StoWrite_i_StoWrite__i_NoteOk_2 (a0 : List ((ByteArray) × ((Bool) × (List (Int))))) (c0 : (Int) × ((Int) × ((List (ByteArray)) × (List ((ByteArray) × ((Bool) × (List (Int)))))))) : Bool := g_Aslices_IndexFunc_i_StoWrite_i_StoWrite__i_NoteOk_2 a0 c0 && true
noncomputable def g_Vslices_ContainsFunc_i_StoWrite_i_StoWrite__i_NoteOk_2_0 (a0 : List ((ByteArray) × ((Bool) × (List (Int))))) (c0 : (Int) × ((Int) × ((List (ByteArray)) × (List ((ByteArray) × ((Bool) × (List (Int)))))))) : Bool := decide (g_Vslices_IndexFunc_i_StoWrite_i_StoWrite__i_NoteOk_2_0 a0 c0 ≥ (0 : Int))
noncomputable def Fslices_ContainsFunc_i_StoWrite_i_StoWrite__i_NoteOk_2 : FSem := fun ys => match ys with
  | [.val false [.sl .any 38 (.pair .str (.pair .bool (.sl 3 (.int .i64)))) a0], .val false [.fn 152 [.sptr (.pair (.int .i64) (.pair (.int .i64) (.pair (.sl 9 .str) (.sl 38 (.pair .str (.pair .bool (.sl 3 (.int .i64)))))))) c0 0]]] => some ((g_Aslices_ContainsFunc_i_StoWrite_i_StoWrite__i_NoteOk_2 a0 c0), .val false [.bool (g_Vslices_ContainsFunc_i_StoWrite_i_StoWrite__i_NoteOk_2_0 a0 c0)], [])
  | _ => none
theorem vslices_ContainsFunc_i_StoWrite_i_StoWrite__i_NoteOk_2 (a0 : List ((ByteArray) × ((Bool) × (List (Int))))) (c0 : (Int) × ((Int) × ((List (ByteArray)) × (List ((ByteArray) × ((Bool) × (List (Int)))))))) : collapseH .std Eslices_ContainsFunc_i_StoWrite_i_StoWrite__i_NoteOk_2 Oslices_ContainsFunc_i_StoWrite_i_StoWrite__i_NoteOk_2_0 (execFn Eslices_ContainsFunc_i_StoWrite_i_StoWrite__i_NoteOk_2 Go.Proofs.Tryd.f81 msslices_ContainsFunc_i_StoWrite_i_StoWrite__i_NoteOk_2 [.val false [.sl .any 38 (.pair .str (.pair .bool (.sl 3 (.int .i64)))) a0], .val false [.fn 152 [.sptr (.pair (.int .i64) (.pair (.int .i64) (.pair (.sl 9 .str) (.sl 38 (.pair .str (.pair .bool (.sl 3 (.int .i64)))))))) c0 0]]]) = some ((g_Aslices_ContainsFunc_i_StoWrite_i_StoWrite__i_NoteOk_2 a0 c0), .val false [.bool (g_Vslices_ContainsFunc_i_StoWrite_i_StoWrite__i_NoteOk_2_0 a0 c0)], []) := by kernel_rfl
theorem sslices_ContainsFunc_i_StoWrite_i_StoWrite__i_NoteOk_2 : Sound Go.Proofs.Tryd.prog 81 msslices_ContainsFunc_i_StoWrite_i_StoWrite__i_NoteOk_2 Fslices_ContainsFunc_i_StoWrite_i_StoWrite__i_NoteOk_2 := by
  refine fn_gen goodslices_ContainsFunc_i_StoWrite_i_StoWrite__i_NoteOk_2 (by kernel_rfl) .std (fn := Go.Proofs.Tryd.f81) (c := (Go.Proofs.Tryd.f81.body.getD .skip)) (o := Oslices_ContainsFunc_i_StoWrite_i_StoWrite__i_NoteOk_2_0) (k := 0) (by kernel_rfl) (by kernel_rfl) (by kernel_rfl) (by kernel_rfl) (by decide) kslices_ContainsFunc_i_StoWrite_i_StoWrite__i_NoteOk_2_0 ?_
  intro ys r outs h
  unfold Fslices_ContainsFunc_i_StoWrite_i_StoWrite__i_NoteOk_2 at h
  split at h
  · exact (vslices_ContainsFunc_i_StoWrite_i_StoWrite__i_NoteOk_2 _ _).trans h
  · cases h
end Go.Proofs.YtkjeicijcecmlaaDoor.E
end
section
namespace Go.Proofs.YtkjeicijcecmlaaDoor.E
open Go
set_option maxRecDepth 100000
set_option maxHeartbeats 0
set_option linter.all false
noncomputable def Ei_NoteOk_1 : Env where
  tt := mkTI Go.Proofs.Tryd.prog
  fn := fun f => match f with
    | 73 => some (msi_keyOk, FSem.wk msi_keyOk Fi_keyOk)
    | _ => none
  bxf := fun _ => none
  mv := []
  keep := fun _ => []
  keepB := fun _ => []
  keepX := fun _ => []
  keepXB := fun _ => []
theorem goodFi_NoteOk_1 : ∀ f ms F, Ei_NoteOk_1.fn f = some (ms, F) → Sound Go.Proofs.Tryd.prog f ms F := fun f ms F h => by
  unfold Ei_NoteOk_1 at h
  dsimp only at h
  split at h
  · injection h with h; injection h with e1 e2; subst e1 e2; exact Sound.wk si_keyOk
  · cases h
theorem goodBi_NoteOk_1 : ∀ f ms F, Ei_NoteOk_1.bxf f = some (ms, F) → SoundB Go.Proofs.Tryd.prog f ms F := fun f ms F h => by cases h
theorem goodi_NoteOk_1 : Good Go.Proofs.Tryd.prog Ei_NoteOk_1 := ⟨rfl, goodFi_NoteOk_1, goodBi_NoteOk_1⟩
noncomputable def Oi_NoteOk_1_0 : Orc := fun _ _ => none
noncomputable def msi_NoteOk_1 : List PM := [.own]
noncomputable def lsi_NoteOk_1 : List (Nat × Code) := loopsAll 0 (Go.Proofs.Tryd.f151.body.getD .skip)

theorem ki_NoteOk_1_0 : OrcOk Ei_NoteOk_1 Oi_NoteOk_1_0 lsi_NoteOk_1 0 := orcOk_none
noncomputable def g_Ai_NoteOk_1 (a0 : ByteArray) : Bool := g_Ai_keyOk a0
noncomputable def Fi_NoteOk_1 : FSem := fun ys => match ys with
  | [.val false [.str a0]] => some ((g_Ai_NoteOk_1 a0), .val false [.bool (!g_Vi_keyOk_0 a0)], [])
  | _ => none
theorem vi_NoteOk_1 (a0 : ByteArray) : collapseH .std Ei_NoteOk_1 Oi_NoteOk_1_0 (execFn Ei_NoteOk_1 Go.Proofs.Tryd.f151 msi_NoteOk_1 [.val false [.str a0]]) = some ((g_Ai_NoteOk_1 a0), .val false [.bool (!g_Vi_keyOk_0 a0)], []) := by kernel_rfl
theorem si_NoteOk_1 : Sound Go.Proofs.Tryd.prog 151 msi_NoteOk_1 Fi_NoteOk_1 := by
  refine fn_gen goodi_NoteOk_1 (by kernel_rfl) .std (fn := Go.Proofs.Tryd.f151) (c := (Go.Proofs.Tryd.f151.body.getD .skip)) (o := Oi_NoteOk_1_0) (k := 0) (by kernel_rfl) (by kernel_rfl) (by kernel_rfl) (by kernel_rfl) (by decide) ki_NoteOk_1_0 ?_
  intro ys r outs h
  unfold Fi_NoteOk_1 at h
  split at h
  · exact (vi_NoteOk_1 _).trans h
  · cases h
end Go.Proofs.YtkjeicijcecmlaaDoor.E
end
section
namespace Go.Proofs.YtkjeicijcecmlaaDoor.E
open Go
set_option maxRecDepth 100000
set_option maxHeartbeats 0
set_option linter.all false
noncomputable def Eslices_IndexFunc_string_string__i_NoteOk_1 : Env where
  tt := mkTI Go.Proofs.Tryd.prog
  fn := fun f => match f with
    | 151 => some (msi_NoteOk_1, FSem.wk msi_NoteOk_1 Fi_NoteOk_1)
    | _ => none
  bxf := fun _ => none
  mv := []
  keep := fun b => match b with
    | 0 => [(0, false), (1, false), (7, false), (8, false)]
    | _ => []
  keepB := fun b => match b with
    | 0 => []
    | _ => []
  keepX := fun b => match b with
    | 0 => [(4, false)]
    | _ => []
  keepXB := fun b => match b with
    | 0 => []
    | _ => []
theorem goodFslices_IndexFunc_string_string__i_NoteOk_1 : ∀ f ms F, Eslices_IndexFunc_string_string__i_NoteOk_1.fn f = some (ms, F) → Sound Go.Proofs.Tryd.prog f ms F := fun f ms F h => by
  unfold Eslices_IndexFunc_string_string__i_NoteOk_1 at h
  dsimp only at h
  split at h
  · injection h with h; injection h with e1 e2; subst e1 e2; exact Sound.wk si_NoteOk_1
  · cases h
theorem goodBslices_IndexFunc_string_string__i_NoteOk_1 : ∀ f ms F, Eslices_IndexFunc_string_string__i_NoteOk_1.bxf f = some (ms, F) → SoundB Go.Proofs.Tryd.prog f ms F := fun f ms F h => by cases h
theorem goodslices_IndexFunc_string_string__i_NoteOk_1 : Good Go.Proofs.Tryd.prog Eslices_IndexFunc_string_string__i_NoteOk_1 := ⟨rfl, goodFslices_IndexFunc_string_string__i_NoteOk_1, goodBslices_IndexFunc_string_string__i_NoteOk_1⟩
noncomputable def Oslices_IndexFunc_string_string__i_NoteOk_1_0 : Orc := fun _ _ => none
noncomputable def msslices_IndexFunc_string_string__i_NoteOk_1 : List PM := [.rd, .rd]
noncomputable def lsslices_IndexFunc_string_string__i_NoteOk_1 : List (Nat × Code) := loopsAll 0 (Go.Proofs.Tryd.f173.body.getD .skip)
noncomputable def cslices_IndexFunc_string_string__i_NoteOk_1_0 : Code := (loopOf 0 (Go.Proofs.Tryd.f173.body.getD .skip)).getD .skip
theorem lseqslices_IndexFunc_string_string__i_NoteOk_1 : lsslices_IndexFunc_string_string__i_NoteOk_1 = [(0, cslices_IndexFunc_string_string__i_NoteOk_1_0)] := by kernel_rfl
theorem mslices_IndexFunc_string_string__i_NoteOk_1_0 : ∀ p, p ∈ lsslices_IndexFunc_string_string__i_NoteOk_1 → p.1 = 0 → p.2 = cslices_IndexFunc_string_string__i_NoteOk_1_0 := by
  intro p hp
  rw [lseqslices_IndexFunc_string_string__i_NoteOk_1] at hp
  simp only [List.mem_cons, List.not_mem_nil, or_false] at hp
  subst hp; simp
theorem kslices_IndexFunc_string_string__i_NoteOk_1_0 : OrcOk Eslices_IndexFunc_string_string__i_NoteOk_1 Oslices_IndexFunc_string_string__i_NoteOk_1_0 lsslices_IndexFunc_string_string__i_NoteOk_1 0 := orcOk_none
noncomputable def hslices_IndexFunc_string_string__i_NoteOk_1_0 (y0 : List (ByteArray)) (y1 : Int) (y2 : Int) : List (Pl × LV) := [(.T 0, .t (.val false [.sl .any 9 .str y0])), (.T 1, .t (.val false [.fn 151 []])), (.T 7, .t (.val false [.int .i64 y1])), (.T 8, .t (.val false [.int .i64 y2]))]
noncomputable def g_Sslices_IndexFunc_string_string__i_NoteOk_1_0 (y0 : List (ByteArray)) (y1 : Int) : ((Int)) → RT ((Int)) (((Int)) ⊕ (Unit))
  | y2 => .br (true) (.br (decide (y2 < y1)) (.br (decide ((0 : Int) ≤ y2 ∧ y2 < (↑(List.length y0) : Int))) (.br (g_Ai_NoteOk_1 (at_ Ty.str y0 (Int.toNat y2))) (.br (!g_Vi_keyOk_0 (at_ Ty.str y0 (Int.toNat y2))) (.out (.inl y2)) (.br (true) (.go (IntKind.wrap IntKind.i64 (y2 + (1 : Int)))) (.bad))) (.bad)) (.bad)) (.out (.inr (())))) (.bad)
noncomputable def g_Lslices_IndexFunc_string_string__i_NoteOk_1_0 (y0 : List (ByteArray)) (y1 : Int) (x : (Int)) : Option (((Int)) ⊕ (Unit)) := loopO (g_Sslices_IndexFunc_string_string__i_NoteOk_1_0 y0 y1) x
noncomputable def xslices_IndexFunc_string_string__i_NoteOk_1_0 (y0 : List (ByteArray)) (y1 : Int) : (((Int)) ⊕ (Unit)) → Ex × List (Pl × LV) := fun
  | .inl r => (.ret, [(.T 4, .t (.val false [.int .i64 r]))])
  | .inr (r) => (.exit 0, [(.T 4, .t (.val false [.undef]))])
noncomputable def Oslices_IndexFunc_string_string__i_NoteOk_1_1 : Orc := fun b h => match b, h with
  | 0, [(.T 0, .t (.val false [.sl .any 9 .str y0])), (.T 1, .t (.val false [.fn 151 []])), (.T 7, .t (.val false [.int .i64 y1])), (.T 8, .t (.val false [.int .i64 y2]))] => some (okO (g_Lslices_IndexFunc_string_string__i_NoteOk_1_0 y0 y1 y2), (.br (isL (valO (g_Lslices_IndexFunc_string_string__i_NoteOk_1_0 y0 y1 y2))) (.leaf .ret [(.T 4, .t (.val false [.int .i64 (getL (valO (g_Lslices_IndexFunc_string_string__i_NoteOk_1_0 y0 y1 y2)))]))]) (.leaf (.exit 0) [(.T 4, .t (.val false [.undef]))])))
  | b, h => Oslices_IndexFunc_string_string__i_NoteOk_1_0 b h
theorem bslices_IndexFunc_string_string__i_NoteOk_1_0 (y0 : List (ByteArray)) (y1 : Int) (y2 : Int) : Tr.bt Eslices_IndexFunc_string_string__i_NoteOk_1 Oslices_IndexFunc_string_string__i_NoteOk_1_0 (exec Eslices_IndexFunc_string_string__i_NoteOk_1 0 cslices_IndexFunc_string_string__i_NoteOk_1_0 (St.of (hslices_IndexFunc_string_string__i_NoteOk_1_0 y0 y1 y2)) (leafRd Eslices_IndexFunc_string_string__i_NoteOk_1 0)) = (g_Sslices_IndexFunc_string_string__i_NoteOk_1_0 y0 y1 y2).bt (fun (y2 : (Int)) => (hslices_IndexFunc_string_string__i_NoteOk_1_0 y0 y1 y2)) (xslices_IndexFunc_string_string__i_NoteOk_1_0 y0 y1) := by kernel_rfl
theorem kslices_IndexFunc_string_string__i_NoteOk_1_1 : OrcOk Eslices_IndexFunc_string_string__i_NoteOk_1 Oslices_IndexFunc_string_string__i_NoteOk_1_1 lsslices_IndexFunc_string_string__i_NoteOk_1 1 := orc_add kslices_IndexFunc_string_string__i_NoteOk_1_0 (fun n p hp h ex h' ho => by
  obtain ⟨b, c⟩ := p
  obtain ⟨xt, h1, h2⟩ := ho
  have h1 : Oslices_IndexFunc_string_string__i_NoteOk_1_1 b h = some (true, xt) := h1
  unfold Oslices_IndexFunc_string_string__i_NoteOk_1_1 at h1
  split at h1
  · injection h1 with h1
    injection h1 with e1 e2
    subst e2
    have hc : c = cslices_IndexFunc_string_string__i_NoteOk_1_0 := mslices_IndexFunc_string_string__i_NoteOk_1_0 _ hp rfl
    subst hc
    right
    rename_i y0 y1 y2
    have key := LT_step kslices_IndexFunc_string_string__i_NoteOk_1_0 hp (fun q hq => loopsAll_in _ _ _ _ hp hq) (fun (y2 : (Int)) => (hslices_IndexFunc_string_string__i_NoteOk_1_0 y0 y1 y2)) (xslices_IndexFunc_string_string__i_NoteOk_1_0 y0 y1) (g_Sslices_IndexFunc_string_string__i_NoteOk_1_0 y0 y1) (fun x => by first | exact bslices_IndexFunc_string_string__i_NoteOk_1_0 y0 y1 x) n (x := y2) (okO_some e1)
    have hx : ∀ r, XT.sel (.br (isL r) (.leaf .ret [(.T 4, .t (.val false [.int .i64 (getL r)]))]) (.leaf (.exit 0) [(.T 4, .t (.val false [.undef]))])) = xslices_IndexFunc_string_string__i_NoteOk_1_0 y0 y1 r := fun r => by first | rfl | (rcases r with r | r <;> rfl) | (rcases r with r | r | r <;> rfl) | (rcases r with r | r | r | r <;> rfl)
    have h3 := (hx (valO (g_Lslices_IndexFunc_string_string__i_NoteOk_1_0 y0 y1 y2))).symm.trans h2
    have e3 := congrArg Prod.fst h3
    have e4 := congrArg Prod.snd h3
    simp only at e3 e4
    rw [← e3, ← e4]
    exact key
  · exact .inl ⟨xt, h1, h2⟩)
noncomputable def g_Aslices_IndexFunc_string_string__i_NoteOk_1 (a0 : List (ByteArray)) : Bool := okO (g_Lslices_IndexFunc_string_string__i_NoteOk_1_0 a0 (↑(List.length a0) : Int) (0 : Int))
noncomputable def g_Vslices_IndexFunc_string_string__i_NoteOk_1_0 (a0 : List (ByteArray)) : Int := bif isL (valO (g_Lslices_IndexFunc_string_string__i_NoteOk_1_0 a0 (↑(List.length a0) : Int) (0 : Int))) then getL (valO (g_Lslices_IndexFunc_string_string__i_NoteOk_1_0 a0 (↑(List.length a0) : Int) (0 : Int))) else (-1 : Int)
noncomputable def Fslices_IndexFunc_string_string__i_NoteOk_1 : FSem := fun ys => match ys with
  | [.val false [.sl .any 9 .str a0], .val false [.fn 151 []]] => some ((g_Aslices_IndexFunc_string_string__i_NoteOk_1 a0), .val false [.int .i64 (g_Vslices_IndexFunc_string_string__i_NoteOk_1_0 a0)], [])
  | _ => none
theorem vslices_IndexFunc_string_string__i_NoteOk_1 (a0 : List (ByteArray)) : collapseH .std Eslices_IndexFunc_string_string__i_NoteOk_1 Oslices_IndexFunc_string_string__i_NoteOk_1_1 (execFn Eslices_IndexFunc_string_string__i_NoteOk_1 Go.Proofs.Tryd.f173 msslices_IndexFunc_string_string__i_NoteOk_1 [.val false [.sl .any 9 .str a0], .val false [.fn 151 []]]) = some ((g_Aslices_IndexFunc_string_string__i_NoteOk_1 a0), .val false [.int .i64 (g_Vslices_IndexFunc_string_string__i_NoteOk_1_0 a0)], []) := by kernel_rfl
theorem sslices_IndexFunc_string_string__i_NoteOk_1 : Sound Go.Proofs.Tryd.prog 173 msslices_IndexFunc_string_string__i_NoteOk_1 Fslices_IndexFunc_string_string__i_NoteOk_1 := by
  refine fn_gen goodslices_IndexFunc_string_string__i_NoteOk_1 (by kernel_rfl) .std (fn := Go.Proofs.Tryd.f173) (c := (Go.Proofs.Tryd.f173.body.getD .skip)) (o := Oslices_IndexFunc_string_string__i_NoteOk_1_1) (k := 1) (by kernel_rfl) (by kernel_rfl) (by kernel_rfl) (by kernel_rfl) (by decide) kslices_IndexFunc_string_string__i_NoteOk_1_1 ?_
  intro ys r outs h
  unfold Fslices_IndexFunc_string_string__i_NoteOk_1 at h
  split at h
  · exact (vslices_IndexFunc_string_string__i_NoteOk_1 _).trans h
  · cases h
end Go.Proofs.YtkjeicijcecmlaaDoor.E
end
section
namespace Go.Proofs.YtkjeicijcecmlaaDoor.E
open Go
set_option maxRecDepth 100000
set_option maxHeartbeats 0
set_option linter.all false
noncomputable def Eslices_ContainsFunc_string_string__i_NoteOk_1 : Env where
  tt := mkTI Go.Proofs.Tryd.prog
  fn := fun f => match f with
    | 151 => some (msi_NoteOk_1, FSem.wk msi_NoteOk_1 Fi_NoteOk_1)
    | 173 => some (msslices_IndexFunc_string_string__i_NoteOk_1, FSem.wk msslices_IndexFunc_string_string__i_NoteOk_1 Fslices_IndexFunc_string_string__i_NoteOk_1)
    | _ => none
  bxf := fun _ => none
  mv := []
  keep := fun _ => []
  keepB := fun _ => []
  keepX := fun _ => []
  keepXB := fun _ => []
theorem goodFslices_ContainsFunc_string_string__i_NoteOk_1 : ∀ f ms F, Eslices_ContainsFunc_string_string__i_NoteOk_1.fn f = some (ms, F) → Sound Go.Proofs.Tryd.prog f ms F := fun f ms F h => by
  unfold Eslices_ContainsFunc_string_string__i_NoteOk_1 at h
  dsimp only at h
  split at h
  · injection h with h; injection h with e1 e2; subst e1 e2; exact Sound.wk si_NoteOk_1
  · injection h with h; injection h with e1 e2; subst e1 e2; exact Sound.wk sslices_IndexFunc_string_string__i_NoteOk_1
  · cases h
theorem goodBslices_ContainsFunc_string_string__i_NoteOk_1 : ∀ f ms F, Eslices_ContainsFunc_string_string__i_NoteOk_1.bxf f = some (ms, F) → SoundB Go.Proofs.Tryd.prog f ms F := fun f ms F h => by cases h
theorem goodslices_ContainsFunc_string_string__i_NoteOk_1 : Good Go.Proofs.Tryd.prog Eslices_ContainsFunc_string_string__i_NoteOk_1 := ⟨rfl, goodFslices_ContainsFunc_string_string__i_NoteOk_1, goodBslices_ContainsFunc_string_string__i_NoteOk_1⟩
noncomputable def Oslices_ContainsFunc_string_string__i_NoteOk_1_0 : Orc := fun _ _ => none
noncomputable def msslices_ContainsFunc_string_string__i_NoteOk_1 : List PM := [.rd, .rd]
noncomputable def lsslices_ContainsFunc_string_string__i_NoteOk_1 : List (Nat × Code) := loopsAll 0 (Go.Proofs.Tryd.f150.body.getD .skip)

theorem kslices_ContainsFunc_string_string__i_NoteOk_1_0 : OrcOk Eslices_ContainsFunc_string_string__i_NoteOk_1 Oslices_ContainsFunc_string_string__i_NoteOk_1_0 lsslices_ContainsFunc_string_string__i_NoteOk_1 0 := orcOk_none
noncomputable def g_Aslices_ContainsFunc_string_string__i_NoteOk_1 (a0 : List (ByteArray)) : Bool := g_Aslices_IndexFunc_string_string__i_NoteOk_1 a0 && true
noncomputable def g_Vslices_ContainsFunc_string_string__i_NoteOk_1_0 (a0 : List (ByteArray)) : Bool := decide (g_Vslices_IndexFunc_string_string__i_NoteOk_1_0 a0 ≥ (0 : Int))
noncomputable def Fslices_ContainsFunc_string_string__i_NoteOk_1 : FSem := fun ys => match ys with
  | [.val false [.sl .any 9 .str a0], .val false [.fn 151 []]] => some ((g_Aslices_ContainsFunc_string_string__i_NoteOk_1 a0), .val false [.bool (g_Vslices_ContainsFunc_string_string__i_NoteOk_1_0 a0)], [])
  | _ => none
theorem vslices_ContainsFunc_string_string__i_NoteOk_1 (a0 : List (ByteArray)) : collapseH .std Eslices_ContainsFunc_string_string__i_NoteOk_1 Oslices_ContainsFunc_string_string__i_NoteOk_1_0 (execFn Eslices_ContainsFunc_string_string__i_NoteOk_1 Go.Proofs.Tryd.f150 msslices_ContainsFunc_string_string__i_NoteOk_1 [.val false [.sl .any 9 .str a0], .val false [.fn 151 []]]) = some ((g_Aslices_ContainsFunc_string_string__i_NoteOk_1 a0), .val false [.bool (g_Vslices_ContainsFunc_string_string__i_NoteOk_1_0 a0)], []) := by kernel_rfl
theorem sslices_ContainsFunc_string_string__i_NoteOk_1 : Sound Go.Proofs.Tryd.prog 150 msslices_ContainsFunc_string_string__i_NoteOk_1 Fslices_ContainsFunc_string_string__i_NoteOk_1 := by
  refine fn_gen goodslices_ContainsFunc_string_string__i_NoteOk_1 (by kernel_rfl) .std (fn := Go.Proofs.Tryd.f150) (c := (Go.Proofs.Tryd.f150.body.getD .skip)) (o := Oslices_ContainsFunc_string_string__i_NoteOk_1_0) (k := 0) (by kernel_rfl) (by kernel_rfl) (by kernel_rfl) (by kernel_rfl) (by decide) kslices_ContainsFunc_string_string__i_NoteOk_1_0 ?_
  intro ys r outs h
  unfold Fslices_ContainsFunc_string_string__i_NoteOk_1 at h
  split at h
  · exact (vslices_ContainsFunc_string_string__i_NoteOk_1 _).trans h
  · cases h
end Go.Proofs.YtkjeicijcecmlaaDoor.E
end
section
namespace Go.Proofs.YtkjeicijcecmlaaDoor.E
open Go
set_option maxRecDepth 100000
set_option maxHeartbeats 0
set_option linter.all false
noncomputable def Ei_NoteOk : Env where
  tt := mkTI Go.Proofs.Tryd.prog
  fn := fun f => match f with
    | 81 => some (msslices_ContainsFunc_i_StoWrite_i_StoWrite__i_NoteOk_2, FSem.wk msslices_ContainsFunc_i_StoWrite_i_StoWrite__i_NoteOk_2 Fslices_ContainsFunc_i_StoWrite_i_StoWrite__i_NoteOk_2)
    | 129 => some (msi_in, FSem.wk msi_in Fi_in)
    | 149 => some (msi_isTx, FSem.wk msi_isTx Fi_isTx)
    | 150 => some (msslices_ContainsFunc_string_string__i_NoteOk_1, FSem.wk msslices_ContainsFunc_string_string__i_NoteOk_1 Fslices_ContainsFunc_string_string__i_NoteOk_1)
    | _ => none
  bxf := fun _ => none
  mv := []
  keep := fun _ => []
  keepB := fun _ => []
  keepX := fun _ => []
  keepXB := fun _ => []
theorem goodFi_NoteOk : ∀ f ms F, Ei_NoteOk.fn f = some (ms, F) → Sound Go.Proofs.Tryd.prog f ms F := fun f ms F h => by
  unfold Ei_NoteOk at h
  dsimp only at h
  split at h
  · injection h with h; injection h with e1 e2; subst e1 e2; exact Sound.wk sslices_ContainsFunc_i_StoWrite_i_StoWrite__i_NoteOk_2
  · injection h with h; injection h with e1 e2; subst e1 e2; exact Sound.wk si_in
  · injection h with h; injection h with e1 e2; subst e1 e2; exact Sound.wk si_isTx
  · injection h with h; injection h with e1 e2; subst e1 e2; exact Sound.wk sslices_ContainsFunc_string_string__i_NoteOk_1
  · cases h
theorem goodBi_NoteOk : ∀ f ms F, Ei_NoteOk.bxf f = some (ms, F) → SoundB Go.Proofs.Tryd.prog f ms F := fun f ms F h => by cases h
theorem goodi_NoteOk : Good Go.Proofs.Tryd.prog Ei_NoteOk := ⟨rfl, goodFi_NoteOk, goodBi_NoteOk⟩
noncomputable def Oi_NoteOk_0 : Orc := fun _ _ => none
noncomputable def msi_NoteOk : List PM := [.rd]
noncomputable def lsi_NoteOk : List (Nat × Code) := loopsAll 0 (Go.Proofs.Tryd.f113.body.getD .skip)

theorem ki_NoteOk_0 : OrcOk Ei_NoteOk Oi_NoteOk_0 lsi_NoteOk 0 := orcOk_none
noncomputable def g_Ai_NoteOk (a0 : Int) (a1 : Int) (a2 : List (ByteArray)) (a3 : List ((ByteArray) × ((Bool) × (List (Int))))) : Bool := g_Ai_isTx a1 && (!g_Vi_isTx_0 a1 || g_Ai_in a0 (1 : Int) (4 : Int) && (!g_Vi_in_0 a0 (1 : Int) (4 : Int) || bif a0 != (1 : Int) then !(↑(List.length a2) : Int) == (0 : Int) || true else decide ((↑(List.length a2) : Int) > (12 : Int)) || (decide ((↑(List.length a3) : Int) > (12 : Int)) || g_Aslices_ContainsFunc_string_string__i_NoteOk_1 a2 && (g_Vslices_ContainsFunc_string_string__i_NoteOk_1_0 a2 || g_Aslices_ContainsFunc_i_StoWrite_i_StoWrite__i_NoteOk_2 a3 (a0, a1, a2, a3)))))
noncomputable def g_Vi_NoteOk_0 (a0 : Int) (a1 : Int) (a2 : List (ByteArray)) (a3 : List ((ByteArray) × ((Bool) × (List (Int))))) : Bool := bif !g_Vi_isTx_0 a1 then false else bif !g_Vi_in_0 a0 (1 : Int) (4 : Int) then false else bif a0 != (1 : Int) then bif (↑(List.length a2) : Int) == (0 : Int) then (↑(List.length a3) : Int) == (0 : Int) else false else bif decide ((↑(List.length a2) : Int) > (12 : Int)) then false else bif decide ((↑(List.length a3) : Int) > (12 : Int)) then false else bif g_Vslices_ContainsFunc_string_string__i_NoteOk_1_0 a2 then false else !g_Vslices_ContainsFunc_i_StoWrite_i_StoWrite__i_NoteOk_2_0 a3 (a0, a1, a2, a3)
noncomputable def Fi_NoteOk : FSem := fun ys => match ys with
  | [.val true [.int .i64 a0, .int .i64 a1, .sl .any 9 .str a2, .sl .any 38 (.pair .str (.pair .bool (.sl 3 (.int .i64)))) a3]] => some ((g_Ai_NoteOk a0 a1 a2 a3), .val false [.bool (g_Vi_NoteOk_0 a0 a1 a2 a3)], [])
  | _ => none
theorem vi_NoteOk (a0 : Int) (a1 : Int) (a2 : List (ByteArray)) (a3 : List ((ByteArray) × ((Bool) × (List (Int))))) : collapseH .std Ei_NoteOk Oi_NoteOk_0 (execFn Ei_NoteOk Go.Proofs.Tryd.f113 msi_NoteOk [.val true [.int .i64 a0, .int .i64 a1, .sl .any 9 .str a2, .sl .any 38 (.pair .str (.pair .bool (.sl 3 (.int .i64)))) a3]]) = some ((g_Ai_NoteOk a0 a1 a2 a3), .val false [.bool (g_Vi_NoteOk_0 a0 a1 a2 a3)], []) := by kernel_rfl
theorem si_NoteOk : Sound Go.Proofs.Tryd.prog 113 msi_NoteOk Fi_NoteOk := by
  refine fn_gen goodi_NoteOk (by kernel_rfl) .std (fn := Go.Proofs.Tryd.f113) (c := (Go.Proofs.Tryd.f113.body.getD .skip)) (o := Oi_NoteOk_0) (k := 0) (by kernel_rfl) (by kernel_rfl) (by kernel_rfl) (by kernel_rfl) (by decide) ki_NoteOk_0 ?_
  intro ys r outs h
  unfold Fi_NoteOk at h
  split at h
  · exact (vi_NoteOk _ _ _ _).trans h
  · cases h
end Go.Proofs.YtkjeicijcecmlaaDoor.E
end
section
namespace Go.Proofs.YtkjeicijcecmlaaDoor.E
open Go
set_option maxRecDepth 100000
set_option maxHeartbeats 0
set_option linter.all false
noncomputable def Ei_DiskOk_1 : Env where
  tt := mkTI Go.Proofs.Tryd.prog
  fn := fun f => match f with
    | 113 => some (msi_NoteOk, FSem.wk msi_NoteOk Fi_NoteOk)
    | _ => none
  bxf := fun _ => none
  mv := []
  keep := fun _ => []
  keepB := fun _ => []
  keepX := fun _ => []
  keepXB := fun _ => []
theorem goodFi_DiskOk_1 : ∀ f ms F, Ei_DiskOk_1.fn f = some (ms, F) → Sound Go.Proofs.Tryd.prog f ms F := fun f ms F h => by
  unfold Ei_DiskOk_1 at h
  dsimp only at h
  split at h
  · injection h with h; injection h with e1 e2; subst e1 e2; exact Sound.wk si_NoteOk
  · cases h
theorem goodBi_DiskOk_1 : ∀ f ms F, Ei_DiskOk_1.bxf f = some (ms, F) → SoundB Go.Proofs.Tryd.prog f ms F := fun f ms F h => by cases h
theorem goodi_DiskOk_1 : Good Go.Proofs.Tryd.prog Ei_DiskOk_1 := ⟨rfl, goodFi_DiskOk_1, goodBi_DiskOk_1⟩
noncomputable def Oi_DiskOk_1_0 : Orc := fun _ _ => none
noncomputable def msi_DiskOk_1 : List PM := [.rd]
noncomputable def lsi_DiskOk_1 : List (Nat × Code) := loopsAll 0 (Go.Proofs.Tryd.f145.body.getD .skip)

theorem ki_DiskOk_1_0 : OrcOk Ei_DiskOk_1 Oi_DiskOk_1_0 lsi_DiskOk_1 0 := orcOk_none
noncomputable def g_Ai_DiskOk_1 (a0 : Int) (a1 : Int) (a2 : List (ByteArray)) (a3 : List ((ByteArray) × ((Bool) × (List (Int))))) : Bool := g_Ai_NoteOk a0 a1 a2 a3
noncomputable def Fi_DiskOk_1 : FSem := fun ys => match ys with
  | [.val true [.int .i64 a0, .int .i64 a1, .sl .any 9 .str a2, .sl .any 38 (.pair .str (.pair .bool (.sl 3 (.int .i64)))) a3]] => some ((g_Ai_DiskOk_1 a0 a1 a2 a3), .val false [.bool (!g_Vi_NoteOk_0 a0 a1 a2 a3)], [])
  | _ => none
theorem vi_DiskOk_1 (a0 : Int) (a1 : Int) (a2 : List (ByteArray)) (a3 : List ((ByteArray) × ((Bool) × (List (Int))))) : collapseH .std Ei_DiskOk_1 Oi_DiskOk_1_0 (execFn Ei_DiskOk_1 Go.Proofs.Tryd.f145 msi_DiskOk_1 [.val true [.int .i64 a0, .int .i64 a1, .sl .any 9 .str a2, .sl .any 38 (.pair .str (.pair .bool (.sl 3 (.int .i64)))) a3]]) = some ((g_Ai_DiskOk_1 a0 a1 a2 a3), .val false [.bool (!g_Vi_NoteOk_0 a0 a1 a2 a3)], []) := by kernel_rfl
theorem si_DiskOk_1 : Sound Go.Proofs.Tryd.prog 145 msi_DiskOk_1 Fi_DiskOk_1 := by
  refine fn_gen goodi_DiskOk_1 (by kernel_rfl) .std (fn := Go.Proofs.Tryd.f145) (c := (Go.Proofs.Tryd.f145.body.getD .skip)) (o := Oi_DiskOk_1_0) (k := 0) (by kernel_rfl) (by kernel_rfl) (by kernel_rfl) (by kernel_rfl) (by decide) ki_DiskOk_1_0 ?_
  intro ys r outs h
  unfold Fi_DiskOk_1 at h
  split at h
  · exact (vi_DiskOk_1 _ _ _ _).trans h
  · cases h
end Go.Proofs.YtkjeicijcecmlaaDoor.E
end
section
namespace Go.Proofs.YtkjeicijcecmlaaDoor.E
open Go
set_option maxRecDepth 100000
set_option maxHeartbeats 0
set_option linter.all false
noncomputable def Eslices_IndexFunc_i_LogNote_i_LogNote__i_DiskOk_1 : Env where
  tt := mkTI Go.Proofs.Tryd.prog
  fn := fun f => match f with
    | 145 => some (msi_DiskOk_1, FSem.wk msi_DiskOk_1 Fi_DiskOk_1)
    | _ => none
  bxf := fun _ => none
  mv := []
  keep := fun b => match b with
    | 0 => [(0, false), (1, false), (7, false), (8, false)]
    | _ => []
  keepB := fun b => match b with
    | 0 => []
    | _ => []
  keepX := fun b => match b with
    | 0 => [(4, false)]
    | _ => []
  keepXB := fun b => match b with
    | 0 => []
    | _ => []
theorem goodFslices_IndexFunc_i_LogNote_i_LogNote__i_DiskOk_1 : ∀ f ms F, Eslices_IndexFunc_i_LogNote_i_LogNote__i_DiskOk_1.fn f = some (ms, F) → Sound Go.Proofs.Tryd.prog f ms F := fun f ms F h => by
  unfold Eslices_IndexFunc_i_LogNote_i_LogNote__i_DiskOk_1 at h
  dsimp only at h
  split at h
  · injection h with h; injection h with e1 e2; subst e1 e2; exact Sound.wk si_DiskOk_1
  · cases h
theorem goodBslices_IndexFunc_i_LogNote_i_LogNote__i_DiskOk_1 : ∀ f ms F, Eslices_IndexFunc_i_LogNote_i_LogNote__i_DiskOk_1.bxf f = some (ms, F) → SoundB Go.Proofs.Tryd.prog f ms F := fun f ms F h => by cases h
theorem goodslices_IndexFunc_i_LogNote_i_LogNote__i_DiskOk_1 : Good Go.Proofs.Tryd.prog Eslices_IndexFunc_i_LogNote_i_LogNote__i_DiskOk_1 := ⟨rfl, goodFslices_IndexFunc_i_LogNote_i_LogNote__i_DiskOk_1, goodBslices_IndexFunc_i_LogNote_i_LogNote__i_DiskOk_1⟩
noncomputable def Oslices_IndexFunc_i_LogNote_i_LogNote__i_DiskOk_1_0 : Orc := fun _ _ => none
noncomputable def msslices_IndexFunc_i_LogNote_i_LogNote__i_DiskOk_1 : List PM := [.rd, .rd]
noncomputable def lsslices_IndexFunc_i_LogNote_i_LogNote__i_DiskOk_1 : List (Nat × Code) := loopsAll 0 (Go.Proofs.Tryd.f172.body.getD .skip)
noncomputable def cslices_IndexFunc_i_LogNote_i_LogNote__i_DiskOk_1_0 : Code := (loopOf 0 (Go.Proofs.Tryd.f172.body.getD .skip)).getD .skip
theorem lseqslices_IndexFunc_i_LogNote_i_LogNote__i_DiskOk_1 : lsslices_IndexFunc_i_LogNote_i_LogNote__i_DiskOk_1 = [(0, cslices_IndexFunc_i_LogNote_i_LogNote__i_DiskOk_1_0)] := by kernel_rfl
theorem mslices_IndexFunc_i_LogNote_i_LogNote__i_DiskOk_1_0 : ∀ p, p ∈ lsslices_IndexFunc_i_LogNote_i_LogNote__i_DiskOk_1 → p.1 = 0 → p.2 = cslices_IndexFunc_i_LogNote_i_LogNote__i_DiskOk_1_0 := by
  intro p hp
  rw [lseqslices_IndexFunc_i_LogNote_i_LogNote__i_DiskOk_1] at hp
  simp only [List.mem_cons, List.not_mem_nil, or_false] at hp
  subst hp; simp
theorem kslices_IndexFunc_i_LogNote_i_LogNote__i_DiskOk_1_0 : OrcOk Eslices_IndexFunc_i_LogNote_i_LogNote__i_DiskOk_1 Oslices_IndexFunc_i_LogNote_i_LogNote__i_DiskOk_1_0 lsslices_IndexFunc_i_LogNote_i_LogNote__i_DiskOk_1 0 := orcOk_none
noncomputable def hslices_IndexFunc_i_LogNote_i_LogNote__i_DiskOk_1_0 (y0 : List ((Int) × ((Int) × ((List (ByteArray)) × (List ((ByteArray) × ((Bool) × (List (Int))))))))) (y1 : Int) (y2 : Int) : List (Pl × LV) := [(.T 0, .t (.val false [.sl .any 79 (.pair (.int .i64) (.pair (.int .i64) (.pair (.sl 9 .str) (.sl 38 (.pair .str (.pair .bool (.sl 3 (.int .i64)))))))) y0])), (.T 1, .t (.val false [.fn 145 []])), (.T 7, .t (.val false [.int .i64 y1])), (.T 8, .t (.val false [.int .i64 y2]))]
noncomputable def g_Sslices_IndexFunc_i_LogNote_i_LogNote__i_DiskOk_1_0 (y0 : List ((Int) × ((Int) × ((List (ByteArray)) × (List ((ByteArray) × ((Bool) × (List (Int))))))))) (y1 : Int) : ((Int)) → RT ((Int)) (((Int)) ⊕ (Unit))
  | y2 => .br (true) (.br (decide (y2 < y1)) (.br (decide ((0 : Int) ≤ y2 ∧ y2 < (↑(List.length y0) : Int))) (.br (g_Ai_DiskOk_1 (at_ (Ty.pair (Ty.int IntKind.i64) (Ty.pair (Ty.int IntKind.i64) (Ty.pair (Ty.sl (nat_lit 9) Ty.str) (Ty.sl (nat_lit 38) (Ty.pair Ty.str (Ty.pair Ty.bool (Ty.sl (nat_lit 3) (Ty.int IntKind.i64)))))))) y0 (Int.toNat y2)).1 (at_ (Ty.pair (Ty.int IntKind.i64) (Ty.pair (Ty.int IntKind.i64) (Ty.pair (Ty.sl (nat_lit 9) Ty.str) (Ty.sl (nat_lit 38) (Ty.pair Ty.str (Ty.pair Ty.bool (Ty.sl (nat_lit 3) (Ty.int IntKind.i64)))))))) y0 (Int.toNat y2)).2.1 (at_ (Ty.pair (Ty.int IntKind.i64) (Ty.pair (Ty.int IntKind.i64) (Ty.pair (Ty.sl (nat_lit 9) Ty.str) (Ty.sl (nat_lit 38) (Ty.pair Ty.str (Ty.pair Ty.bool (Ty.sl (nat_lit 3) (Ty.int IntKind.i64)))))))) y0 (Int.toNat y2)).2.2.1 (at_ (Ty.pair (Ty.int IntKind.i64) (Ty.pair (Ty.int IntKind.i64) (Ty.pair (Ty.sl (nat_lit 9) Ty.str) (Ty.sl (nat_lit 38) (Ty.pair Ty.str (Ty.pair Ty.bool (Ty.sl (nat_lit 3) (Ty.int IntKind.i64)))))))) y0 (Int.toNat y2)).2.2.2) (.br (!g_Vi_NoteOk_0 (at_ (Ty.pair (Ty.int IntKind.i64) (Ty.pair (Ty.int IntKind.i64) (Ty.pair (Ty.sl (nat_lit 9) Ty.str) (Ty.sl (nat_lit 38) (Ty.pair Ty.str (Ty.pair Ty.bool (Ty.sl (nat_lit 3) (Ty.int IntKind.i64)))))))) y0 (Int.toNat y2)).1 (at_ (Ty.pair (Ty.int IntKind.i64) (Ty.pair (Ty.int IntKind.i64) (Ty.pair (Ty.sl (nat_lit 9) Ty.str) (Ty.sl (nat_lit 38) (Ty.pair Ty.str (Ty.pair Ty.bool (Ty.sl (nat_lit 3) (Ty.int IntKind.i64)))))))) y0 (Int.toNat y2)).2.1 (at_ (Ty.pair (Ty.int IntKind.i64) (Ty.pair (Ty.int IntKind.i64) (Ty.pair (Ty.sl (nat_lit 9) Ty.str) (Ty.sl (nat_lit 38) (Ty.pair Ty.str (Ty.pair Ty.bool (Ty.sl (nat_lit 3) (Ty.int IntKind.i64)))))))) y0 (Int.toNat y2)).2.2.1 (at_ (Ty.pair (Ty.int IntKind.i64) (Ty.pair (Ty.int IntKind.i64) (Ty.pair (Ty.sl (nat_lit 9) Ty.str) (Ty.sl (nat_lit 38) (Ty.pair Ty.str (Ty.pair Ty.bool (Ty.sl (nat_lit 3) (Ty.int IntKind.i64)))))))) y0 (Int.toNat y2)).2.2.2) (.out (.inl y2)) (.br (true) (.go (IntKind.wrap IntKind.i64 (y2 + (1 : Int)))) (.bad))) (.bad)) (.bad)) (.out (.inr (())))) (.bad)
noncomputable def g_Lslices_IndexFunc_i_LogNote_i_LogNote__i_DiskOk_1_0 (y0 : List ((Int) × ((Int) × ((List (ByteArray)) × (List ((ByteArray) × ((Bool) × (List (Int))))))))) (y1 : Int) (x : (Int)) : Option (((Int)) ⊕ (Unit)) := loopO (g_Sslices_IndexFunc_i_LogNote_i_LogNote__i_DiskOk_1_0 y0 y1) x
noncomputable def xslices_IndexFunc_i_LogNote_i_LogNote__i_DiskOk_1_0 (y0 : List ((Int) × ((Int) × ((List (ByteArray)) × (List ((ByteArray) × ((Bool) × (List (Int))))))))) (y1 : Int) : (((Int)) ⊕ (Unit)) → Ex × List (Pl × LV) := fun
  | .inl r => (.ret, [(.T 4, .t (.val false [.int .i64 r]))])
  | .inr (r) => (.exit 0, [(.T 4, .t (.val false [.undef]))])
noncomputable def Oslices_IndexFunc_i_LogNote_i_LogNote__i_DiskOk_1_1 : Orc := fun b h => match b, h with
  | 0, [(.T 0, .t (.val false [.sl .any 79 (.pair (.int .i64) (.pair (.int .i64) (.pair (.sl 9 .str) (.sl 38 (.pair .str (.pair .bool (.sl 3 (.int .i64)))))))) y0])), (.T 1, .t (.val false [.fn 145 []])), (.T 7, .t (.val false [.int .i64 y1])), (.T 8, .t (.val false [.int .i64 y2]))] => some (okO (g_Lslices_IndexFunc_i_LogNote_i_LogNote__i_DiskOk_1_0 y0 y1 y2), (.br (isL (valO (g_Lslices_IndexFunc_i_LogNote_i_LogNote__i_DiskOk_1_0 y0 y1 y2))) (.leaf .ret [(.T 4, .t (.val false [.int .i64 (getL (valO (g_Lslices_IndexFunc_i_LogNote_i_LogNote__i_DiskOk_1_0 y0 y1 y2)))]))]) (.leaf (.exit 0) [(.T 4, .t (.val false [.undef]))])))
  | b, h => Oslices_IndexFunc_i_LogNote_i_LogNote__i_DiskOk_1_0 b h
theorem bslices_IndexFunc_i_LogNote_i_LogNote__i_DiskOk_1_0 (y0 : List ((Int) × ((Int) × ((List (ByteArray)) × (List ((ByteArray) × ((Bool) × (List (Int))))))))) (y1 : Int) (y2 : Int) : Tr.bt Eslices_IndexFunc_i_LogNote_i_LogNote__i_DiskOk_1 Oslices_IndexFunc_i_LogNote_i_LogNote__i_DiskOk_1_0 (exec Eslices_IndexFunc_i_LogNote_i_LogNote__i_DiskOk_1 0 cslices_IndexFunc_i_LogNote_i_LogNote__i_DiskOk_1_0 (St.of (hslices_IndexFunc_i_LogNote_i_LogNote__i_DiskOk_1_0 y0 y1 y2)) (leafRd Eslices_IndexFunc_i_LogNote_i_LogNote__i_DiskOk_1 0)) = (g_Sslices_IndexFunc_i_LogNote_i_LogNote__i_DiskOk_1_0 y0 y1 y2).bt (fun (y2 : (Int)) => (hslices_IndexFunc_i_LogNote_i_LogNote__i_DiskOk_1_0 y0 y1 y2)) (xslices_IndexFunc_i_LogNote_i_LogNote__i_DiskOk_1_0 y0 y1) := by kernel_rfl
theorem kslices_IndexFunc_i_LogNote_i_LogNote__i_DiskOk_1_1 : OrcOk Eslices_IndexFunc_i_LogNote_i_LogNote__i_DiskOk_1 Oslices_IndexFunc_i_LogNote_i_LogNote__i_DiskOk_1_1 lsslices_IndexFunc_i_LogNote_i_LogNote__i_DiskOk_1 1 := orc_add kslices_IndexFunc_i_LogNote_i_LogNote__i_DiskOk_1_0 (fun n p hp h ex h' ho => by
  obtain ⟨b, c⟩ := p
  obtain ⟨xt, h1, h2⟩ := ho
  have h1 : Oslices_IndexFunc_i_LogNote_i_LogNote__i_DiskOk_1_1 b h = some (true, xt) := h1
  unfold Oslices_IndexFunc_i_LogNote_i_LogNote__i_DiskOk_1_1 at h1
  split at h1
  · injection h1 with h1
    injection h1 with e1 e2
    subst e2
    have hc : c = cslices_IndexFunc_i_LogNote_i_LogNote__i_DiskOk_1_0 := mslices_IndexFunc_i_LogNote_i_LogNote__i_DiskOk_1_0 _ hp rfl
    subst hc
    right
    rename_i y0 y1 y2
    have key := LT_step kslices_IndexFunc_i_LogNote_i_LogNote__i_DiskOk_1_0 hp (fun q hq => loopsAll_in _ _ _ _ hp hq) (fun (y2 : (Int)) => (hslices_IndexFunc_i_LogNote_i_LogNote__i_DiskOk_1_0 y0 y1 y2)) (xslices_IndexFunc_i_LogNote_i_LogNote__i_DiskOk_1_0 y0 y1) (g_Sslices_IndexFunc_i_LogNote_i_LogNote__i_DiskOk_1_0 y0 y1) (fun x => by first | exact bslices_IndexFunc_i_LogNote_i_LogNote__i_DiskOk_1_0 y0 y1 x) n (x := y2) (okO_some e1)
    have hx : ∀ r, XT.sel (.br (isL r) (.leaf .ret [(.T 4, .t (.val false [.int .i64 (getL r)]))]) (.leaf (.exit 0) [(.T 4, .t (.val false [.undef]))])) = xslices_IndexFunc_i_LogNote_i_LogNote__i_DiskOk_1_0 y0 y1 r := fun r => by first | rfl | (rcases r with r | r <;> rfl) | (rcases r with r | r | r <;> rfl) | (rcases r with r | r | r | r <;> rfl)
    have h3 := (hx (valO (g_Lslices_IndexFunc_i_LogNote_i_LogNote__i_DiskOk_1_0 y0 y1 y2))).symm.trans h2
    have e3 := congrArg Prod.fst h3
    have e4 := congrArg Prod.snd h3
    simp only at e3 e4
    rw [← e3, ← e4]
    exact key
  · exact .inl ⟨xt, h1, h2⟩)
noncomputable def g_Aslices_IndexFunc_i_LogNote_i_LogNote__i_DiskOk_1 (a0 : List ((Int) × ((Int) × ((List (ByteArray)) × (List ((ByteArray) × ((Bool) × (List (Int))))))))) : Bool := okO (g_Lslices_IndexFunc_i_LogNote_i_LogNote__i_DiskOk_1_0 a0 (↑(List.length a0) : Int) (0 : Int))
noncomputable def g_Vslices_IndexFunc_i_LogNote_i_LogNote__i_DiskOk_1_0 (a0 : List ((Int) × ((Int) × ((List (ByteArray)) × (List ((ByteArray) × ((Bool) × (List (Int))))))))) : Int := bif isL (valO (g_Lslices_IndexFunc_i_LogNote_i_LogNote__i_DiskOk_1_0 a0 (↑(List.length a0) : Int) (0 : Int))) then getL (valO (g_Lslices_IndexFunc_i_LogNote_i_LogNote__i_DiskOk_1_0 a0 (↑(List.length a0) : Int) (0 : Int))) else (-1 : Int)
noncomputable def Fslices_IndexFunc_i_LogNote_i_LogNote__i_DiskOk_1 : FSem := fun ys => match ys with
  | [.val false [.sl .any 79 (.pair (.int .i64) (.pair (.int .i64) (.pair (.sl 9 .str) (.sl 38 (.pair .str (.pair .bool (.sl 3 (.int .i64)))))))) a0], .val false [.fn 145 []]] => some ((g_Aslices_IndexFunc_i_LogNote_i_LogNote__i_DiskOk_1 a0), .val false [.int .i64 (g_Vslices_IndexFunc_i_LogNote_i_LogNote__i_DiskOk_1_0 a0)], [])
  | _ => none
theorem vslices_IndexFunc_i_LogNote_i_LogNote__i_DiskOk_1 (a0 : List ((Int) × ((Int) × ((List (ByteArray)) × (List ((ByteArray) × ((Bool) × (List (Int))))))))) : collapseH .std Eslices_IndexFunc_i_LogNote_i_LogNote__i_DiskOk_1 Oslices_IndexFunc_i_LogNote_i_LogNote__i_DiskOk_1_1 (execFn Eslices_IndexFunc_i_LogNote_i_LogNote__i_DiskOk_1 Go.Proofs.Tryd.f172 msslices_IndexFunc_i_LogNote_i_LogNote__i_DiskOk_1 [.val false [.sl .any 79 (.pair (.int .i64) (.pair (.int .i64) (.pair (.sl 9 .str) (.sl 38 (.pair .str (.pair .bool (.sl 3 (.int .i64)))))))) a0], .val false [.fn 145 []]]) = some ((g_Aslices_IndexFunc_i_LogNote_i_LogNote__i_DiskOk_1 a0), .val false [.int .i64 (g_Vslices_IndexFunc_i_LogNote_i_LogNote__i_DiskOk_1_0 a0)], []) := by kernel_rfl
theorem sslices_IndexFunc_i_LogNote_i_LogNote__i_DiskOk_1 : Sound Go.Proofs.Tryd.prog 172 msslices_IndexFunc_i_LogNote_i_LogNote__i_DiskOk_1 Fslices_IndexFunc_i_LogNote_i_LogNote__i_DiskOk_1 := by
  refine fn_gen goodslices_IndexFunc_i_LogNote_i_LogNote__i_DiskOk_1 (by kernel_rfl) .std (fn := Go.Proofs.Tryd.f172) (c := (Go.Proofs.Tryd.f172.body.getD .skip)) (o := Oslices_IndexFunc_i_LogNote_i_LogNote__i_DiskOk_1_1) (k := 1) (by kernel_rfl) (by kernel_rfl) (by kernel_rfl) (by kernel_rfl) (by decide) kslices_IndexFunc_i_LogNote_i_LogNote__i_DiskOk_1_1 ?_
  intro ys r outs h
  unfold Fslices_IndexFunc_i_LogNote_i_LogNote__i_DiskOk_1 at h
  split at h
  · exact (vslices_IndexFunc_i_LogNote_i_LogNote__i_DiskOk_1 _).trans h
  · cases h
end Go.Proofs.YtkjeicijcecmlaaDoor.E
end
section
namespace Go.Proofs.YtkjeicijcecmlaaDoor.E
open Go
set_option maxRecDepth 100000
set_option maxHeartbeats 0
set_option linter.all false
noncomputable def Eslices_ContainsFunc_i_LogNote_i_LogNote__i_DiskOk_1 : Env where
  tt := mkTI Go.Proofs.Tryd.prog
  fn := fun f => match f with
    | 145 => some (msi_DiskOk_1, FSem.wk msi_DiskOk_1 Fi_DiskOk_1)
    | 172 => some (msslices_IndexFunc_i_LogNote_i_LogNote__i_DiskOk_1, FSem.wk msslices_IndexFunc_i_LogNote_i_LogNote__i_DiskOk_1 Fslices_IndexFunc_i_LogNote_i_LogNote__i_DiskOk_1)
    | _ => none
  bxf := fun _ => none
  mv := []
  keep := fun _ => []
  keepB := fun _ => []
  keepX := fun _ => []
  keepXB := fun _ => []
theorem goodFslices_ContainsFunc_i_LogNote_i_LogNote__i_DiskOk_1 : ∀ f ms F, Eslices_ContainsFunc_i_LogNote_i_LogNote__i_DiskOk_1.fn f = some (ms, F) → Sound Go.Proofs.Tryd.prog f ms F := fun f ms F h => by
  unfold Eslices_ContainsFunc_i_LogNote_i_LogNote__i_DiskOk_1 at h
  dsimp only at h
  split at h
  · injection h with h; injection h with e1 e2; subst e1 e2; exact Sound.wk si_DiskOk_1
  · injection h with h; injection h with e1 e2; subst e1 e2; exact Sound.wk sslices_IndexFunc_i_LogNote_i_LogNote__i_DiskOk_1
  · cases h
theorem goodBslices_ContainsFunc_i_LogNote_i_LogNote__i_DiskOk_1 : ∀ f ms F, Eslices_ContainsFunc_i_LogNote_i_LogNote__i_DiskOk_1.bxf f = some (ms, F) → SoundB Go.Proofs.Tryd.prog f ms F := fun f ms F h => by cases h
theorem goodslices_ContainsFunc_i_LogNote_i_LogNote__i_DiskOk_1 : Good Go.Proofs.Tryd.prog Eslices_ContainsFunc_i_LogNote_i_LogNote__i_DiskOk_1 := ⟨rfl, goodFslices_ContainsFunc_i_LogNote_i_LogNote__i_DiskOk_1, goodBslices_ContainsFunc_i_LogNote_i_LogNote__i_DiskOk_1⟩
noncomputable def Oslices_ContainsFunc_i_LogNote_i_LogNote__i_DiskOk_1_0 : Orc := fun _ _ => none
noncomputable def msslices_ContainsFunc_i_LogNote_i_LogNote__i_DiskOk_1 : List PM := [.rd, .rd]
noncomputable def lsslices_ContainsFunc_i_LogNote_i_LogNote__i_DiskOk_1 : List (Nat × Code) := loopsAll 0 (Go.Proofs.Tryd.f146.body.getD .skip)

theorem kslices_ContainsFunc_i_LogNote_i_LogNote__i_DiskOk_1_0 : OrcOk Eslices_ContainsFunc_i_LogNote_i_LogNote__i_DiskOk_1 Oslices_ContainsFunc_i_LogNote_i_LogNote__i_DiskOk_1_0 lsslices_ContainsFunc_i_LogNote_i_LogNote__i_DiskOk_1 0 := orcOk_none
noncomputable def g_Aslices_ContainsFunc_i_LogNote_i_LogNote__i_DiskOk_1 (a0 : List ((Int) × ((Int) × ((List (ByteArray)) × (List ((ByteArray) × ((Bool) × (List (Int))))))))) : Bool := g_Aslices_IndexFunc_i_LogNote_i_LogNote__i_DiskOk_1 a0 && true
noncomputable def g_Vslices_ContainsFunc_i_LogNote_i_LogNote__i_DiskOk_1_0 (a0 : List ((Int) × ((Int) × ((List (ByteArray)) × (List ((ByteArray) × ((Bool) × (List (Int))))))))) : Bool := decide (g_Vslices_IndexFunc_i_LogNote_i_LogNote__i_DiskOk_1_0 a0 ≥ (0 : Int))
noncomputable def Fslices_ContainsFunc_i_LogNote_i_LogNote__i_DiskOk_1 : FSem := fun ys => match ys with
  | [.val false [.sl .any 79 (.pair (.int .i64) (.pair (.int .i64) (.pair (.sl 9 .str) (.sl 38 (.pair .str (.pair .bool (.sl 3 (.int .i64)))))))) a0], .val false [.fn 145 []]] => some ((g_Aslices_ContainsFunc_i_LogNote_i_LogNote__i_DiskOk_1 a0), .val false [.bool (g_Vslices_ContainsFunc_i_LogNote_i_LogNote__i_DiskOk_1_0 a0)], [])
  | _ => none
theorem vslices_ContainsFunc_i_LogNote_i_LogNote__i_DiskOk_1 (a0 : List ((Int) × ((Int) × ((List (ByteArray)) × (List ((ByteArray) × ((Bool) × (List (Int))))))))) : collapseH .std Eslices_ContainsFunc_i_LogNote_i_LogNote__i_DiskOk_1 Oslices_ContainsFunc_i_LogNote_i_LogNote__i_DiskOk_1_0 (execFn Eslices_ContainsFunc_i_LogNote_i_LogNote__i_DiskOk_1 Go.Proofs.Tryd.f146 msslices_ContainsFunc_i_LogNote_i_LogNote__i_DiskOk_1 [.val false [.sl .any 79 (.pair (.int .i64) (.pair (.int .i64) (.pair (.sl 9 .str) (.sl 38 (.pair .str (.pair .bool (.sl 3 (.int .i64)))))))) a0], .val false [.fn 145 []]]) = some ((g_Aslices_ContainsFunc_i_LogNote_i_LogNote__i_DiskOk_1 a0), .val false [.bool (g_Vslices_ContainsFunc_i_LogNote_i_LogNote__i_DiskOk_1_0 a0)], []) := by kernel_rfl
theorem sslices_ContainsFunc_i_LogNote_i_LogNote__i_DiskOk_1 : Sound Go.Proofs.Tryd.prog 146 msslices_ContainsFunc_i_LogNote_i_LogNote__i_DiskOk_1 Fslices_ContainsFunc_i_LogNote_i_LogNote__i_DiskOk_1 := by
  refine fn_gen goodslices_ContainsFunc_i_LogNote_i_LogNote__i_DiskOk_1 (by kernel_rfl) .std (fn := Go.Proofs.Tryd.f146) (c := (Go.Proofs.Tryd.f146.body.getD .skip)) (o := Oslices_ContainsFunc_i_LogNote_i_LogNote__i_DiskOk_1_0) (k := 0) (by kernel_rfl) (by kernel_rfl) (by kernel_rfl) (by kernel_rfl) (by decide) kslices_ContainsFunc_i_LogNote_i_LogNote__i_DiskOk_1_0 ?_
  intro ys r outs h
  unfold Fslices_ContainsFunc_i_LogNote_i_LogNote__i_DiskOk_1 at h
  split at h
  · exact (vslices_ContainsFunc_i_LogNote_i_LogNote__i_DiskOk_1 _).trans h
  · cases h
end Go.Proofs.YtkjeicijcecmlaaDoor.E
end
section
namespace Go.Proofs.YtkjeicijcecmlaaDoor.E
open Go
set_option maxRecDepth 100000
set_option maxHeartbeats 0
set_option linter.all false
noncomputable def Ei_DiskOk : Env where
  tt := mkTI Go.Proofs.Tryd.prog
  fn := fun f => match f with
    | 129 => some (msi_in, FSem.wk msi_in Fi_in)
    | 146 => some (msslices_ContainsFunc_i_LogNote_i_LogNote__i_DiskOk_1, FSem.wk msslices_ContainsFunc_i_LogNote_i_LogNote__i_DiskOk_1 Fslices_ContainsFunc_i_LogNote_i_LogNote__i_DiskOk_1)
    | _ => none
  bxf := fun _ => none
  mv := []
  keep := fun _ => []
  keepB := fun _ => []
  keepX := fun _ => []
  keepXB := fun _ => []
theorem goodFi_DiskOk : ∀ f ms F, Ei_DiskOk.fn f = some (ms, F) → Sound Go.Proofs.Tryd.prog f ms F := fun f ms F h => by
  unfold Ei_DiskOk at h
  dsimp only at h
  split at h
  · injection h with h; injection h with e1 e2; subst e1 e2; exact Sound.wk si_in
  · injection h with h; injection h with e1 e2; subst e1 e2; exact Sound.wk sslices_ContainsFunc_i_LogNote_i_LogNote__i_DiskOk_1
  · cases h
theorem goodBi_DiskOk : ∀ f ms F, Ei_DiskOk.bxf f = some (ms, F) → SoundB Go.Proofs.Tryd.prog f ms F := fun f ms F h => by cases h
theorem goodi_DiskOk : Good Go.Proofs.Tryd.prog Ei_DiskOk := ⟨rfl, goodFi_DiskOk, goodBi_DiskOk⟩
noncomputable def Oi_DiskOk_0 : Orc := fun _ _ => none
noncomputable def msi_DiskOk : List PM := [.rd]
noncomputable def lsi_DiskOk : List (Nat × Code) := loopsAll 0 (Go.Proofs.Tryd.f101.body.getD .skip)

theorem ki_DiskOk_0 : OrcOk Ei_DiskOk Oi_DiskOk_0 lsi_DiskOk 0 := orcOk_none
noncomputable def g_Ai_DiskOk (a0 : List ((Int) × ((Int) × ((List (ByteArray)) × (List ((ByteArray) × ((Bool) × (List (Int))))))))) (a1 : Int) : Bool := !decide ((↑(List.length a0) : Int) ≤ (120 : Int)) || g_Aslices_ContainsFunc_i_LogNote_i_LogNote__i_DiskOk_1 a0 && (!!g_Vslices_ContainsFunc_i_LogNote_i_LogNote__i_DiskOk_1_0 a0 || g_Ai_in a1 (0 : Int) (↑(List.length a0) : Int))
noncomputable def g_Vi_DiskOk_0 (a0 : List ((Int) × ((Int) × ((List (ByteArray)) × (List ((ByteArray) × ((Bool) × (List (Int))))))))) (a1 : Int) : Bool := bif decide ((↑(List.length a0) : Int) ≤ (120 : Int)) then bif !g_Vslices_ContainsFunc_i_LogNote_i_LogNote__i_DiskOk_1_0 a0 then g_Vi_in_0 a1 (0 : Int) (↑(List.length a0) : Int) else false else false
noncomputable def Fi_DiskOk : FSem := fun ys => match ys with
  | [.val true [.sl .any 79 (.pair (.int .i64) (.pair (.int .i64) (.pair (.sl 9 .str) (.sl 38 (.pair .str (.pair .bool (.sl 3 (.int .i64)))))))) a0, .int .i64 a1]] => some ((g_Ai_DiskOk a0 a1), .val false [.bool (g_Vi_DiskOk_0 a0 a1)], [])
  | _ => none
theorem vi_DiskOk (a0 : List ((Int) × ((Int) × ((List (ByteArray)) × (List ((ByteArray) × ((Bool) × (List (Int))))))))) (a1 : Int) : collapseH .std Ei_DiskOk Oi_DiskOk_0 (execFn Ei_DiskOk Go.Proofs.Tryd.f101 msi_DiskOk [.val true [.sl .any 79 (.pair (.int .i64) (.pair (.int .i64) (.pair (.sl 9 .str) (.sl 38 (.pair .str (.pair .bool (.sl 3 (.int .i64)))))))) a0, .int .i64 a1]]) = some ((g_Ai_DiskOk a0 a1), .val false [.bool (g_Vi_DiskOk_0 a0 a1)], []) := by kernel_rfl
theorem si_DiskOk : Sound Go.Proofs.Tryd.prog 101 msi_DiskOk Fi_DiskOk := by
  refine fn_gen goodi_DiskOk (by kernel_rfl) .std (fn := Go.Proofs.Tryd.f101) (c := (Go.Proofs.Tryd.f101.body.getD .skip)) (o := Oi_DiskOk_0) (k := 0) (by kernel_rfl) (by kernel_rfl) (by kernel_rfl) (by kernel_rfl) (by decide) ki_DiskOk_0 ?_
  intro ys r outs h
  unfold Fi_DiskOk at h
  split at h
  · exact (vi_DiskOk _ _).trans h
  · cases h
end Go.Proofs.YtkjeicijcecmlaaDoor.E
end
section
namespace Go.Proofs.YtkjeicijcecmlaaDoor.E
open Go Go.RowKit Go.Shelf
attribute [local go_sem] Oper.semAt_some
/-- An element of four cells, of which the first two are numbers. -/
abbrev SV : Type := Option Addr × Nat × Nat
abbrev E4 : Type := Int × Int × SV × SV
def cE (e : E4) : List Value := [.int .i64 e.1, .int .i64 e.2.1, .slice e.2.2.1.1 e.2.2.1.2.1 e.2.2.1.2.2, .slice e.2.2.2.1 e.2.2.2.2.1 e.2.2.2.2.2]
abbrev e0 : E4 := (0, 0, (none, 0, 0), (none, 0, 0))
theorem ro_load {w : World} {b o : Nat} {c : List Value} (h : Has w b o c) : w.rangeAt b o c := by
  intro j v hj
  exact h j v hj
set_option maxRecDepth 100000 in
set_option maxHeartbeats 2000000 in
theorem bk1_in (F : Fence) (n : Nat) (h7 : F.fn 176) (hro : F.round = none) (hn : 1 ≤ n) (l Bs n₀ b off cap : Nat) (cs : List E4) (hreach : cs.length ≤ 1048576) (hb : b < n₀) (hBn : Bs < n₀) (J Jx : List (Nat × E4) → World → Prop)
    (hY : ∀ pre x W, J pre W → pre.length < cs.length → YieldAt F (n - 1) Go.Proofs.Tryd.prog l #[.int .i64 (x.1 : Int), Value.agg (cE x.2).toArray] W fun e W' =>
      (e = .returned (.bool true) ∧ J (pre ++ [x]) W' ∧ Below n₀ W W') ∨ (e = .returned (.bool false) ∧ Jx (pre ++ [x]) W'))
    (W : World) (hBs : W.cell? ⟨Bs, 0, none⟩ = some (.slice (some ⟨b, off, none⟩) cs.length cap)) (hc : ∀ j c, cs[j]? = some c → Has W b (off + j * 4) (cE c)) (h0 : J [] W) :
    CallsIn F n Go.Proofs.Tryd.prog 176 #[.func (.yield l) #[] #[], .pointer (some ⟨Bs, 0, none⟩)] W fun e W' => (∃ v, e = .returned v) ∧
      ((∃ ys, ys = (List.range cs.length).map (fun j => (cs.length - 1 - j, cs.getD (cs.length - 1 - j) e0)) ∧ J ys W') ∨ (∃ pre, (∃ k, k ≤ cs.length ∧ pre = (List.range k).map (fun j => (cs.length - 1 - j, cs.getD (cs.length - 1 - j) e0))) ∧ Jx pre W')) := by
  refine callsIn_of_wp Go.Proofs.Tryd.func176 rfl h7 ?_ hro
  simp only [Go.Proofs.Tryd.ntmps176, List.size_toArray, List.length_cons, List.length_nil, Nat.reduceAdd, Nat.reduceSub, Array.replicate_succ, Array.replicate_zero, List.push_toArray, List.append_toArray, List.nil_append, List.cons_append]
  gi_wp2
  gi_loopw [3] (fun i wr => ∃ k : Nat, k ≤ cs.length ∧ i = .int .i64 ((cs.length : Int) - 1 - k) ∧ J ((List.range k).map (fun j => (cs.length - 1 - j, cs.getD (cs.length - 1 - j) e0))) wr ∧ Below n₀ W wr)
    (fun i _ => (intOf i + 1).toNat)
  case atStart => exact ⟨0, Nat.zero_le _, by simp, h0, Below.refl _ _⟩
  case round =>
    obtain ⟨k, hk, rfl, hJs, hnx⟩ := hrel
    have hBs' := (hnx.cell (p := ⟨Bs, 0, none⟩) hBn).trans hBs
    by_cases hlt : k < cs.length
    · obtain ⟨c, hcc⟩ : ∃ c, cs[cs.length - 1 - k]? = some c := ⟨_, List.getElem?_eq_getElem (by omega)⟩
      have hcH := hc _ c hcc
      obtain ⟨z0, z1, v2, v3⟩ := c
      have hidx : ((cs.length : Int) - 1 - k) = ((cs.length - 1 - k : Nat) : Int) := by omega
      rw [hidx]
      obtain ⟨fn, tmps, assign, body, hy, hR⟩ := hY _ (cs.length - 1 - k, (z0, z1, v2, v3)) wr hJs (by simp; exact hlt)
      dsimp only [cE] at hy
      have hge : ((cs.length - 1 - k : Nat) : Int) ≥ 0 := by omega
      have c0 := (hnx.cell (p := ⟨b, off + (cs.length - 1 - k) * 4, none⟩) hb).trans (hcH 0 (.int .i64 z0) rfl)
      have c1 := (hnx.cell (p := ⟨b, off + (cs.length - 1 - k) * 4 + 1, none⟩) hb).trans (hcH 1 (.int .i64 z1) rfl)
      have c2 := (hnx.cell (p := ⟨b, off + (cs.length - 1 - k) * 4 + 2, none⟩) hb).trans (hcH 2 (.slice v2.1 v2.2.1 v2.2.2) rfl)
      have c3 := (hnx.cell (p := ⟨b, off + (cs.length - 1 - k) * 4 + 3, none⟩) hb).trans (hcH 3 (.slice v3.1 v3.2.1 v3.2.2) rfl)
      have hget : cs.getD (cs.length - 1 - k) e0 = (z0, z1, v2, v3) := by simp [List.getD, hcc]
      have hup : (List.range k).map (fun j => (cs.length - 1 - j, cs.getD (cs.length - 1 - j) e0)) ++ [(cs.length - 1 - k, (z0, z1, v2, v3))] = (List.range (k + 1)).map (fun j => (cs.length - 1 - j, cs.getD (cs.length - 1 - j) e0)) := by
        rw [List.range_succ, List.map_append, List.map_singleton, hget]
      rw [hup] at hR
      gi_wp2
      refine hR.mono ?_
      rintro e W3 (⟨rfl, hJ3, hk3⟩ | ⟨rfl, hJx3⟩)
      · gi_wp2
        go_roundw
        case rel => exact ⟨k + 1, by omega, by (simp; omega), hJ3, hnx.trans hk3⟩
        case measure => first | (simp [intOf]; done) | (simp [intOf]; omega)
      · gi_wp2
        refine bodyPost_ret (results_none rfl _ _ _) rfl ?_
        exact ⟨⟨_, rfl⟩, .inr ⟨_, ⟨k + 1, by omega, rfl⟩, hJx3⟩⟩
    · obtain rfl : k = cs.length := by omega
      gi_wp2
      go_end0
      exact ⟨⟨_, rfl⟩, .inl ⟨_, rfl, hJs⟩⟩

set_option maxRecDepth 100000 in
set_option maxHeartbeats 1000000 in
theorem bk1_nil_in (F : Fence) (n : Nat) (h7 : F.fn 176) (hro : F.round = none) (l Bs : Nat) (J : List (Nat × E4) → World → Prop) (W : World) (a : Option Addr) (cap : Nat) (hBs : W.cell? ⟨Bs, 0, none⟩ = some (.slice a 0 cap)) (h0 : J [] W) :
    CallsIn F n Go.Proofs.Tryd.prog 176 #[.func (.yield l) #[] #[], .pointer (some ⟨Bs, 0, none⟩)] W fun e W' => (∃ v, e = .returned v) ∧ J [] W' := by
  refine callsIn_of_wp Go.Proofs.Tryd.func176 rfl h7 ?_ hro
  simp only [Go.Proofs.Tryd.ntmps176, List.size_toArray, List.length_cons, List.length_nil, Nat.reduceAdd, Nat.reduceSub, Array.replicate_succ, Array.replicate_zero, List.push_toArray, List.append_toArray, List.nil_append, List.cons_append]
  gi_wp2
  gi_loopw [3] (fun i wr => i = .int .i64 (-1) ∧ J [] wr) (fun _ _ => 0)
  case atStart => exact ⟨rfl, h0⟩
  case round =>
    obtain ⟨rfl, hJs⟩ := hrel
    gi_wp2
    go_end0
    exact ⟨⟨_, rfl⟩, hJs⟩
/-- A slice of elements of four cells. -/
def Lies4 (n₀ : Nat) (W : World) (sv : Value) (cs : List E4) : Prop :=
  ((∃ a cap, sv = .slice a 0 cap) ∧ cs = []) ∨ ∃ b off cap, sv = .slice (some ⟨b, off, none⟩) cs.length cap ∧ b < n₀ ∧ ∀ j c, cs[j]? = some c → Has W b (off + j * 4) (cE c)
theorem Lies4.below {n₀ : Nat} {A B : World} (h : Below n₀ A B) {sv : Value} {cs : List E4} (hl : Lies4 n₀ A sv cs) : Lies4 n₀ B sv cs := by
  rcases hl with hl | ⟨b, off, cap, e, hb, hc⟩
  · exact .inl hl
  · exact .inr ⟨b, off, cap, e, hb, fun j c hj i v hv => (h.cell (p := ⟨b, off + j * 4 + i, none⟩) hb).trans (hc j c hj i v hv)⟩
abbrev backF (cs : List E4) (j : Nat) : Nat × E4 := (cs.length - 1 - j, cs.getD (cs.length - 1 - j) e0)
theorem bk_stops (F : Fence) (n : Nat) (h8 : F.fn 176) (hro : F.round = none) (hn : 1 ≤ n) (Bs n₀ : Nat) (sv : Value) (cs : List E4) (hreach : cs.length ≤ 1048576) (w : World) (hBn : Bs < n₀) (hn₀ : n₀ ≤ w.heap.size)
    (hc : w.cell? ⟨Bs, 0, none⟩ = some sv) (hI : Lies4 n₀ w sv cs) :
    SeqStopsK F n Go.Proofs.Tryd.prog 176 #[.pointer (some ⟨Bs, 0, none⟩)] (fun x : Nat × E4 => #[Value.int .i64 (x.1 : Int), Value.agg (cE x.2).toArray]) (Below n₀) (fun ys => ys = (List.range cs.length).map (backF cs))
      (fun pre => ∃ k, k ≤ cs.length ∧ pre = (List.range k).map (backF cs)) cs.length w := fun l J Jx W hW _ _ hY h0 => by
  have hc' := (hW.cell (p := ⟨Bs, 0, none⟩) (Nat.lt_of_lt_of_le hBn hn₀)).trans hc
  rcases hI.below (hW.mono hn₀) with ⟨⟨a, cap, rfl⟩, rfl⟩ | ⟨b, off, cap, rfl, hb, hcs⟩
  · exact (bk1_nil_in F n h8 hro l Bs J W a cap hc' h0).mono fun e W' ⟨he, hj⟩ => ⟨he, .inl ⟨_, rfl, hj⟩⟩
  · exact bk1_in F n h8 hro hn l Bs n₀ b off cap cs hreach hb hBn J Jx hY W hc' hcs h0
set_option maxHeartbeats 1000000 in
theorem bk_in (F : Fence) (n : Nat) (h6 : F.fn 156) (hro : F.round = none) (a : Option Addr) (len cap : Nat) (w : World) :
    CallsIn F n Go.Proofs.Tryd.prog 156 #[.slice a len cap] w fun e w' => e = .returned (.func (.func 176) #[] #[.pointer (some ⟨w.heap.size, 0, none⟩)]) ∧ w' = w.alloc (.cells #[.slice a len cap] 61) := by
  refine callsIn_of_wp Go.Proofs.Tryd.func156 rfl h6 ?_ hro
  simp only [Go.Proofs.Tryd.ntmps156, List.size_toArray, List.length_cons, List.length_nil, Nat.reduceAdd, Nat.reduceSub, Array.replicate_succ, Array.replicate_zero, List.push_toArray, List.append_toArray, List.nil_append, List.cons_append]
  gi_wp2
  go_ret
  exact ⟨rfl, rfl⟩
theorem cellA {W : World} {p : Addr} {v : Value} (o : Obj) (h : W.cell? p = some v) : (W.alloc o).cell? p = some v := (World.grownBy_alloc W o none).cell h (by simp)
theorem frozenA {W : World} {p : Addr} {v : Value} (o : Obj) (h : W.cell? p = some v) (hf : W.frozen? p = false) : (W.alloc o).frozen? p = false :=
  (World.frozen?_of_block ((World.grownBy_alloc W o none).block p.block (World.block_lt_of_cell? W p h) (by simp))).trans hf
theorem cellN {W : World} {cur : Array Value} {e : TypeId} {j : Nat} {v : Value} (h : cur[j]? = some v) : (W.alloc (.cells cur e)).cell? ⟨W.heap.size, j, none⟩ = some v := by
  rw [cell_of_row _ _ j _ _ _ (World.alloc_heap_new W (.cells cur e))]
  exact h
abbrev NT_ : Ty := .pair (.int .i64) (.pair (.int .i64) (.pair (.sl 9 .str) (.sl 38 (.pair .str (.pair .bool (.sl 3 (.int .i64)))))))
/-- The elements that a slice of notes is read as. -/
theorem notes_cells {w : World} {S : Nat → Prop} (hS : ∀ g, S g → g < w.heap.size) {l : List NT_.den} {sv : Value} (h : ROc w S (.sl 79 NT_) l [sv]) :
    ∃ (A : Option Addr) (cap : Nat) (cs : List E4), sv = .slice A l.length cap ∧ cs.length = l.length ∧ Lies4 w.heap.size w sv cs ∧ ∀ (i : Nat) (x : NT_.den), l[i]? = some x → ∃ e : E4, cs[i]? = some e ∧ e.1 = x.1 ∧ e.2.1 = x.2.1 ∧ ROc w S (.sl 38 (.pair .str (.pair .bool (.sl 3 (.int .i64))))) x.2.2.2 [.slice e.2.2.2.1 e.2.2.2.2.1 e.2.2.2.2.2] := by
  obtain ⟨A, cap, e1, _, h3⟩ := h
  injection e1 with e1 _
  subst e1
  by_cases hl : l.length = 0
  · refine ⟨A, cap, [], rfl, by simp [hl], .inl ⟨⟨A, cap, by rw [hl]⟩, rfl⟩, fun i x hx => ?_⟩
    have : i < l.length := (List.getElem?_eq_some_iff.1 hx).1
    omega
  · obtain ⟨g, off, c0, e2, hg, _⟩ := h3 0 l[0] (List.getElem?_eq_getElem (by omega))
    have key : ∀ i : Nat, ∃ e : E4, ∀ x : NT_.den, l[i]? = some x → Has w g (off + i * 4) (cE e) ∧ e.1 = x.1 ∧ e.2.1 = x.2.1 ∧ ROc w S (.sl 38 (.pair .str (.pair .bool (.sl 3 (.int .i64))))) x.2.2.2 [.slice e.2.2.2.1 e.2.2.2.2.1 e.2.2.2.2.2] := by
      intro i
      cases hi : l[i]? with
      | none => exact ⟨e0, fun x hx => by cases hx⟩
      | some x =>
        obtain ⟨g', off', c, f1, f2, f3, f4, f5⟩ := h3 i x hi
        rw [e2] at f1
        injection f1 with f1
        injection f1 with f1 f1'
        subst f1
        subst f1'
        obtain ⟨c1, c2, r1, _, r2, c3, c4, r3, _, r4, c5, c6, r5, r6, r7, r8⟩ := f5
        obtain ⟨A5, cap5, s1, _⟩ := r7
        have r8' := r8
        obtain ⟨A6, cap6, s2, _⟩ := r8
        subst r1 r3 r5 s1 s2
        rw [show c1 = _ from r2, show c3 = _ from r4] at f4
        exact ⟨(x.1, x.2.1, (A5, x.2.2.1.length, cap5), (A6, x.2.2.2.length, cap6)), fun y hy => by cases hy; exact ⟨f4, rfl, rfl, r8'⟩⟩
    have hf := Classical.choice (α := { f : Nat → E4 // ∀ (i : Nat) (x : NT_.den), l[i]? = some x → Has w g (off + i * 4) (cE (f i)) ∧ (f i).1 = x.1 ∧ (f i).2.1 = x.2.1 ∧ ROc w S (.sl 38 (.pair .str (.pair .bool (.sl 3 (.int .i64))))) x.2.2.2 [.slice (f i).2.2.2.1 (f i).2.2.2.2.1 (f i).2.2.2.2.2] }) ⟨⟨fun i => (key i).choose, fun i => (key i).choose_spec⟩⟩
    obtain ⟨f, hf⟩ := hf
    have hget : ∀ i, i < l.length → ((List.range l.length).map f)[i]? = some (f i) := fun i hi => by simp [hi]
    refine ⟨A, cap, (List.range l.length).map f, rfl, by simp, .inr ⟨g, off, cap, by rw [e2]; simp, hS g hg, fun j c hj => ?_⟩, fun i x hx => ?_⟩
    · have hjl : j < l.length := by
        have := (List.getElem?_eq_some_iff.1 hj).1
        simpa using this
      rw [hget j hjl] at hj
      injection hj with hj
      subst hj
      exact (hf j l[j] (List.getElem?_eq_getElem hjl)).1
    · have hi := (List.getElem?_eq_some_iff.1 hx).1
      exact ⟨f i, hget i hi, (hf i x hx).2⟩
end Go.Proofs.YtkjeicijcecmlaaDoor.E
end
section
namespace Go.Proofs.YtkjeicijcecmlaaDoor.E
open Go Go.RowKit Go.Shelf
attribute [local go_sem] Oper.semAt_some
/-- Is it a note of tx that counts. -/
def isOf (tx : Int) (e : E4) : Bool := decide (e.2.1 = tx) && !decide (e.1 = 4)
set_option maxRecDepth 100000 in
set_option maxHeartbeats 4000000 in
theorem of_in (F : Fence) (n : Nat) (h4 : F.fn 120) (h6 : F.fn 156) (h8 : F.fn 176) (hro : F.round = none) (hn : 3 ≤ n) (a : Option Addr) (len cap : Nat) (safe tx : Int) (cs : List E4) (hreach : cs.length ≤ 1048576) (w : World) (hI : Lies4 w.heap.size w (.slice a len cap) cs) :
    CallsIn F n Go.Proofs.Tryd.prog 120 #[.agg #[.slice a len cap, .int .i64 safe], .int .i64 tx] w fun e W' =>
      (e = .returned (.int .i64 0) ∧ (∀ j, j < cs.length → isOf tx (cs.getD j e0) = false) ∨ ∃ k, k < cs.length ∧ e = .returned (.int .i64 (cs.getD k e0).1) ∧ isOf tx (cs.getD k e0) = true ∧ ∀ j, k < j → j < cs.length → isOf tx (cs.getD j e0) = false) ∧ Below w.heap.size w W' := by
  have h1 : 1 ≤ n := by omega
  refine callsIn_of_wp_marks Go.Proofs.Tryd.func120 rfl h4 ?_ hro
  simp only [Go.Proofs.Tryd.ntmps120, List.size_toArray, List.length_cons, List.length_nil, Nat.reduceAdd, Nat.reduceSub, Array.replicate_succ, Array.replicate_zero, List.push_toArray, List.append_toArray, List.nil_append, List.cons_append]
  gi_wp2_with (gi_at_call 156; refine (bk_in F (n - 1) h6 hro _ _ _ _).mono ?_; rintro e w' ⟨rfl, rfl⟩)
  have hB0 : Below w.heap.size w ((((w.alloc (.cells #[.slice a len cap, .int .i64 safe] 63)).alloc (.cells #[.int .i64 tx] 3)).alloc (.cells #[.int .i64 0] 3)).alloc (.cells #[.slice a len cap] 61)) :=
    ((((Below.refl _ w).alloc (Nat.le_refl _) _).alloc (by simp) _).alloc (by simp; omega) _).alloc (by simp; omega) _
  have b3 := ((Boxed.new (w.alloc (.cells #[.slice a len cap, .int .i64 safe] 63)) 3 (.int .i64 tx)).alloc (.cells #[.int .i64 0] 3)).alloc (.cells #[.slice a len cap] 61)
  have b4 := (Boxed.new ((w.alloc (.cells #[.slice a len cap, .int .i64 safe] 63)).alloc (.cells #[.int .i64 tx] 3)) 3 (.int .i64 0)).alloc (.cells #[.slice a len cap] 61)
  have bs := Boxed.new (((w.alloc (.cells #[.slice a len cap, .int .i64 safe] 63)).alloc (.cells #[.int .i64 tx] 3)).alloc (.cells #[.int .i64 0] 3)) 61 (.slice a len cap)
  simp only [World.size_alloc] at b3 b4 bs
  have hsz : ((((w.alloc (.cells #[.slice a len cap, .int .i64 safe] 63)).alloc (.cells #[.int .i64 tx] 3)).alloc (.cells #[.int .i64 0] 3)).alloc (.cells #[.slice a len cap] 61)).heap.size = w.heap.size + 1 + 1 + 1 + 1 := by simp only [World.size_alloc]
  generalize hW0 : ((((w.alloc (.cells #[.slice a len cap, .int .i64 safe] 63)).alloc (.cells #[.int .i64 tx] 3)).alloc (.cells #[.int .i64 0] 3)).alloc (.cells #[.slice a len cap] 61)) = W0 at hB0 b3 b4 bs hsz ⊢
  have hI0 : Lies4 (w.heap.size + 1 + 1 + 1 + 1) W0 (.slice a len cap) cs := by
    rcases hI.below hB0 with h | ⟨b, off, cap', e, hb, hc⟩
    · exact .inl h
    · exact .inr ⟨b, off, cap', e, by omega, hc⟩
  refine wpIn_rangeFunc_ownH hro h1 (gf := 176) (lb := #[.pointer (some ⟨w.heap.size + 1 + 1 + 1, 0, none⟩)]) rfl h8 (enters_of Go.Proofs.Tryd.func176 (by kernel_rfl) rfl)
    (bk_stops F (n - 1) h8 hro (by omega) (w.heap.size + 1 + 1 + 1) (w.heap.size + 1 + 1 + 1 + 1) (.slice a len cap) cs hreach W0 (by omega) (by omega) bs.cell hI0) belowK_t (belowK_b (by omega)) (Below.refl _ _) (fun _ => rfl)
    (fun pre W => ((∀ p ∈ pre, isOf tx p.2 = false) ∧ W.cell? ⟨w.heap.size + 1, 0, none⟩ = some (.int .i64 tx) ∧ W.cell? ⟨w.heap.size + 1 + 1, 0, none⟩ = some (.int .i64 0) ∧ W.frozen? ⟨w.heap.size + 1 + 1, 0, none⟩ = false ∧ w.heap.size + 1 + 1 + 1 + 1 ≤ W.heap.size) ∧ Below w.heap.size w W)
    (fun c pre W => (c = .ret ∧ ∃ ini last, pre = ini ++ [last] ∧ (∀ p ∈ ini, isOf tx p.2 = false) ∧ isOf tx last.2 = true ∧ W.cell? ⟨w.heap.size + 1 + 1, 0, none⟩ = some (.int .i64 last.2.1)) ∧ Below w.heap.size w W)
    (OwnFrom.and (Own.from (fun s A B row hs hg hr => ⟨hs.1, cell_kept hs.2.1 hg hr, cell_kept hs.2.2.1 hg hr, (frozen_kept hs.2.2.1 hg hr).trans hs.2.2.2.1, Nat.le_trans hs.2.2.2.2 hg.size⟩) _) (ownFrom_below (Nat.le_refl _) (by omega)))
    (fun c => OwnFrom.and (Own.from (fun s A B row hs hg hr => by obtain ⟨hc, ini, last, e1, e2, e3, e4⟩ := hs; exact ⟨hc, ini, last, e1, e2, e3, cell_kept e4 hg hr⟩) _) (ownFrom_below (Nat.le_refl _) (by omega)))
    ⟨⟨by simp, b3.cell, b4.cell, b4.frozen, by omega⟩, hB0⟩
    (fun x a' W => ∃ Bx, w.heap.size + 1 + 1 + 1 + 1 ≤ Bx ∧ W.cell? ⟨Bx, 0, none⟩ = some (.int .i64 x.2.1) ∧ W.cell? ⟨Bx, 1, none⟩ = some (.int .i64 x.2.2.1) ∧
      a' = { tmps := #[.agg #[.slice a len cap, .int .i64 safe], .int .i64 tx, .pointer (some ⟨w.heap.size, 0, none⟩), .pointer (some ⟨w.heap.size + 1, 0, none⟩), .pointer (some ⟨w.heap.size + 1 + 1, 0, none⟩), undef, .pointer (some ⟨Bx, 0, none⟩), .pointer (some ⟨w.heap.size, 0, none⟩), .slice a len cap, .func (.func 176) #[] #[.pointer (some ⟨w.heap.size + 1 + 1 + 1, 0, none⟩)], .int .i64 (x.1 : Int), .agg (cE x.2).toArray, undef, undef, undef, undef, undef, undef, undef, undef, undef, undef, undef], defers := [] })
    (fun x a' => Own.from (fun s A B row hs hg hr => by obtain ⟨Bx, e1, e2, e3, e4⟩ := hs; exact ⟨Bx, e1, cell_kept e2 hg hr, cell_kept e3 hg hr, e4⟩) _) ?assign ?body ?done ?stop
  case assign =>
    rintro l pre x W K ⟨⟨hp, h3, h4', h5, h9⟩, hB⟩ hK
    obtain ⟨i, z0, z1, v2, v3⟩ := x
    simp only [cE]
    gi_wp2
    exact hK _ _ ((KeepsOthers.alloc _ _).from _) ((Below.refl _ W).alloc h9 _) ⟨⟨hp, cellA _ h3, cellA _ h4', frozenA _ h4' h5, by simp; omega⟩, hB.alloc (by omega) _⟩
      ⟨W.heap.size, h9, cellN rfl, cellN rfl, rfl⟩
  case body =>
    rintro l pre x a' W hl hr ⟨⟨hp, h3, h4', h5, h9⟩, hB⟩ ⟨Bx, hBx, x0, x1, rfl⟩ hlt
    gi_wp2
    · have e1 : x.2.2.1 = tx := by assumption
      have e2 : (x.2.1 != 4) = true := by assumption
      have e2 : x.2.1 ≠ 4 := by simpa using e2
      exact ⟨(KeepsOthers.setCell _ _ _).from _, ⟨rfl, pre, x, rfl, hp, by simp [isOf, e1, e2], World.cell?_setCell_same' _ _ _ (by rw [h4']; rfl)⟩, hB.setCell (p := ⟨w.heap.size + 1 + 1, 0, none⟩) (by show _ ≤ w.heap.size + 1 + 1; omega) _⟩
    · have e2 : (x.2.1 != 4) = false := by assumption
      have e2 : x.2.1 = 4 := by simpa using e2
      exact ⟨KeepsFrom.refl _ _, Below.refl _ _, ⟨fun p hp' => (List.mem_append.1 hp').elim (hp p) (fun e => by simp at e; subst e; simp [isOf, e2]), h3, h4', h5, h9⟩, hB⟩
    · have e1 : ¬ x.2.2.1 = tx := by assumption
      exact ⟨KeepsFrom.refl _ _, Below.refl _ _, ⟨fun p hp' => (List.mem_append.1 hp').elim (hp p) (fun e => by simp at e; subst e; simp [isOf, e1]), h3, h4', h5, h9⟩, hB⟩
  case done =>
    rintro D ys W hD rfl ⟨⟨hne, h3, hcr, hfr, h9⟩, hB⟩ hK
    gi_wp2
    have hK' := (KeepsOthers.setCell W ⟨w.heap.size + 1 + 1, 0, none⟩ (.int .i64 0)).same D _ hK rfl
    refine ⟨by simp, .inl ⟨_, _, rfl, run_takeDeferred hK', ?_⟩⟩
    have hc5 := cell_kept (World.cell?_setCell_same' W ⟨w.heap.size + 1 + 1, 0, none⟩ (.int .i64 0) (by rw [hcr]; rfl)) (grownBy_putObj' _ D (.deferred none)) (fun r e => by cases e; exact ⟨_, hK', rfl⟩)
    refine ⟨.int .i64 0, ?_, .inl ⟨rfl, fun j hj => ?_⟩, (hB.setCell (p := ⟨w.heap.size + 1 + 1, 0, none⟩) (by show _ ≤ w.heap.size + 1 + 1; omega) _).trans (belowK_b (w := w) (Nat.le_refl _) _ D _ _ (by omega) hK' rfl rfl)⟩
    · simp [results, Go.Proofs.Tryd.f120, go_sem, hc5]
    · have := hne (backF cs (cs.length - 1 - j)) (List.mem_map.2 ⟨_, List.mem_range.2 (by omega), rfl⟩)
      simp only [backF] at this
      rwa [show cs.length - 1 - (cs.length - 1 - j) = j by omega] at this
  case stop =>
    rintro D c pre W hD ⟨k, hk, rfl⟩ ⟨⟨rfl, ini, last, e1, e2, e3, hcr⟩, hB⟩ hK
    gi_wp2
    refine ⟨by simp, .inl ⟨_, _, rfl, run_takeDeferred hK, ?_⟩⟩
    have hc5 := cell_kept hcr (grownBy_putObj' _ D (.deferred none)) (fun r e => by cases e; exact ⟨_, hK, rfl⟩)
    obtain ⟨k', rfl⟩ : ∃ k', k = k' + 1 := by
      cases k with
      | zero => simp at e1
      | succ k' => exact ⟨k', rfl⟩
    rw [List.range_succ, List.map_append] at e1
    obtain ⟨rfl, e5⟩ := List.append_inj' e1 rfl
    obtain rfl : backF cs k' = last := by simpa using e5
    refine ⟨.int .i64 (cs.getD (cs.length - 1 - k') e0).1, ?_, .inr ⟨cs.length - 1 - k', by omega, rfl, e3, fun j hj hj2 => ?_⟩, hB.trans (belowK_b (w := w) (Nat.le_refl _) W D _ _ (by omega) hK rfl rfl)⟩
    · simp [results, Go.Proofs.Tryd.f120, go_sem, hc5]
    · have := e2 (backF cs (cs.length - 1 - j)) (List.mem_map.2 ⟨_, List.mem_range.2 (by omega), rfl⟩)
      simp only [backF] at this
      rwa [show cs.length - 1 - (cs.length - 1 - j) = j by omega] at this
end Go.Proofs.YtkjeicijcecmlaaDoor.E
namespace Go.Proofs.YtkjeicijcecmlaaDoor.E
open Go Go.RowKit
def msi_LogDisk_of : List PM := [.rd, .own]
/-- What is noted of something last. -/
def g_Vi_LogDisk_of_0 (l : List (Int × Int × List ByteArray × List (ByteArray × Bool × List Int))) (tx : Int) : Int := ((l.reverse.find? fun n => decide (n.2.1 = tx) && !decide (n.1 = 4)).map (·.1)).getD 0
def g_Ai_LogDisk_of (l : List (Int × Int × List ByteArray × List (ByteArray × Bool × List Int))) : Bool := decide (l.length ≤ 1048576)
def Fi_LogDisk_of : FSem := fun ys => match ys with
  | [.val true [.sl .any 79 (.pair (.int .i64) (.pair (.int .i64) (.pair (.sl 9 .str) (.sl 38 (.pair .str (.pair .bool (.sl 3 (.int .i64)))))))) a0, .int .i64 a1], .val false [.int .i64 a2]] => some (g_Ai_LogDisk_of a0, .val false [.int .i64 (g_Vi_LogDisk_of_0 a0 a2)], [])
  | _ => none
theorem si_LogDisk_of : Sound Go.Proofs.Tryd.prog 120 msi_LogDisk_of Fi_LogDisk_of := by
  refine ⟨⟨_, Go.Proofs.Tryd.func120, by kernel_rfl, by kernel_rfl⟩, fun w S ψ ys vs r outs hF hh hg => ?_⟩
  unfold Fi_LogDisk_of at hF
  split at hF
  · rename_i l safe tx
    simp only [Option.some.injEq, Prod.mk.injEq, g_Ai_LogDisk_of, decide_eq_true_eq] at hF
    obtain ⟨hlen, rfl, rfl⟩ := hF
    match vs, hg with
    | [v0, v1], hg =>
    obtain ⟨⟨us, ⟨_, hb⟩, rfl, _⟩, ⟨us1, ⟨_, hb1⟩, rfl, _⟩, _⟩ := hg
    match us, hb, us1, hb1 with
    | [sv, iv], ⟨⟨_, h1⟩, h2, _⟩, [tv], ⟨h3, _⟩ =>
    have h2 : iv = .int .i64 safe := h2
    have h3 : tv = .int .i64 tx := h3
    subst h2 h3
    obtain ⟨A, cap, cs, rfl, hcl, hlies, hcs⟩ := notes_cells hh.lt h1
    have hof : ∀ (j : Nat) (x : NT_.den), l[j]? = some x → isOf tx (cs.getD j e0) = (decide (x.2.1 = tx) && !decide (x.1 = 4)) ∧ (cs.getD j e0).1 = x.1 := by
      intro j x hx
      obtain ⟨e, a1, a2, a3, _⟩ := hcs j x hx
      rw [List.getD, a1]
      simp only [Option.getD_some, isOf, a2, a3, and_self]
    refine Calls.mono ((callsIn_wide (n := 3)).1 (of_in Fence.wide 3 trivial trivial trivial rfl (by omega) A l.length cap safe tx cs (by omega) w hlies)) ?_
    rintro e w' ⟨he, hbl⟩
    have hval : e = .returned (.int .i64 (g_Vi_LogDisk_of_0 l tx)) := by
      unfold g_Vi_LogDisk_of_0
      rcases he with ⟨rfl, hno⟩ | ⟨k, hk, rfl, hk1, hk2⟩
      · rw [List.find?_eq_none.2]
        · rfl
        · intro x hx
          obtain ⟨i, hi, rfl⟩ := List.getElem_of_mem (List.mem_reverse.1 hx)
          have := hno i (by omega)
          rw [(hof i _ (List.getElem?_eq_getElem hi)).1] at this
          simpa using this
      · have hk' : k < l.length := by omega
        have hx := List.getElem?_eq_getElem hk'
        rw [(hof k _ hx).1] at hk1
        rw [(hof k _ hx).2]
        have : l.reverse.find? (fun n => decide (n.2.1 = tx) && !decide (n.1 = 4)) = some l[k] := by
          rw [List.find?_eq_some_iff_getElem]
          refine ⟨hk1, l.length - 1 - k, by simp; omega, ?_, fun j hj => ?_⟩
          · rw [List.getElem_reverse]
            congr 1
            omega
          · rw [List.getElem_reverse]
            have := hk2 (l.length - 1 - j) (by omega) (by omega)
            rw [(hof _ _ (List.getElem?_eq_getElem (by omega))).1] at this
            simp only [this, Bool.not_false]
        rw [this]
        rfl
    subst hval
    refine ⟨S, fun _ _ _ => False, ⟨hbl.os, hbl.tape, hbl.output, hbl.size, fun g hg' _ => ⟨hbl.block g hg', Iff.rfl, fun ⟨_, _, h⟩ => h⟩, ⟨fun g hg' => Nat.lt_of_lt_of_le (hh.lt g hg') hbl.size, fun _ _ _ h => h.elim, fun _ _ _ _ _ h => h.elim⟩⟩, ⟨[_], ⟨rfl, rfl, trivial⟩, rfl, fun _ => rfl⟩, rfl⟩
  · cases hF
end Go.Proofs.YtkjeicijcecmlaaDoor.E
end
section
namespace Go.Proofs.YtkjeicijcecmlaaDoor.E
open Go
set_option maxRecDepth 100000
set_option maxHeartbeats 0
set_option linter.all false
noncomputable def Eslices_Index_int_int : Env where
  tt := mkTI Go.Proofs.Tryd.prog
  fn := fun _ => none
  bxf := fun _ => none
  mv := []
  keep := fun b => match b with
    | 0 => [(0, false), (1, false), (7, false), (8, false)]
    | _ => []
  keepB := fun b => match b with
    | 0 => []
    | _ => []
  keepX := fun b => match b with
    | 0 => [(4, false)]
    | _ => []
  keepXB := fun b => match b with
    | 0 => []
    | _ => []
theorem goodFslices_Index_int_int : ∀ f ms F, Eslices_Index_int_int.fn f = some (ms, F) → Sound Go.Proofs.Tryd.prog f ms F := fun f ms F h => by cases h
theorem goodBslices_Index_int_int : ∀ f ms F, Eslices_Index_int_int.bxf f = some (ms, F) → SoundB Go.Proofs.Tryd.prog f ms F := fun f ms F h => by cases h
theorem goodslices_Index_int_int : Good Go.Proofs.Tryd.prog Eslices_Index_int_int := ⟨rfl, goodFslices_Index_int_int, goodBslices_Index_int_int⟩
noncomputable def Oslices_Index_int_int_0 : Orc := fun _ _ => none
noncomputable def msslices_Index_int_int : List PM := [.rd, .own]
noncomputable def lsslices_Index_int_int : List (Nat × Code) := loopsAll 0 (Go.Proofs.Tryd.f147.body.getD .skip)
noncomputable def cslices_Index_int_int_0 : Code := (loopOf 0 (Go.Proofs.Tryd.f147.body.getD .skip)).getD .skip
theorem lseqslices_Index_int_int : lsslices_Index_int_int = [(0, cslices_Index_int_int_0)] := by kernel_rfl
theorem mslices_Index_int_int_0 : ∀ p, p ∈ lsslices_Index_int_int → p.1 = 0 → p.2 = cslices_Index_int_int_0 := by
  intro p hp
  rw [lseqslices_Index_int_int] at hp
  simp only [List.mem_cons, List.not_mem_nil, or_false] at hp
  subst hp; simp
theorem kslices_Index_int_int_0 : OrcOk Eslices_Index_int_int Oslices_Index_int_int_0 lsslices_Index_int_int 0 := orcOk_none
noncomputable def hslices_Index_int_int_0 (y0 : List (Int)) (y1 : Int) (y2 : Int) (y3 : Int) : List (Pl × LV) := [(.T 0, .t (.val false [.sl .any 3 (.int .i64) y0])), (.T 1, .t (.val false [.int .i64 y1])), (.T 7, .t (.val false [.int .i64 y2])), (.T 8, .t (.val false [.int .i64 y3]))]
noncomputable def g_Sslices_Index_int_int_0 (y0 : List (Int)) (y1 : Int) (y2 : Int) : ((Int)) → RT ((Int)) (((Int)) ⊕ (Unit))
  | y3 => .br (true) (.br (decide (y3 < y2)) (.br (decide ((0 : Int) ≤ y3 ∧ y3 < (↑(List.length y0) : Int))) (.br (true) (.br (y1 == at_ (Ty.int IntKind.i64) y0 (Int.toNat y3)) (.out (.inl y3)) (.br (true) (.go (IntKind.wrap IntKind.i64 (y3 + (1 : Int)))) (.bad))) (.bad)) (.bad)) (.out (.inr (())))) (.bad)
noncomputable def g_Lslices_Index_int_int_0 (y0 : List (Int)) (y1 : Int) (y2 : Int) (x : (Int)) : Option (((Int)) ⊕ (Unit)) := loopO (g_Sslices_Index_int_int_0 y0 y1 y2) x
noncomputable def xslices_Index_int_int_0 (y0 : List (Int)) (y1 : Int) (y2 : Int) : (((Int)) ⊕ (Unit)) → Ex × List (Pl × LV) := fun
  | .inl r => (.ret, [(.T 4, .t (.val false [.int .i64 r]))])
  | .inr (r) => (.exit 0, [(.T 4, .t (.val false [.undef]))])
noncomputable def Oslices_Index_int_int_1 : Orc := fun b h => match b, h with
  | 0, [(.T 0, .t (.val false [.sl .any 3 (.int .i64) y0])), (.T 1, .t (.val false [.int .i64 y1])), (.T 7, .t (.val false [.int .i64 y2])), (.T 8, .t (.val false [.int .i64 y3]))] => some (okO (g_Lslices_Index_int_int_0 y0 y1 y2 y3), (.br (isL (valO (g_Lslices_Index_int_int_0 y0 y1 y2 y3))) (.leaf .ret [(.T 4, .t (.val false [.int .i64 (getL (valO (g_Lslices_Index_int_int_0 y0 y1 y2 y3)))]))]) (.leaf (.exit 0) [(.T 4, .t (.val false [.undef]))])))
  | b, h => Oslices_Index_int_int_0 b h
theorem bslices_Index_int_int_0 (y0 : List (Int)) (y1 : Int) (y2 : Int) (y3 : Int) : Tr.bt Eslices_Index_int_int Oslices_Index_int_int_0 (exec Eslices_Index_int_int 0 cslices_Index_int_int_0 (St.of (hslices_Index_int_int_0 y0 y1 y2 y3)) (leafRd Eslices_Index_int_int 0)) = (g_Sslices_Index_int_int_0 y0 y1 y2 y3).bt (fun (y3 : (Int)) => (hslices_Index_int_int_0 y0 y1 y2 y3)) (xslices_Index_int_int_0 y0 y1 y2) := by kernel_rfl
theorem kslices_Index_int_int_1 : OrcOk Eslices_Index_int_int Oslices_Index_int_int_1 lsslices_Index_int_int 1 := orc_add kslices_Index_int_int_0 (fun n p hp h ex h' ho => by
  obtain ⟨b, c⟩ := p
  obtain ⟨xt, h1, h2⟩ := ho
  have h1 : Oslices_Index_int_int_1 b h = some (true, xt) := h1
  unfold Oslices_Index_int_int_1 at h1
  split at h1
  · injection h1 with h1
    injection h1 with e1 e2
    subst e2
    have hc : c = cslices_Index_int_int_0 := mslices_Index_int_int_0 _ hp rfl
    subst hc
    right
    rename_i y0 y1 y2 y3
    have key := LT_step kslices_Index_int_int_0 hp (fun q hq => loopsAll_in _ _ _ _ hp hq) (fun (y3 : (Int)) => (hslices_Index_int_int_0 y0 y1 y2 y3)) (xslices_Index_int_int_0 y0 y1 y2) (g_Sslices_Index_int_int_0 y0 y1 y2) (fun x => by first | exact bslices_Index_int_int_0 y0 y1 y2 x) n (x := y3) (okO_some e1)
    have hx : ∀ r, XT.sel (.br (isL r) (.leaf .ret [(.T 4, .t (.val false [.int .i64 (getL r)]))]) (.leaf (.exit 0) [(.T 4, .t (.val false [.undef]))])) = xslices_Index_int_int_0 y0 y1 y2 r := fun r => by first | rfl | (rcases r with r | r <;> rfl) | (rcases r with r | r | r <;> rfl) | (rcases r with r | r | r | r <;> rfl)
    have h3 := (hx (valO (g_Lslices_Index_int_int_0 y0 y1 y2 y3))).symm.trans h2
    have e3 := congrArg Prod.fst h3
    have e4 := congrArg Prod.snd h3
    simp only at e3 e4
    rw [← e3, ← e4]
    exact key
  · exact .inl ⟨xt, h1, h2⟩)
noncomputable def g_Aslices_Index_int_int (a0 : List (Int)) (a1 : Int) : Bool := okO (g_Lslices_Index_int_int_0 a0 a1 (↑(List.length a0) : Int) (0 : Int))
noncomputable def g_Vslices_Index_int_int_0 (a0 : List (Int)) (a1 : Int) : Int := bif isL (valO (g_Lslices_Index_int_int_0 a0 a1 (↑(List.length a0) : Int) (0 : Int))) then getL (valO (g_Lslices_Index_int_int_0 a0 a1 (↑(List.length a0) : Int) (0 : Int))) else (-1 : Int)
noncomputable def Fslices_Index_int_int : FSem := fun ys => match ys with
  | [.val false [.sl .any 3 (.int .i64) a0], .val false [.int .i64 a1]] => some ((g_Aslices_Index_int_int a0 a1), .val false [.int .i64 (g_Vslices_Index_int_int_0 a0 a1)], [])
  | _ => none
theorem vslices_Index_int_int (a0 : List (Int)) (a1 : Int) : collapseH .std Eslices_Index_int_int Oslices_Index_int_int_1 (execFn Eslices_Index_int_int Go.Proofs.Tryd.f147 msslices_Index_int_int [.val false [.sl .any 3 (.int .i64) a0], .val false [.int .i64 a1]]) = some ((g_Aslices_Index_int_int a0 a1), .val false [.int .i64 (g_Vslices_Index_int_int_0 a0 a1)], []) := by kernel_rfl
theorem sslices_Index_int_int : Sound Go.Proofs.Tryd.prog 147 msslices_Index_int_int Fslices_Index_int_int := by
  refine fn_gen goodslices_Index_int_int (by kernel_rfl) .std (fn := Go.Proofs.Tryd.f147) (c := (Go.Proofs.Tryd.f147.body.getD .skip)) (o := Oslices_Index_int_int_1) (k := 1) (by kernel_rfl) (by kernel_rfl) (by kernel_rfl) (by kernel_rfl) (by decide) kslices_Index_int_int_1 ?_
  intro ys r outs h
  unfold Fslices_Index_int_int at h
  split at h
  · exact (vslices_Index_int_int _ _).trans h
  · cases h
end Go.Proofs.YtkjeicijcecmlaaDoor.E
end
section
namespace Go.Proofs.YtkjeicijcecmlaaDoor.E
open Go
set_option maxRecDepth 100000
set_option maxHeartbeats 0
set_option linter.all false
noncomputable def Eslices_Contains_int_int : Env where
  tt := mkTI Go.Proofs.Tryd.prog
  fn := fun f => match f with
    | 147 => some (msslices_Index_int_int, FSem.wk msslices_Index_int_int Fslices_Index_int_int)
    | _ => none
  bxf := fun _ => none
  mv := []
  keep := fun _ => []
  keepB := fun _ => []
  keepX := fun _ => []
  keepXB := fun _ => []
theorem goodFslices_Contains_int_int : ∀ f ms F, Eslices_Contains_int_int.fn f = some (ms, F) → Sound Go.Proofs.Tryd.prog f ms F := fun f ms F h => by
  unfold Eslices_Contains_int_int at h
  dsimp only at h
  split at h
  · injection h with h; injection h with e1 e2; subst e1 e2; exact Sound.wk sslices_Index_int_int
  · cases h
theorem goodBslices_Contains_int_int : ∀ f ms F, Eslices_Contains_int_int.bxf f = some (ms, F) → SoundB Go.Proofs.Tryd.prog f ms F := fun f ms F h => by cases h
theorem goodslices_Contains_int_int : Good Go.Proofs.Tryd.prog Eslices_Contains_int_int := ⟨rfl, goodFslices_Contains_int_int, goodBslices_Contains_int_int⟩
noncomputable def Oslices_Contains_int_int_0 : Orc := fun _ _ => none
noncomputable def msslices_Contains_int_int : List PM := [.rd, .own]
noncomputable def lsslices_Contains_int_int : List (Nat × Code) := loopsAll 0 (Go.Proofs.Tryd.f106.body.getD .skip)

theorem kslices_Contains_int_int_0 : OrcOk Eslices_Contains_int_int Oslices_Contains_int_int_0 lsslices_Contains_int_int 0 := orcOk_none
noncomputable def g_Aslices_Contains_int_int (a0 : List (Int)) (a1 : Int) : Bool := g_Aslices_Index_int_int a0 a1 && true
noncomputable def g_Vslices_Contains_int_int_0 (a0 : List (Int)) (a1 : Int) : Bool := decide (g_Vslices_Index_int_int_0 a0 a1 ≥ (0 : Int))
noncomputable def Fslices_Contains_int_int : FSem := fun ys => match ys with
  | [.val false [.sl .any 3 (.int .i64) a0], .val false [.int .i64 a1]] => some ((g_Aslices_Contains_int_int a0 a1), .val false [.bool (g_Vslices_Contains_int_int_0 a0 a1)], [])
  | _ => none
theorem vslices_Contains_int_int (a0 : List (Int)) (a1 : Int) : collapseH .std Eslices_Contains_int_int Oslices_Contains_int_int_0 (execFn Eslices_Contains_int_int Go.Proofs.Tryd.f106 msslices_Contains_int_int [.val false [.sl .any 3 (.int .i64) a0], .val false [.int .i64 a1]]) = some ((g_Aslices_Contains_int_int a0 a1), .val false [.bool (g_Vslices_Contains_int_int_0 a0 a1)], []) := by kernel_rfl
theorem sslices_Contains_int_int : Sound Go.Proofs.Tryd.prog 106 msslices_Contains_int_int Fslices_Contains_int_int := by
  refine fn_gen goodslices_Contains_int_int (by kernel_rfl) .std (fn := Go.Proofs.Tryd.f106) (c := (Go.Proofs.Tryd.f106.body.getD .skip)) (o := Oslices_Contains_int_int_0) (k := 0) (by kernel_rfl) (by kernel_rfl) (by kernel_rfl) (by kernel_rfl) (by decide) kslices_Contains_int_int_0 ?_
  intro ys r outs h
  unfold Fslices_Contains_int_int at h
  split at h
  · exact (vslices_Contains_int_int _ _).trans h
  · cases h
end Go.Proofs.YtkjeicijcecmlaaDoor.E
end
section
namespace Go.Proofs.YtkjeicijcecmlaaDoor.E
open Go
set_option maxRecDepth 100000
set_option maxHeartbeats 0
set_option linter.all false
noncomputable def Ei_LogDisk_open : Env where
  tt := mkTI Go.Proofs.Tryd.prog
  fn := fun f => match f with
    | 106 => some (msslices_Contains_int_int, FSem.wk msslices_Contains_int_int Fslices_Contains_int_int)
    | 120 => some (msi_LogDisk_of, FSem.wk msi_LogDisk_of Fi_LogDisk_of)
    | _ => none
  bxf := fun _ => none
  mv := []
  keep := fun b => match b with
    | 0 => [(1, false), (3, false), (7, false), (8, false), (9, false)]
    | _ => []
  keepB := fun b => match b with
    | 0 => [(1, false)]
    | _ => []
  keepX := fun b => match b with
    | 0 => [(3, false)]
    | _ => []
  keepXB := fun b => match b with
    | 0 => []
    | _ => []
theorem goodFi_LogDisk_open : ∀ f ms F, Ei_LogDisk_open.fn f = some (ms, F) → Sound Go.Proofs.Tryd.prog f ms F := fun f ms F h => by
  unfold Ei_LogDisk_open at h
  dsimp only at h
  split at h
  · injection h with h; injection h with e1 e2; subst e1 e2; exact Sound.wk sslices_Contains_int_int
  · injection h with h; injection h with e1 e2; subst e1 e2; exact Sound.wk si_LogDisk_of
  · cases h
theorem goodBi_LogDisk_open : ∀ f ms F, Ei_LogDisk_open.bxf f = some (ms, F) → SoundB Go.Proofs.Tryd.prog f ms F := fun f ms F h => by cases h
theorem goodi_LogDisk_open : Good Go.Proofs.Tryd.prog Ei_LogDisk_open := ⟨rfl, goodFi_LogDisk_open, goodBi_LogDisk_open⟩
noncomputable def Oi_LogDisk_open_0 : Orc := fun _ _ => none
noncomputable def msi_LogDisk_open : List PM := [.rd]
noncomputable def lsi_LogDisk_open : List (Nat × Code) := loopsAll 0 (Go.Proofs.Tryd.f102.body.getD .skip)
noncomputable def ci_LogDisk_open_0 : Code := (loopOf 0 (Go.Proofs.Tryd.f102.body.getD .skip)).getD .skip
theorem lseqi_LogDisk_open : lsi_LogDisk_open = [(0, ci_LogDisk_open_0)] := by kernel_rfl
theorem mi_LogDisk_open_0 : ∀ p, p ∈ lsi_LogDisk_open → p.1 = 0 → p.2 = ci_LogDisk_open_0 := by
  intro p hp
  rw [lseqi_LogDisk_open] at hp
  simp only [List.mem_cons, List.not_mem_nil, or_false] at hp
  subst hp; simp
theorem ki_LogDisk_open_0 : OrcOk Ei_LogDisk_open Oi_LogDisk_open_0 lsi_LogDisk_open 0 := orcOk_none
noncomputable def hi_LogDisk_open_0 (y0 : List (Int)) (y1 : List ((Int) × ((Int) × ((List (ByteArray)) × (List ((ByteArray) × ((Bool) × (List (Int))))))))) (y2 : Int) (y3 : Int) (y4 : List ((Int) × ((Int) × ((List (ByteArray)) × (List ((ByteArray) × ((Bool) × (List (Int))))))))) (y5 : Int) : List (Pl × LV) := [(.T 1, .t (.val false [.ptr 1 0 0])), (.T 3, .t (.val false [.row 3 0 0])), (.R 3 0, .r 0 (some ⟨false, .any, true, 3, (.int .i64), y0⟩)), (.T 7, .t (.val false [.sl .any 79 (.pair (.int .i64) (.pair (.int .i64) (.pair (.sl 9 .str) (.sl 38 (.pair .str (.pair .bool (.sl 3 (.int .i64)))))))) y1])), (.T 8, .t (.val false [.int .i64 y2])), (.T 9, .t (.val false [.int .i64 y3])), (.B 1, .b 0 false [.sl .any 79 (.pair (.int .i64) (.pair (.int .i64) (.pair (.sl 9 .str) (.sl 38 (.pair .str (.pair .bool (.sl 3 (.int .i64)))))))) y4, .int .i64 y5])]
noncomputable def g_Si_LogDisk_open_0 (y1 : List ((Int) × ((Int) × ((List (ByteArray)) × (List ((ByteArray) × ((Bool) × (List (Int))))))))) (y2 : Int) (y4 : List ((Int) × ((Int) × ((List (ByteArray)) × (List ((ByteArray) × ((Bool) × (List (Int))))))))) (y5 : Int) : ((List (Int)) × (Int)) → RT ((List (Int)) × (Int)) (((List (Int))))
  | (y0, y3) => .br (true) (.br (decide (y3 < y2)) (.br (decide ((0 : Int) ≤ y3 ∧ y3 < (↑(List.length y1) : Int))) (.br (true) (.br ((at_ (Ty.pair (Ty.int IntKind.i64) (Ty.pair (Ty.int IntKind.i64) (Ty.pair (Ty.sl (nat_lit 9) Ty.str) (Ty.sl (nat_lit 38) (Ty.pair Ty.str (Ty.pair Ty.bool (Ty.sl (nat_lit 3) (Ty.int IntKind.i64)))))))) y1 (Int.toNat y3)).1 == (1 : Int)) (.br (g_Aslices_Contains_int_int y0 (at_ (Ty.pair (Ty.int IntKind.i64) (Ty.pair (Ty.int IntKind.i64) (Ty.pair (Ty.sl (nat_lit 9) Ty.str) (Ty.sl (nat_lit 38) (Ty.pair Ty.str (Ty.pair Ty.bool (Ty.sl (nat_lit 3) (Ty.int IntKind.i64)))))))) y1 (Int.toNat y3)).2.1) (.br (!g_Vslices_Contains_int_int_0 y0 (at_ (Ty.pair (Ty.int IntKind.i64) (Ty.pair (Ty.int IntKind.i64) (Ty.pair (Ty.sl (nat_lit 9) Ty.str) (Ty.sl (nat_lit 38) (Ty.pair Ty.str (Ty.pair Ty.bool (Ty.sl (nat_lit 3) (Ty.int IntKind.i64)))))))) y1 (Int.toNat y3)).2.1) (.br (g_Ai_LogDisk_of y4) (.br (true) (.br (g_Vi_LogDisk_of_0 y4 (at_ (Ty.pair (Ty.int IntKind.i64) (Ty.pair (Ty.int IntKind.i64) (Ty.pair (Ty.sl (nat_lit 9) Ty.str) (Ty.sl (nat_lit 38) (Ty.pair Ty.str (Ty.pair Ty.bool (Ty.sl (nat_lit 3) (Ty.int IntKind.i64)))))))) y1 (Int.toNat y3)).2.1 == (1 : Int)) (.br (decide ((List.length y0 + List.length [(at_ (Ty.pair (Ty.int IntKind.i64) (Ty.pair (Ty.int IntKind.i64) (Ty.pair (Ty.sl (nat_lit 9) Ty.str) (Ty.sl (nat_lit 38) (Ty.pair Ty.str (Ty.pair Ty.bool (Ty.sl (nat_lit 3) (Ty.int IntKind.i64)))))))) y1 (Int.toNat y3)).2.1]) * nat_lit 8 ≤ nat_lit 140737488355328 ∧ List.length y0 + List.length [(at_ (Ty.pair (Ty.int IntKind.i64) (Ty.pair (Ty.int IntKind.i64) (Ty.pair (Ty.sl (nat_lit 9) Ty.str) (Ty.sl (nat_lit 38) (Ty.pair Ty.str (Ty.pair Ty.bool (Ty.sl (nat_lit 3) (Ty.int IntKind.i64)))))))) y1 (Int.toNat y3)).2.1] ≤ nat_lit 9223372036854775807)) (.br (true) (.go ((y0 ++ [(at_ (Ty.pair (Ty.int IntKind.i64) (Ty.pair (Ty.int IntKind.i64) (Ty.pair (Ty.sl (nat_lit 9) Ty.str) (Ty.sl (nat_lit 38) (Ty.pair Ty.str (Ty.pair Ty.bool (Ty.sl (nat_lit 3) (Ty.int IntKind.i64)))))))) y1 (Int.toNat y3)).2.1], IntKind.wrap IntKind.i64 (y3 + (1 : Int))))) (.bad)) (.bad)) (.br (true) (.go ((y0, IntKind.wrap IntKind.i64 (y3 + (1 : Int))))) (.bad))) (.bad)) (.bad)) (.br (true) (.go ((y0, IntKind.wrap IntKind.i64 (y3 + (1 : Int))))) (.bad))) (.bad)) (.br (true) (.go ((y0, IntKind.wrap IntKind.i64 (y3 + (1 : Int))))) (.bad))) (.bad)) (.bad)) (.out (y0))) (.bad)
noncomputable def g_Li_LogDisk_open_0 (y1 : List ((Int) × ((Int) × ((List (ByteArray)) × (List ((ByteArray) × ((Bool) × (List (Int))))))))) (y2 : Int) (y4 : List ((Int) × ((Int) × ((List (ByteArray)) × (List ((ByteArray) × ((Bool) × (List (Int))))))))) (y5 : Int) (x : (List (Int)) × (Int)) : Option (((List (Int)))) := loopO (g_Si_LogDisk_open_0 y1 y2 y4 y5) x
noncomputable def xi_LogDisk_open_0 (y1 : List ((Int) × ((Int) × ((List (ByteArray)) × (List ((ByteArray) × ((Bool) × (List (Int))))))))) (y2 : Int) (y4 : List ((Int) × ((Int) × ((List (ByteArray)) × (List ((ByteArray) × ((Bool) × (List (Int))))))))) (y5 : Int) : (((List (Int)))) → Ex × List (Pl × LV) := fun r => (.exit 0, [(.T 3, .t (.val false [.row 3 0 0])), (.R 3 0, .r 0 (some ⟨false, .any, true, 3, (.int .i64), r⟩))])
noncomputable def Oi_LogDisk_open_1 : Orc := fun b h => match b, h with
  | 0, [(.T 1, .t (.val false [.ptr 1 0 0])), (.T 3, .t (.val false [.row 3 0 0])), (.R 3 0, .r 0 (some ⟨false, .any, true, 3, (.int .i64), y0⟩)), (.T 7, .t (.val false [.sl .any 79 (.pair (.int .i64) (.pair (.int .i64) (.pair (.sl 9 .str) (.sl 38 (.pair .str (.pair .bool (.sl 3 (.int .i64)))))))) y1])), (.T 8, .t (.val false [.int .i64 y2])), (.T 9, .t (.val false [.int .i64 y3])), (.B 1, .b 0 false [.sl .any 79 (.pair (.int .i64) (.pair (.int .i64) (.pair (.sl 9 .str) (.sl 38 (.pair .str (.pair .bool (.sl 3 (.int .i64)))))))) y4, .int .i64 y5])] => some (okO (g_Li_LogDisk_open_0 y1 y2 y4 y5 (y0, y3)), (.leaf (.exit 0) [(.T 3, .t (.val false [.row 3 0 0])), (.R 3 0, .r 0 (some ⟨false, .any, true, 3, (.int .i64), (valO (g_Li_LogDisk_open_0 y1 y2 y4 y5 (y0, y3)))⟩))]))
  | b, h => Oi_LogDisk_open_0 b h
theorem bi_LogDisk_open_0 (y0 : List (Int)) (y1 : List ((Int) × ((Int) × ((List (ByteArray)) × (List ((ByteArray) × ((Bool) × (List (Int))))))))) (y2 : Int) (y3 : Int) (y4 : List ((Int) × ((Int) × ((List (ByteArray)) × (List ((ByteArray) × ((Bool) × (List (Int))))))))) (y5 : Int) : Tr.bt Ei_LogDisk_open Oi_LogDisk_open_0 (exec Ei_LogDisk_open 0 ci_LogDisk_open_0 (St.of (hi_LogDisk_open_0 y0 y1 y2 y3 y4 y5)) (leafRd Ei_LogDisk_open 0)) = (g_Si_LogDisk_open_0 y1 y2 y4 y5 (y0, y3)).bt (fun ((y0, y3) : (List (Int)) × (Int)) => (hi_LogDisk_open_0 y0 y1 y2 y3 y4 y5)) (xi_LogDisk_open_0 y1 y2 y4 y5) := by kernel_rfl
theorem ki_LogDisk_open_1 : OrcOk Ei_LogDisk_open Oi_LogDisk_open_1 lsi_LogDisk_open 1 := orc_add ki_LogDisk_open_0 (fun n p hp h ex h' ho => by
  obtain ⟨b, c⟩ := p
  obtain ⟨xt, h1, h2⟩ := ho
  have h1 : Oi_LogDisk_open_1 b h = some (true, xt) := h1
  unfold Oi_LogDisk_open_1 at h1
  split at h1
  · injection h1 with h1
    injection h1 with e1 e2
    subst e2
    have hc : c = ci_LogDisk_open_0 := mi_LogDisk_open_0 _ hp rfl
    subst hc
    right
    rename_i y0 y1 y2 y3 y4 y5
    have key := LT_step ki_LogDisk_open_0 hp (fun q hq => loopsAll_in _ _ _ _ hp hq) (fun ((y0, y3) : (List (Int)) × (Int)) => (hi_LogDisk_open_0 y0 y1 y2 y3 y4 y5)) (xi_LogDisk_open_0 y1 y2 y4 y5) (g_Si_LogDisk_open_0 y1 y2 y4 y5) (fun x => by first | exact bi_LogDisk_open_0 x.1 y1 y2 x.2 y4 y5) n (x := (y0, y3)) (okO_some e1)
    have hx : ∀ r, XT.sel (.leaf (.exit 0) [(.T 3, .t (.val false [.row 3 0 0])), (.R 3 0, .r 0 (some ⟨false, .any, true, 3, (.int .i64), r⟩))]) = xi_LogDisk_open_0 y1 y2 y4 y5 r := fun r => by first | rfl | (rcases r with r | r <;> rfl) | (rcases r with r | r | r <;> rfl) | (rcases r with r | r | r | r <;> rfl)
    have h3 := (hx (valO (g_Li_LogDisk_open_0 y1 y2 y4 y5 (y0, y3)))).symm.trans h2
    have e3 := congrArg Prod.fst h3
    have e4 := congrArg Prod.snd h3
    simp only at e3 e4
    rw [← e3, ← e4]
    exact key
  · exact .inl ⟨xt, h1, h2⟩)
noncomputable def g_Ai_LogDisk_open (a0 : List ((Int) × ((Int) × ((List (ByteArray)) × (List ((ByteArray) × ((Bool) × (List (Int))))))))) (a1 : Int) : Bool := okO (g_Li_LogDisk_open_0 a0 (↑(List.length a0) : Int) a0 a1 ([], (0 : Int)))
noncomputable def g_Vi_LogDisk_open_0 (a0 : List ((Int) × ((Int) × ((List (ByteArray)) × (List ((ByteArray) × ((Bool) × (List (Int))))))))) (a1 : Int) : List (Int) := valO (g_Li_LogDisk_open_0 a0 (↑(List.length a0) : Int) a0 a1 ([], (0 : Int)))
noncomputable def Fi_LogDisk_open : FSem := fun ys => match ys with
  | [.val true [.sl .any 79 (.pair (.int .i64) (.pair (.int .i64) (.pair (.sl 9 .str) (.sl 38 (.pair .str (.pair .bool (.sl 3 (.int .i64)))))))) a0, .int .i64 a1]] => some ((g_Ai_LogDisk_open a0 a1), .val false [.own .any true 3 (.int .i64) (g_Vi_LogDisk_open_0 a0 a1)], [])
  | _ => none
theorem vi_LogDisk_open (a0 : List ((Int) × ((Int) × ((List (ByteArray)) × (List ((ByteArray) × ((Bool) × (List (Int))))))))) (a1 : Int) : collapseH .std Ei_LogDisk_open Oi_LogDisk_open_1 (execFn Ei_LogDisk_open Go.Proofs.Tryd.f102 msi_LogDisk_open [.val true [.sl .any 79 (.pair (.int .i64) (.pair (.int .i64) (.pair (.sl 9 .str) (.sl 38 (.pair .str (.pair .bool (.sl 3 (.int .i64)))))))) a0, .int .i64 a1]]) = some ((g_Ai_LogDisk_open a0 a1), .val false [.own .any true 3 (.int .i64) (g_Vi_LogDisk_open_0 a0 a1)], []) := by kernel_rfl
theorem si_LogDisk_open : Sound Go.Proofs.Tryd.prog 102 msi_LogDisk_open Fi_LogDisk_open := by
  refine fn_gen goodi_LogDisk_open (by kernel_rfl) .std (fn := Go.Proofs.Tryd.f102) (c := (Go.Proofs.Tryd.f102.body.getD .skip)) (o := Oi_LogDisk_open_1) (k := 1) (by kernel_rfl) (by kernel_rfl) (by kernel_rfl) (by kernel_rfl) (by decide) ki_LogDisk_open_1 ?_
  intro ys r outs h
  unfold Fi_LogDisk_open at h
  split at h
  · exact (vi_LogDisk_open _ _).trans h
  · cases h
end Go.Proofs.YtkjeicijcecmlaaDoor.E
end
section
namespace Go.Proofs.YtkjeicijcecmlaaDoor.E
open Go
set_option maxRecDepth 100000
set_option maxHeartbeats 0
set_option linter.all false
noncomputable def Ei_DiskOpen : Env where
  tt := mkTI Go.Proofs.Tryd.prog
  fn := fun f => match f with
    | 101 => some (msi_DiskOk, FSem.wk msi_DiskOk Fi_DiskOk)
    | 102 => some (msi_LogDisk_open, FSem.wk msi_LogDisk_open Fi_LogDisk_open)
    | _ => none
  bxf := fun _ => none
  mv := []
  keep := fun _ => []
  keepB := fun _ => []
  keepX := fun _ => []
  keepXB := fun _ => []
theorem goodFi_DiskOpen : ∀ f ms F, Ei_DiskOpen.fn f = some (ms, F) → Sound Go.Proofs.Tryd.prog f ms F := fun f ms F h => by
  unfold Ei_DiskOpen at h
  dsimp only at h
  split at h
  · injection h with h; injection h with e1 e2; subst e1 e2; exact Sound.wk si_DiskOk
  · injection h with h; injection h with e1 e2; subst e1 e2; exact Sound.wk si_LogDisk_open
  · cases h
theorem goodBi_DiskOpen : ∀ f ms F, Ei_DiskOpen.bxf f = some (ms, F) → SoundB Go.Proofs.Tryd.prog f ms F := fun f ms F h => by cases h
theorem goodi_DiskOpen : Good Go.Proofs.Tryd.prog Ei_DiskOpen := ⟨rfl, goodFi_DiskOpen, goodBi_DiskOpen⟩
noncomputable def Oi_DiskOpen_0 : Orc := fun _ _ => none
noncomputable def msi_DiskOpen : List PM := [.rd]
noncomputable def lsi_DiskOpen : List (Nat × Code) := loopsAll 0 (Go.Proofs.Tryd.f36.body.getD .skip)

theorem ki_DiskOpen_0 : OrcOk Ei_DiskOpen Oi_DiskOpen_0 lsi_DiskOpen 0 := orcOk_none
noncomputable def g_Ai_DiskOpen (a0 : List ((Int) × ((Int) × ((List (ByteArray)) × (List ((ByteArray) × ((Bool) × (List (Int))))))))) (a1 : Int) : Bool := g_Ai_DiskOk a0 a1 && (!g_Vi_DiskOk_0 a0 a1 || g_Ai_LogDisk_open a0 a1)
noncomputable def g_Vi_DiskOpen_0 (a0 : List ((Int) × ((Int) × ((List (ByteArray)) × (List ((ByteArray) × ((Bool) × (List (Int))))))))) (a1 : Int) : List (Int) := bif !g_Vi_DiskOk_0 a0 a1 then [] else g_Vi_LogDisk_open_0 a0 a1
noncomputable def Fi_DiskOpen : FSem := fun ys => match ys with
  | [.val true [.sl .any 79 (.pair (.int .i64) (.pair (.int .i64) (.pair (.sl 9 .str) (.sl 38 (.pair .str (.pair .bool (.sl 3 (.int .i64)))))))) a0, .int .i64 a1]] => some ((g_Ai_DiskOpen a0 a1), .val false [.own .any true 3 (.int .i64) (g_Vi_DiskOpen_0 a0 a1)], [])
  | _ => none
theorem vi_DiskOpen (a0 : List ((Int) × ((Int) × ((List (ByteArray)) × (List ((ByteArray) × ((Bool) × (List (Int))))))))) (a1 : Int) : collapseH .std Ei_DiskOpen Oi_DiskOpen_0 (execFn Ei_DiskOpen Go.Proofs.Tryd.f36 msi_DiskOpen [.val true [.sl .any 79 (.pair (.int .i64) (.pair (.int .i64) (.pair (.sl 9 .str) (.sl 38 (.pair .str (.pair .bool (.sl 3 (.int .i64)))))))) a0, .int .i64 a1]]) = some ((g_Ai_DiskOpen a0 a1), .val false [.own .any true 3 (.int .i64) (g_Vi_DiskOpen_0 a0 a1)], []) := by kernel_rfl
theorem si_DiskOpen : Sound Go.Proofs.Tryd.prog 36 msi_DiskOpen Fi_DiskOpen := by
  refine fn_gen goodi_DiskOpen (by kernel_rfl) .std (fn := Go.Proofs.Tryd.f36) (c := (Go.Proofs.Tryd.f36.body.getD .skip)) (o := Oi_DiskOpen_0) (k := 0) (by kernel_rfl) (by kernel_rfl) (by kernel_rfl) (by kernel_rfl) (by decide) ki_DiskOpen_0 ?_
  intro ys r outs h
  unfold Fi_DiskOpen at h
  split at h
  · exact (vi_DiskOpen _ _).trans h
  · cases h
end Go.Proofs.YtkjeicijcecmlaaDoor.E
end
section
namespace Go.Proofs.YtkjeicijcecmlaaDoor.E
open Go
set_option maxRecDepth 100000
set_option maxHeartbeats 0
set_option linter.all false
noncomputable def Ei_isService : Env where
  tt := mkTI Go.Proofs.Tryd.prog
  fn := fun f => match f with
    | 129 => some (msi_in, FSem.wk msi_in Fi_in)
    | _ => none
  bxf := fun _ => none
  mv := []
  keep := fun _ => []
  keepB := fun _ => []
  keepX := fun _ => []
  keepXB := fun _ => []
theorem goodFi_isService : ∀ f ms F, Ei_isService.fn f = some (ms, F) → Sound Go.Proofs.Tryd.prog f ms F := fun f ms F h => by
  unfold Ei_isService at h
  dsimp only at h
  split at h
  · injection h with h; injection h with e1 e2; subst e1 e2; exact Sound.wk si_in
  · cases h
theorem goodBi_isService : ∀ f ms F, Ei_isService.bxf f = some (ms, F) → SoundB Go.Proofs.Tryd.prog f ms F := fun f ms F h => by cases h
theorem goodi_isService : Good Go.Proofs.Tryd.prog Ei_isService := ⟨rfl, goodFi_isService, goodBi_isService⟩
noncomputable def Oi_isService_0 : Orc := fun _ _ => none
noncomputable def msi_isService : List PM := [.own]
noncomputable def lsi_isService : List (Nat × Code) := loopsAll 0 (Go.Proofs.Tryd.f122.body.getD .skip)

theorem ki_isService_0 : OrcOk Ei_isService Oi_isService_0 lsi_isService 0 := orcOk_none
noncomputable def g_Ai_isService (a0 : Int) : Bool := g_Ai_in a0 (1 : Int) (3 : Int)
noncomputable def g_Vi_isService_0 (a0 : Int) : Bool := g_Vi_in_0 a0 (1 : Int) (3 : Int)
noncomputable def Fi_isService : FSem := fun ys => match ys with
  | [.val false [.int .i64 a0]] => some ((g_Ai_isService a0), .val false [.bool (g_Vi_isService_0 a0)], [])
  | _ => none
theorem vi_isService (a0 : Int) : collapseH .std Ei_isService Oi_isService_0 (execFn Ei_isService Go.Proofs.Tryd.f122 msi_isService [.val false [.int .i64 a0]]) = some ((g_Ai_isService a0), .val false [.bool (g_Vi_isService_0 a0)], []) := by kernel_rfl
theorem si_isService : Sound Go.Proofs.Tryd.prog 122 msi_isService Fi_isService := by
  refine fn_gen goodi_isService (by kernel_rfl) .std (fn := Go.Proofs.Tryd.f122) (c := (Go.Proofs.Tryd.f122.body.getD .skip)) (o := Oi_isService_0) (k := 0) (by kernel_rfl) (by kernel_rfl) (by kernel_rfl) (by kernel_rfl) (by decide) ki_isService_0 ?_
  intro ys r outs h
  unfold Fi_isService at h
  split at h
  · exact (vi_isService _).trans h
  · cases h
end Go.Proofs.YtkjeicijcecmlaaDoor.E
end
section
namespace Go.Proofs.YtkjeicijcecmlaaDoor.E
open Go
set_option maxRecDepth 100000
set_option maxHeartbeats 0
set_option linter.all false
noncomputable def Ei_reply : Env where
  tt := mkTI Go.Proofs.Tryd.prog
  fn := fun _ => none
  bxf := fun _ => none
  mv := []
  keep := fun _ => []
  keepB := fun _ => []
  keepX := fun _ => []
  keepXB := fun _ => []
theorem goodFi_reply : ∀ f ms F, Ei_reply.fn f = some (ms, F) → Sound Go.Proofs.Tryd.prog f ms F := fun f ms F h => by cases h
theorem goodBi_reply : ∀ f ms F, Ei_reply.bxf f = some (ms, F) → SoundB Go.Proofs.Tryd.prog f ms F := fun f ms F h => by cases h
theorem goodi_reply : Good Go.Proofs.Tryd.prog Ei_reply := ⟨rfl, goodFi_reply, goodBi_reply⟩
noncomputable def Oi_reply_0 : Orc := fun _ _ => none
noncomputable def msi_reply : List PM := [.own, .own, .own]
noncomputable def lsi_reply : List (Nat × Code) := loopsAll 0 (Go.Proofs.Tryd.f123.body.getD .skip)

theorem ki_reply_0 : OrcOk Ei_reply Oi_reply_0 lsi_reply 0 := orcOk_none
noncomputable def g_Vi_reply_0 (a0 : Int) (a1 : Int) (a2 : Int) : List ((Int) × ((Int) × ((Int) × ((Int) × ((Int) × ((Int) × ((Int) × ((Int) × ((Int) × ((Int) × (Int))))))))))) := [(a0, (0 : Int), a1, a2, (0 : Int), (0 : Int), (0 : Int), (0 : Int), (0 : Int), (0 : Int), (0 : Int))]
noncomputable def Fi_reply : FSem := fun ys => match ys with
  | [.val false [.int .i64 a0], .val false [.int .i64 a1], .val false [.int .i64 a2]] => some (true, .val false [.own .any true 139 (.pair (.int .i64) (.pair (.int .i64) (.pair (.int .i64) (.pair (.int .i64) (.pair (.int .i64) (.pair (.int .i64) (.pair (.int .i64) (.pair (.int .i64) (.pair (.int .i64) (.pair (.int .i64) (.int .i64))))))))))) (g_Vi_reply_0 a0 a1 a2)], [])
  | _ => none
theorem vi_reply (a0 : Int) (a1 : Int) (a2 : Int) : collapseH .std Ei_reply Oi_reply_0 (execFn Ei_reply Go.Proofs.Tryd.f123 msi_reply [.val false [.int .i64 a0], .val false [.int .i64 a1], .val false [.int .i64 a2]]) = some (true, .val false [.own .any true 139 (.pair (.int .i64) (.pair (.int .i64) (.pair (.int .i64) (.pair (.int .i64) (.pair (.int .i64) (.pair (.int .i64) (.pair (.int .i64) (.pair (.int .i64) (.pair (.int .i64) (.pair (.int .i64) (.int .i64))))))))))) (g_Vi_reply_0 a0 a1 a2)], []) := by kernel_rfl
theorem si_reply : Sound Go.Proofs.Tryd.prog 123 msi_reply Fi_reply := by
  refine fn_gen goodi_reply (by kernel_rfl) .std (fn := Go.Proofs.Tryd.f123) (c := (Go.Proofs.Tryd.f123.body.getD .skip)) (o := Oi_reply_0) (k := 0) (by kernel_rfl) (by kernel_rfl) (by kernel_rfl) (by kernel_rfl) (by decide) ki_reply_0 ?_
  intro ys r outs h
  unfold Fi_reply at h
  split at h
  · exact (vi_reply _ _ _).trans h
  · cases h
end Go.Proofs.YtkjeicijcecmlaaDoor.E
end
section
namespace Go.Proofs.YtkjeicijcecmlaaDoor.E
open Go
set_option maxRecDepth 100000
set_option maxHeartbeats 0
set_option linter.all false
noncomputable def Ei_PlcTick : Env where
  tt := mkTI Go.Proofs.Tryd.prog
  fn := fun f => match f with
    | 36 => some (msi_DiskOpen, FSem.wk msi_DiskOpen Fi_DiskOpen)
    | 122 => some (msi_isService, FSem.wk msi_isService Fi_isService)
    | 123 => some (msi_reply, FSem.wk msi_reply Fi_reply)
    | _ => none
  bxf := fun _ => none
  mv := []
  keep := fun b => match b with
    | 0 => [(0, false), (5, false), (12, false), (13, false), (14, false)]
    | _ => []
  keepB := fun b => match b with
    | 0 => []
    | _ => []
  keepX := fun b => match b with
    | 0 => [(5, false)]
    | _ => []
  keepXB := fun b => match b with
    | 0 => []
    | _ => []
theorem goodFi_PlcTick : ∀ f ms F, Ei_PlcTick.fn f = some (ms, F) → Sound Go.Proofs.Tryd.prog f ms F := fun f ms F h => by
  unfold Ei_PlcTick at h
  dsimp only at h
  split at h
  · injection h with h; injection h with e1 e2; subst e1 e2; exact Sound.wk si_DiskOpen
  · injection h with h; injection h with e1 e2; subst e1 e2; exact Sound.wk si_isService
  · injection h with h; injection h with e1 e2; subst e1 e2; exact Sound.wk si_reply
  · cases h
theorem goodBi_PlcTick : ∀ f ms F, Ei_PlcTick.bxf f = some (ms, F) → SoundB Go.Proofs.Tryd.prog f ms F := fun f ms F h => by cases h
theorem goodi_PlcTick : Good Go.Proofs.Tryd.prog Ei_PlcTick := ⟨rfl, goodFi_PlcTick, goodBi_PlcTick⟩
noncomputable def Oi_PlcTick_0 : Orc := fun _ _ => none
noncomputable def msi_PlcTick : List PM := [.own, .rd]
noncomputable def lsi_PlcTick : List (Nat × Code) := loopsAll 0 (Go.Proofs.Tryd.f64.body.getD .skip)
noncomputable def ci_PlcTick_0 : Code := (loopOf 0 (Go.Proofs.Tryd.f64.body.getD .skip)).getD .skip
theorem lseqi_PlcTick : lsi_PlcTick = [(0, ci_PlcTick_0)] := by kernel_rfl
theorem mi_PlcTick_0 : ∀ p, p ∈ lsi_PlcTick → p.1 = 0 → p.2 = ci_PlcTick_0 := by
  intro p hp
  rw [lseqi_PlcTick] at hp
  simp only [List.mem_cons, List.not_mem_nil, or_false] at hp
  subst hp; simp
theorem ki_PlcTick_0 : OrcOk Ei_PlcTick Oi_PlcTick_0 lsi_PlcTick 0 := orcOk_none
noncomputable def hi_PlcTick_0 (y0 : Int) (y1 : List ((Int) × ((Int) × ((Int) × ((Int) × ((Int) × ((Int) × ((Int) × ((Int) × ((Int) × ((Int) × (Int)))))))))))) (y2 : List (Int)) (y3 : Int) (y4 : Int) : List (Pl × LV) := [(.T 0, .t (.val false [.int .i64 y0])), (.T 5, .t (.val false [.row 5 0 0])), (.R 5 0, .r 0 (some ⟨false, .any, true, 139, (.pair (.int .i64) (.pair (.int .i64) (.pair (.int .i64) (.pair (.int .i64) (.pair (.int .i64) (.pair (.int .i64) (.pair (.int .i64) (.pair (.int .i64) (.pair (.int .i64) (.pair (.int .i64) (.int .i64))))))))))), y1⟩)), (.T 12, .t (.val false [.row 12 0 0])), (.R 12 0, .r 0 (some ⟨false, .any, true, 3, (.int .i64), y2⟩)), (.T 13, .t (.val false [.int .i64 y3])), (.T 14, .t (.val false [.int .i64 y4]))]
noncomputable def g_Si_PlcTick_0 (y0 : Int) (y2 : List (Int)) (y3 : Int) : ((List ((Int) × ((Int) × ((Int) × ((Int) × ((Int) × ((Int) × ((Int) × ((Int) × ((Int) × ((Int) × (Int)))))))))))) × (Int)) → RT ((List ((Int) × ((Int) × ((Int) × ((Int) × ((Int) × ((Int) × ((Int) × ((Int) × ((Int) × ((Int) × (Int)))))))))))) × (Int)) (((List ((Int) × ((Int) × ((Int) × ((Int) × ((Int) × ((Int) × ((Int) × ((Int) × ((Int) × ((Int) × (Int))))))))))))))
  | (y1, y4) => .br (true) (.br (decide (y4 < y3)) (.br (decide ((0 : Int) ≤ y4 ∧ y4 < (↑(List.length y2) : Int))) (.br (decide (Int.toNat y4 < List.length y2)) (.br (true) (.br (decide ((List.length y1 + List.length (g_Vi_reply_0 (7 : Int) y0 (at_ (Ty.int IntKind.i64) y2 (Int.toNat y4)))) * nat_lit 88 ≤ nat_lit 140737488355328 ∧ List.length y1 + List.length (g_Vi_reply_0 (7 : Int) y0 (at_ (Ty.int IntKind.i64) y2 (Int.toNat y4))) ≤ nat_lit 9223372036854775807)) (.br (true) (.go ((y1 ++ g_Vi_reply_0 (7 : Int) y0 (at_ (Ty.int IntKind.i64) y2 (Int.toNat y4)), IntKind.wrap IntKind.i64 (y4 + (1 : Int))))) (.bad)) (.bad)) (.bad)) (.bad)) (.bad)) (.out (y1))) (.bad)
noncomputable def g_Li_PlcTick_0 (y0 : Int) (y2 : List (Int)) (y3 : Int) (x : (List ((Int) × ((Int) × ((Int) × ((Int) × ((Int) × ((Int) × ((Int) × ((Int) × ((Int) × ((Int) × (Int)))))))))))) × (Int)) : Option (((List ((Int) × ((Int) × ((Int) × ((Int) × ((Int) × ((Int) × ((Int) × ((Int) × ((Int) × ((Int) × (Int)))))))))))))) := loopO (g_Si_PlcTick_0 y0 y2 y3) x
noncomputable def xi_PlcTick_0 (y0 : Int) (y2 : List (Int)) (y3 : Int) : (((List ((Int) × ((Int) × ((Int) × ((Int) × ((Int) × ((Int) × ((Int) × ((Int) × ((Int) × ((Int) × (Int)))))))))))))) → Ex × List (Pl × LV) := fun r => (.exit 0, [(.T 5, .t (.val false [.row 5 0 0])), (.R 5 0, .r 0 (some ⟨false, .any, true, 139, (.pair (.int .i64) (.pair (.int .i64) (.pair (.int .i64) (.pair (.int .i64) (.pair (.int .i64) (.pair (.int .i64) (.pair (.int .i64) (.pair (.int .i64) (.pair (.int .i64) (.pair (.int .i64) (.int .i64))))))))))), r⟩))])
noncomputable def Oi_PlcTick_1 : Orc := fun b h => match b, h with
  | 0, [(.T 0, .t (.val false [.int .i64 y0])), (.T 5, .t (.val false [.row 5 0 0])), (.R 5 0, .r 0 (some ⟨false, .any, true, 139, (.pair (.int .i64) (.pair (.int .i64) (.pair (.int .i64) (.pair (.int .i64) (.pair (.int .i64) (.pair (.int .i64) (.pair (.int .i64) (.pair (.int .i64) (.pair (.int .i64) (.pair (.int .i64) (.int .i64))))))))))), y1⟩)), (.T 12, .t (.val false [.row 12 0 0])), (.R 12 0, .r 0 (some ⟨false, .any, true, 3, (.int .i64), y2⟩)), (.T 13, .t (.val false [.int .i64 y3])), (.T 14, .t (.val false [.int .i64 y4]))] => some (okO (g_Li_PlcTick_0 y0 y2 y3 (y1, y4)), (.leaf (.exit 0) [(.T 5, .t (.val false [.row 5 0 0])), (.R 5 0, .r 0 (some ⟨false, .any, true, 139, (.pair (.int .i64) (.pair (.int .i64) (.pair (.int .i64) (.pair (.int .i64) (.pair (.int .i64) (.pair (.int .i64) (.pair (.int .i64) (.pair (.int .i64) (.pair (.int .i64) (.pair (.int .i64) (.int .i64))))))))))), (valO (g_Li_PlcTick_0 y0 y2 y3 (y1, y4)))⟩))]))
  | b, h => Oi_PlcTick_0 b h
theorem bi_PlcTick_0 (y0 : Int) (y1 : List ((Int) × ((Int) × ((Int) × ((Int) × ((Int) × ((Int) × ((Int) × ((Int) × ((Int) × ((Int) × (Int)))))))))))) (y2 : List (Int)) (y3 : Int) (y4 : Int) : Tr.bt Ei_PlcTick Oi_PlcTick_0 (exec Ei_PlcTick 0 ci_PlcTick_0 (St.of (hi_PlcTick_0 y0 y1 y2 y3 y4)) (leafRd Ei_PlcTick 0)) = (g_Si_PlcTick_0 y0 y2 y3 (y1, y4)).bt (fun ((y1, y4) : (List ((Int) × ((Int) × ((Int) × ((Int) × ((Int) × ((Int) × ((Int) × ((Int) × ((Int) × ((Int) × (Int)))))))))))) × (Int)) => (hi_PlcTick_0 y0 y1 y2 y3 y4)) (xi_PlcTick_0 y0 y2 y3) := by kernel_rfl
theorem ki_PlcTick_1 : OrcOk Ei_PlcTick Oi_PlcTick_1 lsi_PlcTick 1 := orc_add ki_PlcTick_0 (fun n p hp h ex h' ho => by
  obtain ⟨b, c⟩ := p
  obtain ⟨xt, h1, h2⟩ := ho
  have h1 : Oi_PlcTick_1 b h = some (true, xt) := h1
  unfold Oi_PlcTick_1 at h1
  split at h1
  · injection h1 with h1
    injection h1 with e1 e2
    subst e2
    have hc : c = ci_PlcTick_0 := mi_PlcTick_0 _ hp rfl
    subst hc
    right
    rename_i y0 y1 y2 y3 y4
    have key := LT_step ki_PlcTick_0 hp (fun q hq => loopsAll_in _ _ _ _ hp hq) (fun ((y1, y4) : (List ((Int) × ((Int) × ((Int) × ((Int) × ((Int) × ((Int) × ((Int) × ((Int) × ((Int) × ((Int) × (Int)))))))))))) × (Int)) => (hi_PlcTick_0 y0 y1 y2 y3 y4)) (xi_PlcTick_0 y0 y2 y3) (g_Si_PlcTick_0 y0 y2 y3) (fun x => by first | exact bi_PlcTick_0 y0 x.1 y2 y3 x.2) n (x := (y1, y4)) (okO_some e1)
    have hx : ∀ r, XT.sel (.leaf (.exit 0) [(.T 5, .t (.val false [.row 5 0 0])), (.R 5 0, .r 0 (some ⟨false, .any, true, 139, (.pair (.int .i64) (.pair (.int .i64) (.pair (.int .i64) (.pair (.int .i64) (.pair (.int .i64) (.pair (.int .i64) (.pair (.int .i64) (.pair (.int .i64) (.pair (.int .i64) (.pair (.int .i64) (.int .i64))))))))))), r⟩))]) = xi_PlcTick_0 y0 y2 y3 r := fun r => by first | rfl | (rcases r with r | r <;> rfl) | (rcases r with r | r | r <;> rfl) | (rcases r with r | r | r | r <;> rfl)
    have h3 := (hx (valO (g_Li_PlcTick_0 y0 y2 y3 (y1, y4)))).symm.trans h2
    have e3 := congrArg Prod.fst h3
    have e4 := congrArg Prod.snd h3
    simp only at e3 e4
    rw [← e3, ← e4]
    exact key
  · exact .inl ⟨xt, h1, h2⟩)
noncomputable def g_Ai_PlcTick (a0 : Int) (a1 : List ((Int) × ((Int) × ((List (ByteArray)) × (List ((ByteArray) × ((Bool) × (List (Int))))))))) (a2 : Int) : Bool := g_Ai_isService a0 && (!g_Vi_isService_0 a0 || g_Ai_DiskOpen a1 a2 && okO (g_Li_PlcTick_0 a0 (g_Vi_DiskOpen_0 a1 a2) (↑(List.length (g_Vi_DiskOpen_0 a1 a2)) : Int) ([], (0 : Int))))
noncomputable def g_Vi_PlcTick_0 (a0 : Int) (a1 : List ((Int) × ((Int) × ((List (ByteArray)) × (List ((ByteArray) × ((Bool) × (List (Int))))))))) (a2 : Int) : List ((Int) × ((Int) × ((Int) × ((Int) × ((Int) × ((Int) × ((Int) × ((Int) × ((Int) × ((Int) × (Int))))))))))) := bif !g_Vi_isService_0 a0 then [] else valO (g_Li_PlcTick_0 a0 (g_Vi_DiskOpen_0 a1 a2) (↑(List.length (g_Vi_DiskOpen_0 a1 a2)) : Int) ([], (0 : Int)))
noncomputable def Fi_PlcTick : FSem := fun ys => match ys with
  | [.val false [.int .i64 a0], .val true [.sl .any 79 (.pair (.int .i64) (.pair (.int .i64) (.pair (.sl 9 .str) (.sl 38 (.pair .str (.pair .bool (.sl 3 (.int .i64)))))))) a1, .int .i64 a2]] => some ((g_Ai_PlcTick a0 a1 a2), .val false [.own .any true 139 (.pair (.int .i64) (.pair (.int .i64) (.pair (.int .i64) (.pair (.int .i64) (.pair (.int .i64) (.pair (.int .i64) (.pair (.int .i64) (.pair (.int .i64) (.pair (.int .i64) (.pair (.int .i64) (.int .i64))))))))))) (g_Vi_PlcTick_0 a0 a1 a2)], [])
  | _ => none
theorem vi_PlcTick (a0 : Int) (a1 : List ((Int) × ((Int) × ((List (ByteArray)) × (List ((ByteArray) × ((Bool) × (List (Int))))))))) (a2 : Int) : collapseH .std Ei_PlcTick Oi_PlcTick_1 (execFn Ei_PlcTick Go.Proofs.Tryd.f64 msi_PlcTick [.val false [.int .i64 a0], .val true [.sl .any 79 (.pair (.int .i64) (.pair (.int .i64) (.pair (.sl 9 .str) (.sl 38 (.pair .str (.pair .bool (.sl 3 (.int .i64)))))))) a1, .int .i64 a2]]) = some ((g_Ai_PlcTick a0 a1 a2), .val false [.own .any true 139 (.pair (.int .i64) (.pair (.int .i64) (.pair (.int .i64) (.pair (.int .i64) (.pair (.int .i64) (.pair (.int .i64) (.pair (.int .i64) (.pair (.int .i64) (.pair (.int .i64) (.pair (.int .i64) (.int .i64))))))))))) (g_Vi_PlcTick_0 a0 a1 a2)], []) := by kernel_rfl
theorem si_PlcTick : Sound Go.Proofs.Tryd.prog 64 msi_PlcTick Fi_PlcTick := by
  refine fn_gen goodi_PlcTick (by kernel_rfl) .std (fn := Go.Proofs.Tryd.f64) (c := (Go.Proofs.Tryd.f64.body.getD .skip)) (o := Oi_PlcTick_1) (k := 1) (by kernel_rfl) (by kernel_rfl) (by kernel_rfl) (by kernel_rfl) (by decide) ki_PlcTick_1 ?_
  intro ys r outs h
  unfold Fi_PlcTick at h
  split at h
  · exact (vi_PlcTick _ _ _).trans h
  · cases h
end Go.Proofs.YtkjeicijcecmlaaDoor.E
end
section
namespace Go.Proofs.YtkjeicijcecmlaaDoor.E
open Go
set_option maxRecDepth 100000
set_option maxHeartbeats 0
set_option linter.all false
noncomputable def Es_l1In : Env where
  tt := mkTI Go.Proofs.Tryd.prog
  fn := fun _ => none
  bxf := fun _ => none
  mv := []
  keep := fun _ => []
  keepB := fun _ => []
  keepX := fun _ => []
  keepXB := fun _ => []
theorem goodFs_l1In : ∀ f ms F, Es_l1In.fn f = some (ms, F) → Sound Go.Proofs.Tryd.prog f ms F := fun f ms F h => by cases h
theorem goodBs_l1In : ∀ f ms F, Es_l1In.bxf f = some (ms, F) → SoundB Go.Proofs.Tryd.prog f ms F := fun f ms F h => by cases h
theorem goods_l1In : Good Go.Proofs.Tryd.prog Es_l1In := ⟨rfl, goodFs_l1In, goodBs_l1In⟩
noncomputable def Os_l1In_0 : Orc := fun _ _ => none
noncomputable def mss_l1In : List PM := [.own, .own, .own]
noncomputable def lss_l1In : List (Nat × Code) := loopsAll 0 (Go.Proofs.Tryd.f119.body.getD .skip)

theorem ks_l1In_0 : OrcOk Es_l1In Os_l1In_0 lss_l1In 0 := orcOk_none
noncomputable def g_As_l1In (a0 : Int) (a1 : Int) (a2 : Int) : Bool := !decide (a0 ≥ a1) || true
noncomputable def g_Vs_l1In_0 (a0 : Int) (a1 : Int) (a2 : Int) : Bool := bif decide (a0 ≥ a1) then decide (a0 ≤ a2) else false
noncomputable def Fs_l1In : FSem := fun ys => match ys with
  | [.val false [.int .i64 a0], .val false [.int .i64 a1], .val false [.int .i64 a2]] => some ((g_As_l1In a0 a1 a2), .val false [.bool (g_Vs_l1In_0 a0 a1 a2)], [])
  | _ => none
theorem vs_l1In (a0 : Int) (a1 : Int) (a2 : Int) : collapseH .std Es_l1In Os_l1In_0 (execFn Es_l1In Go.Proofs.Tryd.f119 mss_l1In [.val false [.int .i64 a0], .val false [.int .i64 a1], .val false [.int .i64 a2]]) = some ((g_As_l1In a0 a1 a2), .val false [.bool (g_Vs_l1In_0 a0 a1 a2)], []) := by kernel_rfl
theorem ss_l1In : Sound Go.Proofs.Tryd.prog 119 mss_l1In Fs_l1In := by
  refine fn_gen goods_l1In (by kernel_rfl) .std (fn := Go.Proofs.Tryd.f119) (c := (Go.Proofs.Tryd.f119.body.getD .skip)) (o := Os_l1In_0) (k := 0) (by kernel_rfl) (by kernel_rfl) (by kernel_rfl) (by kernel_rfl) (by decide) ks_l1In_0 ?_
  intro ys r outs h
  unfold Fs_l1In at h
  split at h
  · exact (vs_l1In _ _ _).trans h
  · cases h
end Go.Proofs.YtkjeicijcecmlaaDoor.E
end
section
namespace Go.Proofs.YtkjeicijcecmlaaDoor.E
open Go
set_option maxRecDepth 100000
set_option maxHeartbeats 0
set_option linter.all false
noncomputable def Es_l1Key : Env where
  tt := mkTI Go.Proofs.Tryd.prog
  fn := fun f => match f with
    | 119 => some (mss_l1In, FSem.wk mss_l1In Fs_l1In)
    | _ => none
  bxf := fun _ => none
  mv := []
  keep := fun b => match b with
    | 0 => [(0, false), (3, false)]
    | _ => []
  keepB := fun b => match b with
    | 0 => []
    | _ => []
  keepX := fun b => match b with
    | 0 => [(2, false)]
    | _ => []
  keepXB := fun b => match b with
    | 0 => []
    | _ => []
theorem goodFs_l1Key : ∀ f ms F, Es_l1Key.fn f = some (ms, F) → Sound Go.Proofs.Tryd.prog f ms F := fun f ms F h => by
  unfold Es_l1Key at h
  dsimp only at h
  split at h
  · injection h with h; injection h with e1 e2; subst e1 e2; exact Sound.wk ss_l1In
  · cases h
theorem goodBs_l1Key : ∀ f ms F, Es_l1Key.bxf f = some (ms, F) → SoundB Go.Proofs.Tryd.prog f ms F := fun f ms F h => by cases h
theorem goods_l1Key : Good Go.Proofs.Tryd.prog Es_l1Key := ⟨rfl, goodFs_l1Key, goodBs_l1Key⟩
noncomputable def Os_l1Key_0 : Orc := fun _ _ => none
noncomputable def mss_l1Key : List PM := [.own]
noncomputable def lss_l1Key : List (Nat × Code) := loopsAll 0 (Go.Proofs.Tryd.f75.body.getD .skip)
noncomputable def cs_l1Key_0 : Code := (loopOf 0 (Go.Proofs.Tryd.f75.body.getD .skip)).getD .skip
theorem lseqs_l1Key : lss_l1Key = [(0, cs_l1Key_0)] := by kernel_rfl
theorem ms_l1Key_0 : ∀ p, p ∈ lss_l1Key → p.1 = 0 → p.2 = cs_l1Key_0 := by
  intro p hp
  rw [lseqs_l1Key] at hp
  simp only [List.mem_cons, List.not_mem_nil, or_false] at hp
  subst hp; simp
theorem ks_l1Key_0 : OrcOk Es_l1Key Os_l1Key_0 lss_l1Key 0 := orcOk_none
noncomputable def hs_l1Key_0 (y0 : ByteArray) (y1 : Int) : List (Pl × LV) := [(.T 0, .t (.val false [.str y0])), (.T 3, .t (.val false [.int .i64 y1]))]
noncomputable def g_Ss_l1Key_0 (y0 : ByteArray) : ((Int)) → RT ((Int)) (((Bool)) ⊕ (Unit))
  | y1 => .br (true) (.br (decide (y1 < (↑(ByteArray.size y0) : Int))) (.br (decide ((0 : Int) ≤ y1 ∧ y1 < (↑(ByteArray.size y0) : Int))) (.br (true) (.br (decide (byteAt y0 (Int.toNat y1) < (48 : Int))) (.out (.inl false)) (.br (decide ((0 : Int) ≤ y1 ∧ y1 < (↑(ByteArray.size y0) : Int))) (.br (true) (.br (decide (byteAt y0 (Int.toNat y1) > (57 : Int))) (.out (.inl false)) (.br (true) (.go (IntKind.wrap IntKind.i64 (y1 + (1 : Int)))) (.bad))) (.bad)) (.bad))) (.bad)) (.bad)) (.out (.inr (())))) (.bad)
noncomputable def g_Ls_l1Key_0 (y0 : ByteArray) (x : (Int)) : Option (((Bool)) ⊕ (Unit)) := loopO (g_Ss_l1Key_0 y0) x
noncomputable def xs_l1Key_0 (y0 : ByteArray) : (((Bool)) ⊕ (Unit)) → Ex × List (Pl × LV) := fun
  | .inl r => (.ret, [(.T 2, .t (.val false [.bool r]))])
  | .inr (r) => (.exit 0, [(.T 2, .t (.val false [.undef]))])
noncomputable def Os_l1Key_1 : Orc := fun b h => match b, h with
  | 0, [(.T 0, .t (.val false [.str y0])), (.T 3, .t (.val false [.int .i64 y1]))] => some (okO (g_Ls_l1Key_0 y0 y1), (.br (isL (valO (g_Ls_l1Key_0 y0 y1))) (.leaf .ret [(.T 2, .t (.val false [.bool (getL (valO (g_Ls_l1Key_0 y0 y1)))]))]) (.leaf (.exit 0) [(.T 2, .t (.val false [.undef]))])))
  | b, h => Os_l1Key_0 b h
theorem bs_l1Key_0 (y0 : ByteArray) (y1 : Int) : Tr.bt Es_l1Key Os_l1Key_0 (exec Es_l1Key 0 cs_l1Key_0 (St.of (hs_l1Key_0 y0 y1)) (leafRd Es_l1Key 0)) = (g_Ss_l1Key_0 y0 y1).bt (fun (y1 : (Int)) => (hs_l1Key_0 y0 y1)) (xs_l1Key_0 y0) := by kernel_rfl
theorem ks_l1Key_1 : OrcOk Es_l1Key Os_l1Key_1 lss_l1Key 1 := orc_add ks_l1Key_0 (fun n p hp h ex h' ho => by
  obtain ⟨b, c⟩ := p
  obtain ⟨xt, h1, h2⟩ := ho
  have h1 : Os_l1Key_1 b h = some (true, xt) := h1
  unfold Os_l1Key_1 at h1
  split at h1
  · injection h1 with h1
    injection h1 with e1 e2
    subst e2
    have hc : c = cs_l1Key_0 := ms_l1Key_0 _ hp rfl
    subst hc
    right
    rename_i y0 y1
    have key := LT_step ks_l1Key_0 hp (fun q hq => loopsAll_in _ _ _ _ hp hq) (fun (y1 : (Int)) => (hs_l1Key_0 y0 y1)) (xs_l1Key_0 y0) (g_Ss_l1Key_0 y0) (fun x => by first | exact bs_l1Key_0 y0 x) n (x := y1) (okO_some e1)
    have hx : ∀ r, XT.sel (.br (isL r) (.leaf .ret [(.T 2, .t (.val false [.bool (getL r)]))]) (.leaf (.exit 0) [(.T 2, .t (.val false [.undef]))])) = xs_l1Key_0 y0 r := fun r => by first | rfl | (rcases r with r | r <;> rfl) | (rcases r with r | r | r <;> rfl) | (rcases r with r | r | r | r <;> rfl)
    have h3 := (hx (valO (g_Ls_l1Key_0 y0 y1))).symm.trans h2
    have e3 := congrArg Prod.fst h3
    have e4 := congrArg Prod.snd h3
    simp only at e3 e4
    rw [← e3, ← e4]
    exact key
  · exact .inl ⟨xt, h1, h2⟩)
noncomputable def g_As_l1Key (a0 : ByteArray) : Bool := g_As_l1In (↑(ByteArray.size a0) : Int) (2 : Int) (3 : Int) && (!g_Vs_l1In_0 (↑(ByteArray.size a0) : Int) (2 : Int) (3 : Int) || decide ((0 : Int) ≤ (0 : Int) ∧ (0 : Int) < (↑(ByteArray.size a0) : Int)) && (decide (byteAt a0 (nat_lit 0) < (97 : Int)) || decide ((0 : Int) ≤ (0 : Int) ∧ (0 : Int) < (↑(ByteArray.size a0) : Int)) && (decide (byteAt a0 (nat_lit 0) > (122 : Int)) || okO (g_Ls_l1Key_0 a0 (1 : Int)))))
noncomputable def g_Vs_l1Key_0 (a0 : ByteArray) : Bool := bif !g_Vs_l1In_0 (↑(ByteArray.size a0) : Int) (2 : Int) (3 : Int) then false else bif decide (byteAt a0 (nat_lit 0) < (97 : Int)) then false else bif decide (byteAt a0 (nat_lit 0) > (122 : Int)) then false else bif isL (valO (g_Ls_l1Key_0 a0 (1 : Int))) then getL (valO (g_Ls_l1Key_0 a0 (1 : Int))) else true
noncomputable def Fs_l1Key : FSem := fun ys => match ys with
  | [.val false [.str a0]] => some ((g_As_l1Key a0), .val false [.bool (g_Vs_l1Key_0 a0)], [])
  | _ => none
theorem vs_l1Key (a0 : ByteArray) : collapseH .std Es_l1Key Os_l1Key_1 (execFn Es_l1Key Go.Proofs.Tryd.f75 mss_l1Key [.val false [.str a0]]) = some ((g_As_l1Key a0), .val false [.bool (g_Vs_l1Key_0 a0)], []) := by kernel_rfl
theorem ss_l1Key : Sound Go.Proofs.Tryd.prog 75 mss_l1Key Fs_l1Key := by
  refine fn_gen goods_l1Key (by kernel_rfl) .std (fn := Go.Proofs.Tryd.f75) (c := (Go.Proofs.Tryd.f75.body.getD .skip)) (o := Os_l1Key_1) (k := 1) (by kernel_rfl) (by kernel_rfl) (by kernel_rfl) (by kernel_rfl) (by decide) ks_l1Key_1 ?_
  intro ys r outs h
  unfold Fs_l1Key at h
  split at h
  · exact (vs_l1Key _).trans h
  · cases h
end Go.Proofs.YtkjeicijcecmlaaDoor.E
end
section
namespace Go.Proofs.YtkjeicijcecmlaaDoor.E
open Go
set_option maxRecDepth 100000
set_option maxHeartbeats 0
set_option linter.all false
noncomputable def Es_l1Val : Env where
  tt := mkTI Go.Proofs.Tryd.prog
  fn := fun f => match f with
    | 119 => some (mss_l1In, FSem.wk mss_l1In Fs_l1In)
    | _ => none
  bxf := fun _ => none
  mv := []
  keep := fun b => match b with
    | 0 => [(0, false), (3, false)]
    | _ => []
  keepB := fun b => match b with
    | 0 => []
    | _ => []
  keepX := fun b => match b with
    | 0 => [(0, false), (2, false)]
    | _ => []
  keepXB := fun b => match b with
    | 0 => []
    | _ => []
theorem goodFs_l1Val : ∀ f ms F, Es_l1Val.fn f = some (ms, F) → Sound Go.Proofs.Tryd.prog f ms F := fun f ms F h => by
  unfold Es_l1Val at h
  dsimp only at h
  split at h
  · injection h with h; injection h with e1 e2; subst e1 e2; exact Sound.wk ss_l1In
  · cases h
theorem goodBs_l1Val : ∀ f ms F, Es_l1Val.bxf f = some (ms, F) → SoundB Go.Proofs.Tryd.prog f ms F := fun f ms F h => by cases h
theorem goods_l1Val : Good Go.Proofs.Tryd.prog Es_l1Val := ⟨rfl, goodFs_l1Val, goodBs_l1Val⟩
noncomputable def Os_l1Val_0 : Orc := fun _ _ => none
noncomputable def mss_l1Val : List PM := [.rd]
noncomputable def lss_l1Val : List (Nat × Code) := loopsAll 0 (Go.Proofs.Tryd.f76.body.getD .skip)
noncomputable def cs_l1Val_0 : Code := (loopOf 0 (Go.Proofs.Tryd.f76.body.getD .skip)).getD .skip
theorem lseqs_l1Val : lss_l1Val = [(0, cs_l1Val_0)] := by kernel_rfl
theorem ms_l1Val_0 : ∀ p, p ∈ lss_l1Val → p.1 = 0 → p.2 = cs_l1Val_0 := by
  intro p hp
  rw [lseqs_l1Val] at hp
  simp only [List.mem_cons, List.not_mem_nil, or_false] at hp
  subst hp; simp
theorem ks_l1Val_0 : OrcOk Es_l1Val Os_l1Val_0 lss_l1Val 0 := orcOk_none
noncomputable def hs_l1Val_0 (y0 : List (Int)) (y1 : Int) : List (Pl × LV) := [(.T 0, .t (.val false [.sl .any 3 (.int .i64) y0])), (.T 3, .t (.val false [.int .i64 y1]))]
noncomputable def g_Ss_l1Val_0 (y0 : List (Int)) : ((Int)) → RT ((Int)) (((Bool)) ⊕ (Unit))
  | y1 => .br (true) (.br (decide (y1 < (↑(List.length y0) : Int))) (.br (decide ((0 : Int) ≤ y1 ∧ y1 < (↑(List.length y0) : Int))) (.br (g_As_l1In (at_ (Ty.int IntKind.i64) y0 (Int.toNat y1)) (0 : Int) (9999 : Int)) (.br (!g_Vs_l1In_0 (at_ (Ty.int IntKind.i64) y0 (Int.toNat y1)) (0 : Int) (9999 : Int)) (.out (.inl false)) (.br (true) (.go (IntKind.wrap IntKind.i64 (y1 + (1 : Int)))) (.bad))) (.bad)) (.bad)) (.out (.inr (())))) (.bad)
noncomputable def g_Ls_l1Val_0 (y0 : List (Int)) (x : (Int)) : Option (((Bool)) ⊕ (Unit)) := loopO (g_Ss_l1Val_0 y0) x
noncomputable def xs_l1Val_0 (y0 : List (Int)) : (((Bool)) ⊕ (Unit)) → Ex × List (Pl × LV) := fun
  | .inl r => (.ret, [(.T 0, .t (.val false [.sl .any 3 (.int .i64) y0])), (.T 2, .t (.val false [.bool r]))])
  | .inr (r) => (.exit 0, [(.T 0, .t (.val false [.sl .any 3 (.int .i64) y0])), (.T 2, .t (.val false [.undef]))])
noncomputable def Os_l1Val_1 : Orc := fun b h => match b, h with
  | 0, [(.T 0, .t (.val false [.sl .any 3 (.int .i64) y0])), (.T 3, .t (.val false [.int .i64 y1]))] => some (okO (g_Ls_l1Val_0 y0 y1), (.br (isL (valO (g_Ls_l1Val_0 y0 y1))) (.leaf .ret [(.T 0, .t (.val false [.sl .any 3 (.int .i64) y0])), (.T 2, .t (.val false [.bool (getL (valO (g_Ls_l1Val_0 y0 y1)))]))]) (.leaf (.exit 0) [(.T 0, .t (.val false [.sl .any 3 (.int .i64) y0])), (.T 2, .t (.val false [.undef]))])))
  | b, h => Os_l1Val_0 b h
theorem bs_l1Val_0 (y0 : List (Int)) (y1 : Int) : Tr.bt Es_l1Val Os_l1Val_0 (exec Es_l1Val 0 cs_l1Val_0 (St.of (hs_l1Val_0 y0 y1)) (leafRd Es_l1Val 0)) = (g_Ss_l1Val_0 y0 y1).bt (fun (y1 : (Int)) => (hs_l1Val_0 y0 y1)) (xs_l1Val_0 y0) := by kernel_rfl
theorem ks_l1Val_1 : OrcOk Es_l1Val Os_l1Val_1 lss_l1Val 1 := orc_add ks_l1Val_0 (fun n p hp h ex h' ho => by
  obtain ⟨b, c⟩ := p
  obtain ⟨xt, h1, h2⟩ := ho
  have h1 : Os_l1Val_1 b h = some (true, xt) := h1
  unfold Os_l1Val_1 at h1
  split at h1
  · injection h1 with h1
    injection h1 with e1 e2
    subst e2
    have hc : c = cs_l1Val_0 := ms_l1Val_0 _ hp rfl
    subst hc
    right
    rename_i y0 y1
    have key := LT_step ks_l1Val_0 hp (fun q hq => loopsAll_in _ _ _ _ hp hq) (fun (y1 : (Int)) => (hs_l1Val_0 y0 y1)) (xs_l1Val_0 y0) (g_Ss_l1Val_0 y0) (fun x => by first | exact bs_l1Val_0 y0 x) n (x := y1) (okO_some e1)
    have hx : ∀ r, XT.sel (.br (isL r) (.leaf .ret [(.T 0, .t (.val false [.sl .any 3 (.int .i64) y0])), (.T 2, .t (.val false [.bool (getL r)]))]) (.leaf (.exit 0) [(.T 0, .t (.val false [.sl .any 3 (.int .i64) y0])), (.T 2, .t (.val false [.undef]))])) = xs_l1Val_0 y0 r := fun r => by first | rfl | (rcases r with r | r <;> rfl) | (rcases r with r | r | r <;> rfl) | (rcases r with r | r | r | r <;> rfl)
    have h3 := (hx (valO (g_Ls_l1Val_0 y0 y1))).symm.trans h2
    have e3 := congrArg Prod.fst h3
    have e4 := congrArg Prod.snd h3
    simp only at e3 e4
    rw [← e3, ← e4]
    exact key
  · exact .inl ⟨xt, h1, h2⟩)
noncomputable def g_As_l1Val (a0 : List (Int)) : Bool := okO (g_Ls_l1Val_0 a0 (0 : Int)) && (isL (valO (g_Ls_l1Val_0 a0 (0 : Int))) || g_As_l1In (↑(List.length a0) : Int) (1 : Int) (3 : Int))
noncomputable def g_Vs_l1Val_0 (a0 : List (Int)) : Bool := bif isL (valO (g_Ls_l1Val_0 a0 (0 : Int))) then getL (valO (g_Ls_l1Val_0 a0 (0 : Int))) else g_Vs_l1In_0 (↑(List.length a0) : Int) (1 : Int) (3 : Int)
noncomputable def Fs_l1Val : FSem := fun ys => match ys with
  | [.val false [.sl .any 3 (.int .i64) a0]] => some ((g_As_l1Val a0), .val false [.bool (g_Vs_l1Val_0 a0)], [])
  | _ => none
theorem vs_l1Val (a0 : List (Int)) : collapseH .std Es_l1Val Os_l1Val_1 (execFn Es_l1Val Go.Proofs.Tryd.f76 mss_l1Val [.val false [.sl .any 3 (.int .i64) a0]]) = some ((g_As_l1Val a0), .val false [.bool (g_Vs_l1Val_0 a0)], []) := by kernel_rfl
theorem ss_l1Val : Sound Go.Proofs.Tryd.prog 76 mss_l1Val Fs_l1Val := by
  refine fn_gen goods_l1Val (by kernel_rfl) .std (fn := Go.Proofs.Tryd.f76) (c := (Go.Proofs.Tryd.f76.body.getD .skip)) (o := Os_l1Val_1) (k := 1) (by kernel_rfl) (by kernel_rfl) (by kernel_rfl) (by kernel_rfl) (by decide) ks_l1Val_1 ?_
  intro ys r outs h
  unfold Fs_l1Val at h
  split at h
  · exact (vs_l1Val _).trans h
  · cases h
end Go.Proofs.YtkjeicijcecmlaaDoor.E
end
section
namespace Go.Proofs.YtkjeicijcecmlaaDoor.E
open Go
set_option maxRecDepth 100000
set_option maxHeartbeats 0
set_option linter.all false
noncomputable def Es_WrtOk : Env where
  tt := mkTI Go.Proofs.Tryd.prog
  fn := fun f => match f with
    | 75 => some (mss_l1Key, FSem.wk mss_l1Key Fs_l1Key)
    | 76 => some (mss_l1Val, FSem.wk mss_l1Val Fs_l1Val)
    | _ => none
  bxf := fun _ => none
  mv := []
  keep := fun _ => []
  keepB := fun _ => []
  keepX := fun _ => []
  keepXB := fun _ => []
theorem goodFs_WrtOk : ∀ f ms F, Es_WrtOk.fn f = some (ms, F) → Sound Go.Proofs.Tryd.prog f ms F := fun f ms F h => by
  unfold Es_WrtOk at h
  dsimp only at h
  split at h
  · injection h with h; injection h with e1 e2; subst e1 e2; exact Sound.wk ss_l1Key
  · injection h with h; injection h with e1 e2; subst e1 e2; exact Sound.wk ss_l1Val
  · cases h
theorem goodBs_WrtOk : ∀ f ms F, Es_WrtOk.bxf f = some (ms, F) → SoundB Go.Proofs.Tryd.prog f ms F := fun f ms F h => by cases h
theorem goods_WrtOk : Good Go.Proofs.Tryd.prog Es_WrtOk := ⟨rfl, goodFs_WrtOk, goodBs_WrtOk⟩
noncomputable def Os_WrtOk_0 : Orc := fun _ _ => none
noncomputable def mss_WrtOk : List PM := [.rd]
noncomputable def lss_WrtOk : List (Nat × Code) := loopsAll 0 (Go.Proofs.Tryd.f21.body.getD .skip)

theorem ks_WrtOk_0 : OrcOk Es_WrtOk Os_WrtOk_0 lss_WrtOk 0 := orcOk_none
noncomputable def g_As_WrtOk (a0 : ByteArray) (a1 : Bool) (a2 : List (Int)) : Bool := bif a1 then g_As_l1Key a0 && (!g_Vs_l1Key_0 a0 || true) else g_As_l1Key a0 && (!g_Vs_l1Key_0 a0 || g_As_l1Val a2)
noncomputable def g_Vs_WrtOk_0 (a0 : ByteArray) (a1 : Bool) (a2 : List (Int)) : Bool := bif a1 then bif g_Vs_l1Key_0 a0 then (↑(List.length a2) : Int) == (0 : Int) else false else bif g_Vs_l1Key_0 a0 then g_Vs_l1Val_0 a2 else false
noncomputable def Fs_WrtOk : FSem := fun ys => match ys with
  | [.val true [.str a0, .bool a1, .sl .any 3 (.int .i64) a2]] => some ((g_As_WrtOk a0 a1 a2), .val false [.bool (g_Vs_WrtOk_0 a0 a1 a2)], [])
  | _ => none
theorem vs_WrtOk (a0 : ByteArray) (a1 : Bool) (a2 : List (Int)) : collapseH .std Es_WrtOk Os_WrtOk_0 (execFn Es_WrtOk Go.Proofs.Tryd.f21 mss_WrtOk [.val true [.str a0, .bool a1, .sl .any 3 (.int .i64) a2]]) = some ((g_As_WrtOk a0 a1 a2), .val false [.bool (g_Vs_WrtOk_0 a0 a1 a2)], []) := by kernel_rfl
theorem ss_WrtOk : Sound Go.Proofs.Tryd.prog 21 mss_WrtOk Fs_WrtOk := by
  refine fn_gen goods_WrtOk (by kernel_rfl) .std (fn := Go.Proofs.Tryd.f21) (c := (Go.Proofs.Tryd.f21.body.getD .skip)) (o := Os_WrtOk_0) (k := 0) (by kernel_rfl) (by kernel_rfl) (by kernel_rfl) (by kernel_rfl) (by decide) ks_WrtOk_0 ?_
  intro ys r outs h
  unfold Fs_WrtOk at h
  split at h
  · exact (vs_WrtOk _ _ _).trans h
  · cases h
end Go.Proofs.YtkjeicijcecmlaaDoor.E
end
section
namespace Go.Proofs.YtkjeicijcecmlaaDoor.E
open Go
set_option maxRecDepth 100000
set_option maxHeartbeats 0
set_option linter.all false
noncomputable def Es_l2Has : Env where
  tt := mkTI Go.Proofs.Tryd.prog
  fn := fun _ => none
  bxf := fun _ => none
  mv := []
  keep := fun b => match b with
    | 0 => [(0, false), (1, false), (5, false)]
    | _ => []
  keepB := fun b => match b with
    | 0 => []
    | _ => []
  keepX := fun b => match b with
    | 0 => [(4, false)]
    | _ => []
  keepXB := fun b => match b with
    | 0 => []
    | _ => []
theorem goodFs_l2Has : ∀ f ms F, Es_l2Has.fn f = some (ms, F) → Sound Go.Proofs.Tryd.prog f ms F := fun f ms F h => by cases h
theorem goodBs_l2Has : ∀ f ms F, Es_l2Has.bxf f = some (ms, F) → SoundB Go.Proofs.Tryd.prog f ms F := fun f ms F h => by cases h
theorem goods_l2Has : Good Go.Proofs.Tryd.prog Es_l2Has := ⟨rfl, goodFs_l2Has, goodBs_l2Has⟩
noncomputable def Os_l2Has_0 : Orc := fun _ _ => none
noncomputable def mss_l2Has : List PM := [.rd, .own]
noncomputable def lss_l2Has : List (Nat × Code) := loopsAll 0 (Go.Proofs.Tryd.f105.body.getD .skip)
noncomputable def cs_l2Has_0 : Code := (loopOf 0 (Go.Proofs.Tryd.f105.body.getD .skip)).getD .skip
theorem lseqs_l2Has : lss_l2Has = [(0, cs_l2Has_0)] := by kernel_rfl
theorem ms_l2Has_0 : ∀ p, p ∈ lss_l2Has → p.1 = 0 → p.2 = cs_l2Has_0 := by
  intro p hp
  rw [lseqs_l2Has] at hp
  simp only [List.mem_cons, List.not_mem_nil, or_false] at hp
  subst hp; simp
theorem ks_l2Has_0 : OrcOk Es_l2Has Os_l2Has_0 lss_l2Has 0 := orcOk_none
noncomputable def hs_l2Has_0 (y0 : List (ByteArray)) (y1 : ByteArray) (y2 : Int) : List (Pl × LV) := [(.T 0, .t (.val false [.sl .any 9 .str y0])), (.T 1, .t (.val false [.str y1])), (.T 5, .t (.val false [.int .i64 y2]))]
noncomputable def g_Ss_l2Has_0 (y0 : List (ByteArray)) (y1 : ByteArray) : ((Int)) → RT ((Int)) (((Bool)) ⊕ (Unit))
  | y2 => .br (true) (.br (decide (y2 < (↑(List.length y0) : Int))) (.br (decide ((0 : Int) ≤ y2 ∧ y2 < (↑(List.length y0) : Int))) (.br (true) (.br (ByteArray.toList (at_ Ty.str y0 (Int.toNat y2)) == ByteArray.toList y1) (.out (.inl true)) (.br (true) (.go (IntKind.wrap IntKind.i64 (y2 + (1 : Int)))) (.bad))) (.bad)) (.bad)) (.out (.inr (())))) (.bad)
noncomputable def g_Ls_l2Has_0 (y0 : List (ByteArray)) (y1 : ByteArray) (x : (Int)) : Option (((Bool)) ⊕ (Unit)) := loopO (g_Ss_l2Has_0 y0 y1) x
noncomputable def xs_l2Has_0 (y0 : List (ByteArray)) (y1 : ByteArray) : (((Bool)) ⊕ (Unit)) → Ex × List (Pl × LV) := fun
  | .inl r => (.ret, [(.T 4, .t (.val false [.bool r]))])
  | .inr (r) => (.exit 0, [(.T 4, .t (.val false [.undef]))])
noncomputable def Os_l2Has_1 : Orc := fun b h => match b, h with
  | 0, [(.T 0, .t (.val false [.sl .any 9 .str y0])), (.T 1, .t (.val false [.str y1])), (.T 5, .t (.val false [.int .i64 y2]))] => some (okO (g_Ls_l2Has_0 y0 y1 y2), (.br (isL (valO (g_Ls_l2Has_0 y0 y1 y2))) (.leaf .ret [(.T 4, .t (.val false [.bool (getL (valO (g_Ls_l2Has_0 y0 y1 y2)))]))]) (.leaf (.exit 0) [(.T 4, .t (.val false [.undef]))])))
  | b, h => Os_l2Has_0 b h
theorem bs_l2Has_0 (y0 : List (ByteArray)) (y1 : ByteArray) (y2 : Int) : Tr.bt Es_l2Has Os_l2Has_0 (exec Es_l2Has 0 cs_l2Has_0 (St.of (hs_l2Has_0 y0 y1 y2)) (leafRd Es_l2Has 0)) = (g_Ss_l2Has_0 y0 y1 y2).bt (fun (y2 : (Int)) => (hs_l2Has_0 y0 y1 y2)) (xs_l2Has_0 y0 y1) := by kernel_rfl
theorem ks_l2Has_1 : OrcOk Es_l2Has Os_l2Has_1 lss_l2Has 1 := orc_add ks_l2Has_0 (fun n p hp h ex h' ho => by
  obtain ⟨b, c⟩ := p
  obtain ⟨xt, h1, h2⟩ := ho
  have h1 : Os_l2Has_1 b h = some (true, xt) := h1
  unfold Os_l2Has_1 at h1
  split at h1
  · injection h1 with h1
    injection h1 with e1 e2
    subst e2
    have hc : c = cs_l2Has_0 := ms_l2Has_0 _ hp rfl
    subst hc
    right
    rename_i y0 y1 y2
    have key := LT_step ks_l2Has_0 hp (fun q hq => loopsAll_in _ _ _ _ hp hq) (fun (y2 : (Int)) => (hs_l2Has_0 y0 y1 y2)) (xs_l2Has_0 y0 y1) (g_Ss_l2Has_0 y0 y1) (fun x => by first | exact bs_l2Has_0 y0 y1 x) n (x := y2) (okO_some e1)
    have hx : ∀ r, XT.sel (.br (isL r) (.leaf .ret [(.T 4, .t (.val false [.bool (getL r)]))]) (.leaf (.exit 0) [(.T 4, .t (.val false [.undef]))])) = xs_l2Has_0 y0 y1 r := fun r => by first | rfl | (rcases r with r | r <;> rfl) | (rcases r with r | r | r <;> rfl) | (rcases r with r | r | r | r <;> rfl)
    have h3 := (hx (valO (g_Ls_l2Has_0 y0 y1 y2))).symm.trans h2
    have e3 := congrArg Prod.fst h3
    have e4 := congrArg Prod.snd h3
    simp only at e3 e4
    rw [← e3, ← e4]
    exact key
  · exact .inl ⟨xt, h1, h2⟩)
noncomputable def g_As_l2Has (a0 : List (ByteArray)) (a1 : ByteArray) : Bool := okO (g_Ls_l2Has_0 a0 a1 (0 : Int))
noncomputable def g_Vs_l2Has_0 (a0 : List (ByteArray)) (a1 : ByteArray) : Bool := bif isL (valO (g_Ls_l2Has_0 a0 a1 (0 : Int))) then getL (valO (g_Ls_l2Has_0 a0 a1 (0 : Int))) else false
noncomputable def Fs_l2Has : FSem := fun ys => match ys with
  | [.val false [.sl .any 9 .str a0], .val false [.str a1]] => some ((g_As_l2Has a0 a1), .val false [.bool (g_Vs_l2Has_0 a0 a1)], [])
  | _ => none
theorem vs_l2Has (a0 : List (ByteArray)) (a1 : ByteArray) : collapseH .std Es_l2Has Os_l2Has_1 (execFn Es_l2Has Go.Proofs.Tryd.f105 mss_l2Has [.val false [.sl .any 9 .str a0], .val false [.str a1]]) = some ((g_As_l2Has a0 a1), .val false [.bool (g_Vs_l2Has_0 a0 a1)], []) := by kernel_rfl
theorem ss_l2Has : Sound Go.Proofs.Tryd.prog 105 mss_l2Has Fs_l2Has := by
  refine fn_gen goods_l2Has (by kernel_rfl) .std (fn := Go.Proofs.Tryd.f105) (c := (Go.Proofs.Tryd.f105.body.getD .skip)) (o := Os_l2Has_1) (k := 1) (by kernel_rfl) (by kernel_rfl) (by kernel_rfl) (by kernel_rfl) (by decide) ks_l2Has_1 ?_
  intro ys r outs h
  unfold Fs_l2Has at h
  split at h
  · exact (vs_l2Has _ _).trans h
  · cases h
end Go.Proofs.YtkjeicijcecmlaaDoor.E
end
section
namespace Go.Proofs.YtkjeicijcecmlaaDoor.E
open Go
set_option maxRecDepth 100000
set_option maxHeartbeats 0
set_option linter.all false
noncomputable def Es_NoteOk : Env where
  tt := mkTI Go.Proofs.Tryd.prog
  fn := fun f => match f with
    | 21 => some (mss_WrtOk, FSem.wk mss_WrtOk Fs_WrtOk)
    | 75 => some (mss_l1Key, FSem.wk mss_l1Key Fs_l1Key)
    | 105 => some (mss_l2Has, FSem.wk mss_l2Has Fs_l2Has)
    | 119 => some (mss_l1In, FSem.wk mss_l1In Fs_l1In)
    | _ => none
  bxf := fun _ => none
  mv := []
  keep := fun b => match b with
    | 0 => [(1, false), (3, false)]
    | 2 => [(1, false), (4, false)]
    | _ => []
  keepB := fun b => match b with
    | 0 => [(1, false)]
    | 2 => [(1, false)]
    | _ => []
  keepX := fun b => match b with
    | 0 => [(1, false), (2, false)]
    | 2 => [(1, false), (2, false)]
    | _ => []
  keepXB := fun b => match b with
    | 0 => [(1, false)]
    | 2 => [(1, false)]
    | _ => []
theorem goodFs_NoteOk : ∀ f ms F, Es_NoteOk.fn f = some (ms, F) → Sound Go.Proofs.Tryd.prog f ms F := fun f ms F h => by
  unfold Es_NoteOk at h
  dsimp only at h
  split at h
  · injection h with h; injection h with e1 e2; subst e1 e2; exact Sound.wk ss_WrtOk
  · injection h with h; injection h with e1 e2; subst e1 e2; exact Sound.wk ss_l1Key
  · injection h with h; injection h with e1 e2; subst e1 e2; exact Sound.wk ss_l2Has
  · injection h with h; injection h with e1 e2; subst e1 e2; exact Sound.wk ss_l1In
  · cases h
theorem goodBs_NoteOk : ∀ f ms F, Es_NoteOk.bxf f = some (ms, F) → SoundB Go.Proofs.Tryd.prog f ms F := fun f ms F h => by cases h
theorem goods_NoteOk : Good Go.Proofs.Tryd.prog Es_NoteOk := ⟨rfl, goodFs_NoteOk, goodBs_NoteOk⟩
noncomputable def Os_NoteOk_0 : Orc := fun _ _ => none
noncomputable def mss_NoteOk : List PM := [.rd]
noncomputable def lss_NoteOk : List (Nat × Code) := loopsAll 0 (Go.Proofs.Tryd.f109.body.getD .skip)
noncomputable def cs_NoteOk_0 : Code := (loopOf 0 (Go.Proofs.Tryd.f109.body.getD .skip)).getD .skip
noncomputable def cs_NoteOk_2 : Code := (loopOf 2 (Go.Proofs.Tryd.f109.body.getD .skip)).getD .skip
theorem lseqs_NoteOk : lss_NoteOk = [(0, cs_NoteOk_0), (2, cs_NoteOk_2)] := by kernel_rfl
theorem ms_NoteOk_0 : ∀ p, p ∈ lss_NoteOk → p.1 = 0 → p.2 = cs_NoteOk_0 := by
  intro p hp
  rw [lseqs_NoteOk] at hp
  simp only [List.mem_cons, List.not_mem_nil, or_false] at hp
  rcases hp with rfl | rfl <;> simp
theorem ms_NoteOk_2 : ∀ p, p ∈ lss_NoteOk → p.1 = 2 → p.2 = cs_NoteOk_2 := by
  intro p hp
  rw [lseqs_NoteOk] at hp
  simp only [List.mem_cons, List.not_mem_nil, or_false] at hp
  rcases hp with rfl | rfl <;> simp
theorem ks_NoteOk_0 : OrcOk Es_NoteOk Os_NoteOk_0 lss_NoteOk 0 := orcOk_none
noncomputable def hs_NoteOk_0 (y0 : Int) (y1 : Int) (y2 : Int) (y3 : List (ByteArray)) (y4 : List ((ByteArray) × ((Bool) × (List (Int))))) : List (Pl × LV) := [(.T 1, .t (.val false [.ptr 1 0 0])), (.T 3, .t (.val false [.int .i64 y0])), (.B 1, .b 0 false [.int .i64 y1, .int .i64 y2, .sl .any 9 .str y3, .sl .any 38 (.pair .str (.pair .bool (.sl 3 (.int .i64)))) y4])]
noncomputable def g_Ss_NoteOk_0 (y1 : Int) (y2 : Int) (y3 : List (ByteArray)) (y4 : List ((ByteArray) × ((Bool) × (List (Int))))) : ((Int)) → RT ((Int)) (((Bool)) ⊕ (Unit))
  | y0 => .br (true) (.br (decide (y0 < (↑(List.length y3) : Int))) (.br (decide ((0 : Int) ≤ y0 ∧ y0 < (↑(List.length y3) : Int))) (.br (g_As_l1Key (at_ Ty.str y3 (Int.toNat y0))) (.br (!g_Vs_l1Key_0 (at_ Ty.str y3 (Int.toNat y0))) (.out (.inl false)) (.br (true) (.go (IntKind.wrap IntKind.i64 (y0 + (1 : Int)))) (.bad))) (.bad)) (.bad)) (.out (.inr (())))) (.bad)
noncomputable def g_Ls_NoteOk_0 (y1 : Int) (y2 : Int) (y3 : List (ByteArray)) (y4 : List ((ByteArray) × ((Bool) × (List (Int))))) (x : (Int)) : Option (((Bool)) ⊕ (Unit)) := loopO (g_Ss_NoteOk_0 y1 y2 y3 y4) x
noncomputable def xs_NoteOk_0 (y1 : Int) (y2 : Int) (y3 : List (ByteArray)) (y4 : List ((ByteArray) × ((Bool) × (List (Int))))) : (((Bool)) ⊕ (Unit)) → Ex × List (Pl × LV) := fun
  | .inl r => (.ret, [(.T 1, .t (.val false [.ptr 1 0 0])), (.T 2, .t (.val false [.bool r])), (.B 1, .b 0 false [.int .i64 y1, .int .i64 y2, .sl .any 9 .str y3, .sl .any 38 (.pair .str (.pair .bool (.sl 3 (.int .i64)))) y4])])
  | .inr (r) => (.exit 0, [(.T 1, .t (.val false [.ptr 1 0 0])), (.T 2, .t (.val false [.undef])), (.B 1, .b 0 false [.int .i64 y1, .int .i64 y2, .sl .any 9 .str y3, .sl .any 38 (.pair .str (.pair .bool (.sl 3 (.int .i64)))) y4])])
noncomputable def Os_NoteOk_1 : Orc := fun b h => match b, h with
  | 0, [(.T 1, .t (.val false [.ptr 1 0 0])), (.T 3, .t (.val false [.int .i64 y0])), (.B 1, .b 0 false [.int .i64 y1, .int .i64 y2, .sl .any 9 .str y3, .sl .any 38 (.pair .str (.pair .bool (.sl 3 (.int .i64)))) y4])] => some (okO (g_Ls_NoteOk_0 y1 y2 y3 y4 y0), (.br (isL (valO (g_Ls_NoteOk_0 y1 y2 y3 y4 y0))) (.leaf .ret [(.T 1, .t (.val false [.ptr 1 0 0])), (.T 2, .t (.val false [.bool (getL (valO (g_Ls_NoteOk_0 y1 y2 y3 y4 y0)))])), (.B 1, .b 0 false [.int .i64 y1, .int .i64 y2, .sl .any 9 .str y3, .sl .any 38 (.pair .str (.pair .bool (.sl 3 (.int .i64)))) y4])]) (.leaf (.exit 0) [(.T 1, .t (.val false [.ptr 1 0 0])), (.T 2, .t (.val false [.undef])), (.B 1, .b 0 false [.int .i64 y1, .int .i64 y2, .sl .any 9 .str y3, .sl .any 38 (.pair .str (.pair .bool (.sl 3 (.int .i64)))) y4])])))
  | b, h => Os_NoteOk_0 b h
theorem bs_NoteOk_0 (y0 : Int) (y1 : Int) (y2 : Int) (y3 : List (ByteArray)) (y4 : List ((ByteArray) × ((Bool) × (List (Int))))) : Tr.bt Es_NoteOk Os_NoteOk_0 (exec Es_NoteOk 0 cs_NoteOk_0 (St.of (hs_NoteOk_0 y0 y1 y2 y3 y4)) (leafRd Es_NoteOk 0)) = (g_Ss_NoteOk_0 y1 y2 y3 y4 y0).bt (fun (y0 : (Int)) => (hs_NoteOk_0 y0 y1 y2 y3 y4)) (xs_NoteOk_0 y1 y2 y3 y4) := by kernel_rfl
theorem ks_NoteOk_1 : OrcOk Es_NoteOk Os_NoteOk_1 lss_NoteOk 1 := orc_add ks_NoteOk_0 (fun n p hp h ex h' ho => by
  obtain ⟨b, c⟩ := p
  obtain ⟨xt, h1, h2⟩ := ho
  have h1 : Os_NoteOk_1 b h = some (true, xt) := h1
  unfold Os_NoteOk_1 at h1
  split at h1
  · injection h1 with h1
    injection h1 with e1 e2
    subst e2
    have hc : c = cs_NoteOk_0 := ms_NoteOk_0 _ hp rfl
    subst hc
    right
    rename_i y0 y1 y2 y3 y4
    have key := LT_step ks_NoteOk_0 hp (fun q hq => loopsAll_in _ _ _ _ hp hq) (fun (y0 : (Int)) => (hs_NoteOk_0 y0 y1 y2 y3 y4)) (xs_NoteOk_0 y1 y2 y3 y4) (g_Ss_NoteOk_0 y1 y2 y3 y4) (fun x => by first | exact bs_NoteOk_0 x y1 y2 y3 y4) n (x := y0) (okO_some e1)
    have hx : ∀ r, XT.sel (.br (isL r) (.leaf .ret [(.T 1, .t (.val false [.ptr 1 0 0])), (.T 2, .t (.val false [.bool (getL r)])), (.B 1, .b 0 false [.int .i64 y1, .int .i64 y2, .sl .any 9 .str y3, .sl .any 38 (.pair .str (.pair .bool (.sl 3 (.int .i64)))) y4])]) (.leaf (.exit 0) [(.T 1, .t (.val false [.ptr 1 0 0])), (.T 2, .t (.val false [.undef])), (.B 1, .b 0 false [.int .i64 y1, .int .i64 y2, .sl .any 9 .str y3, .sl .any 38 (.pair .str (.pair .bool (.sl 3 (.int .i64)))) y4])])) = xs_NoteOk_0 y1 y2 y3 y4 r := fun r => by first | rfl | (rcases r with r | r <;> rfl) | (rcases r with r | r | r <;> rfl) | (rcases r with r | r | r | r <;> rfl)
    have h3 := (hx (valO (g_Ls_NoteOk_0 y1 y2 y3 y4 y0))).symm.trans h2
    have e3 := congrArg Prod.fst h3
    have e4 := congrArg Prod.snd h3
    simp only at e3 e4
    rw [← e3, ← e4]
    exact key
  · exact .inl ⟨xt, h1, h2⟩)
noncomputable def hs_NoteOk_2 (y0 : Int) (y1 : Int) (y2 : Int) (y3 : List (ByteArray)) (y4 : List ((ByteArray) × ((Bool) × (List (Int))))) : List (Pl × LV) := [(.T 1, .t (.val false [.ptr 1 0 0])), (.T 4, .t (.val false [.int .i64 y0])), (.B 1, .b 0 false [.int .i64 y1, .int .i64 y2, .sl .any 9 .str y3, .sl .any 38 (.pair .str (.pair .bool (.sl 3 (.int .i64)))) y4])]
noncomputable def g_Ss_NoteOk_2 (y1 : Int) (y2 : Int) (y3 : List (ByteArray)) (y4 : List ((ByteArray) × ((Bool) × (List (Int))))) : ((Int)) → RT ((Int)) (((Bool)) ⊕ (Unit))
  | y0 => .br (true) (.br (decide (y0 < (↑(List.length y4) : Int))) (.br (decide ((0 : Int) ≤ y0 ∧ y0 < (↑(List.length y4) : Int))) (.br (g_As_WrtOk (at_ (Ty.pair Ty.str (Ty.pair Ty.bool (Ty.sl (nat_lit 3) (Ty.int IntKind.i64)))) y4 (Int.toNat y0)).1 (at_ (Ty.pair Ty.str (Ty.pair Ty.bool (Ty.sl (nat_lit 3) (Ty.int IntKind.i64)))) y4 (Int.toNat y0)).2.1 (at_ (Ty.pair Ty.str (Ty.pair Ty.bool (Ty.sl (nat_lit 3) (Ty.int IntKind.i64)))) y4 (Int.toNat y0)).2.2) (.br (!g_Vs_WrtOk_0 (at_ (Ty.pair Ty.str (Ty.pair Ty.bool (Ty.sl (nat_lit 3) (Ty.int IntKind.i64)))) y4 (Int.toNat y0)).1 (at_ (Ty.pair Ty.str (Ty.pair Ty.bool (Ty.sl (nat_lit 3) (Ty.int IntKind.i64)))) y4 (Int.toNat y0)).2.1 (at_ (Ty.pair Ty.str (Ty.pair Ty.bool (Ty.sl (nat_lit 3) (Ty.int IntKind.i64)))) y4 (Int.toNat y0)).2.2) (.out (.inl false)) (.br (decide ((0 : Int) ≤ y0 ∧ y0 < (↑(List.length y4) : Int))) (.br (g_As_l2Has y3 (at_ (Ty.pair Ty.str (Ty.pair Ty.bool (Ty.sl (nat_lit 3) (Ty.int IntKind.i64)))) y4 (Int.toNat y0)).1) (.br (!g_Vs_l2Has_0 y3 (at_ (Ty.pair Ty.str (Ty.pair Ty.bool (Ty.sl (nat_lit 3) (Ty.int IntKind.i64)))) y4 (Int.toNat y0)).1) (.out (.inl false)) (.br (true) (.go (IntKind.wrap IntKind.i64 (y0 + (1 : Int)))) (.bad))) (.bad)) (.bad))) (.bad)) (.bad)) (.out (.inr (())))) (.bad)
noncomputable def g_Ls_NoteOk_2 (y1 : Int) (y2 : Int) (y3 : List (ByteArray)) (y4 : List ((ByteArray) × ((Bool) × (List (Int))))) (x : (Int)) : Option (((Bool)) ⊕ (Unit)) := loopO (g_Ss_NoteOk_2 y1 y2 y3 y4) x
noncomputable def xs_NoteOk_2 (y1 : Int) (y2 : Int) (y3 : List (ByteArray)) (y4 : List ((ByteArray) × ((Bool) × (List (Int))))) : (((Bool)) ⊕ (Unit)) → Ex × List (Pl × LV) := fun
  | .inl r => (.ret, [(.T 1, .t (.val false [.ptr 1 0 0])), (.T 2, .t (.val false [.bool r])), (.B 1, .b 0 false [.int .i64 y1, .int .i64 y2, .sl .any 9 .str y3, .sl .any 38 (.pair .str (.pair .bool (.sl 3 (.int .i64)))) y4])])
  | .inr (r) => (.exit 2, [(.T 1, .t (.val false [.ptr 1 0 0])), (.T 2, .t (.val false [.undef])), (.B 1, .b 0 false [.int .i64 y1, .int .i64 y2, .sl .any 9 .str y3, .sl .any 38 (.pair .str (.pair .bool (.sl 3 (.int .i64)))) y4])])
noncomputable def Os_NoteOk_2 : Orc := fun b h => match b, h with
  | 2, [(.T 1, .t (.val false [.ptr 1 0 0])), (.T 4, .t (.val false [.int .i64 y0])), (.B 1, .b 0 false [.int .i64 y1, .int .i64 y2, .sl .any 9 .str y3, .sl .any 38 (.pair .str (.pair .bool (.sl 3 (.int .i64)))) y4])] => some (okO (g_Ls_NoteOk_2 y1 y2 y3 y4 y0), (.br (isL (valO (g_Ls_NoteOk_2 y1 y2 y3 y4 y0))) (.leaf .ret [(.T 1, .t (.val false [.ptr 1 0 0])), (.T 2, .t (.val false [.bool (getL (valO (g_Ls_NoteOk_2 y1 y2 y3 y4 y0)))])), (.B 1, .b 0 false [.int .i64 y1, .int .i64 y2, .sl .any 9 .str y3, .sl .any 38 (.pair .str (.pair .bool (.sl 3 (.int .i64)))) y4])]) (.leaf (.exit 2) [(.T 1, .t (.val false [.ptr 1 0 0])), (.T 2, .t (.val false [.undef])), (.B 1, .b 0 false [.int .i64 y1, .int .i64 y2, .sl .any 9 .str y3, .sl .any 38 (.pair .str (.pair .bool (.sl 3 (.int .i64)))) y4])])))
  | b, h => Os_NoteOk_1 b h
theorem bs_NoteOk_2 (y0 : Int) (y1 : Int) (y2 : Int) (y3 : List (ByteArray)) (y4 : List ((ByteArray) × ((Bool) × (List (Int))))) : Tr.bt Es_NoteOk Os_NoteOk_1 (exec Es_NoteOk 2 cs_NoteOk_2 (St.of (hs_NoteOk_2 y0 y1 y2 y3 y4)) (leafRd Es_NoteOk 2)) = (g_Ss_NoteOk_2 y1 y2 y3 y4 y0).bt (fun (y0 : (Int)) => (hs_NoteOk_2 y0 y1 y2 y3 y4)) (xs_NoteOk_2 y1 y2 y3 y4) := by kernel_rfl
theorem ks_NoteOk_2 : OrcOk Es_NoteOk Os_NoteOk_2 lss_NoteOk 2 := orc_add ks_NoteOk_1 (fun n p hp h ex h' ho => by
  obtain ⟨b, c⟩ := p
  obtain ⟨xt, h1, h2⟩ := ho
  have h1 : Os_NoteOk_2 b h = some (true, xt) := h1
  unfold Os_NoteOk_2 at h1
  split at h1
  · injection h1 with h1
    injection h1 with e1 e2
    subst e2
    have hc : c = cs_NoteOk_2 := ms_NoteOk_2 _ hp rfl
    subst hc
    right
    rename_i y0 y1 y2 y3 y4
    have key := LT_step ks_NoteOk_1 hp (fun q hq => loopsAll_in _ _ _ _ hp hq) (fun (y0 : (Int)) => (hs_NoteOk_2 y0 y1 y2 y3 y4)) (xs_NoteOk_2 y1 y2 y3 y4) (g_Ss_NoteOk_2 y1 y2 y3 y4) (fun x => by first | exact bs_NoteOk_2 x y1 y2 y3 y4) n (x := y0) (okO_some e1)
    have hx : ∀ r, XT.sel (.br (isL r) (.leaf .ret [(.T 1, .t (.val false [.ptr 1 0 0])), (.T 2, .t (.val false [.bool (getL r)])), (.B 1, .b 0 false [.int .i64 y1, .int .i64 y2, .sl .any 9 .str y3, .sl .any 38 (.pair .str (.pair .bool (.sl 3 (.int .i64)))) y4])]) (.leaf (.exit 2) [(.T 1, .t (.val false [.ptr 1 0 0])), (.T 2, .t (.val false [.undef])), (.B 1, .b 0 false [.int .i64 y1, .int .i64 y2, .sl .any 9 .str y3, .sl .any 38 (.pair .str (.pair .bool (.sl 3 (.int .i64)))) y4])])) = xs_NoteOk_2 y1 y2 y3 y4 r := fun r => by first | rfl | (rcases r with r | r <;> rfl) | (rcases r with r | r | r <;> rfl) | (rcases r with r | r | r | r <;> rfl)
    have h3 := (hx (valO (g_Ls_NoteOk_2 y1 y2 y3 y4 y0))).symm.trans h2
    have e3 := congrArg Prod.fst h3
    have e4 := congrArg Prod.snd h3
    simp only at e3 e4
    rw [← e3, ← e4]
    exact key
  · exact .inl ⟨xt, h1, h2⟩)
noncomputable def g_As_NoteOk (a0 : Int) (a1 : Int) (a2 : List (ByteArray)) (a3 : List ((ByteArray) × ((Bool) × (List (Int))))) : Bool := g_As_l1In a0 (1 : Int) (4 : Int) && (!g_Vs_l1In_0 a0 (1 : Int) (4 : Int) || g_As_l1In a1 (0 : Int) (29 : Int) && (!g_Vs_l1In_0 a1 (0 : Int) (29 : Int) || (decide ((↑(List.length a2) : Int) > (12 : Int)) || (decide ((↑(List.length a3) : Int) > (12 : Int)) || okO (g_Ls_NoteOk_0 a0 a1 a2 a3 (0 : Int)) && (isL (valO (g_Ls_NoteOk_0 a0 a1 a2 a3 (0 : Int))) || okO (g_Ls_NoteOk_2 a0 a1 a2 a3 (0 : Int)) && (isL (valO (g_Ls_NoteOk_2 a0 a1 a2 a3 (0 : Int))) || (a0 == (1 : Int) || true)))))))
noncomputable def g_Vs_NoteOk_0 (a0 : Int) (a1 : Int) (a2 : List (ByteArray)) (a3 : List ((ByteArray) × ((Bool) × (List (Int))))) : Bool := bif !g_Vs_l1In_0 a0 (1 : Int) (4 : Int) then false else bif !g_Vs_l1In_0 a1 (0 : Int) (29 : Int) then false else bif decide ((↑(List.length a2) : Int) > (12 : Int)) then false else bif decide ((↑(List.length a3) : Int) > (12 : Int)) then false else bif isL (valO (g_Ls_NoteOk_0 a0 a1 a2 a3 (0 : Int))) then getL (valO (g_Ls_NoteOk_0 a0 a1 a2 a3 (0 : Int))) else bif isL (valO (g_Ls_NoteOk_2 a0 a1 a2 a3 (0 : Int))) then getL (valO (g_Ls_NoteOk_2 a0 a1 a2 a3 (0 : Int))) else bif a0 == (1 : Int) then true else IntKind.wrap IntKind.i64 ((↑(List.length a2) : Int) + (↑(List.length a3) : Int)) == (0 : Int)
noncomputable def Fs_NoteOk : FSem := fun ys => match ys with
  | [.val true [.int .i64 a0, .int .i64 a1, .sl .any 9 .str a2, .sl .any 38 (.pair .str (.pair .bool (.sl 3 (.int .i64)))) a3]] => some ((g_As_NoteOk a0 a1 a2 a3), .val false [.bool (g_Vs_NoteOk_0 a0 a1 a2 a3)], [])
  | _ => none
theorem vs_NoteOk (a0 : Int) (a1 : Int) (a2 : List (ByteArray)) (a3 : List ((ByteArray) × ((Bool) × (List (Int))))) : collapseH .std Es_NoteOk Os_NoteOk_2 (execFn Es_NoteOk Go.Proofs.Tryd.f109 mss_NoteOk [.val true [.int .i64 a0, .int .i64 a1, .sl .any 9 .str a2, .sl .any 38 (.pair .str (.pair .bool (.sl 3 (.int .i64)))) a3]]) = some ((g_As_NoteOk a0 a1 a2 a3), .val false [.bool (g_Vs_NoteOk_0 a0 a1 a2 a3)], []) := by kernel_rfl
theorem ss_NoteOk : Sound Go.Proofs.Tryd.prog 109 mss_NoteOk Fs_NoteOk := by
  refine fn_gen goods_NoteOk (by kernel_rfl) .std (fn := Go.Proofs.Tryd.f109) (c := (Go.Proofs.Tryd.f109.body.getD .skip)) (o := Os_NoteOk_2) (k := 2) (by kernel_rfl) (by kernel_rfl) (by kernel_rfl) (by kernel_rfl) (by decide) ks_NoteOk_2 ?_
  intro ys r outs h
  unfold Fs_NoteOk at h
  split at h
  · exact (vs_NoteOk _ _ _ _).trans h
  · cases h
end Go.Proofs.YtkjeicijcecmlaaDoor.E
end
section
namespace Go.Proofs.YtkjeicijcecmlaaDoor.E
open Go
set_option maxRecDepth 100000
set_option maxHeartbeats 0
set_option linter.all false
noncomputable def Es_DiskOk : Env where
  tt := mkTI Go.Proofs.Tryd.prog
  fn := fun f => match f with
    | 109 => some (mss_NoteOk, FSem.wk mss_NoteOk Fs_NoteOk)
    | 119 => some (mss_l1In, FSem.wk mss_l1In Fs_l1In)
    | _ => none
  bxf := fun _ => none
  mv := []
  keep := fun b => match b with
    | 0 => [(1, false), (3, false)]
    | _ => []
  keepB := fun b => match b with
    | 0 => [(1, false)]
    | _ => []
  keepX := fun b => match b with
    | 0 => [(2, false)]
    | _ => []
  keepXB := fun b => match b with
    | 0 => []
    | _ => []
theorem goodFs_DiskOk : ∀ f ms F, Es_DiskOk.fn f = some (ms, F) → Sound Go.Proofs.Tryd.prog f ms F := fun f ms F h => by
  unfold Es_DiskOk at h
  dsimp only at h
  split at h
  · injection h with h; injection h with e1 e2; subst e1 e2; exact Sound.wk ss_NoteOk
  · injection h with h; injection h with e1 e2; subst e1 e2; exact Sound.wk ss_l1In
  · cases h
theorem goodBs_DiskOk : ∀ f ms F, Es_DiskOk.bxf f = some (ms, F) → SoundB Go.Proofs.Tryd.prog f ms F := fun f ms F h => by cases h
theorem goods_DiskOk : Good Go.Proofs.Tryd.prog Es_DiskOk := ⟨rfl, goodFs_DiskOk, goodBs_DiskOk⟩
noncomputable def Os_DiskOk_0 : Orc := fun _ _ => none
noncomputable def mss_DiskOk : List PM := [.rd]
noncomputable def lss_DiskOk : List (Nat × Code) := loopsAll 0 (Go.Proofs.Tryd.f59.body.getD .skip)
noncomputable def cs_DiskOk_0 : Code := (loopOf 0 (Go.Proofs.Tryd.f59.body.getD .skip)).getD .skip
theorem lseqs_DiskOk : lss_DiskOk = [(0, cs_DiskOk_0)] := by kernel_rfl
theorem ms_DiskOk_0 : ∀ p, p ∈ lss_DiskOk → p.1 = 0 → p.2 = cs_DiskOk_0 := by
  intro p hp
  rw [lseqs_DiskOk] at hp
  simp only [List.mem_cons, List.not_mem_nil, or_false] at hp
  subst hp; simp
theorem ks_DiskOk_0 : OrcOk Es_DiskOk Os_DiskOk_0 lss_DiskOk 0 := orcOk_none
noncomputable def hs_DiskOk_0 (y0 : Int) (y1 : List ((Int) × ((Int) × ((List (ByteArray)) × (List ((ByteArray) × ((Bool) × (List (Int))))))))) (y2 : Int) : List (Pl × LV) := [(.T 1, .t (.val false [.ptr 1 0 0])), (.T 3, .t (.val false [.int .i64 y0])), (.B 1, .b 0 false [.sl .any 79 (.pair (.int .i64) (.pair (.int .i64) (.pair (.sl 9 .str) (.sl 38 (.pair .str (.pair .bool (.sl 3 (.int .i64)))))))) y1, .int .i64 y2])]
noncomputable def g_Ss_DiskOk_0 (y1 : List ((Int) × ((Int) × ((List (ByteArray)) × (List ((ByteArray) × ((Bool) × (List (Int))))))))) (y2 : Int) : ((Int)) → RT ((Int)) (((Bool)) ⊕ (Unit))
  | y0 => .br (true) (.br (decide (y0 < (↑(List.length y1) : Int))) (.br (decide ((0 : Int) ≤ y0 ∧ y0 < (↑(List.length y1) : Int))) (.br (g_As_NoteOk (at_ (Ty.pair (Ty.int IntKind.i64) (Ty.pair (Ty.int IntKind.i64) (Ty.pair (Ty.sl (nat_lit 9) Ty.str) (Ty.sl (nat_lit 38) (Ty.pair Ty.str (Ty.pair Ty.bool (Ty.sl (nat_lit 3) (Ty.int IntKind.i64)))))))) y1 (Int.toNat y0)).1 (at_ (Ty.pair (Ty.int IntKind.i64) (Ty.pair (Ty.int IntKind.i64) (Ty.pair (Ty.sl (nat_lit 9) Ty.str) (Ty.sl (nat_lit 38) (Ty.pair Ty.str (Ty.pair Ty.bool (Ty.sl (nat_lit 3) (Ty.int IntKind.i64)))))))) y1 (Int.toNat y0)).2.1 (at_ (Ty.pair (Ty.int IntKind.i64) (Ty.pair (Ty.int IntKind.i64) (Ty.pair (Ty.sl (nat_lit 9) Ty.str) (Ty.sl (nat_lit 38) (Ty.pair Ty.str (Ty.pair Ty.bool (Ty.sl (nat_lit 3) (Ty.int IntKind.i64)))))))) y1 (Int.toNat y0)).2.2.1 (at_ (Ty.pair (Ty.int IntKind.i64) (Ty.pair (Ty.int IntKind.i64) (Ty.pair (Ty.sl (nat_lit 9) Ty.str) (Ty.sl (nat_lit 38) (Ty.pair Ty.str (Ty.pair Ty.bool (Ty.sl (nat_lit 3) (Ty.int IntKind.i64)))))))) y1 (Int.toNat y0)).2.2.2) (.br (!g_Vs_NoteOk_0 (at_ (Ty.pair (Ty.int IntKind.i64) (Ty.pair (Ty.int IntKind.i64) (Ty.pair (Ty.sl (nat_lit 9) Ty.str) (Ty.sl (nat_lit 38) (Ty.pair Ty.str (Ty.pair Ty.bool (Ty.sl (nat_lit 3) (Ty.int IntKind.i64)))))))) y1 (Int.toNat y0)).1 (at_ (Ty.pair (Ty.int IntKind.i64) (Ty.pair (Ty.int IntKind.i64) (Ty.pair (Ty.sl (nat_lit 9) Ty.str) (Ty.sl (nat_lit 38) (Ty.pair Ty.str (Ty.pair Ty.bool (Ty.sl (nat_lit 3) (Ty.int IntKind.i64)))))))) y1 (Int.toNat y0)).2.1 (at_ (Ty.pair (Ty.int IntKind.i64) (Ty.pair (Ty.int IntKind.i64) (Ty.pair (Ty.sl (nat_lit 9) Ty.str) (Ty.sl (nat_lit 38) (Ty.pair Ty.str (Ty.pair Ty.bool (Ty.sl (nat_lit 3) (Ty.int IntKind.i64)))))))) y1 (Int.toNat y0)).2.2.1 (at_ (Ty.pair (Ty.int IntKind.i64) (Ty.pair (Ty.int IntKind.i64) (Ty.pair (Ty.sl (nat_lit 9) Ty.str) (Ty.sl (nat_lit 38) (Ty.pair Ty.str (Ty.pair Ty.bool (Ty.sl (nat_lit 3) (Ty.int IntKind.i64)))))))) y1 (Int.toNat y0)).2.2.2) (.out (.inl false)) (.br (true) (.go (IntKind.wrap IntKind.i64 (y0 + (1 : Int)))) (.bad))) (.bad)) (.bad)) (.out (.inr (())))) (.bad)
noncomputable def g_Ls_DiskOk_0 (y1 : List ((Int) × ((Int) × ((List (ByteArray)) × (List ((ByteArray) × ((Bool) × (List (Int))))))))) (y2 : Int) (x : (Int)) : Option (((Bool)) ⊕ (Unit)) := loopO (g_Ss_DiskOk_0 y1 y2) x
noncomputable def xs_DiskOk_0 (y1 : List ((Int) × ((Int) × ((List (ByteArray)) × (List ((ByteArray) × ((Bool) × (List (Int))))))))) (y2 : Int) : (((Bool)) ⊕ (Unit)) → Ex × List (Pl × LV) := fun
  | .inl r => (.ret, [(.T 2, .t (.val false [.bool r]))])
  | .inr (r) => (.exit 0, [(.T 2, .t (.val false [.undef]))])
noncomputable def Os_DiskOk_1 : Orc := fun b h => match b, h with
  | 0, [(.T 1, .t (.val false [.ptr 1 0 0])), (.T 3, .t (.val false [.int .i64 y0])), (.B 1, .b 0 false [.sl .any 79 (.pair (.int .i64) (.pair (.int .i64) (.pair (.sl 9 .str) (.sl 38 (.pair .str (.pair .bool (.sl 3 (.int .i64)))))))) y1, .int .i64 y2])] => some (okO (g_Ls_DiskOk_0 y1 y2 y0), (.br (isL (valO (g_Ls_DiskOk_0 y1 y2 y0))) (.leaf .ret [(.T 2, .t (.val false [.bool (getL (valO (g_Ls_DiskOk_0 y1 y2 y0)))]))]) (.leaf (.exit 0) [(.T 2, .t (.val false [.undef]))])))
  | b, h => Os_DiskOk_0 b h
theorem bs_DiskOk_0 (y0 : Int) (y1 : List ((Int) × ((Int) × ((List (ByteArray)) × (List ((ByteArray) × ((Bool) × (List (Int))))))))) (y2 : Int) : Tr.bt Es_DiskOk Os_DiskOk_0 (exec Es_DiskOk 0 cs_DiskOk_0 (St.of (hs_DiskOk_0 y0 y1 y2)) (leafRd Es_DiskOk 0)) = (g_Ss_DiskOk_0 y1 y2 y0).bt (fun (y0 : (Int)) => (hs_DiskOk_0 y0 y1 y2)) (xs_DiskOk_0 y1 y2) := by kernel_rfl
theorem ks_DiskOk_1 : OrcOk Es_DiskOk Os_DiskOk_1 lss_DiskOk 1 := orc_add ks_DiskOk_0 (fun n p hp h ex h' ho => by
  obtain ⟨b, c⟩ := p
  obtain ⟨xt, h1, h2⟩ := ho
  have h1 : Os_DiskOk_1 b h = some (true, xt) := h1
  unfold Os_DiskOk_1 at h1
  split at h1
  · injection h1 with h1
    injection h1 with e1 e2
    subst e2
    have hc : c = cs_DiskOk_0 := ms_DiskOk_0 _ hp rfl
    subst hc
    right
    rename_i y0 y1 y2
    have key := LT_step ks_DiskOk_0 hp (fun q hq => loopsAll_in _ _ _ _ hp hq) (fun (y0 : (Int)) => (hs_DiskOk_0 y0 y1 y2)) (xs_DiskOk_0 y1 y2) (g_Ss_DiskOk_0 y1 y2) (fun x => by first | exact bs_DiskOk_0 x y1 y2) n (x := y0) (okO_some e1)
    have hx : ∀ r, XT.sel (.br (isL r) (.leaf .ret [(.T 2, .t (.val false [.bool (getL r)]))]) (.leaf (.exit 0) [(.T 2, .t (.val false [.undef]))])) = xs_DiskOk_0 y1 y2 r := fun r => by first | rfl | (rcases r with r | r <;> rfl) | (rcases r with r | r | r <;> rfl) | (rcases r with r | r | r | r <;> rfl)
    have h3 := (hx (valO (g_Ls_DiskOk_0 y1 y2 y0))).symm.trans h2
    have e3 := congrArg Prod.fst h3
    have e4 := congrArg Prod.snd h3
    simp only at e3 e4
    rw [← e3, ← e4]
    exact key
  · exact .inl ⟨xt, h1, h2⟩)
noncomputable def g_As_DiskOk (a0 : List ((Int) × ((Int) × ((List (ByteArray)) × (List ((ByteArray) × ((Bool) × (List (Int))))))))) (a1 : Int) : Bool := decide ((↑(List.length a0) : Int) > (120 : Int)) || g_As_l1In a1 (0 : Int) (↑(List.length a0) : Int) && (!g_Vs_l1In_0 a1 (0 : Int) (↑(List.length a0) : Int) || okO (g_Ls_DiskOk_0 a0 a1 (0 : Int)))
noncomputable def g_Vs_DiskOk_0 (a0 : List ((Int) × ((Int) × ((List (ByteArray)) × (List ((ByteArray) × ((Bool) × (List (Int))))))))) (a1 : Int) : Bool := bif decide ((↑(List.length a0) : Int) > (120 : Int)) then false else bif !g_Vs_l1In_0 a1 (0 : Int) (↑(List.length a0) : Int) then false else bif isL (valO (g_Ls_DiskOk_0 a0 a1 (0 : Int))) then getL (valO (g_Ls_DiskOk_0 a0 a1 (0 : Int))) else true
noncomputable def Fs_DiskOk : FSem := fun ys => match ys with
  | [.val true [.sl .any 79 (.pair (.int .i64) (.pair (.int .i64) (.pair (.sl 9 .str) (.sl 38 (.pair .str (.pair .bool (.sl 3 (.int .i64)))))))) a0, .int .i64 a1]] => some ((g_As_DiskOk a0 a1), .val false [.bool (g_Vs_DiskOk_0 a0 a1)], [])
  | _ => none
theorem vs_DiskOk (a0 : List ((Int) × ((Int) × ((List (ByteArray)) × (List ((ByteArray) × ((Bool) × (List (Int))))))))) (a1 : Int) : collapseH .std Es_DiskOk Os_DiskOk_1 (execFn Es_DiskOk Go.Proofs.Tryd.f59 mss_DiskOk [.val true [.sl .any 79 (.pair (.int .i64) (.pair (.int .i64) (.pair (.sl 9 .str) (.sl 38 (.pair .str (.pair .bool (.sl 3 (.int .i64)))))))) a0, .int .i64 a1]]) = some ((g_As_DiskOk a0 a1), .val false [.bool (g_Vs_DiskOk_0 a0 a1)], []) := by kernel_rfl
theorem ss_DiskOk : Sound Go.Proofs.Tryd.prog 59 mss_DiskOk Fs_DiskOk := by
  refine fn_gen goods_DiskOk (by kernel_rfl) .std (fn := Go.Proofs.Tryd.f59) (c := (Go.Proofs.Tryd.f59.body.getD .skip)) (o := Os_DiskOk_1) (k := 1) (by kernel_rfl) (by kernel_rfl) (by kernel_rfl) (by kernel_rfl) (by decide) ks_DiskOk_1 ?_
  intro ys r outs h
  unfold Fs_DiskOk at h
  split at h
  · exact (vs_DiskOk _ _).trans h
  · cases h
end Go.Proofs.YtkjeicijcecmlaaDoor.E
end
section
namespace Go.Proofs.YtkjeicijcecmlaaDoor.E
open Go
set_option maxRecDepth 100000
set_option maxHeartbeats 0
set_option linter.all false
noncomputable def Es_l2Is : Env where
  tt := mkTI Go.Proofs.Tryd.prog
  fn := fun _ => none
  bxf := fun _ => none
  mv := []
  keep := fun b => match b with
    | 0 => [(0, false), (1, false), (5, false)]
    | _ => []
  keepB := fun b => match b with
    | 0 => []
    | _ => []
  keepX := fun b => match b with
    | 0 => [(4, false)]
    | _ => []
  keepXB := fun b => match b with
    | 0 => []
    | _ => []
theorem goodFs_l2Is : ∀ f ms F, Es_l2Is.fn f = some (ms, F) → Sound Go.Proofs.Tryd.prog f ms F := fun f ms F h => by cases h
theorem goodBs_l2Is : ∀ f ms F, Es_l2Is.bxf f = some (ms, F) → SoundB Go.Proofs.Tryd.prog f ms F := fun f ms F h => by cases h
theorem goods_l2Is : Good Go.Proofs.Tryd.prog Es_l2Is := ⟨rfl, goodFs_l2Is, goodBs_l2Is⟩
noncomputable def Os_l2Is_0 : Orc := fun _ _ => none
noncomputable def mss_l2Is : List PM := [.rd, .own]
noncomputable def lss_l2Is : List (Nat × Code) := loopsAll 0 (Go.Proofs.Tryd.f99.body.getD .skip)
noncomputable def cs_l2Is_0 : Code := (loopOf 0 (Go.Proofs.Tryd.f99.body.getD .skip)).getD .skip
theorem lseqs_l2Is : lss_l2Is = [(0, cs_l2Is_0)] := by kernel_rfl
theorem ms_l2Is_0 : ∀ p, p ∈ lss_l2Is → p.1 = 0 → p.2 = cs_l2Is_0 := by
  intro p hp
  rw [lseqs_l2Is] at hp
  simp only [List.mem_cons, List.not_mem_nil, or_false] at hp
  subst hp; simp
theorem ks_l2Is_0 : OrcOk Es_l2Is Os_l2Is_0 lss_l2Is 0 := orcOk_none
noncomputable def hs_l2Is_0 (y0 : List (Int)) (y1 : Int) (y2 : Int) : List (Pl × LV) := [(.T 0, .t (.val false [.sl .any 3 (.int .i64) y0])), (.T 1, .t (.val false [.int .i64 y1])), (.T 5, .t (.val false [.int .i64 y2]))]
noncomputable def g_Ss_l2Is_0 (y0 : List (Int)) (y1 : Int) : ((Int)) → RT ((Int)) (((Bool)) ⊕ (Unit))
  | y2 => .br (true) (.br (decide (y2 < (↑(List.length y0) : Int))) (.br (decide ((0 : Int) ≤ y2 ∧ y2 < (↑(List.length y0) : Int))) (.br (true) (.br (at_ (Ty.int IntKind.i64) y0 (Int.toNat y2) == y1) (.out (.inl true)) (.br (true) (.go (IntKind.wrap IntKind.i64 (y2 + (1 : Int)))) (.bad))) (.bad)) (.bad)) (.out (.inr (())))) (.bad)
noncomputable def g_Ls_l2Is_0 (y0 : List (Int)) (y1 : Int) (x : (Int)) : Option (((Bool)) ⊕ (Unit)) := loopO (g_Ss_l2Is_0 y0 y1) x
noncomputable def xs_l2Is_0 (y0 : List (Int)) (y1 : Int) : (((Bool)) ⊕ (Unit)) → Ex × List (Pl × LV) := fun
  | .inl r => (.ret, [(.T 4, .t (.val false [.bool r]))])
  | .inr (r) => (.exit 0, [(.T 4, .t (.val false [.undef]))])
noncomputable def Os_l2Is_1 : Orc := fun b h => match b, h with
  | 0, [(.T 0, .t (.val false [.sl .any 3 (.int .i64) y0])), (.T 1, .t (.val false [.int .i64 y1])), (.T 5, .t (.val false [.int .i64 y2]))] => some (okO (g_Ls_l2Is_0 y0 y1 y2), (.br (isL (valO (g_Ls_l2Is_0 y0 y1 y2))) (.leaf .ret [(.T 4, .t (.val false [.bool (getL (valO (g_Ls_l2Is_0 y0 y1 y2)))]))]) (.leaf (.exit 0) [(.T 4, .t (.val false [.undef]))])))
  | b, h => Os_l2Is_0 b h
theorem bs_l2Is_0 (y0 : List (Int)) (y1 : Int) (y2 : Int) : Tr.bt Es_l2Is Os_l2Is_0 (exec Es_l2Is 0 cs_l2Is_0 (St.of (hs_l2Is_0 y0 y1 y2)) (leafRd Es_l2Is 0)) = (g_Ss_l2Is_0 y0 y1 y2).bt (fun (y2 : (Int)) => (hs_l2Is_0 y0 y1 y2)) (xs_l2Is_0 y0 y1) := by kernel_rfl
theorem ks_l2Is_1 : OrcOk Es_l2Is Os_l2Is_1 lss_l2Is 1 := orc_add ks_l2Is_0 (fun n p hp h ex h' ho => by
  obtain ⟨b, c⟩ := p
  obtain ⟨xt, h1, h2⟩ := ho
  have h1 : Os_l2Is_1 b h = some (true, xt) := h1
  unfold Os_l2Is_1 at h1
  split at h1
  · injection h1 with h1
    injection h1 with e1 e2
    subst e2
    have hc : c = cs_l2Is_0 := ms_l2Is_0 _ hp rfl
    subst hc
    right
    rename_i y0 y1 y2
    have key := LT_step ks_l2Is_0 hp (fun q hq => loopsAll_in _ _ _ _ hp hq) (fun (y2 : (Int)) => (hs_l2Is_0 y0 y1 y2)) (xs_l2Is_0 y0 y1) (g_Ss_l2Is_0 y0 y1) (fun x => by first | exact bs_l2Is_0 y0 y1 x) n (x := y2) (okO_some e1)
    have hx : ∀ r, XT.sel (.br (isL r) (.leaf .ret [(.T 4, .t (.val false [.bool (getL r)]))]) (.leaf (.exit 0) [(.T 4, .t (.val false [.undef]))])) = xs_l2Is_0 y0 y1 r := fun r => by first | rfl | (rcases r with r | r <;> rfl) | (rcases r with r | r | r <;> rfl) | (rcases r with r | r | r | r <;> rfl)
    have h3 := (hx (valO (g_Ls_l2Is_0 y0 y1 y2))).symm.trans h2
    have e3 := congrArg Prod.fst h3
    have e4 := congrArg Prod.snd h3
    simp only at e3 e4
    rw [← e3, ← e4]
    exact key
  · exact .inl ⟨xt, h1, h2⟩)
noncomputable def g_As_l2Is (a0 : List (Int)) (a1 : Int) : Bool := okO (g_Ls_l2Is_0 a0 a1 (0 : Int))
noncomputable def g_Vs_l2Is_0 (a0 : List (Int)) (a1 : Int) : Bool := bif isL (valO (g_Ls_l2Is_0 a0 a1 (0 : Int))) then getL (valO (g_Ls_l2Is_0 a0 a1 (0 : Int))) else false
noncomputable def Fs_l2Is : FSem := fun ys => match ys with
  | [.val false [.sl .any 3 (.int .i64) a0], .val false [.int .i64 a1]] => some ((g_As_l2Is a0 a1), .val false [.bool (g_Vs_l2Is_0 a0 a1)], [])
  | _ => none
theorem vs_l2Is (a0 : List (Int)) (a1 : Int) : collapseH .std Es_l2Is Os_l2Is_1 (execFn Es_l2Is Go.Proofs.Tryd.f99 mss_l2Is [.val false [.sl .any 3 (.int .i64) a0], .val false [.int .i64 a1]]) = some ((g_As_l2Is a0 a1), .val false [.bool (g_Vs_l2Is_0 a0 a1)], []) := by kernel_rfl
theorem ss_l2Is : Sound Go.Proofs.Tryd.prog 99 mss_l2Is Fs_l2Is := by
  refine fn_gen goods_l2Is (by kernel_rfl) .std (fn := Go.Proofs.Tryd.f99) (c := (Go.Proofs.Tryd.f99.body.getD .skip)) (o := Os_l2Is_1) (k := 1) (by kernel_rfl) (by kernel_rfl) (by kernel_rfl) (by kernel_rfl) (by decide) ks_l2Is_1 ?_
  intro ys r outs h
  unfold Fs_l2Is at h
  split at h
  · exact (vs_l2Is _ _).trans h
  · cases h
end Go.Proofs.YtkjeicijcecmlaaDoor.E
end
section
namespace Go.Proofs.YtkjeicijcecmlaaDoor.E
open Go
set_option maxRecDepth 100000
set_option maxHeartbeats 0
set_option linter.all false
noncomputable def Es_l2Of : Env where
  tt := mkTI Go.Proofs.Tryd.prog
  fn := fun _ => none
  bxf := fun _ => none
  mv := []
  keep := fun b => match b with
    | 0 => [(0, false), (1, false), (5, false), (6, false)]
    | _ => []
  keepB := fun b => match b with
    | 0 => []
    | _ => []
  keepX := fun b => match b with
    | 0 => [(5, false)]
    | _ => []
  keepXB := fun b => match b with
    | 0 => []
    | _ => []
theorem goodFs_l2Of : ∀ f ms F, Es_l2Of.fn f = some (ms, F) → Sound Go.Proofs.Tryd.prog f ms F := fun f ms F h => by cases h
theorem goodBs_l2Of : ∀ f ms F, Es_l2Of.bxf f = some (ms, F) → SoundB Go.Proofs.Tryd.prog f ms F := fun f ms F h => by cases h
theorem goods_l2Of : Good Go.Proofs.Tryd.prog Es_l2Of := ⟨rfl, goodFs_l2Of, goodBs_l2Of⟩
noncomputable def Os_l2Of_0 : Orc := fun _ _ => none
noncomputable def mss_l2Of : List PM := [.rd, .own]
noncomputable def lss_l2Of : List (Nat × Code) := loopsAll 0 (Go.Proofs.Tryd.f98.body.getD .skip)
noncomputable def cs_l2Of_0 : Code := (loopOf 0 (Go.Proofs.Tryd.f98.body.getD .skip)).getD .skip
theorem lseqs_l2Of : lss_l2Of = [(0, cs_l2Of_0)] := by kernel_rfl
theorem ms_l2Of_0 : ∀ p, p ∈ lss_l2Of → p.1 = 0 → p.2 = cs_l2Of_0 := by
  intro p hp
  rw [lseqs_l2Of] at hp
  simp only [List.mem_cons, List.not_mem_nil, or_false] at hp
  subst hp; simp
theorem ks_l2Of_0 : OrcOk Es_l2Of Os_l2Of_0 lss_l2Of 0 := orcOk_none
noncomputable def hs_l2Of_0 (y0 : List ((Int) × ((Int) × ((List (ByteArray)) × (List ((ByteArray) × ((Bool) × (List (Int))))))))) (y1 : Int) (y2 : Int) (y3 : Int) : List (Pl × LV) := [(.T 0, .t (.val false [.sl .any 79 (.pair (.int .i64) (.pair (.int .i64) (.pair (.sl 9 .str) (.sl 38 (.pair .str (.pair .bool (.sl 3 (.int .i64)))))))) y0])), (.T 1, .t (.val false [.int .i64 y1])), (.T 5, .t (.val false [.int .i64 y2])), (.T 6, .t (.val false [.int .i64 y3]))]
noncomputable def g_Ss_l2Of_0 (y0 : List ((Int) × ((Int) × ((List (ByteArray)) × (List ((ByteArray) × ((Bool) × (List (Int))))))))) (y1 : Int) : ((Int) × (Int)) → RT ((Int) × (Int)) (((Int)))
  | (y2, y3) => .br (true) (.br (decide (y3 < (↑(List.length y0) : Int))) (.br (decide ((0 : Int) ≤ y3 ∧ y3 < (↑(List.length y0) : Int))) (.br (true) (.br ((at_ (Ty.pair (Ty.int IntKind.i64) (Ty.pair (Ty.int IntKind.i64) (Ty.pair (Ty.sl (nat_lit 9) Ty.str) (Ty.sl (nat_lit 38) (Ty.pair Ty.str (Ty.pair Ty.bool (Ty.sl (nat_lit 3) (Ty.int IntKind.i64)))))))) y0 (Int.toNat y3)).2.1 == y1) (.br (decide ((0 : Int) ≤ y3 ∧ y3 < (↑(List.length y0) : Int))) (.br (true) (.br ((at_ (Ty.pair (Ty.int IntKind.i64) (Ty.pair (Ty.int IntKind.i64) (Ty.pair (Ty.sl (nat_lit 9) Ty.str) (Ty.sl (nat_lit 38) (Ty.pair Ty.str (Ty.pair Ty.bool (Ty.sl (nat_lit 3) (Ty.int IntKind.i64)))))))) y0 (Int.toNat y3)).1 != (4 : Int)) (.br (decide ((0 : Int) ≤ y3 ∧ y3 < (↑(List.length y0) : Int))) (.br (true) (.go (((at_ (Ty.pair (Ty.int IntKind.i64) (Ty.pair (Ty.int IntKind.i64) (Ty.pair (Ty.sl (nat_lit 9) Ty.str) (Ty.sl (nat_lit 38) (Ty.pair Ty.str (Ty.pair Ty.bool (Ty.sl (nat_lit 3) (Ty.int IntKind.i64)))))))) y0 (Int.toNat y3)).1, IntKind.wrap IntKind.i64 (y3 + (1 : Int))))) (.bad)) (.bad)) (.br (true) (.go ((y2, IntKind.wrap IntKind.i64 (y3 + (1 : Int))))) (.bad))) (.bad)) (.bad)) (.br (true) (.go ((y2, IntKind.wrap IntKind.i64 (y3 + (1 : Int))))) (.bad))) (.bad)) (.bad)) (.out (y2))) (.bad)
noncomputable def g_Ls_l2Of_0 (y0 : List ((Int) × ((Int) × ((List (ByteArray)) × (List ((ByteArray) × ((Bool) × (List (Int))))))))) (y1 : Int) (x : (Int) × (Int)) : Option (((Int))) := loopO (g_Ss_l2Of_0 y0 y1) x
noncomputable def xs_l2Of_0 (y0 : List ((Int) × ((Int) × ((List (ByteArray)) × (List ((ByteArray) × ((Bool) × (List (Int))))))))) (y1 : Int) : (((Int))) → Ex × List (Pl × LV) := fun r => (.exit 0, [(.T 5, .t (.val false [.int .i64 r]))])
noncomputable def Os_l2Of_1 : Orc := fun b h => match b, h with
  | 0, [(.T 0, .t (.val false [.sl .any 79 (.pair (.int .i64) (.pair (.int .i64) (.pair (.sl 9 .str) (.sl 38 (.pair .str (.pair .bool (.sl 3 (.int .i64)))))))) y0])), (.T 1, .t (.val false [.int .i64 y1])), (.T 5, .t (.val false [.int .i64 y2])), (.T 6, .t (.val false [.int .i64 y3]))] => some (okO (g_Ls_l2Of_0 y0 y1 (y2, y3)), (.leaf (.exit 0) [(.T 5, .t (.val false [.int .i64 (valO (g_Ls_l2Of_0 y0 y1 (y2, y3)))]))]))
  | b, h => Os_l2Of_0 b h
theorem bs_l2Of_0 (y0 : List ((Int) × ((Int) × ((List (ByteArray)) × (List ((ByteArray) × ((Bool) × (List (Int))))))))) (y1 : Int) (y2 : Int) (y3 : Int) : Tr.bt Es_l2Of Os_l2Of_0 (exec Es_l2Of 0 cs_l2Of_0 (St.of (hs_l2Of_0 y0 y1 y2 y3)) (leafRd Es_l2Of 0)) = (g_Ss_l2Of_0 y0 y1 (y2, y3)).bt (fun ((y2, y3) : (Int) × (Int)) => (hs_l2Of_0 y0 y1 y2 y3)) (xs_l2Of_0 y0 y1) := by kernel_rfl
theorem ks_l2Of_1 : OrcOk Es_l2Of Os_l2Of_1 lss_l2Of 1 := orc_add ks_l2Of_0 (fun n p hp h ex h' ho => by
  obtain ⟨b, c⟩ := p
  obtain ⟨xt, h1, h2⟩ := ho
  have h1 : Os_l2Of_1 b h = some (true, xt) := h1
  unfold Os_l2Of_1 at h1
  split at h1
  · injection h1 with h1
    injection h1 with e1 e2
    subst e2
    have hc : c = cs_l2Of_0 := ms_l2Of_0 _ hp rfl
    subst hc
    right
    rename_i y0 y1 y2 y3
    have key := LT_step ks_l2Of_0 hp (fun q hq => loopsAll_in _ _ _ _ hp hq) (fun ((y2, y3) : (Int) × (Int)) => (hs_l2Of_0 y0 y1 y2 y3)) (xs_l2Of_0 y0 y1) (g_Ss_l2Of_0 y0 y1) (fun x => by first | exact bs_l2Of_0 y0 y1 x.1 x.2) n (x := (y2, y3)) (okO_some e1)
    have hx : ∀ r, XT.sel (.leaf (.exit 0) [(.T 5, .t (.val false [.int .i64 r]))]) = xs_l2Of_0 y0 y1 r := fun r => by first | rfl | (rcases r with r | r <;> rfl) | (rcases r with r | r | r <;> rfl) | (rcases r with r | r | r | r <;> rfl)
    have h3 := (hx (valO (g_Ls_l2Of_0 y0 y1 (y2, y3)))).symm.trans h2
    have e3 := congrArg Prod.fst h3
    have e4 := congrArg Prod.snd h3
    simp only at e3 e4
    rw [← e3, ← e4]
    exact key
  · exact .inl ⟨xt, h1, h2⟩)
noncomputable def g_As_l2Of (a0 : List ((Int) × ((Int) × ((List (ByteArray)) × (List ((ByteArray) × ((Bool) × (List (Int))))))))) (a1 : Int) : Bool := okO (g_Ls_l2Of_0 a0 a1 ((0 : Int), (0 : Int)))
noncomputable def g_Vs_l2Of_0 (a0 : List ((Int) × ((Int) × ((List (ByteArray)) × (List ((ByteArray) × ((Bool) × (List (Int))))))))) (a1 : Int) : Int := valO (g_Ls_l2Of_0 a0 a1 ((0 : Int), (0 : Int)))
noncomputable def Fs_l2Of : FSem := fun ys => match ys with
  | [.val false [.sl .any 79 (.pair (.int .i64) (.pair (.int .i64) (.pair (.sl 9 .str) (.sl 38 (.pair .str (.pair .bool (.sl 3 (.int .i64)))))))) a0], .val false [.int .i64 a1]] => some ((g_As_l2Of a0 a1), .val false [.int .i64 (g_Vs_l2Of_0 a0 a1)], [])
  | _ => none
theorem vs_l2Of (a0 : List ((Int) × ((Int) × ((List (ByteArray)) × (List ((ByteArray) × ((Bool) × (List (Int))))))))) (a1 : Int) : collapseH .std Es_l2Of Os_l2Of_1 (execFn Es_l2Of Go.Proofs.Tryd.f98 mss_l2Of [.val false [.sl .any 79 (.pair (.int .i64) (.pair (.int .i64) (.pair (.sl 9 .str) (.sl 38 (.pair .str (.pair .bool (.sl 3 (.int .i64)))))))) a0], .val false [.int .i64 a1]]) = some ((g_As_l2Of a0 a1), .val false [.int .i64 (g_Vs_l2Of_0 a0 a1)], []) := by kernel_rfl
theorem ss_l2Of : Sound Go.Proofs.Tryd.prog 98 mss_l2Of Fs_l2Of := by
  refine fn_gen goods_l2Of (by kernel_rfl) .std (fn := Go.Proofs.Tryd.f98) (c := (Go.Proofs.Tryd.f98.body.getD .skip)) (o := Os_l2Of_1) (k := 1) (by kernel_rfl) (by kernel_rfl) (by kernel_rfl) (by kernel_rfl) (by decide) ks_l2Of_1 ?_
  intro ys r outs h
  unfold Fs_l2Of at h
  split at h
  · exact (vs_l2Of _ _).trans h
  · cases h
end Go.Proofs.YtkjeicijcecmlaaDoor.E
end
section
namespace Go.Proofs.YtkjeicijcecmlaaDoor.E
open Go
set_option maxRecDepth 100000
set_option maxHeartbeats 0
set_option linter.all false
noncomputable def Es_DiskOpen : Env where
  tt := mkTI Go.Proofs.Tryd.prog
  fn := fun f => match f with
    | 59 => some (mss_DiskOk, FSem.wk mss_DiskOk Fs_DiskOk)
    | 98 => some (mss_l2Of, FSem.wk mss_l2Of Fs_l2Of)
    | 99 => some (mss_l2Is, FSem.wk mss_l2Is Fs_l2Is)
    | _ => none
  bxf := fun _ => none
  mv := []
  keep := fun b => match b with
    | 0 => [(1, false), (3, false), (4, false)]
    | _ => []
  keepB := fun b => match b with
    | 0 => [(1, false)]
    | _ => []
  keepX := fun b => match b with
    | 0 => [(3, false)]
    | _ => []
  keepXB := fun b => match b with
    | 0 => []
    | _ => []
theorem goodFs_DiskOpen : ∀ f ms F, Es_DiskOpen.fn f = some (ms, F) → Sound Go.Proofs.Tryd.prog f ms F := fun f ms F h => by
  unfold Es_DiskOpen at h
  dsimp only at h
  split at h
  · injection h with h; injection h with e1 e2; subst e1 e2; exact Sound.wk ss_DiskOk
  · injection h with h; injection h with e1 e2; subst e1 e2; exact Sound.wk ss_l2Of
  · injection h with h; injection h with e1 e2; subst e1 e2; exact Sound.wk ss_l2Is
  · cases h
theorem goodBs_DiskOpen : ∀ f ms F, Es_DiskOpen.bxf f = some (ms, F) → SoundB Go.Proofs.Tryd.prog f ms F := fun f ms F h => by cases h
theorem goods_DiskOpen : Good Go.Proofs.Tryd.prog Es_DiskOpen := ⟨rfl, goodFs_DiskOpen, goodBs_DiskOpen⟩
noncomputable def Os_DiskOpen_0 : Orc := fun _ _ => none
noncomputable def mss_DiskOpen : List PM := [.rd]
noncomputable def lss_DiskOpen : List (Nat × Code) := loopsAll 0 (Go.Proofs.Tryd.f34.body.getD .skip)
noncomputable def cs_DiskOpen_0 : Code := (loopOf 0 (Go.Proofs.Tryd.f34.body.getD .skip)).getD .skip
theorem lseqs_DiskOpen : lss_DiskOpen = [(0, cs_DiskOpen_0)] := by kernel_rfl
theorem ms_DiskOpen_0 : ∀ p, p ∈ lss_DiskOpen → p.1 = 0 → p.2 = cs_DiskOpen_0 := by
  intro p hp
  rw [lseqs_DiskOpen] at hp
  simp only [List.mem_cons, List.not_mem_nil, or_false] at hp
  subst hp; simp
theorem ks_DiskOpen_0 : OrcOk Es_DiskOpen Os_DiskOpen_0 lss_DiskOpen 0 := orcOk_none
noncomputable def hs_DiskOpen_0 (y0 : List (Int)) (y1 : Int) (y2 : List ((Int) × ((Int) × ((List (ByteArray)) × (List ((ByteArray) × ((Bool) × (List (Int))))))))) (y3 : Int) : List (Pl × LV) := [(.T 1, .t (.val false [.ptr 1 0 0])), (.T 3, .t (.val false [.row 3 0 0])), (.R 3 0, .r 0 (some ⟨false, .non, true, 3, (.int .i64), y0⟩)), (.T 4, .t (.val false [.int .i64 y1])), (.B 1, .b 0 false [.sl .any 79 (.pair (.int .i64) (.pair (.int .i64) (.pair (.sl 9 .str) (.sl 38 (.pair .str (.pair .bool (.sl 3 (.int .i64)))))))) y2, .int .i64 y3])]
noncomputable def g_Ss_DiskOpen_0 (y2 : List ((Int) × ((Int) × ((List (ByteArray)) × (List ((ByteArray) × ((Bool) × (List (Int))))))))) (y3 : Int) : ((List (Int)) × (Int)) → RT ((List (Int)) × (Int)) (((List (Int))))
  | (y0, y1) => .br (true) (.br (decide (y1 < (↑(List.length y2) : Int))) (.br (decide ((0 : Int) ≤ y1 ∧ y1 < (↑(List.length y2) : Int))) (.br (true) (.br ((at_ (Ty.pair (Ty.int IntKind.i64) (Ty.pair (Ty.int IntKind.i64) (Ty.pair (Ty.sl (nat_lit 9) Ty.str) (Ty.sl (nat_lit 38) (Ty.pair Ty.str (Ty.pair Ty.bool (Ty.sl (nat_lit 3) (Ty.int IntKind.i64)))))))) y2 (Int.toNat y1)).1 == (1 : Int)) (.br (decide ((0 : Int) ≤ y1 ∧ y1 ≤ (↑(List.length y2) : Int))) (.br (g_As_l2Of (List.drop (Int.toNat y1) (List.take (List.length y2) y2)) (at_ (Ty.pair (Ty.int IntKind.i64) (Ty.pair (Ty.int IntKind.i64) (Ty.pair (Ty.sl (nat_lit 9) Ty.str) (Ty.sl (nat_lit 38) (Ty.pair Ty.str (Ty.pair Ty.bool (Ty.sl (nat_lit 3) (Ty.int IntKind.i64)))))))) y2 (Int.toNat y1)).2.1) (.br (true) (.br (g_Vs_l2Of_0 (List.drop (Int.toNat y1) (List.take (List.length y2) y2)) (at_ (Ty.pair (Ty.int IntKind.i64) (Ty.pair (Ty.int IntKind.i64) (Ty.pair (Ty.sl (nat_lit 9) Ty.str) (Ty.sl (nat_lit 38) (Ty.pair Ty.str (Ty.pair Ty.bool (Ty.sl (nat_lit 3) (Ty.int IntKind.i64)))))))) y2 (Int.toNat y1)).2.1 == (1 : Int)) (.br (g_As_l2Is y0 (at_ (Ty.pair (Ty.int IntKind.i64) (Ty.pair (Ty.int IntKind.i64) (Ty.pair (Ty.sl (nat_lit 9) Ty.str) (Ty.sl (nat_lit 38) (Ty.pair Ty.str (Ty.pair Ty.bool (Ty.sl (nat_lit 3) (Ty.int IntKind.i64)))))))) y2 (Int.toNat y1)).2.1) (.br (!g_Vs_l2Is_0 y0 (at_ (Ty.pair (Ty.int IntKind.i64) (Ty.pair (Ty.int IntKind.i64) (Ty.pair (Ty.sl (nat_lit 9) Ty.str) (Ty.sl (nat_lit 38) (Ty.pair Ty.str (Ty.pair Ty.bool (Ty.sl (nat_lit 3) (Ty.int IntKind.i64)))))))) y2 (Int.toNat y1)).2.1) (.br (decide ((List.length y0 + List.length [(at_ (Ty.pair (Ty.int IntKind.i64) (Ty.pair (Ty.int IntKind.i64) (Ty.pair (Ty.sl (nat_lit 9) Ty.str) (Ty.sl (nat_lit 38) (Ty.pair Ty.str (Ty.pair Ty.bool (Ty.sl (nat_lit 3) (Ty.int IntKind.i64)))))))) y2 (Int.toNat y1)).2.1]) * nat_lit 8 ≤ nat_lit 140737488355328 ∧ List.length y0 + List.length [(at_ (Ty.pair (Ty.int IntKind.i64) (Ty.pair (Ty.int IntKind.i64) (Ty.pair (Ty.sl (nat_lit 9) Ty.str) (Ty.sl (nat_lit 38) (Ty.pair Ty.str (Ty.pair Ty.bool (Ty.sl (nat_lit 3) (Ty.int IntKind.i64)))))))) y2 (Int.toNat y1)).2.1] ≤ nat_lit 9223372036854775807)) (.br (true) (.go ((y0 ++ [(at_ (Ty.pair (Ty.int IntKind.i64) (Ty.pair (Ty.int IntKind.i64) (Ty.pair (Ty.sl (nat_lit 9) Ty.str) (Ty.sl (nat_lit 38) (Ty.pair Ty.str (Ty.pair Ty.bool (Ty.sl (nat_lit 3) (Ty.int IntKind.i64)))))))) y2 (Int.toNat y1)).2.1], IntKind.wrap IntKind.i64 (y1 + (1 : Int))))) (.bad)) (.bad)) (.br (true) (.go ((y0, IntKind.wrap IntKind.i64 (y1 + (1 : Int))))) (.bad))) (.bad)) (.br (true) (.go ((y0, IntKind.wrap IntKind.i64 (y1 + (1 : Int))))) (.bad))) (.bad)) (.bad)) (.bad)) (.br (true) (.go ((y0, IntKind.wrap IntKind.i64 (y1 + (1 : Int))))) (.bad))) (.bad)) (.bad)) (.out (y0))) (.bad)
noncomputable def g_Ls_DiskOpen_0 (y2 : List ((Int) × ((Int) × ((List (ByteArray)) × (List ((ByteArray) × ((Bool) × (List (Int))))))))) (y3 : Int) (x : (List (Int)) × (Int)) : Option (((List (Int)))) := loopO (g_Ss_DiskOpen_0 y2 y3) x
noncomputable def xs_DiskOpen_0 (y2 : List ((Int) × ((Int) × ((List (ByteArray)) × (List ((ByteArray) × ((Bool) × (List (Int))))))))) (y3 : Int) : (((List (Int)))) → Ex × List (Pl × LV) := fun r => (.exit 0, [(.T 3, .t (.val false [.row 3 0 0])), (.R 3 0, .r 0 (some ⟨false, .non, true, 3, (.int .i64), r⟩))])
noncomputable def Os_DiskOpen_1 : Orc := fun b h => match b, h with
  | 0, [(.T 1, .t (.val false [.ptr 1 0 0])), (.T 3, .t (.val false [.row 3 0 0])), (.R 3 0, .r 0 (some ⟨false, .non, true, 3, (.int .i64), y0⟩)), (.T 4, .t (.val false [.int .i64 y1])), (.B 1, .b 0 false [.sl .any 79 (.pair (.int .i64) (.pair (.int .i64) (.pair (.sl 9 .str) (.sl 38 (.pair .str (.pair .bool (.sl 3 (.int .i64)))))))) y2, .int .i64 y3])] => some (okO (g_Ls_DiskOpen_0 y2 y3 (y0, y1)), (.leaf (.exit 0) [(.T 3, .t (.val false [.row 3 0 0])), (.R 3 0, .r 0 (some ⟨false, .non, true, 3, (.int .i64), (valO (g_Ls_DiskOpen_0 y2 y3 (y0, y1)))⟩))]))
  | b, h => Os_DiskOpen_0 b h
theorem bs_DiskOpen_0 (y0 : List (Int)) (y1 : Int) (y2 : List ((Int) × ((Int) × ((List (ByteArray)) × (List ((ByteArray) × ((Bool) × (List (Int))))))))) (y3 : Int) : Tr.bt Es_DiskOpen Os_DiskOpen_0 (exec Es_DiskOpen 0 cs_DiskOpen_0 (St.of (hs_DiskOpen_0 y0 y1 y2 y3)) (leafRd Es_DiskOpen 0)) = (g_Ss_DiskOpen_0 y2 y3 (y0, y1)).bt (fun ((y0, y1) : (List (Int)) × (Int)) => (hs_DiskOpen_0 y0 y1 y2 y3)) (xs_DiskOpen_0 y2 y3) := by kernel_rfl
theorem ks_DiskOpen_1 : OrcOk Es_DiskOpen Os_DiskOpen_1 lss_DiskOpen 1 := orc_add ks_DiskOpen_0 (fun n p hp h ex h' ho => by
  obtain ⟨b, c⟩ := p
  obtain ⟨xt, h1, h2⟩ := ho
  have h1 : Os_DiskOpen_1 b h = some (true, xt) := h1
  unfold Os_DiskOpen_1 at h1
  split at h1
  · injection h1 with h1
    injection h1 with e1 e2
    subst e2
    have hc : c = cs_DiskOpen_0 := ms_DiskOpen_0 _ hp rfl
    subst hc
    right
    rename_i y0 y1 y2 y3
    have key := LT_step ks_DiskOpen_0 hp (fun q hq => loopsAll_in _ _ _ _ hp hq) (fun ((y0, y1) : (List (Int)) × (Int)) => (hs_DiskOpen_0 y0 y1 y2 y3)) (xs_DiskOpen_0 y2 y3) (g_Ss_DiskOpen_0 y2 y3) (fun x => by first | exact bs_DiskOpen_0 x.1 x.2 y2 y3) n (x := (y0, y1)) (okO_some e1)
    have hx : ∀ r, XT.sel (.leaf (.exit 0) [(.T 3, .t (.val false [.row 3 0 0])), (.R 3 0, .r 0 (some ⟨false, .non, true, 3, (.int .i64), r⟩))]) = xs_DiskOpen_0 y2 y3 r := fun r => by first | rfl | (rcases r with r | r <;> rfl) | (rcases r with r | r | r <;> rfl) | (rcases r with r | r | r | r <;> rfl)
    have h3 := (hx (valO (g_Ls_DiskOpen_0 y2 y3 (y0, y1)))).symm.trans h2
    have e3 := congrArg Prod.fst h3
    have e4 := congrArg Prod.snd h3
    simp only at e3 e4
    rw [← e3, ← e4]
    exact key
  · exact .inl ⟨xt, h1, h2⟩)
noncomputable def g_As_DiskOpen (a0 : List ((Int) × ((Int) × ((List (ByteArray)) × (List ((ByteArray) × ((Bool) × (List (Int))))))))) (a1 : Int) : Bool := g_As_DiskOk a0 a1 && (!g_Vs_DiskOk_0 a0 a1 || okO (g_Ls_DiskOpen_0 a0 a1 ([], (0 : Int))))
noncomputable def g_Vs_DiskOpen_0 (a0 : List ((Int) × ((Int) × ((List (ByteArray)) × (List ((ByteArray) × ((Bool) × (List (Int))))))))) (a1 : Int) : List (Int) := bif !g_Vs_DiskOk_0 a0 a1 then [] else valO (g_Ls_DiskOpen_0 a0 a1 ([], (0 : Int)))
noncomputable def Fs_DiskOpen : FSem := fun ys => match ys with
  | [.val true [.sl .any 79 (.pair (.int .i64) (.pair (.int .i64) (.pair (.sl 9 .str) (.sl 38 (.pair .str (.pair .bool (.sl 3 (.int .i64)))))))) a0, .int .i64 a1]] => some ((g_As_DiskOpen a0 a1), .val false [.own .any true 3 (.int .i64) (g_Vs_DiskOpen_0 a0 a1)], [])
  | _ => none
theorem vs_DiskOpen (a0 : List ((Int) × ((Int) × ((List (ByteArray)) × (List ((ByteArray) × ((Bool) × (List (Int))))))))) (a1 : Int) : collapseH .std Es_DiskOpen Os_DiskOpen_1 (execFn Es_DiskOpen Go.Proofs.Tryd.f34 mss_DiskOpen [.val true [.sl .any 79 (.pair (.int .i64) (.pair (.int .i64) (.pair (.sl 9 .str) (.sl 38 (.pair .str (.pair .bool (.sl 3 (.int .i64)))))))) a0, .int .i64 a1]]) = some ((g_As_DiskOpen a0 a1), .val false [.own .any true 3 (.int .i64) (g_Vs_DiskOpen_0 a0 a1)], []) := by kernel_rfl
theorem ss_DiskOpen : Sound Go.Proofs.Tryd.prog 34 mss_DiskOpen Fs_DiskOpen := by
  refine fn_gen goods_DiskOpen (by kernel_rfl) .std (fn := Go.Proofs.Tryd.f34) (c := (Go.Proofs.Tryd.f34.body.getD .skip)) (o := Os_DiskOpen_1) (k := 1) (by kernel_rfl) (by kernel_rfl) (by kernel_rfl) (by kernel_rfl) (by decide) ks_DiskOpen_1 ?_
  intro ys r outs h
  unfold Fs_DiskOpen at h
  split at h
  · exact (vs_DiskOpen _ _).trans h
  · cases h
end Go.Proofs.YtkjeicijcecmlaaDoor.E
end
section
namespace Go.Proofs.YtkjeicijcecmlaaDoor.E
open Go
set_option maxRecDepth 100000
set_option maxHeartbeats 0
set_option linter.all false
noncomputable def Es_l5Back : Env where
  tt := mkTI Go.Proofs.Tryd.prog
  fn := fun _ => none
  bxf := fun _ => none
  mv := []
  keep := fun _ => []
  keepB := fun _ => []
  keepX := fun _ => []
  keepXB := fun _ => []
theorem goodFs_l5Back : ∀ f ms F, Es_l5Back.fn f = some (ms, F) → Sound Go.Proofs.Tryd.prog f ms F := fun f ms F h => by cases h
theorem goodBs_l5Back : ∀ f ms F, Es_l5Back.bxf f = some (ms, F) → SoundB Go.Proofs.Tryd.prog f ms F := fun f ms F h => by cases h
theorem goods_l5Back : Good Go.Proofs.Tryd.prog Es_l5Back := ⟨rfl, goodFs_l5Back, goodBs_l5Back⟩
noncomputable def Os_l5Back_0 : Orc := fun _ _ => none
noncomputable def mss_l5Back : List PM := [.own, .own, .own]
noncomputable def lss_l5Back : List (Nat × Code) := loopsAll 0 (Go.Proofs.Tryd.f121.body.getD .skip)

theorem ks_l5Back_0 : OrcOk Es_l5Back Os_l5Back_0 lss_l5Back 0 := orcOk_none
noncomputable def g_Vs_l5Back_0 (a0 : Int) (a1 : Int) (a2 : Int) : List ((Int) × ((Int) × ((Int) × ((Int) × ((Int) × ((Int) × ((Int) × ((Int) × ((Int) × ((Int) × (Int))))))))))) := [(a0, (0 : Int), a1, a2, (0 : Int), (0 : Int), (0 : Int), (0 : Int), (0 : Int), (0 : Int), (0 : Int))]
noncomputable def Fs_l5Back : FSem := fun ys => match ys with
  | [.val false [.int .i64 a0], .val false [.int .i64 a1], .val false [.int .i64 a2]] => some (true, .val false [.own .any true 139 (.pair (.int .i64) (.pair (.int .i64) (.pair (.int .i64) (.pair (.int .i64) (.pair (.int .i64) (.pair (.int .i64) (.pair (.int .i64) (.pair (.int .i64) (.pair (.int .i64) (.pair (.int .i64) (.int .i64))))))))))) (g_Vs_l5Back_0 a0 a1 a2)], [])
  | _ => none
theorem vs_l5Back (a0 : Int) (a1 : Int) (a2 : Int) : collapseH .std Es_l5Back Os_l5Back_0 (execFn Es_l5Back Go.Proofs.Tryd.f121 mss_l5Back [.val false [.int .i64 a0], .val false [.int .i64 a1], .val false [.int .i64 a2]]) = some (true, .val false [.own .any true 139 (.pair (.int .i64) (.pair (.int .i64) (.pair (.int .i64) (.pair (.int .i64) (.pair (.int .i64) (.pair (.int .i64) (.pair (.int .i64) (.pair (.int .i64) (.pair (.int .i64) (.pair (.int .i64) (.int .i64))))))))))) (g_Vs_l5Back_0 a0 a1 a2)], []) := by kernel_rfl
theorem ss_l5Back : Sound Go.Proofs.Tryd.prog 121 mss_l5Back Fs_l5Back := by
  refine fn_gen goods_l5Back (by kernel_rfl) .std (fn := Go.Proofs.Tryd.f121) (c := (Go.Proofs.Tryd.f121.body.getD .skip)) (o := Os_l5Back_0) (k := 0) (by kernel_rfl) (by kernel_rfl) (by kernel_rfl) (by kernel_rfl) (by decide) ks_l5Back_0 ?_
  intro ys r outs h
  unfold Fs_l5Back at h
  split at h
  · exact (vs_l5Back _ _ _).trans h
  · cases h
end Go.Proofs.YtkjeicijcecmlaaDoor.E
end
section
namespace Go.Proofs.YtkjeicijcecmlaaDoor.E
open Go
set_option maxRecDepth 100000
set_option maxHeartbeats 0
set_option linter.all false
noncomputable def Es_PlcTick : Env where
  tt := mkTI Go.Proofs.Tryd.prog
  fn := fun f => match f with
    | 34 => some (mss_DiskOpen, FSem.wk mss_DiskOpen Fs_DiskOpen)
    | 119 => some (mss_l1In, FSem.wk mss_l1In Fs_l1In)
    | 121 => some (mss_l5Back, FSem.wk mss_l5Back Fs_l5Back)
    | _ => none
  bxf := fun _ => none
  mv := []
  keep := fun b => match b with
    | 0 => [(0, false), (5, false), (6, false), (7, false)]
    | _ => []
  keepB := fun b => match b with
    | 0 => []
    | _ => []
  keepX := fun b => match b with
    | 0 => [(5, false)]
    | _ => []
  keepXB := fun b => match b with
    | 0 => []
    | _ => []
theorem goodFs_PlcTick : ∀ f ms F, Es_PlcTick.fn f = some (ms, F) → Sound Go.Proofs.Tryd.prog f ms F := fun f ms F h => by
  unfold Es_PlcTick at h
  dsimp only at h
  split at h
  · injection h with h; injection h with e1 e2; subst e1 e2; exact Sound.wk ss_DiskOpen
  · injection h with h; injection h with e1 e2; subst e1 e2; exact Sound.wk ss_l1In
  · injection h with h; injection h with e1 e2; subst e1 e2; exact Sound.wk ss_l5Back
  · cases h
theorem goodBs_PlcTick : ∀ f ms F, Es_PlcTick.bxf f = some (ms, F) → SoundB Go.Proofs.Tryd.prog f ms F := fun f ms F h => by cases h
theorem goods_PlcTick : Good Go.Proofs.Tryd.prog Es_PlcTick := ⟨rfl, goodFs_PlcTick, goodBs_PlcTick⟩
noncomputable def Os_PlcTick_0 : Orc := fun _ _ => none
noncomputable def mss_PlcTick : List PM := [.own, .rd]
noncomputable def lss_PlcTick : List (Nat × Code) := loopsAll 0 (Go.Proofs.Tryd.f63.body.getD .skip)
noncomputable def cs_PlcTick_0 : Code := (loopOf 0 (Go.Proofs.Tryd.f63.body.getD .skip)).getD .skip
theorem lseqs_PlcTick : lss_PlcTick = [(0, cs_PlcTick_0)] := by kernel_rfl
theorem ms_PlcTick_0 : ∀ p, p ∈ lss_PlcTick → p.1 = 0 → p.2 = cs_PlcTick_0 := by
  intro p hp
  rw [lseqs_PlcTick] at hp
  simp only [List.mem_cons, List.not_mem_nil, or_false] at hp
  subst hp; simp
theorem ks_PlcTick_0 : OrcOk Es_PlcTick Os_PlcTick_0 lss_PlcTick 0 := orcOk_none
noncomputable def hs_PlcTick_0 (y0 : Int) (y1 : List ((Int) × ((Int) × ((Int) × ((Int) × ((Int) × ((Int) × ((Int) × ((Int) × ((Int) × ((Int) × (Int)))))))))))) (y2 : List (Int)) (y3 : Int) : List (Pl × LV) := [(.T 0, .t (.val false [.int .i64 y0])), (.T 5, .t (.val false [.row 5 0 0])), (.R 5 0, .r 0 (some ⟨false, .non, true, 139, (.pair (.int .i64) (.pair (.int .i64) (.pair (.int .i64) (.pair (.int .i64) (.pair (.int .i64) (.pair (.int .i64) (.pair (.int .i64) (.pair (.int .i64) (.pair (.int .i64) (.pair (.int .i64) (.int .i64))))))))))), y1⟩)), (.T 6, .t (.val false [.row 6 0 0])), (.R 6 0, .r 0 (some ⟨false, .any, true, 3, (.int .i64), y2⟩)), (.T 7, .t (.val false [.int .i64 y3]))]
noncomputable def g_Ss_PlcTick_0 (y0 : Int) (y2 : List (Int)) : ((List ((Int) × ((Int) × ((Int) × ((Int) × ((Int) × ((Int) × ((Int) × ((Int) × ((Int) × ((Int) × (Int)))))))))))) × (Int)) → RT ((List ((Int) × ((Int) × ((Int) × ((Int) × ((Int) × ((Int) × ((Int) × ((Int) × ((Int) × ((Int) × (Int)))))))))))) × (Int)) (((List ((Int) × ((Int) × ((Int) × ((Int) × ((Int) × ((Int) × ((Int) × ((Int) × ((Int) × ((Int) × (Int))))))))))))))
  | (y1, y3) => .br (true) (.br (decide (y3 < (↑(List.length y2) : Int))) (.br (decide ((0 : Int) ≤ y3 ∧ y3 < (↑(List.length y2) : Int))) (.br (decide (Int.toNat y3 < List.length y2)) (.br (true) (.br (decide ((List.length y1 + List.length (g_Vs_l5Back_0 (7 : Int) y0 (at_ (Ty.int IntKind.i64) y2 (Int.toNat y3)))) * nat_lit 88 ≤ nat_lit 140737488355328 ∧ List.length y1 + List.length (g_Vs_l5Back_0 (7 : Int) y0 (at_ (Ty.int IntKind.i64) y2 (Int.toNat y3))) ≤ nat_lit 9223372036854775807)) (.br (true) (.go ((y1 ++ g_Vs_l5Back_0 (7 : Int) y0 (at_ (Ty.int IntKind.i64) y2 (Int.toNat y3)), IntKind.wrap IntKind.i64 (y3 + (1 : Int))))) (.bad)) (.bad)) (.bad)) (.bad)) (.bad)) (.out (y1))) (.bad)
noncomputable def g_Ls_PlcTick_0 (y0 : Int) (y2 : List (Int)) (x : (List ((Int) × ((Int) × ((Int) × ((Int) × ((Int) × ((Int) × ((Int) × ((Int) × ((Int) × ((Int) × (Int)))))))))))) × (Int)) : Option (((List ((Int) × ((Int) × ((Int) × ((Int) × ((Int) × ((Int) × ((Int) × ((Int) × ((Int) × ((Int) × (Int)))))))))))))) := loopO (g_Ss_PlcTick_0 y0 y2) x
noncomputable def xs_PlcTick_0 (y0 : Int) (y2 : List (Int)) : (((List ((Int) × ((Int) × ((Int) × ((Int) × ((Int) × ((Int) × ((Int) × ((Int) × ((Int) × ((Int) × (Int)))))))))))))) → Ex × List (Pl × LV) := fun r => (.exit 0, [(.T 5, .t (.val false [.row 5 0 0])), (.R 5 0, .r 0 (some ⟨false, .non, true, 139, (.pair (.int .i64) (.pair (.int .i64) (.pair (.int .i64) (.pair (.int .i64) (.pair (.int .i64) (.pair (.int .i64) (.pair (.int .i64) (.pair (.int .i64) (.pair (.int .i64) (.pair (.int .i64) (.int .i64))))))))))), r⟩))])
noncomputable def Os_PlcTick_1 : Orc := fun b h => match b, h with
  | 0, [(.T 0, .t (.val false [.int .i64 y0])), (.T 5, .t (.val false [.row 5 0 0])), (.R 5 0, .r 0 (some ⟨false, .non, true, 139, (.pair (.int .i64) (.pair (.int .i64) (.pair (.int .i64) (.pair (.int .i64) (.pair (.int .i64) (.pair (.int .i64) (.pair (.int .i64) (.pair (.int .i64) (.pair (.int .i64) (.pair (.int .i64) (.int .i64))))))))))), y1⟩)), (.T 6, .t (.val false [.row 6 0 0])), (.R 6 0, .r 0 (some ⟨false, .any, true, 3, (.int .i64), y2⟩)), (.T 7, .t (.val false [.int .i64 y3]))] => some (okO (g_Ls_PlcTick_0 y0 y2 (y1, y3)), (.leaf (.exit 0) [(.T 5, .t (.val false [.row 5 0 0])), (.R 5 0, .r 0 (some ⟨false, .non, true, 139, (.pair (.int .i64) (.pair (.int .i64) (.pair (.int .i64) (.pair (.int .i64) (.pair (.int .i64) (.pair (.int .i64) (.pair (.int .i64) (.pair (.int .i64) (.pair (.int .i64) (.pair (.int .i64) (.int .i64))))))))))), (valO (g_Ls_PlcTick_0 y0 y2 (y1, y3)))⟩))]))
  | b, h => Os_PlcTick_0 b h
theorem bs_PlcTick_0 (y0 : Int) (y1 : List ((Int) × ((Int) × ((Int) × ((Int) × ((Int) × ((Int) × ((Int) × ((Int) × ((Int) × ((Int) × (Int)))))))))))) (y2 : List (Int)) (y3 : Int) : Tr.bt Es_PlcTick Os_PlcTick_0 (exec Es_PlcTick 0 cs_PlcTick_0 (St.of (hs_PlcTick_0 y0 y1 y2 y3)) (leafRd Es_PlcTick 0)) = (g_Ss_PlcTick_0 y0 y2 (y1, y3)).bt (fun ((y1, y3) : (List ((Int) × ((Int) × ((Int) × ((Int) × ((Int) × ((Int) × ((Int) × ((Int) × ((Int) × ((Int) × (Int)))))))))))) × (Int)) => (hs_PlcTick_0 y0 y1 y2 y3)) (xs_PlcTick_0 y0 y2) := by kernel_rfl
theorem ks_PlcTick_1 : OrcOk Es_PlcTick Os_PlcTick_1 lss_PlcTick 1 := orc_add ks_PlcTick_0 (fun n p hp h ex h' ho => by
  obtain ⟨b, c⟩ := p
  obtain ⟨xt, h1, h2⟩ := ho
  have h1 : Os_PlcTick_1 b h = some (true, xt) := h1
  unfold Os_PlcTick_1 at h1
  split at h1
  · injection h1 with h1
    injection h1 with e1 e2
    subst e2
    have hc : c = cs_PlcTick_0 := ms_PlcTick_0 _ hp rfl
    subst hc
    right
    rename_i y0 y1 y2 y3
    have key := LT_step ks_PlcTick_0 hp (fun q hq => loopsAll_in _ _ _ _ hp hq) (fun ((y1, y3) : (List ((Int) × ((Int) × ((Int) × ((Int) × ((Int) × ((Int) × ((Int) × ((Int) × ((Int) × ((Int) × (Int)))))))))))) × (Int)) => (hs_PlcTick_0 y0 y1 y2 y3)) (xs_PlcTick_0 y0 y2) (g_Ss_PlcTick_0 y0 y2) (fun x => by first | exact bs_PlcTick_0 y0 x.1 y2 x.2) n (x := (y1, y3)) (okO_some e1)
    have hx : ∀ r, XT.sel (.leaf (.exit 0) [(.T 5, .t (.val false [.row 5 0 0])), (.R 5 0, .r 0 (some ⟨false, .non, true, 139, (.pair (.int .i64) (.pair (.int .i64) (.pair (.int .i64) (.pair (.int .i64) (.pair (.int .i64) (.pair (.int .i64) (.pair (.int .i64) (.pair (.int .i64) (.pair (.int .i64) (.pair (.int .i64) (.int .i64))))))))))), r⟩))]) = xs_PlcTick_0 y0 y2 r := fun r => by first | rfl | (rcases r with r | r <;> rfl) | (rcases r with r | r | r <;> rfl) | (rcases r with r | r | r | r <;> rfl)
    have h3 := (hx (valO (g_Ls_PlcTick_0 y0 y2 (y1, y3)))).symm.trans h2
    have e3 := congrArg Prod.fst h3
    have e4 := congrArg Prod.snd h3
    simp only at e3 e4
    rw [← e3, ← e4]
    exact key
  · exact .inl ⟨xt, h1, h2⟩)
noncomputable def g_As_PlcTick (a0 : Int) (a1 : List ((Int) × ((Int) × ((List (ByteArray)) × (List ((ByteArray) × ((Bool) × (List (Int))))))))) (a2 : Int) : Bool := g_As_l1In a0 (1 : Int) (3 : Int) && (!g_Vs_l1In_0 a0 (1 : Int) (3 : Int) || g_As_DiskOpen a1 a2 && okO (g_Ls_PlcTick_0 a0 (g_Vs_DiskOpen_0 a1 a2) ([], (0 : Int))))
noncomputable def g_Vs_PlcTick_0 (a0 : Int) (a1 : List ((Int) × ((Int) × ((List (ByteArray)) × (List ((ByteArray) × ((Bool) × (List (Int))))))))) (a2 : Int) : List ((Int) × ((Int) × ((Int) × ((Int) × ((Int) × ((Int) × ((Int) × ((Int) × ((Int) × ((Int) × (Int))))))))))) := bif !g_Vs_l1In_0 a0 (1 : Int) (3 : Int) then [] else valO (g_Ls_PlcTick_0 a0 (g_Vs_DiskOpen_0 a1 a2) ([], (0 : Int)))
noncomputable def Fs_PlcTick : FSem := fun ys => match ys with
  | [.val false [.int .i64 a0], .val true [.sl .any 79 (.pair (.int .i64) (.pair (.int .i64) (.pair (.sl 9 .str) (.sl 38 (.pair .str (.pair .bool (.sl 3 (.int .i64)))))))) a1, .int .i64 a2]] => some ((g_As_PlcTick a0 a1 a2), .val false [.own .any true 139 (.pair (.int .i64) (.pair (.int .i64) (.pair (.int .i64) (.pair (.int .i64) (.pair (.int .i64) (.pair (.int .i64) (.pair (.int .i64) (.pair (.int .i64) (.pair (.int .i64) (.pair (.int .i64) (.int .i64))))))))))) (g_Vs_PlcTick_0 a0 a1 a2)], [])
  | _ => none
theorem vs_PlcTick (a0 : Int) (a1 : List ((Int) × ((Int) × ((List (ByteArray)) × (List ((ByteArray) × ((Bool) × (List (Int))))))))) (a2 : Int) : collapseH .std Es_PlcTick Os_PlcTick_1 (execFn Es_PlcTick Go.Proofs.Tryd.f63 mss_PlcTick [.val false [.int .i64 a0], .val true [.sl .any 79 (.pair (.int .i64) (.pair (.int .i64) (.pair (.sl 9 .str) (.sl 38 (.pair .str (.pair .bool (.sl 3 (.int .i64)))))))) a1, .int .i64 a2]]) = some ((g_As_PlcTick a0 a1 a2), .val false [.own .any true 139 (.pair (.int .i64) (.pair (.int .i64) (.pair (.int .i64) (.pair (.int .i64) (.pair (.int .i64) (.pair (.int .i64) (.pair (.int .i64) (.pair (.int .i64) (.pair (.int .i64) (.pair (.int .i64) (.int .i64))))))))))) (g_Vs_PlcTick_0 a0 a1 a2)], []) := by kernel_rfl
theorem ss_PlcTick : Sound Go.Proofs.Tryd.prog 63 mss_PlcTick Fs_PlcTick := by
  refine fn_gen goods_PlcTick (by kernel_rfl) .std (fn := Go.Proofs.Tryd.f63) (c := (Go.Proofs.Tryd.f63.body.getD .skip)) (o := Os_PlcTick_1) (k := 1) (by kernel_rfl) (by kernel_rfl) (by kernel_rfl) (by kernel_rfl) (by decide) ks_PlcTick_1 ?_
  intro ys r outs h
  unfold Fs_PlcTick at h
  split at h
  · exact (vs_PlcTick _ _ _).trans h
  · cases h
end Go.Proofs.YtkjeicijcecmlaaDoor.E
end
section
namespace Go.Proofs.YtkjeicijcecmlaaDoor.E
open Go
set_option maxRecDepth 100000
set_option maxHeartbeats 0
set_option linter.all false
noncomputable def Ew_eqIntS : Env where
  tt := mkTI Go.Proofs.Tryd.prog
  fn := fun _ => none
  bxf := fun _ => none
  mv := []
  keep := fun b => match b with
    | 0 => [(0, false), (1, false), (5, false)]
    | _ => []
  keepB := fun b => match b with
    | 0 => []
    | _ => []
  keepX := fun b => match b with
    | 0 => [(4, false)]
    | _ => []
  keepXB := fun b => match b with
    | 0 => []
    | _ => []
theorem goodFw_eqIntS : ∀ f ms F, Ew_eqIntS.fn f = some (ms, F) → Sound Go.Proofs.Tryd.prog f ms F := fun f ms F h => by cases h
theorem goodBw_eqIntS : ∀ f ms F, Ew_eqIntS.bxf f = some (ms, F) → SoundB Go.Proofs.Tryd.prog f ms F := fun f ms F h => by cases h
theorem goodw_eqIntS : Good Go.Proofs.Tryd.prog Ew_eqIntS := ⟨rfl, goodFw_eqIntS, goodBw_eqIntS⟩
noncomputable def Ow_eqIntS_0 : Orc := fun _ _ => none
noncomputable def msw_eqIntS : List PM := [.rd, .rd]
noncomputable def lsw_eqIntS : List (Nat × Code) := loopsAll 0 (Go.Proofs.Tryd.f37.body.getD .skip)
noncomputable def cw_eqIntS_0 : Code := (loopOf 0 (Go.Proofs.Tryd.f37.body.getD .skip)).getD .skip
theorem lseqw_eqIntS : lsw_eqIntS = [(0, cw_eqIntS_0)] := by kernel_rfl
theorem mw_eqIntS_0 : ∀ p, p ∈ lsw_eqIntS → p.1 = 0 → p.2 = cw_eqIntS_0 := by
  intro p hp
  rw [lseqw_eqIntS] at hp
  simp only [List.mem_cons, List.not_mem_nil, or_false] at hp
  subst hp; simp
theorem kw_eqIntS_0 : OrcOk Ew_eqIntS Ow_eqIntS_0 lsw_eqIntS 0 := orcOk_none
noncomputable def hw_eqIntS_0 (y0 : List (Int)) (y1 : List (Int)) (y2 : Int) : List (Pl × LV) := [(.T 0, .t (.val false [.sl .any 3 (.int .i64) y0])), (.T 1, .t (.val false [.sl .any 3 (.int .i64) y1])), (.T 5, .t (.val false [.int .i64 y2]))]
noncomputable def g_Sw_eqIntS_0 (y0 : List (Int)) (y1 : List (Int)) : ((Int)) → RT ((Int)) (((Bool)) ⊕ (Unit))
  | y2 => .br (true) (.br (decide (y2 < (↑(List.length y0) : Int))) (.br (decide ((0 : Int) ≤ y2 ∧ y2 < (↑(List.length y0) : Int))) (.br (decide ((0 : Int) ≤ y2 ∧ y2 < (↑(List.length y1) : Int))) (.br (true) (.br (at_ (Ty.int IntKind.i64) y0 (Int.toNat y2) != at_ (Ty.int IntKind.i64) y1 (Int.toNat y2)) (.out (.inl false)) (.br (true) (.go (IntKind.wrap IntKind.i64 (y2 + (1 : Int)))) (.bad))) (.bad)) (.bad)) (.bad)) (.out (.inr (())))) (.bad)
noncomputable def g_Lw_eqIntS_0 (y0 : List (Int)) (y1 : List (Int)) (x : (Int)) : Option (((Bool)) ⊕ (Unit)) := loopO (g_Sw_eqIntS_0 y0 y1) x
noncomputable def xw_eqIntS_0 (y0 : List (Int)) (y1 : List (Int)) : (((Bool)) ⊕ (Unit)) → Ex × List (Pl × LV) := fun
  | .inl r => (.ret, [(.T 4, .t (.val false [.bool r]))])
  | .inr (r) => (.exit 0, [(.T 4, .t (.val false [.undef]))])
noncomputable def Ow_eqIntS_1 : Orc := fun b h => match b, h with
  | 0, [(.T 0, .t (.val false [.sl .any 3 (.int .i64) y0])), (.T 1, .t (.val false [.sl .any 3 (.int .i64) y1])), (.T 5, .t (.val false [.int .i64 y2]))] => some (okO (g_Lw_eqIntS_0 y0 y1 y2), (.br (isL (valO (g_Lw_eqIntS_0 y0 y1 y2))) (.leaf .ret [(.T 4, .t (.val false [.bool (getL (valO (g_Lw_eqIntS_0 y0 y1 y2)))]))]) (.leaf (.exit 0) [(.T 4, .t (.val false [.undef]))])))
  | b, h => Ow_eqIntS_0 b h
theorem bw_eqIntS_0 (y0 : List (Int)) (y1 : List (Int)) (y2 : Int) : Tr.bt Ew_eqIntS Ow_eqIntS_0 (exec Ew_eqIntS 0 cw_eqIntS_0 (St.of (hw_eqIntS_0 y0 y1 y2)) (leafRd Ew_eqIntS 0)) = (g_Sw_eqIntS_0 y0 y1 y2).bt (fun (y2 : (Int)) => (hw_eqIntS_0 y0 y1 y2)) (xw_eqIntS_0 y0 y1) := by kernel_rfl
theorem kw_eqIntS_1 : OrcOk Ew_eqIntS Ow_eqIntS_1 lsw_eqIntS 1 := orc_add kw_eqIntS_0 (fun n p hp h ex h' ho => by
  obtain ⟨b, c⟩ := p
  obtain ⟨xt, h1, h2⟩ := ho
  have h1 : Ow_eqIntS_1 b h = some (true, xt) := h1
  unfold Ow_eqIntS_1 at h1
  split at h1
  · injection h1 with h1
    injection h1 with e1 e2
    subst e2
    have hc : c = cw_eqIntS_0 := mw_eqIntS_0 _ hp rfl
    subst hc
    right
    rename_i y0 y1 y2
    have key := LT_step kw_eqIntS_0 hp (fun q hq => loopsAll_in _ _ _ _ hp hq) (fun (y2 : (Int)) => (hw_eqIntS_0 y0 y1 y2)) (xw_eqIntS_0 y0 y1) (g_Sw_eqIntS_0 y0 y1) (fun x => by first | exact bw_eqIntS_0 y0 y1 x) n (x := y2) (okO_some e1)
    have hx : ∀ r, XT.sel (.br (isL r) (.leaf .ret [(.T 4, .t (.val false [.bool (getL r)]))]) (.leaf (.exit 0) [(.T 4, .t (.val false [.undef]))])) = xw_eqIntS_0 y0 y1 r := fun r => by first | rfl | (rcases r with r | r <;> rfl) | (rcases r with r | r | r <;> rfl) | (rcases r with r | r | r | r <;> rfl)
    have h3 := (hx (valO (g_Lw_eqIntS_0 y0 y1 y2))).symm.trans h2
    have e3 := congrArg Prod.fst h3
    have e4 := congrArg Prod.snd h3
    simp only at e3 e4
    rw [← e3, ← e4]
    exact key
  · exact .inl ⟨xt, h1, h2⟩)
noncomputable def g_Aw_eqIntS (a0 : List (Int)) (a1 : List (Int)) : Bool := (↑(List.length a0) : Int) != (↑(List.length a1) : Int) || okO (g_Lw_eqIntS_0 a0 a1 (0 : Int))
noncomputable def g_Vw_eqIntS_0 (a0 : List (Int)) (a1 : List (Int)) : Bool := bif (↑(List.length a0) : Int) != (↑(List.length a1) : Int) then false else bif isL (valO (g_Lw_eqIntS_0 a0 a1 (0 : Int))) then getL (valO (g_Lw_eqIntS_0 a0 a1 (0 : Int))) else true
noncomputable def Fw_eqIntS : FSem := fun ys => match ys with
  | [.val false [.sl .any 3 (.int .i64) a0], .val false [.sl .any 3 (.int .i64) a1]] => some ((g_Aw_eqIntS a0 a1), .val false [.bool (g_Vw_eqIntS_0 a0 a1)], [])
  | _ => none
theorem vw_eqIntS (a0 : List (Int)) (a1 : List (Int)) : collapseH .std Ew_eqIntS Ow_eqIntS_1 (execFn Ew_eqIntS Go.Proofs.Tryd.f37 msw_eqIntS [.val false [.sl .any 3 (.int .i64) a0], .val false [.sl .any 3 (.int .i64) a1]]) = some ((g_Aw_eqIntS a0 a1), .val false [.bool (g_Vw_eqIntS_0 a0 a1)], []) := by kernel_rfl
theorem sw_eqIntS : Sound Go.Proofs.Tryd.prog 37 msw_eqIntS Fw_eqIntS := by
  refine fn_gen goodw_eqIntS (by kernel_rfl) .std (fn := Go.Proofs.Tryd.f37) (c := (Go.Proofs.Tryd.f37.body.getD .skip)) (o := Ow_eqIntS_1) (k := 1) (by kernel_rfl) (by kernel_rfl) (by kernel_rfl) (by kernel_rfl) (by decide) kw_eqIntS_1 ?_
  intro ys r outs h
  unfold Fw_eqIntS at h
  split at h
  · exact (vw_eqIntS _ _).trans h
  · cases h
end Go.Proofs.YtkjeicijcecmlaaDoor.E
end
section
namespace Go.Proofs.YtkjeicijcecmlaaDoor.E
open Go
set_option maxRecDepth 100000
set_option maxHeartbeats 0
set_option linter.all false
noncomputable def Ew_eqStoWrite : Env where
  tt := mkTI Go.Proofs.Tryd.prog
  fn := fun f => match f with
    | 37 => some (msw_eqIntS, FSem.wk msw_eqIntS Fw_eqIntS)
    | _ => none
  bxf := fun _ => none
  mv := []
  keep := fun _ => []
  keepB := fun _ => []
  keepX := fun _ => []
  keepXB := fun _ => []
theorem goodFw_eqStoWrite : ∀ f ms F, Ew_eqStoWrite.fn f = some (ms, F) → Sound Go.Proofs.Tryd.prog f ms F := fun f ms F h => by
  unfold Ew_eqStoWrite at h
  dsimp only at h
  split at h
  · injection h with h; injection h with e1 e2; subst e1 e2; exact Sound.wk sw_eqIntS
  · cases h
theorem goodBw_eqStoWrite : ∀ f ms F, Ew_eqStoWrite.bxf f = some (ms, F) → SoundB Go.Proofs.Tryd.prog f ms F := fun f ms F h => by cases h
theorem goodw_eqStoWrite : Good Go.Proofs.Tryd.prog Ew_eqStoWrite := ⟨rfl, goodFw_eqStoWrite, goodBw_eqStoWrite⟩
noncomputable def Ow_eqStoWrite_0 : Orc := fun _ _ => none
noncomputable def msw_eqStoWrite : List PM := [.rd, .rd]
noncomputable def lsw_eqStoWrite : List (Nat × Code) := loopsAll 0 (Go.Proofs.Tryd.f93.body.getD .skip)

theorem kw_eqStoWrite_0 : OrcOk Ew_eqStoWrite Ow_eqStoWrite_0 lsw_eqStoWrite 0 := orcOk_none
noncomputable def g_Aw_eqStoWrite (a0 : ByteArray) (a1 : Bool) (a2 : List (Int)) (a3 : ByteArray) (a4 : Bool) (a5 : List (Int)) : Bool := !ByteArray.toList a0 == ByteArray.toList a3 || (!a1 == a4 || g_Aw_eqIntS a2 a5)
noncomputable def g_Vw_eqStoWrite_0 (a0 : ByteArray) (a1 : Bool) (a2 : List (Int)) (a3 : ByteArray) (a4 : Bool) (a5 : List (Int)) : Bool := bif !ByteArray.toList a0 == ByteArray.toList a3 then false else bif !a1 == a4 then false else bif !g_Vw_eqIntS_0 a2 a5 then false else true
noncomputable def Fw_eqStoWrite : FSem := fun ys => match ys with
  | [.val true [.str a0, .bool a1, .sl .any 3 (.int .i64) a2], .val true [.str a3, .bool a4, .sl .any 3 (.int .i64) a5]] => some ((g_Aw_eqStoWrite a0 a1 a2 a3 a4 a5), .val false [.bool (g_Vw_eqStoWrite_0 a0 a1 a2 a3 a4 a5)], [])
  | _ => none
theorem vw_eqStoWrite (a0 : ByteArray) (a1 : Bool) (a2 : List (Int)) (a3 : ByteArray) (a4 : Bool) (a5 : List (Int)) : collapseH .std Ew_eqStoWrite Ow_eqStoWrite_0 (execFn Ew_eqStoWrite Go.Proofs.Tryd.f93 msw_eqStoWrite [.val true [.str a0, .bool a1, .sl .any 3 (.int .i64) a2], .val true [.str a3, .bool a4, .sl .any 3 (.int .i64) a5]]) = some ((g_Aw_eqStoWrite a0 a1 a2 a3 a4 a5), .val false [.bool (g_Vw_eqStoWrite_0 a0 a1 a2 a3 a4 a5)], []) := by kernel_rfl
theorem sw_eqStoWrite : Sound Go.Proofs.Tryd.prog 93 msw_eqStoWrite Fw_eqStoWrite := by
  refine fn_gen goodw_eqStoWrite (by kernel_rfl) .std (fn := Go.Proofs.Tryd.f93) (c := (Go.Proofs.Tryd.f93.body.getD .skip)) (o := Ow_eqStoWrite_0) (k := 0) (by kernel_rfl) (by kernel_rfl) (by kernel_rfl) (by kernel_rfl) (by decide) kw_eqStoWrite_0 ?_
  intro ys r outs h
  unfold Fw_eqStoWrite at h
  split at h
  · exact (vw_eqStoWrite _ _ _ _ _ _).trans h
  · cases h
end Go.Proofs.YtkjeicijcecmlaaDoor.E
end
section
namespace Go.Proofs.YtkjeicijcecmlaaDoor.E
open Go
set_option maxRecDepth 100000
set_option maxHeartbeats 0
set_option linter.all false
noncomputable def Ew_eqStoWriteS : Env where
  tt := mkTI Go.Proofs.Tryd.prog
  fn := fun f => match f with
    | 93 => some (msw_eqStoWrite, FSem.wk msw_eqStoWrite Fw_eqStoWrite)
    | _ => none
  bxf := fun _ => none
  mv := []
  keep := fun b => match b with
    | 0 => [(0, false), (1, false), (5, false)]
    | _ => []
  keepB := fun b => match b with
    | 0 => []
    | _ => []
  keepX := fun b => match b with
    | 0 => [(4, false)]
    | _ => []
  keepXB := fun b => match b with
    | 0 => []
    | _ => []
theorem goodFw_eqStoWriteS : ∀ f ms F, Ew_eqStoWriteS.fn f = some (ms, F) → Sound Go.Proofs.Tryd.prog f ms F := fun f ms F h => by
  unfold Ew_eqStoWriteS at h
  dsimp only at h
  split at h
  · injection h with h; injection h with e1 e2; subst e1 e2; exact Sound.wk sw_eqStoWrite
  · cases h
theorem goodBw_eqStoWriteS : ∀ f ms F, Ew_eqStoWriteS.bxf f = some (ms, F) → SoundB Go.Proofs.Tryd.prog f ms F := fun f ms F h => by cases h
theorem goodw_eqStoWriteS : Good Go.Proofs.Tryd.prog Ew_eqStoWriteS := ⟨rfl, goodFw_eqStoWriteS, goodBw_eqStoWriteS⟩
noncomputable def Ow_eqStoWriteS_0 : Orc := fun _ _ => none
noncomputable def msw_eqStoWriteS : List PM := [.rd, .rd]
noncomputable def lsw_eqStoWriteS : List (Nat × Code) := loopsAll 0 (Go.Proofs.Tryd.f29.body.getD .skip)
noncomputable def cw_eqStoWriteS_0 : Code := (loopOf 0 (Go.Proofs.Tryd.f29.body.getD .skip)).getD .skip
theorem lseqw_eqStoWriteS : lsw_eqStoWriteS = [(0, cw_eqStoWriteS_0)] := by kernel_rfl
theorem mw_eqStoWriteS_0 : ∀ p, p ∈ lsw_eqStoWriteS → p.1 = 0 → p.2 = cw_eqStoWriteS_0 := by
  intro p hp
  rw [lseqw_eqStoWriteS] at hp
  simp only [List.mem_cons, List.not_mem_nil, or_false] at hp
  subst hp; simp
theorem kw_eqStoWriteS_0 : OrcOk Ew_eqStoWriteS Ow_eqStoWriteS_0 lsw_eqStoWriteS 0 := orcOk_none
noncomputable def hw_eqStoWriteS_0 (y0 : List ((ByteArray) × ((Bool) × (List (Int))))) (y1 : List ((ByteArray) × ((Bool) × (List (Int))))) (y2 : Int) : List (Pl × LV) := [(.T 0, .t (.val false [.sl .any 38 (.pair .str (.pair .bool (.sl 3 (.int .i64)))) y0])), (.T 1, .t (.val false [.sl .any 38 (.pair .str (.pair .bool (.sl 3 (.int .i64)))) y1])), (.T 5, .t (.val false [.int .i64 y2]))]
noncomputable def g_Sw_eqStoWriteS_0 (y0 : List ((ByteArray) × ((Bool) × (List (Int))))) (y1 : List ((ByteArray) × ((Bool) × (List (Int))))) : ((Int)) → RT ((Int)) (((Bool)) ⊕ (Unit))
  | y2 => .br (true) (.br (decide (y2 < (↑(List.length y0) : Int))) (.br (decide ((0 : Int) ≤ y2 ∧ y2 < (↑(List.length y0) : Int))) (.br (decide ((0 : Int) ≤ y2 ∧ y2 < (↑(List.length y1) : Int))) (.br (g_Aw_eqStoWrite (at_ (Ty.pair Ty.str (Ty.pair Ty.bool (Ty.sl (nat_lit 3) (Ty.int IntKind.i64)))) y0 (Int.toNat y2)).1 (at_ (Ty.pair Ty.str (Ty.pair Ty.bool (Ty.sl (nat_lit 3) (Ty.int IntKind.i64)))) y0 (Int.toNat y2)).2.1 (at_ (Ty.pair Ty.str (Ty.pair Ty.bool (Ty.sl (nat_lit 3) (Ty.int IntKind.i64)))) y0 (Int.toNat y2)).2.2 (at_ (Ty.pair Ty.str (Ty.pair Ty.bool (Ty.sl (nat_lit 3) (Ty.int IntKind.i64)))) y1 (Int.toNat y2)).1 (at_ (Ty.pair Ty.str (Ty.pair Ty.bool (Ty.sl (nat_lit 3) (Ty.int IntKind.i64)))) y1 (Int.toNat y2)).2.1 (at_ (Ty.pair Ty.str (Ty.pair Ty.bool (Ty.sl (nat_lit 3) (Ty.int IntKind.i64)))) y1 (Int.toNat y2)).2.2) (.br (!g_Vw_eqStoWrite_0 (at_ (Ty.pair Ty.str (Ty.pair Ty.bool (Ty.sl (nat_lit 3) (Ty.int IntKind.i64)))) y0 (Int.toNat y2)).1 (at_ (Ty.pair Ty.str (Ty.pair Ty.bool (Ty.sl (nat_lit 3) (Ty.int IntKind.i64)))) y0 (Int.toNat y2)).2.1 (at_ (Ty.pair Ty.str (Ty.pair Ty.bool (Ty.sl (nat_lit 3) (Ty.int IntKind.i64)))) y0 (Int.toNat y2)).2.2 (at_ (Ty.pair Ty.str (Ty.pair Ty.bool (Ty.sl (nat_lit 3) (Ty.int IntKind.i64)))) y1 (Int.toNat y2)).1 (at_ (Ty.pair Ty.str (Ty.pair Ty.bool (Ty.sl (nat_lit 3) (Ty.int IntKind.i64)))) y1 (Int.toNat y2)).2.1 (at_ (Ty.pair Ty.str (Ty.pair Ty.bool (Ty.sl (nat_lit 3) (Ty.int IntKind.i64)))) y1 (Int.toNat y2)).2.2) (.out (.inl false)) (.br (true) (.go (IntKind.wrap IntKind.i64 (y2 + (1 : Int)))) (.bad))) (.bad)) (.bad)) (.bad)) (.out (.inr (())))) (.bad)
noncomputable def g_Lw_eqStoWriteS_0 (y0 : List ((ByteArray) × ((Bool) × (List (Int))))) (y1 : List ((ByteArray) × ((Bool) × (List (Int))))) (x : (Int)) : Option (((Bool)) ⊕ (Unit)) := loopO (g_Sw_eqStoWriteS_0 y0 y1) x
noncomputable def xw_eqStoWriteS_0 (y0 : List ((ByteArray) × ((Bool) × (List (Int))))) (y1 : List ((ByteArray) × ((Bool) × (List (Int))))) : (((Bool)) ⊕ (Unit)) → Ex × List (Pl × LV) := fun
  | .inl r => (.ret, [(.T 4, .t (.val false [.bool r]))])
  | .inr (r) => (.exit 0, [(.T 4, .t (.val false [.undef]))])
noncomputable def Ow_eqStoWriteS_1 : Orc := fun b h => match b, h with
  | 0, [(.T 0, .t (.val false [.sl .any 38 (.pair .str (.pair .bool (.sl 3 (.int .i64)))) y0])), (.T 1, .t (.val false [.sl .any 38 (.pair .str (.pair .bool (.sl 3 (.int .i64)))) y1])), (.T 5, .t (.val false [.int .i64 y2]))] => some (okO (g_Lw_eqStoWriteS_0 y0 y1 y2), (.br (isL (valO (g_Lw_eqStoWriteS_0 y0 y1 y2))) (.leaf .ret [(.T 4, .t (.val false [.bool (getL (valO (g_Lw_eqStoWriteS_0 y0 y1 y2)))]))]) (.leaf (.exit 0) [(.T 4, .t (.val false [.undef]))])))
  | b, h => Ow_eqStoWriteS_0 b h
theorem bw_eqStoWriteS_0 (y0 : List ((ByteArray) × ((Bool) × (List (Int))))) (y1 : List ((ByteArray) × ((Bool) × (List (Int))))) (y2 : Int) : Tr.bt Ew_eqStoWriteS Ow_eqStoWriteS_0 (exec Ew_eqStoWriteS 0 cw_eqStoWriteS_0 (St.of (hw_eqStoWriteS_0 y0 y1 y2)) (leafRd Ew_eqStoWriteS 0)) = (g_Sw_eqStoWriteS_0 y0 y1 y2).bt (fun (y2 : (Int)) => (hw_eqStoWriteS_0 y0 y1 y2)) (xw_eqStoWriteS_0 y0 y1) := by kernel_rfl
theorem kw_eqStoWriteS_1 : OrcOk Ew_eqStoWriteS Ow_eqStoWriteS_1 lsw_eqStoWriteS 1 := orc_add kw_eqStoWriteS_0 (fun n p hp h ex h' ho => by
  obtain ⟨b, c⟩ := p
  obtain ⟨xt, h1, h2⟩ := ho
  have h1 : Ow_eqStoWriteS_1 b h = some (true, xt) := h1
  unfold Ow_eqStoWriteS_1 at h1
  split at h1
  · injection h1 with h1
    injection h1 with e1 e2
    subst e2
    have hc : c = cw_eqStoWriteS_0 := mw_eqStoWriteS_0 _ hp rfl
    subst hc
    right
    rename_i y0 y1 y2
    have key := LT_step kw_eqStoWriteS_0 hp (fun q hq => loopsAll_in _ _ _ _ hp hq) (fun (y2 : (Int)) => (hw_eqStoWriteS_0 y0 y1 y2)) (xw_eqStoWriteS_0 y0 y1) (g_Sw_eqStoWriteS_0 y0 y1) (fun x => by first | exact bw_eqStoWriteS_0 y0 y1 x) n (x := y2) (okO_some e1)
    have hx : ∀ r, XT.sel (.br (isL r) (.leaf .ret [(.T 4, .t (.val false [.bool (getL r)]))]) (.leaf (.exit 0) [(.T 4, .t (.val false [.undef]))])) = xw_eqStoWriteS_0 y0 y1 r := fun r => by first | rfl | (rcases r with r | r <;> rfl) | (rcases r with r | r | r <;> rfl) | (rcases r with r | r | r | r <;> rfl)
    have h3 := (hx (valO (g_Lw_eqStoWriteS_0 y0 y1 y2))).symm.trans h2
    have e3 := congrArg Prod.fst h3
    have e4 := congrArg Prod.snd h3
    simp only at e3 e4
    rw [← e3, ← e4]
    exact key
  · exact .inl ⟨xt, h1, h2⟩)
noncomputable def g_Aw_eqStoWriteS (a0 : List ((ByteArray) × ((Bool) × (List (Int))))) (a1 : List ((ByteArray) × ((Bool) × (List (Int))))) : Bool := (↑(List.length a0) : Int) != (↑(List.length a1) : Int) || okO (g_Lw_eqStoWriteS_0 a0 a1 (0 : Int))
noncomputable def g_Vw_eqStoWriteS_0 (a0 : List ((ByteArray) × ((Bool) × (List (Int))))) (a1 : List ((ByteArray) × ((Bool) × (List (Int))))) : Bool := bif (↑(List.length a0) : Int) != (↑(List.length a1) : Int) then false else bif isL (valO (g_Lw_eqStoWriteS_0 a0 a1 (0 : Int))) then getL (valO (g_Lw_eqStoWriteS_0 a0 a1 (0 : Int))) else true
noncomputable def Fw_eqStoWriteS : FSem := fun ys => match ys with
  | [.val false [.sl .any 38 (.pair .str (.pair .bool (.sl 3 (.int .i64)))) a0], .val false [.sl .any 38 (.pair .str (.pair .bool (.sl 3 (.int .i64)))) a1]] => some ((g_Aw_eqStoWriteS a0 a1), .val false [.bool (g_Vw_eqStoWriteS_0 a0 a1)], [])
  | _ => none
theorem vw_eqStoWriteS (a0 : List ((ByteArray) × ((Bool) × (List (Int))))) (a1 : List ((ByteArray) × ((Bool) × (List (Int))))) : collapseH .std Ew_eqStoWriteS Ow_eqStoWriteS_1 (execFn Ew_eqStoWriteS Go.Proofs.Tryd.f29 msw_eqStoWriteS [.val false [.sl .any 38 (.pair .str (.pair .bool (.sl 3 (.int .i64)))) a0], .val false [.sl .any 38 (.pair .str (.pair .bool (.sl 3 (.int .i64)))) a1]]) = some ((g_Aw_eqStoWriteS a0 a1), .val false [.bool (g_Vw_eqStoWriteS_0 a0 a1)], []) := by kernel_rfl
theorem sw_eqStoWriteS : Sound Go.Proofs.Tryd.prog 29 msw_eqStoWriteS Fw_eqStoWriteS := by
  refine fn_gen goodw_eqStoWriteS (by kernel_rfl) .std (fn := Go.Proofs.Tryd.f29) (c := (Go.Proofs.Tryd.f29.body.getD .skip)) (o := Ow_eqStoWriteS_1) (k := 1) (by kernel_rfl) (by kernel_rfl) (by kernel_rfl) (by kernel_rfl) (by decide) kw_eqStoWriteS_1 ?_
  intro ys r outs h
  unfold Fw_eqStoWriteS at h
  split at h
  · exact (vw_eqStoWriteS _ _).trans h
  · cases h
end Go.Proofs.YtkjeicijcecmlaaDoor.E
end
section
namespace Go.Proofs.YtkjeicijcecmlaaDoor.E
open Go
set_option maxRecDepth 100000
set_option maxHeartbeats 0
set_option linter.all false
noncomputable def Ew_eqStringS : Env where
  tt := mkTI Go.Proofs.Tryd.prog
  fn := fun _ => none
  bxf := fun _ => none
  mv := []
  keep := fun b => match b with
    | 0 => [(0, false), (1, false), (5, false)]
    | _ => []
  keepB := fun b => match b with
    | 0 => []
    | _ => []
  keepX := fun b => match b with
    | 0 => [(4, false)]
    | _ => []
  keepXB := fun b => match b with
    | 0 => []
    | _ => []
theorem goodFw_eqStringS : ∀ f ms F, Ew_eqStringS.fn f = some (ms, F) → Sound Go.Proofs.Tryd.prog f ms F := fun f ms F h => by cases h
theorem goodBw_eqStringS : ∀ f ms F, Ew_eqStringS.bxf f = some (ms, F) → SoundB Go.Proofs.Tryd.prog f ms F := fun f ms F h => by cases h
theorem goodw_eqStringS : Good Go.Proofs.Tryd.prog Ew_eqStringS := ⟨rfl, goodFw_eqStringS, goodBw_eqStringS⟩
noncomputable def Ow_eqStringS_0 : Orc := fun _ _ => none
noncomputable def msw_eqStringS : List PM := [.rd, .rd]
noncomputable def lsw_eqStringS : List (Nat × Code) := loopsAll 0 (Go.Proofs.Tryd.f44.body.getD .skip)
noncomputable def cw_eqStringS_0 : Code := (loopOf 0 (Go.Proofs.Tryd.f44.body.getD .skip)).getD .skip
theorem lseqw_eqStringS : lsw_eqStringS = [(0, cw_eqStringS_0)] := by kernel_rfl
theorem mw_eqStringS_0 : ∀ p, p ∈ lsw_eqStringS → p.1 = 0 → p.2 = cw_eqStringS_0 := by
  intro p hp
  rw [lseqw_eqStringS] at hp
  simp only [List.mem_cons, List.not_mem_nil, or_false] at hp
  subst hp; simp
theorem kw_eqStringS_0 : OrcOk Ew_eqStringS Ow_eqStringS_0 lsw_eqStringS 0 := orcOk_none
noncomputable def hw_eqStringS_0 (y0 : List (ByteArray)) (y1 : List (ByteArray)) (y2 : Int) : List (Pl × LV) := [(.T 0, .t (.val false [.sl .any 9 .str y0])), (.T 1, .t (.val false [.sl .any 9 .str y1])), (.T 5, .t (.val false [.int .i64 y2]))]
noncomputable def g_Sw_eqStringS_0 (y0 : List (ByteArray)) (y1 : List (ByteArray)) : ((Int)) → RT ((Int)) (((Bool)) ⊕ (Unit))
  | y2 => .br (true) (.br (decide (y2 < (↑(List.length y0) : Int))) (.br (decide ((0 : Int) ≤ y2 ∧ y2 < (↑(List.length y0) : Int))) (.br (decide ((0 : Int) ≤ y2 ∧ y2 < (↑(List.length y1) : Int))) (.br (true) (.br (!ByteArray.toList (at_ Ty.str y0 (Int.toNat y2)) == ByteArray.toList (at_ Ty.str y1 (Int.toNat y2))) (.out (.inl false)) (.br (true) (.go (IntKind.wrap IntKind.i64 (y2 + (1 : Int)))) (.bad))) (.bad)) (.bad)) (.bad)) (.out (.inr (())))) (.bad)
noncomputable def g_Lw_eqStringS_0 (y0 : List (ByteArray)) (y1 : List (ByteArray)) (x : (Int)) : Option (((Bool)) ⊕ (Unit)) := loopO (g_Sw_eqStringS_0 y0 y1) x
noncomputable def xw_eqStringS_0 (y0 : List (ByteArray)) (y1 : List (ByteArray)) : (((Bool)) ⊕ (Unit)) → Ex × List (Pl × LV) := fun
  | .inl r => (.ret, [(.T 4, .t (.val false [.bool r]))])
  | .inr (r) => (.exit 0, [(.T 4, .t (.val false [.undef]))])
noncomputable def Ow_eqStringS_1 : Orc := fun b h => match b, h with
  | 0, [(.T 0, .t (.val false [.sl .any 9 .str y0])), (.T 1, .t (.val false [.sl .any 9 .str y1])), (.T 5, .t (.val false [.int .i64 y2]))] => some (okO (g_Lw_eqStringS_0 y0 y1 y2), (.br (isL (valO (g_Lw_eqStringS_0 y0 y1 y2))) (.leaf .ret [(.T 4, .t (.val false [.bool (getL (valO (g_Lw_eqStringS_0 y0 y1 y2)))]))]) (.leaf (.exit 0) [(.T 4, .t (.val false [.undef]))])))
  | b, h => Ow_eqStringS_0 b h
theorem bw_eqStringS_0 (y0 : List (ByteArray)) (y1 : List (ByteArray)) (y2 : Int) : Tr.bt Ew_eqStringS Ow_eqStringS_0 (exec Ew_eqStringS 0 cw_eqStringS_0 (St.of (hw_eqStringS_0 y0 y1 y2)) (leafRd Ew_eqStringS 0)) = (g_Sw_eqStringS_0 y0 y1 y2).bt (fun (y2 : (Int)) => (hw_eqStringS_0 y0 y1 y2)) (xw_eqStringS_0 y0 y1) := by kernel_rfl
theorem kw_eqStringS_1 : OrcOk Ew_eqStringS Ow_eqStringS_1 lsw_eqStringS 1 := orc_add kw_eqStringS_0 (fun n p hp h ex h' ho => by
  obtain ⟨b, c⟩ := p
  obtain ⟨xt, h1, h2⟩ := ho
  have h1 : Ow_eqStringS_1 b h = some (true, xt) := h1
  unfold Ow_eqStringS_1 at h1
  split at h1
  · injection h1 with h1
    injection h1 with e1 e2
    subst e2
    have hc : c = cw_eqStringS_0 := mw_eqStringS_0 _ hp rfl
    subst hc
    right
    rename_i y0 y1 y2
    have key := LT_step kw_eqStringS_0 hp (fun q hq => loopsAll_in _ _ _ _ hp hq) (fun (y2 : (Int)) => (hw_eqStringS_0 y0 y1 y2)) (xw_eqStringS_0 y0 y1) (g_Sw_eqStringS_0 y0 y1) (fun x => by first | exact bw_eqStringS_0 y0 y1 x) n (x := y2) (okO_some e1)
    have hx : ∀ r, XT.sel (.br (isL r) (.leaf .ret [(.T 4, .t (.val false [.bool (getL r)]))]) (.leaf (.exit 0) [(.T 4, .t (.val false [.undef]))])) = xw_eqStringS_0 y0 y1 r := fun r => by first | rfl | (rcases r with r | r <;> rfl) | (rcases r with r | r | r <;> rfl) | (rcases r with r | r | r | r <;> rfl)
    have h3 := (hx (valO (g_Lw_eqStringS_0 y0 y1 y2))).symm.trans h2
    have e3 := congrArg Prod.fst h3
    have e4 := congrArg Prod.snd h3
    simp only at e3 e4
    rw [← e3, ← e4]
    exact key
  · exact .inl ⟨xt, h1, h2⟩)
noncomputable def g_Aw_eqStringS (a0 : List (ByteArray)) (a1 : List (ByteArray)) : Bool := (↑(List.length a0) : Int) != (↑(List.length a1) : Int) || okO (g_Lw_eqStringS_0 a0 a1 (0 : Int))
noncomputable def g_Vw_eqStringS_0 (a0 : List (ByteArray)) (a1 : List (ByteArray)) : Bool := bif (↑(List.length a0) : Int) != (↑(List.length a1) : Int) then false else bif isL (valO (g_Lw_eqStringS_0 a0 a1 (0 : Int))) then getL (valO (g_Lw_eqStringS_0 a0 a1 (0 : Int))) else true
noncomputable def Fw_eqStringS : FSem := fun ys => match ys with
  | [.val false [.sl .any 9 .str a0], .val false [.sl .any 9 .str a1]] => some ((g_Aw_eqStringS a0 a1), .val false [.bool (g_Vw_eqStringS_0 a0 a1)], [])
  | _ => none
theorem vw_eqStringS (a0 : List (ByteArray)) (a1 : List (ByteArray)) : collapseH .std Ew_eqStringS Ow_eqStringS_1 (execFn Ew_eqStringS Go.Proofs.Tryd.f44 msw_eqStringS [.val false [.sl .any 9 .str a0], .val false [.sl .any 9 .str a1]]) = some ((g_Aw_eqStringS a0 a1), .val false [.bool (g_Vw_eqStringS_0 a0 a1)], []) := by kernel_rfl
theorem sw_eqStringS : Sound Go.Proofs.Tryd.prog 44 msw_eqStringS Fw_eqStringS := by
  refine fn_gen goodw_eqStringS (by kernel_rfl) .std (fn := Go.Proofs.Tryd.f44) (c := (Go.Proofs.Tryd.f44.body.getD .skip)) (o := Ow_eqStringS_1) (k := 1) (by kernel_rfl) (by kernel_rfl) (by kernel_rfl) (by kernel_rfl) (by decide) kw_eqStringS_1 ?_
  intro ys r outs h
  unfold Fw_eqStringS at h
  split at h
  · exact (vw_eqStringS _ _).trans h
  · cases h
end Go.Proofs.YtkjeicijcecmlaaDoor.E
end
