/- What the functions that are reached do, by the engine: for the proof (laws.FnExactGloOk): part 1. No conditions. -/
import Derived.Test.YtopoiinmhajhmaaDoorEb
import Derived.Test.YtopoiinmhajhmaaDoorProg
import Derived.Test.YtopoiinmhajhmaaDoorShelf
set_option linter.all false
section
namespace Go.Proofs.YtopoiinmhajhmaaDoor.E
open Go
set_option maxRecDepth 100000
set_option maxHeartbeats 0
set_option linter.all false
noncomputable def Ei_in : Env where
  tt := mkTI Go.Proofs.Tryd.prog
  fn := fun _ => none
  mv := []
  keep := fun _ => []
  keepB := fun _ => []
  keepX := fun _ => []
  keepXB := fun _ => []
theorem goodi_in : Good Go.Proofs.Tryd.prog Ei_in := ⟨rfl, fun f ms F h => by cases h⟩
noncomputable def Oi_in_0 : Orc := fun _ _ => none
noncomputable def msi_in : List PM := [.own, .own, .own]
noncomputable def lsi_in : List (Nat × Code) := loopsAll 0 (Go.Proofs.Tryd.f60.body.getD .skip)

theorem ki_in_0 : OrcOk Ei_in Oi_in_0 lsi_in 0 := orcOk_none
noncomputable def g_Ai_in (a0 : Int) (a1 : Int) (a2 : Int) : Bool := !decide (a0 ≥ a1) || true
noncomputable def g_Vi_in_0 (a0 : Int) (a1 : Int) (a2 : Int) : Bool := bif decide (a0 ≥ a1) then decide (a0 ≤ a2) else false
noncomputable def Fi_in : FSem := fun ys => match ys with
  | [.val false [.int .i64 a0], .val false [.int .i64 a1], .val false [.int .i64 a2]] => some ((g_Ai_in a0 a1 a2), .val false [.bool (g_Vi_in_0 a0 a1 a2)], [])
  | _ => none
theorem vi_in (a0 : Int) (a1 : Int) (a2 : Int) : collapseH .std Ei_in Oi_in_0 (execFn Ei_in Go.Proofs.Tryd.f60 msi_in [.val false [.int .i64 a0], .val false [.int .i64 a1], .val false [.int .i64 a2]]) = some ((g_Ai_in a0 a1 a2), .val false [.bool (g_Vi_in_0 a0 a1 a2)], []) := by kernel_rfl
theorem si_in : Sound Go.Proofs.Tryd.prog 60 msi_in Fi_in := by
  refine fn_gen goodi_in (by kernel_rfl) .std (fn := Go.Proofs.Tryd.f60) (c := (Go.Proofs.Tryd.f60.body.getD .skip)) (o := Oi_in_0) (k := 0) (by kernel_rfl) (by kernel_rfl) (by kernel_rfl) (by kernel_rfl) (by decide) ki_in_0 ?_
  intro ys r outs h
  unfold Fi_in at h
  split at h
  · exact (vi_in _ _ _).trans h
  · cases h
end Go.Proofs.YtopoiinmhajhmaaDoor.E
end
section
namespace Go.Proofs.YtopoiinmhajhmaaDoor.E
open Go
set_option maxRecDepth 100000
set_option linter.all false
def msstrings_Trim : List PM := [.own, .own]
def g_trim (s c : ByteArray) : ByteArray := ⟨(Lib.trimS s.data.toList c.data.toList).toArray⟩
def g_ascii (c : ByteArray) : Bool := c.data.toList.all fun b => decide (b.toNat < 128)
def Fstrings_Trim : FSem := fun ys => match ys with
  | [.val false [.str s], .val false [.str c]] => some (decide (s.size ≤ 9223372036854775807) && (decide (c.size < 4294967281) && g_ascii c), .val false [.str (g_trim s c)], [])
  | _ => none
theorem sstrings_Trim : Sound Go.Proofs.Tryd.prog 100 msstrings_Trim Fstrings_Trim := by
  refine sound_plain (by simp [msstrings_Trim]) ⟨_, Tryd.func100, by kernel_rfl, by kernel_rfl⟩ (fun w ys r outs h => ?_)
  unfold Fstrings_Trim at h
  split at h
  · rename_i s c
    simp only [Option.some.injEq, Prod.mk.injEq, Bool.and_eq_true, decide_eq_true_eq] at h
    obtain ⟨⟨h1, h2, h3⟩, rfl, rfl⟩ := h
    refine ⟨rfl, [.string s, .string c], .string (g_trim s c), rfl, rfl, ?_⟩
    exact Tryd.strings_Trim_laid s c w h1 h2 (fun j b hb => by
      have := List.all_eq_true.1 h3 b (List.mem_of_getElem? hb)
      simpa using this)
  · cases h
end Go.Proofs.YtopoiinmhajhmaaDoor.E
end
section
namespace Go.Proofs.YtopoiinmhajhmaaDoor.E
open Go
set_option maxRecDepth 100000
set_option maxHeartbeats 0
set_option linter.all false
noncomputable def Ei_keyOk : Env where
  tt := mkTI Go.Proofs.Tryd.prog
  fn := fun f => match f with
    | 60 => some (msi_in, FSem.wk msi_in Fi_in)
    | 100 => some (msstrings_Trim, FSem.wk msstrings_Trim Fstrings_Trim)
    | _ => none
  mv := []
  keep := fun _ => []
  keepB := fun _ => []
  keepX := fun _ => []
  keepXB := fun _ => []
theorem goodi_keyOk : Good Go.Proofs.Tryd.prog Ei_keyOk := ⟨rfl, fun f ms F h => by
  unfold Ei_keyOk at h
  dsimp only at h
  split at h
  · injection h with h; injection h with e1 e2; subst e1 e2; exact Sound.wk si_in
  · injection h with h; injection h with e1 e2; subst e1 e2; exact Sound.wk sstrings_Trim
  · cases h⟩
noncomputable def Oi_keyOk_0 : Orc := fun _ _ => none
noncomputable def msi_keyOk : List PM := [.own]
noncomputable def lsi_keyOk : List (Nat × Code) := loopsAll 0 (Go.Proofs.Tryd.f66.body.getD .skip)

theorem ki_keyOk_0 : OrcOk Ei_keyOk Oi_keyOk_0 lsi_keyOk 0 := orcOk_none
noncomputable def g_Ai_keyOk (a0 : ByteArray) : Bool := g_Ai_in (↑(ByteArray.size a0) : Int) (2 : Int) (3 : Int) && (!g_Vi_in_0 (↑(ByteArray.size a0) : Int) (2 : Int) (3 : Int) || decide ((0 : Int) ≤ (0 : Int) ∧ (0 : Int) < (↑(ByteArray.size a0) : Int)) && (g_Ai_in (IntKind.wrap IntKind.i64 (byteAt a0 (nat_lit 0))) (97 : Int) (122 : Int) && (!g_Vi_in_0 (IntKind.wrap IntKind.i64 (byteAt a0 (nat_lit 0))) (97 : Int) (122 : Int) || decide ((0 : Int) ≤ (1 : Int) ∧ (1 : Int) ≤ (↑(ByteArray.size a0) : Int)) && (decide (ByteArray.size (ByteArray.extract a0 (nat_lit 1) (ByteArray.size a0)) ≤ nat_lit 9223372036854775807) && g_ascii (lit [(48 : Nat), (49 : Nat), (50 : Nat), (51 : Nat), (52 : Nat), (53 : Nat), (54 : Nat), (55 : Nat), (56 : Nat), (57 : Nat)]) && true))))
noncomputable def g_Vi_keyOk_0 (a0 : ByteArray) : Bool := bif g_Vi_in_0 (↑(ByteArray.size a0) : Int) (2 : Int) (3 : Int) then bif g_Vi_in_0 (IntKind.wrap IntKind.i64 (byteAt a0 (nat_lit 0))) (97 : Int) (122 : Int) then ByteArray.toList (g_trim (ByteArray.extract a0 (nat_lit 1) (ByteArray.size a0)) (lit [(48 : Nat), (49 : Nat), (50 : Nat), (51 : Nat), (52 : Nat), (53 : Nat), (54 : Nat), (55 : Nat), (56 : Nat), (57 : Nat)])) == [] else false else false
noncomputable def Fi_keyOk : FSem := fun ys => match ys with
  | [.val false [.str a0]] => some ((g_Ai_keyOk a0), .val false [.bool (g_Vi_keyOk_0 a0)], [])
  | _ => none
theorem vi_keyOk (a0 : ByteArray) : collapseH .std Ei_keyOk Oi_keyOk_0 (execFn Ei_keyOk Go.Proofs.Tryd.f66 msi_keyOk [.val false [.str a0]]) = some ((g_Ai_keyOk a0), .val false [.bool (g_Vi_keyOk_0 a0)], []) := by kernel_rfl
theorem si_keyOk : Sound Go.Proofs.Tryd.prog 66 msi_keyOk Fi_keyOk := by
  refine fn_gen goodi_keyOk (by kernel_rfl) .std (fn := Go.Proofs.Tryd.f66) (c := (Go.Proofs.Tryd.f66.body.getD .skip)) (o := Oi_keyOk_0) (k := 0) (by kernel_rfl) (by kernel_rfl) (by kernel_rfl) (by kernel_rfl) (by decide) ki_keyOk_0 ?_
  intro ys r outs h
  unfold Fi_keyOk at h
  split at h
  · exact (vi_keyOk _).trans h
  · cases h
end Go.Proofs.YtopoiinmhajhmaaDoor.E
end
section
namespace Go.Proofs.YtopoiinmhajhmaaDoor.E
open Go
set_option maxRecDepth 100000
set_option maxHeartbeats 0
set_option linter.all false
noncomputable def Ei_valOk_1 : Env where
  tt := mkTI Go.Proofs.Tryd.prog
  fn := fun f => match f with
    | 60 => some (msi_in, FSem.wk msi_in Fi_in)
    | _ => none
  mv := []
  keep := fun _ => []
  keepB := fun _ => []
  keepX := fun _ => []
  keepXB := fun _ => []
theorem goodi_valOk_1 : Good Go.Proofs.Tryd.prog Ei_valOk_1 := ⟨rfl, fun f ms F h => by
  unfold Ei_valOk_1 at h
  dsimp only at h
  split at h
  · injection h with h; injection h with e1 e2; subst e1 e2; exact Sound.wk si_in
  · cases h⟩
noncomputable def Oi_valOk_1_0 : Orc := fun _ _ => none
noncomputable def msi_valOk_1 : List PM := [.own]
noncomputable def lsi_valOk_1 : List (Nat × Code) := loopsAll 0 (Go.Proofs.Tryd.f102.body.getD .skip)

theorem ki_valOk_1_0 : OrcOk Ei_valOk_1 Oi_valOk_1_0 lsi_valOk_1 0 := orcOk_none
noncomputable def g_Ai_valOk_1 (a0 : Int) : Bool := g_Ai_in a0 (0 : Int) (9999 : Int)
noncomputable def g_Vi_valOk_1_0 (a0 : Int) : Bool := !g_Vi_in_0 a0 (0 : Int) (9999 : Int)
noncomputable def Fi_valOk_1 : FSem := fun ys => match ys with
  | [.val false [.int .i64 a0]] => some ((g_Ai_valOk_1 a0), .val false [.bool (g_Vi_valOk_1_0 a0)], [])
  | _ => none
theorem vi_valOk_1 (a0 : Int) : collapseH .std Ei_valOk_1 Oi_valOk_1_0 (execFn Ei_valOk_1 Go.Proofs.Tryd.f102 msi_valOk_1 [.val false [.int .i64 a0]]) = some ((g_Ai_valOk_1 a0), .val false [.bool (g_Vi_valOk_1_0 a0)], []) := by kernel_rfl
theorem si_valOk_1 : Sound Go.Proofs.Tryd.prog 102 msi_valOk_1 Fi_valOk_1 := by
  refine fn_gen goodi_valOk_1 (by kernel_rfl) .std (fn := Go.Proofs.Tryd.f102) (c := (Go.Proofs.Tryd.f102.body.getD .skip)) (o := Oi_valOk_1_0) (k := 0) (by kernel_rfl) (by kernel_rfl) (by kernel_rfl) (by kernel_rfl) (by decide) ki_valOk_1_0 ?_
  intro ys r outs h
  unfold Fi_valOk_1 at h
  split at h
  · exact (vi_valOk_1 _).trans h
  · cases h
end Go.Proofs.YtopoiinmhajhmaaDoor.E
end
section
namespace Go.Proofs.YtopoiinmhajhmaaDoor.E
open Go
set_option maxRecDepth 100000
set_option maxHeartbeats 0
set_option linter.all false
noncomputable def Eslices_IndexFunc_int_int__i_valOk_1 : Env where
  tt := mkTI Go.Proofs.Tryd.prog
  fn := fun f => match f with
    | 102 => some (msi_valOk_1, FSem.wk msi_valOk_1 Fi_valOk_1)
    | _ => none
  mv := []
  keep := fun b => match b with
    | 0 => [(0, false), (1, false), (7, false), (8, false)]
    | _ => []
  keepB := fun b => match b with
    | 0 => []
    | _ => []
  keepX := fun b => match b with
    | 0 => [(4, false)]
    | _ => []
  keepXB := fun b => match b with
    | 0 => []
    | _ => []
theorem goodslices_IndexFunc_int_int__i_valOk_1 : Good Go.Proofs.Tryd.prog Eslices_IndexFunc_int_int__i_valOk_1 := ⟨rfl, fun f ms F h => by
  unfold Eslices_IndexFunc_int_int__i_valOk_1 at h
  dsimp only at h
  split at h
  · injection h with h; injection h with e1 e2; subst e1 e2; exact Sound.wk si_valOk_1
  · cases h⟩
noncomputable def Oslices_IndexFunc_int_int__i_valOk_1_0 : Orc := fun _ _ => none
noncomputable def msslices_IndexFunc_int_int__i_valOk_1 : List PM := [.rd, .rd]
noncomputable def lsslices_IndexFunc_int_int__i_valOk_1 : List (Nat × Code) := loopsAll 0 (Go.Proofs.Tryd.f124.body.getD .skip)
noncomputable def cslices_IndexFunc_int_int__i_valOk_1_0 : Code := (loopOf 0 (Go.Proofs.Tryd.f124.body.getD .skip)).getD .skip
theorem lseqslices_IndexFunc_int_int__i_valOk_1 : lsslices_IndexFunc_int_int__i_valOk_1 = [(0, cslices_IndexFunc_int_int__i_valOk_1_0)] := by kernel_rfl
theorem mslices_IndexFunc_int_int__i_valOk_1_0 : ∀ p, p ∈ lsslices_IndexFunc_int_int__i_valOk_1 → p.1 = 0 → p.2 = cslices_IndexFunc_int_int__i_valOk_1_0 := by
  intro p hp
  rw [lseqslices_IndexFunc_int_int__i_valOk_1] at hp
  simp only [List.mem_cons, List.not_mem_nil, or_false] at hp
  subst hp; simp
theorem kslices_IndexFunc_int_int__i_valOk_1_0 : OrcOk Eslices_IndexFunc_int_int__i_valOk_1 Oslices_IndexFunc_int_int__i_valOk_1_0 lsslices_IndexFunc_int_int__i_valOk_1 0 := orcOk_none
noncomputable def hslices_IndexFunc_int_int__i_valOk_1_0 (y0 : List (Int)) (y1 : Int) (y2 : Int) : List (Pl × LV) := [(.T 0, .t (.val false [.sl .any 3 (.int .i64) y0])), (.T 1, .t (.val false [.fn 102 []])), (.T 7, .t (.val false [.int .i64 y1])), (.T 8, .t (.val false [.int .i64 y2]))]
noncomputable def g_Sslices_IndexFunc_int_int__i_valOk_1_0 (y0 : List (Int)) (y1 : Int) : ((Int)) → RT ((Int)) (((Int)) ⊕ (Unit))
  | y2 => .br (true) (.br (decide (y2 < y1)) (.br (decide ((0 : Int) ≤ y2 ∧ y2 < (↑(List.length y0) : Int))) (.br (g_Ai_valOk_1 (at_ (Ty.int IntKind.i64) y0 (Int.toNat y2))) (.br (g_Vi_valOk_1_0 (at_ (Ty.int IntKind.i64) y0 (Int.toNat y2))) (.out (.inl y2)) (.br (true) (.go (IntKind.wrap IntKind.i64 (y2 + (1 : Int)))) (.bad))) (.bad)) (.bad)) (.out (.inr (())))) (.bad)
noncomputable def g_Lslices_IndexFunc_int_int__i_valOk_1_0 (y0 : List (Int)) (y1 : Int) (x : (Int)) : Option (((Int)) ⊕ (Unit)) := loopO (g_Sslices_IndexFunc_int_int__i_valOk_1_0 y0 y1) x
noncomputable def xslices_IndexFunc_int_int__i_valOk_1_0 (y0 : List (Int)) (y1 : Int) : (((Int)) ⊕ (Unit)) → Ex × List (Pl × LV) := fun
  | .inl r => (.ret, [(.T 4, .t (.val false [.int .i64 r]))])
  | .inr (r) => (.exit 0, [(.T 4, .t (.val false [.undef]))])
noncomputable def Oslices_IndexFunc_int_int__i_valOk_1_1 : Orc := fun b h => match b, h with
  | 0, [(.T 0, .t (.val false [.sl .any 3 (.int .i64) y0])), (.T 1, .t (.val false [.fn 102 []])), (.T 7, .t (.val false [.int .i64 y1])), (.T 8, .t (.val false [.int .i64 y2]))] => some (okO (g_Lslices_IndexFunc_int_int__i_valOk_1_0 y0 y1 y2), (.br (isL (valO (g_Lslices_IndexFunc_int_int__i_valOk_1_0 y0 y1 y2))) (.leaf .ret [(.T 4, .t (.val false [.int .i64 (getL (valO (g_Lslices_IndexFunc_int_int__i_valOk_1_0 y0 y1 y2)))]))]) (.leaf (.exit 0) [(.T 4, .t (.val false [.undef]))])))
  | b, h => Oslices_IndexFunc_int_int__i_valOk_1_0 b h
theorem bslices_IndexFunc_int_int__i_valOk_1_0 (y0 : List (Int)) (y1 : Int) (y2 : Int) : Tr.bt Eslices_IndexFunc_int_int__i_valOk_1 Oslices_IndexFunc_int_int__i_valOk_1_0 (exec Eslices_IndexFunc_int_int__i_valOk_1 0 cslices_IndexFunc_int_int__i_valOk_1_0 (St.of (hslices_IndexFunc_int_int__i_valOk_1_0 y0 y1 y2)) (leafRd Eslices_IndexFunc_int_int__i_valOk_1 0)) = (g_Sslices_IndexFunc_int_int__i_valOk_1_0 y0 y1 y2).bt (fun (y2 : (Int)) => (hslices_IndexFunc_int_int__i_valOk_1_0 y0 y1 y2)) (xslices_IndexFunc_int_int__i_valOk_1_0 y0 y1) := by kernel_rfl
theorem kslices_IndexFunc_int_int__i_valOk_1_1 : OrcOk Eslices_IndexFunc_int_int__i_valOk_1 Oslices_IndexFunc_int_int__i_valOk_1_1 lsslices_IndexFunc_int_int__i_valOk_1 1 := orc_add kslices_IndexFunc_int_int__i_valOk_1_0 (fun n p hp h ex h' ho => by
  obtain ⟨b, c⟩ := p
  obtain ⟨xt, h1, h2⟩ := ho
  have h1 : Oslices_IndexFunc_int_int__i_valOk_1_1 b h = some (true, xt) := h1
  unfold Oslices_IndexFunc_int_int__i_valOk_1_1 at h1
  split at h1
  · injection h1 with h1
    injection h1 with e1 e2
    subst e2
    have hc : c = cslices_IndexFunc_int_int__i_valOk_1_0 := mslices_IndexFunc_int_int__i_valOk_1_0 _ hp rfl
    subst hc
    right
    rename_i y0 y1 y2
    have key := LT_step kslices_IndexFunc_int_int__i_valOk_1_0 hp (fun q hq => loopsAll_in _ _ _ _ hp hq) (fun (y2 : (Int)) => (hslices_IndexFunc_int_int__i_valOk_1_0 y0 y1 y2)) (xslices_IndexFunc_int_int__i_valOk_1_0 y0 y1) (g_Sslices_IndexFunc_int_int__i_valOk_1_0 y0 y1) (fun x => by first | exact bslices_IndexFunc_int_int__i_valOk_1_0 y0 y1 x) n (x := y2) (okO_some e1)
    have hx : ∀ r, XT.sel (.br (isL r) (.leaf .ret [(.T 4, .t (.val false [.int .i64 (getL r)]))]) (.leaf (.exit 0) [(.T 4, .t (.val false [.undef]))])) = xslices_IndexFunc_int_int__i_valOk_1_0 y0 y1 r := fun r => by first | rfl | (rcases r with r | r <;> rfl) | (rcases r with r | r | r <;> rfl) | (rcases r with r | r | r | r <;> rfl)
    have h3 := (hx (valO (g_Lslices_IndexFunc_int_int__i_valOk_1_0 y0 y1 y2))).symm.trans h2
    have e3 := congrArg Prod.fst h3
    have e4 := congrArg Prod.snd h3
    simp only at e3 e4
    rw [← e3, ← e4]
    exact key
  · exact .inl ⟨xt, h1, h2⟩)
noncomputable def g_Aslices_IndexFunc_int_int__i_valOk_1 (a0 : List (Int)) : Bool := okO (g_Lslices_IndexFunc_int_int__i_valOk_1_0 a0 (↑(List.length a0) : Int) (0 : Int))
noncomputable def g_Vslices_IndexFunc_int_int__i_valOk_1_0 (a0 : List (Int)) : Int := bif isL (valO (g_Lslices_IndexFunc_int_int__i_valOk_1_0 a0 (↑(List.length a0) : Int) (0 : Int))) then getL (valO (g_Lslices_IndexFunc_int_int__i_valOk_1_0 a0 (↑(List.length a0) : Int) (0 : Int))) else (-1 : Int)
noncomputable def Fslices_IndexFunc_int_int__i_valOk_1 : FSem := fun ys => match ys with
  | [.val false [.sl .any 3 (.int .i64) a0], .val false [.fn 102 []]] => some ((g_Aslices_IndexFunc_int_int__i_valOk_1 a0), .val false [.int .i64 (g_Vslices_IndexFunc_int_int__i_valOk_1_0 a0)], [])
  | _ => none
theorem vslices_IndexFunc_int_int__i_valOk_1 (a0 : List (Int)) : collapseH .std Eslices_IndexFunc_int_int__i_valOk_1 Oslices_IndexFunc_int_int__i_valOk_1_1 (execFn Eslices_IndexFunc_int_int__i_valOk_1 Go.Proofs.Tryd.f124 msslices_IndexFunc_int_int__i_valOk_1 [.val false [.sl .any 3 (.int .i64) a0], .val false [.fn 102 []]]) = some ((g_Aslices_IndexFunc_int_int__i_valOk_1 a0), .val false [.int .i64 (g_Vslices_IndexFunc_int_int__i_valOk_1_0 a0)], []) := by kernel_rfl
theorem sslices_IndexFunc_int_int__i_valOk_1 : Sound Go.Proofs.Tryd.prog 124 msslices_IndexFunc_int_int__i_valOk_1 Fslices_IndexFunc_int_int__i_valOk_1 := by
  refine fn_gen goodslices_IndexFunc_int_int__i_valOk_1 (by kernel_rfl) .std (fn := Go.Proofs.Tryd.f124) (c := (Go.Proofs.Tryd.f124.body.getD .skip)) (o := Oslices_IndexFunc_int_int__i_valOk_1_1) (k := 1) (by kernel_rfl) (by kernel_rfl) (by kernel_rfl) (by kernel_rfl) (by decide) kslices_IndexFunc_int_int__i_valOk_1_1 ?_
  intro ys r outs h
  unfold Fslices_IndexFunc_int_int__i_valOk_1 at h
  split at h
  · exact (vslices_IndexFunc_int_int__i_valOk_1 _).trans h
  · cases h
end Go.Proofs.YtopoiinmhajhmaaDoor.E
end
section
namespace Go.Proofs.YtopoiinmhajhmaaDoor.E
open Go
set_option maxRecDepth 100000
set_option maxHeartbeats 0
set_option linter.all false
noncomputable def Eslices_ContainsFunc_int_int__i_valOk_1 : Env where
  tt := mkTI Go.Proofs.Tryd.prog
  fn := fun f => match f with
    | 102 => some (msi_valOk_1, FSem.wk msi_valOk_1 Fi_valOk_1)
    | 124 => some (msslices_IndexFunc_int_int__i_valOk_1, FSem.wk msslices_IndexFunc_int_int__i_valOk_1 Fslices_IndexFunc_int_int__i_valOk_1)
    | _ => none
  mv := []
  keep := fun _ => []
  keepB := fun _ => []
  keepX := fun _ => []
  keepXB := fun _ => []
theorem goodslices_ContainsFunc_int_int__i_valOk_1 : Good Go.Proofs.Tryd.prog Eslices_ContainsFunc_int_int__i_valOk_1 := ⟨rfl, fun f ms F h => by
  unfold Eslices_ContainsFunc_int_int__i_valOk_1 at h
  dsimp only at h
  split at h
  · injection h with h; injection h with e1 e2; subst e1 e2; exact Sound.wk si_valOk_1
  · injection h with h; injection h with e1 e2; subst e1 e2; exact Sound.wk sslices_IndexFunc_int_int__i_valOk_1
  · cases h⟩
noncomputable def Oslices_ContainsFunc_int_int__i_valOk_1_0 : Orc := fun _ _ => none
noncomputable def msslices_ContainsFunc_int_int__i_valOk_1 : List PM := [.rd, .rd]
noncomputable def lsslices_ContainsFunc_int_int__i_valOk_1 : List (Nat × Code) := loopsAll 0 (Go.Proofs.Tryd.f101.body.getD .skip)

theorem kslices_ContainsFunc_int_int__i_valOk_1_0 : OrcOk Eslices_ContainsFunc_int_int__i_valOk_1 Oslices_ContainsFunc_int_int__i_valOk_1_0 lsslices_ContainsFunc_int_int__i_valOk_1 0 := orcOk_none
noncomputable def g_Aslices_ContainsFunc_int_int__i_valOk_1 (a0 : List (Int)) : Bool := g_Aslices_IndexFunc_int_int__i_valOk_1 a0 && true
noncomputable def g_Vslices_ContainsFunc_int_int__i_valOk_1_0 (a0 : List (Int)) : Bool := decide (g_Vslices_IndexFunc_int_int__i_valOk_1_0 a0 ≥ (0 : Int))
noncomputable def Fslices_ContainsFunc_int_int__i_valOk_1 : FSem := fun ys => match ys with
  | [.val false [.sl .any 3 (.int .i64) a0], .val false [.fn 102 []]] => some ((g_Aslices_ContainsFunc_int_int__i_valOk_1 a0), .val false [.bool (g_Vslices_ContainsFunc_int_int__i_valOk_1_0 a0)], [])
  | _ => none
theorem vslices_ContainsFunc_int_int__i_valOk_1 (a0 : List (Int)) : collapseH .std Eslices_ContainsFunc_int_int__i_valOk_1 Oslices_ContainsFunc_int_int__i_valOk_1_0 (execFn Eslices_ContainsFunc_int_int__i_valOk_1 Go.Proofs.Tryd.f101 msslices_ContainsFunc_int_int__i_valOk_1 [.val false [.sl .any 3 (.int .i64) a0], .val false [.fn 102 []]]) = some ((g_Aslices_ContainsFunc_int_int__i_valOk_1 a0), .val false [.bool (g_Vslices_ContainsFunc_int_int__i_valOk_1_0 a0)], []) := by kernel_rfl
theorem sslices_ContainsFunc_int_int__i_valOk_1 : Sound Go.Proofs.Tryd.prog 101 msslices_ContainsFunc_int_int__i_valOk_1 Fslices_ContainsFunc_int_int__i_valOk_1 := by
  refine fn_gen goodslices_ContainsFunc_int_int__i_valOk_1 (by kernel_rfl) .std (fn := Go.Proofs.Tryd.f101) (c := (Go.Proofs.Tryd.f101.body.getD .skip)) (o := Oslices_ContainsFunc_int_int__i_valOk_1_0) (k := 0) (by kernel_rfl) (by kernel_rfl) (by kernel_rfl) (by kernel_rfl) (by decide) kslices_ContainsFunc_int_int__i_valOk_1_0 ?_
  intro ys r outs h
  unfold Fslices_ContainsFunc_int_int__i_valOk_1 at h
  split at h
  · exact (vslices_ContainsFunc_int_int__i_valOk_1 _).trans h
  · cases h
end Go.Proofs.YtopoiinmhajhmaaDoor.E
end
section
namespace Go.Proofs.YtopoiinmhajhmaaDoor.E
open Go
set_option maxRecDepth 100000
set_option maxHeartbeats 0
set_option linter.all false
noncomputable def Ei_valOk : Env where
  tt := mkTI Go.Proofs.Tryd.prog
  fn := fun f => match f with
    | 60 => some (msi_in, FSem.wk msi_in Fi_in)
    | 101 => some (msslices_ContainsFunc_int_int__i_valOk_1, FSem.wk msslices_ContainsFunc_int_int__i_valOk_1 Fslices_ContainsFunc_int_int__i_valOk_1)
    | _ => none
  mv := []
  keep := fun _ => []
  keepB := fun _ => []
  keepX := fun _ => []
  keepXB := fun _ => []
theorem goodi_valOk : Good Go.Proofs.Tryd.prog Ei_valOk := ⟨rfl, fun f ms F h => by
  unfold Ei_valOk at h
  dsimp only at h
  split at h
  · injection h with h; injection h with e1 e2; subst e1 e2; exact Sound.wk si_in
  · injection h with h; injection h with e1 e2; subst e1 e2; exact Sound.wk sslices_ContainsFunc_int_int__i_valOk_1
  · cases h⟩
noncomputable def Oi_valOk_0 : Orc := fun _ _ => none
noncomputable def msi_valOk : List PM := [.rd]
noncomputable def lsi_valOk : List (Nat × Code) := loopsAll 0 (Go.Proofs.Tryd.f67.body.getD .skip)

theorem ki_valOk_0 : OrcOk Ei_valOk Oi_valOk_0 lsi_valOk 0 := orcOk_none
noncomputable def g_Ai_valOk (a0 : List (Int)) : Bool := g_Ai_in (↑(List.length a0) : Int) (1 : Int) (3 : Int) && (!g_Vi_in_0 (↑(List.length a0) : Int) (1 : Int) (3 : Int) || g_Aslices_ContainsFunc_int_int__i_valOk_1 a0)
noncomputable def g_Vi_valOk_0 (a0 : List (Int)) : Bool := bif g_Vi_in_0 (↑(List.length a0) : Int) (1 : Int) (3 : Int) then !g_Vslices_ContainsFunc_int_int__i_valOk_1_0 a0 else false
noncomputable def Fi_valOk : FSem := fun ys => match ys with
  | [.val false [.sl .any 3 (.int .i64) a0]] => some ((g_Ai_valOk a0), .val false [.bool (g_Vi_valOk_0 a0)], [])
  | _ => none
theorem vi_valOk (a0 : List (Int)) : collapseH .std Ei_valOk Oi_valOk_0 (execFn Ei_valOk Go.Proofs.Tryd.f67 msi_valOk [.val false [.sl .any 3 (.int .i64) a0]]) = some ((g_Ai_valOk a0), .val false [.bool (g_Vi_valOk_0 a0)], []) := by kernel_rfl
theorem si_valOk : Sound Go.Proofs.Tryd.prog 67 msi_valOk Fi_valOk := by
  refine fn_gen goodi_valOk (by kernel_rfl) .std (fn := Go.Proofs.Tryd.f67) (c := (Go.Proofs.Tryd.f67.body.getD .skip)) (o := Oi_valOk_0) (k := 0) (by kernel_rfl) (by kernel_rfl) (by kernel_rfl) (by kernel_rfl) (by decide) ki_valOk_0 ?_
  intro ys r outs h
  unfold Fi_valOk at h
  split at h
  · exact (vi_valOk _).trans h
  · cases h
end Go.Proofs.YtopoiinmhajhmaaDoor.E
end
section
namespace Go.Proofs.YtopoiinmhajhmaaDoor.E
open Go
set_option maxRecDepth 100000
set_option maxHeartbeats 0
set_option linter.all false
noncomputable def Ei_StoOk : Env where
  tt := mkTI Go.Proofs.Tryd.prog
  fn := fun f => match f with
    | 66 => some (msi_keyOk, FSem.wk msi_keyOk Fi_keyOk)
    | 67 => some (msi_valOk, FSem.wk msi_valOk Fi_valOk)
    | _ => none
  mv := []
  keep := fun b => match b with
    | 0 => [(1, false), (6, false), (7, false), (8, false)]
    | _ => []
  keepB := fun b => match b with
    | 0 => [(1, false)]
    | _ => []
  keepX := fun b => match b with
    | 0 => [(1, false), (2, false)]
    | _ => []
  keepXB := fun b => match b with
    | 0 => [(1, false)]
    | _ => []
theorem goodi_StoOk : Good Go.Proofs.Tryd.prog Ei_StoOk := ⟨rfl, fun f ms F h => by
  unfold Ei_StoOk at h
  dsimp only at h
  split at h
  · injection h with h; injection h with e1 e2; subst e1 e2; exact Sound.wk si_keyOk
  · injection h with h; injection h with e1 e2; subst e1 e2; exact Sound.wk si_valOk
  · cases h⟩
noncomputable def Oi_StoOk_0 : Orc := fun _ _ => none
noncomputable def msi_StoOk : List PM := [.rd]
noncomputable def lsi_StoOk : List (Nat × Code) := loopsAll 0 (Go.Proofs.Tryd.f36.body.getD .skip)
noncomputable def ci_StoOk_0 : Code := (loopOf 0 (Go.Proofs.Tryd.f36.body.getD .skip)).getD .skip
theorem lseqi_StoOk : lsi_StoOk = [(0, ci_StoOk_0)] := by kernel_rfl
theorem mi_StoOk_0 : ∀ p, p ∈ lsi_StoOk → p.1 = 0 → p.2 = ci_StoOk_0 := by
  intro p hp
  rw [lseqi_StoOk] at hp
  simp only [List.mem_cons, List.not_mem_nil, or_false] at hp
  subst hp; simp
theorem ki_StoOk_0 : OrcOk Ei_StoOk Oi_StoOk_0 lsi_StoOk 0 := orcOk_none
noncomputable def hi_StoOk_0 (y0 : List ((ByteArray) × (List (Int)))) (y1 : Int) (y2 : Int) (y3 : List ((ByteArray) × (List (Int)))) : List (Pl × LV) := [(.T 1, .t (.val false [.ptr 1 0 0])), (.T 6, .t (.val false [.sl .any 88 (.pair .str (.sl 3 (.int .i64))) y0])), (.T 7, .t (.val false [.int .i64 y1])), (.T 8, .t (.val false [.int .i64 y2])), (.B 1, .b 0 false [.sl .any 88 (.pair .str (.sl 3 (.int .i64))) y3])]
noncomputable def g_Si_StoOk_0 (y0 : List ((ByteArray) × (List (Int)))) (y1 : Int) (y3 : List ((ByteArray) × (List (Int)))) : ((Int)) → RT ((Int)) (((Bool)) ⊕ (Unit))
  | y2 => .br (true) (.br (decide (y2 < y1)) (.br (decide ((0 : Int) ≤ y2 ∧ y2 < (↑(List.length y0) : Int))) (.br (g_Ai_keyOk (at_ (Ty.pair Ty.str (Ty.sl (nat_lit 3) (Ty.int IntKind.i64))) y0 (Int.toNat y2)).1) (.br (!g_Vi_keyOk_0 (at_ (Ty.pair Ty.str (Ty.sl (nat_lit 3) (Ty.int IntKind.i64))) y0 (Int.toNat y2)).1) (.out (.inl false)) (.br (g_Ai_valOk (at_ (Ty.pair Ty.str (Ty.sl (nat_lit 3) (Ty.int IntKind.i64))) y0 (Int.toNat y2)).2) (.br (!g_Vi_valOk_0 (at_ (Ty.pair Ty.str (Ty.sl (nat_lit 3) (Ty.int IntKind.i64))) y0 (Int.toNat y2)).2) (.out (.inl false)) (.br (true) (.br (decide (y2 > (0 : Int))) (.br (true) (.br (decide ((0 : Int) ≤ IntKind.wrap IntKind.i64 (y2 - (1 : Int)) ∧ IntKind.wrap IntKind.i64 (y2 - (1 : Int)) < (↑(List.length y3) : Int))) (.br (true) (.br (Op.bytesLess (ByteArray.toList (at_ (Ty.pair Ty.str (Ty.sl (nat_lit 3) (Ty.int IntKind.i64))) y0 (Int.toNat y2)).1) (ByteArray.toList (at_ (Ty.pair Ty.str (Ty.sl (nat_lit 3) (Ty.int IntKind.i64))) y3 (Int.toNat (IntKind.wrap IntKind.i64 (y2 - (1 : Int))))).1) || ByteArray.toList (at_ (Ty.pair Ty.str (Ty.sl (nat_lit 3) (Ty.int IntKind.i64))) y0 (Int.toNat y2)).1 == ByteArray.toList (at_ (Ty.pair Ty.str (Ty.sl (nat_lit 3) (Ty.int IntKind.i64))) y3 (Int.toNat (IntKind.wrap IntKind.i64 (y2 - (1 : Int))))).1) (.out (.inl false)) (.br (true) (.go (IntKind.wrap IntKind.i64 (y2 + (1 : Int)))) (.bad))) (.bad)) (.bad)) (.bad)) (.br (true) (.go (IntKind.wrap IntKind.i64 (y2 + (1 : Int)))) (.bad))) (.bad))) (.bad))) (.bad)) (.bad)) (.out (.inr (())))) (.bad)
noncomputable def g_Li_StoOk_0 (y0 : List ((ByteArray) × (List (Int)))) (y1 : Int) (y3 : List ((ByteArray) × (List (Int)))) (x : (Int)) : Option (((Bool)) ⊕ (Unit)) := loopO (g_Si_StoOk_0 y0 y1 y3) x
noncomputable def xi_StoOk_0 (y0 : List ((ByteArray) × (List (Int)))) (y1 : Int) (y3 : List ((ByteArray) × (List (Int)))) : (((Bool)) ⊕ (Unit)) → Ex × List (Pl × LV) := fun
  | .inl r => (.ret, [(.T 1, .t (.val false [.ptr 1 0 0])), (.T 2, .t (.val false [.bool r])), (.B 1, .b 0 false [.sl .any 88 (.pair .str (.sl 3 (.int .i64))) y3])])
  | .inr (r) => (.exit 0, [(.T 1, .t (.val false [.ptr 1 0 0])), (.T 2, .t (.val false [.undef])), (.B 1, .b 0 false [.sl .any 88 (.pair .str (.sl 3 (.int .i64))) y3])])
noncomputable def Oi_StoOk_1 : Orc := fun b h => match b, h with
  | 0, [(.T 1, .t (.val false [.ptr 1 0 0])), (.T 6, .t (.val false [.sl .any 88 (.pair .str (.sl 3 (.int .i64))) y0])), (.T 7, .t (.val false [.int .i64 y1])), (.T 8, .t (.val false [.int .i64 y2])), (.B 1, .b 0 false [.sl .any 88 (.pair .str (.sl 3 (.int .i64))) y3])] => some (okO (g_Li_StoOk_0 y0 y1 y3 y2), (.br (isL (valO (g_Li_StoOk_0 y0 y1 y3 y2))) (.leaf .ret [(.T 1, .t (.val false [.ptr 1 0 0])), (.T 2, .t (.val false [.bool (getL (valO (g_Li_StoOk_0 y0 y1 y3 y2)))])), (.B 1, .b 0 false [.sl .any 88 (.pair .str (.sl 3 (.int .i64))) y3])]) (.leaf (.exit 0) [(.T 1, .t (.val false [.ptr 1 0 0])), (.T 2, .t (.val false [.undef])), (.B 1, .b 0 false [.sl .any 88 (.pair .str (.sl 3 (.int .i64))) y3])])))
  | b, h => Oi_StoOk_0 b h
theorem bi_StoOk_0 (y0 : List ((ByteArray) × (List (Int)))) (y1 : Int) (y2 : Int) (y3 : List ((ByteArray) × (List (Int)))) : Tr.bt Ei_StoOk Oi_StoOk_0 (exec Ei_StoOk 0 ci_StoOk_0 (St.of (hi_StoOk_0 y0 y1 y2 y3)) (leafRd Ei_StoOk 0)) = (g_Si_StoOk_0 y0 y1 y3 y2).bt (fun (y2 : (Int)) => (hi_StoOk_0 y0 y1 y2 y3)) (xi_StoOk_0 y0 y1 y3) := by kernel_rfl
theorem ki_StoOk_1 : OrcOk Ei_StoOk Oi_StoOk_1 lsi_StoOk 1 := orc_add ki_StoOk_0 (fun n p hp h ex h' ho => by
  obtain ⟨b, c⟩ := p
  obtain ⟨xt, h1, h2⟩ := ho
  have h1 : Oi_StoOk_1 b h = some (true, xt) := h1
  unfold Oi_StoOk_1 at h1
  split at h1
  · injection h1 with h1
    injection h1 with e1 e2
    subst e2
    have hc : c = ci_StoOk_0 := mi_StoOk_0 _ hp rfl
    subst hc
    right
    rename_i y0 y1 y2 y3
    have key := LT_step ki_StoOk_0 hp (fun q hq => loopsAll_in _ _ _ _ hp hq) (fun (y2 : (Int)) => (hi_StoOk_0 y0 y1 y2 y3)) (xi_StoOk_0 y0 y1 y3) (g_Si_StoOk_0 y0 y1 y3) (fun x => by first | exact bi_StoOk_0 y0 y1 x y3) n (x := y2) (okO_some e1)
    have hx : ∀ r, XT.sel (.br (isL r) (.leaf .ret [(.T 1, .t (.val false [.ptr 1 0 0])), (.T 2, .t (.val false [.bool (getL r)])), (.B 1, .b 0 false [.sl .any 88 (.pair .str (.sl 3 (.int .i64))) y3])]) (.leaf (.exit 0) [(.T 1, .t (.val false [.ptr 1 0 0])), (.T 2, .t (.val false [.undef])), (.B 1, .b 0 false [.sl .any 88 (.pair .str (.sl 3 (.int .i64))) y3])])) = xi_StoOk_0 y0 y1 y3 r := fun r => by first | rfl | (rcases r with r | r <;> rfl) | (rcases r with r | r | r <;> rfl) | (rcases r with r | r | r | r <;> rfl)
    have h3 := (hx (valO (g_Li_StoOk_0 y0 y1 y3 y2))).symm.trans h2
    have e3 := congrArg Prod.fst h3
    have e4 := congrArg Prod.snd h3
    simp only at e3 e4
    rw [← e3, ← e4]
    exact key
  · exact .inl ⟨xt, h1, h2⟩)
noncomputable def g_Ai_StoOk (a0 : List ((ByteArray) × (List (Int)))) : Bool := okO (g_Li_StoOk_0 a0 (↑(List.length a0) : Int) a0 (0 : Int)) && (isL (valO (g_Li_StoOk_0 a0 (↑(List.length a0) : Int) a0 (0 : Int))) || true)
noncomputable def g_Vi_StoOk_0 (a0 : List ((ByteArray) × (List (Int)))) : Bool := bif isL (valO (g_Li_StoOk_0 a0 (↑(List.length a0) : Int) a0 (0 : Int))) then getL (valO (g_Li_StoOk_0 a0 (↑(List.length a0) : Int) a0 (0 : Int))) else decide ((↑(List.length a0) : Int) ≤ (40 : Int))
noncomputable def Fi_StoOk : FSem := fun ys => match ys with
  | [.val true [.sl .any 88 (.pair .str (.sl 3 (.int .i64))) a0]] => some ((g_Ai_StoOk a0), .val false [.bool (g_Vi_StoOk_0 a0)], [])
  | _ => none
theorem vi_StoOk (a0 : List ((ByteArray) × (List (Int)))) : collapseH .std Ei_StoOk Oi_StoOk_1 (execFn Ei_StoOk Go.Proofs.Tryd.f36 msi_StoOk [.val true [.sl .any 88 (.pair .str (.sl 3 (.int .i64))) a0]]) = some ((g_Ai_StoOk a0), .val false [.bool (g_Vi_StoOk_0 a0)], []) := by kernel_rfl
theorem si_StoOk : Sound Go.Proofs.Tryd.prog 36 msi_StoOk Fi_StoOk := by
  refine fn_gen goodi_StoOk (by kernel_rfl) .std (fn := Go.Proofs.Tryd.f36) (c := (Go.Proofs.Tryd.f36.body.getD .skip)) (o := Oi_StoOk_1) (k := 1) (by kernel_rfl) (by kernel_rfl) (by kernel_rfl) (by kernel_rfl) (by decide) ki_StoOk_1 ?_
  intro ys r outs h
  unfold Fi_StoOk at h
  split at h
  · exact (vi_StoOk _).trans h
  · cases h
end Go.Proofs.YtopoiinmhajhmaaDoor.E
end
section
namespace Go.Proofs.YtopoiinmhajhmaaDoor.E
open Go
set_option maxRecDepth 100000
set_option maxHeartbeats 0
set_option linter.all false
noncomputable def Ei_isService : Env where
  tt := mkTI Go.Proofs.Tryd.prog
  fn := fun f => match f with
    | 60 => some (msi_in, FSem.wk msi_in Fi_in)
    | _ => none
  mv := []
  keep := fun _ => []
  keepB := fun _ => []
  keepX := fun _ => []
  keepXB := fun _ => []
theorem goodi_isService : Good Go.Proofs.Tryd.prog Ei_isService := ⟨rfl, fun f ms F h => by
  unfold Ei_isService at h
  dsimp only at h
  split at h
  · injection h with h; injection h with e1 e2; subst e1 e2; exact Sound.wk si_in
  · cases h⟩
noncomputable def Oi_isService_0 : Orc := fun _ _ => none
noncomputable def msi_isService : List PM := [.own]
noncomputable def lsi_isService : List (Nat × Code) := loopsAll 0 (Go.Proofs.Tryd.f77.body.getD .skip)

theorem ki_isService_0 : OrcOk Ei_isService Oi_isService_0 lsi_isService 0 := orcOk_none
noncomputable def g_Ai_isService (a0 : Int) : Bool := g_Ai_in a0 (1 : Int) (3 : Int)
noncomputable def g_Vi_isService_0 (a0 : Int) : Bool := g_Vi_in_0 a0 (1 : Int) (3 : Int)
noncomputable def Fi_isService : FSem := fun ys => match ys with
  | [.val false [.int .i64 a0]] => some ((g_Ai_isService a0), .val false [.bool (g_Vi_isService_0 a0)], [])
  | _ => none
theorem vi_isService (a0 : Int) : collapseH .std Ei_isService Oi_isService_0 (execFn Ei_isService Go.Proofs.Tryd.f77 msi_isService [.val false [.int .i64 a0]]) = some ((g_Ai_isService a0), .val false [.bool (g_Vi_isService_0 a0)], []) := by kernel_rfl
theorem si_isService : Sound Go.Proofs.Tryd.prog 77 msi_isService Fi_isService := by
  refine fn_gen goodi_isService (by kernel_rfl) .std (fn := Go.Proofs.Tryd.f77) (c := (Go.Proofs.Tryd.f77.body.getD .skip)) (o := Oi_isService_0) (k := 0) (by kernel_rfl) (by kernel_rfl) (by kernel_rfl) (by kernel_rfl) (by decide) ki_isService_0 ?_
  intro ys r outs h
  unfold Fi_isService at h
  split at h
  · exact (vi_isService _).trans h
  · cases h
end Go.Proofs.YtopoiinmhajhmaaDoor.E
end
section
namespace Go.Proofs.YtopoiinmhajhmaaDoor.E
open Go
set_option maxRecDepth 100000
set_option maxHeartbeats 0
set_option linter.all false
noncomputable def Ei_itemOk : Env where
  tt := mkTI Go.Proofs.Tryd.prog
  fn := fun f => match f with
    | 60 => some (msi_in, FSem.wk msi_in Fi_in)
    | _ => none
  mv := []
  keep := fun _ => []
  keepB := fun _ => []
  keepX := fun _ => []
  keepXB := fun _ => []
theorem goodi_itemOk : Good Go.Proofs.Tryd.prog Ei_itemOk := ⟨rfl, fun f ms F h => by
  unfold Ei_itemOk at h
  dsimp only at h
  split at h
  · injection h with h; injection h with e1 e2; subst e1 e2; exact Sound.wk si_in
  · cases h⟩
noncomputable def Oi_itemOk_0 : Orc := fun _ _ => none
noncomputable def msi_itemOk : List PM := [.own, .rd]
noncomputable def lsi_itemOk : List (Nat × Code) := loopsAll 0 (Go.Proofs.Tryd.f81.body.getD .skip)

theorem ki_itemOk_0 : OrcOk Ei_itemOk Oi_itemOk_0 lsi_itemOk 0 := orcOk_none
noncomputable def g_Ai_itemOk (a0 : Int) (a1 : ByteArray) (a2 : List (Int)) : Bool := decide ((0 : Int) ≤ (0 : Int) ∧ (0 : Int) < (↑(ByteArray.size a1) : Int)) && (decide ((0 : Int) ≤ (0 : Int) ∧ (0 : Int) < (↑(List.length a2) : Int)) && (g_Ai_in (at_ (Ty.int IntKind.i64) a2 (nat_lit 0)) (0 : Int) (9 : Int) && bif a0 == (1 : Int) then !byteAt a1 (nat_lit 0) == (115 : Int) || (!(↑(ByteArray.size a1) : Int) == (2 : Int) || true) else bif a0 == (2 : Int) then bif byteAt a1 (nat_lit 0) == (99 : Int) then !byteAt a1 (nat_lit 0) == (102 : Int) || (!(↑(List.length a2) : Int) == (3 : Int) || decide ((0 : Int) ≤ (1 : Int) ∧ (1 : Int) < (↑(List.length a2) : Int)) && (g_Ai_in (at_ (Ty.int IntKind.i64) a2 (nat_lit 1)) (1 : Int) (99 : Int) && (!g_Vi_in_0 (at_ (Ty.int IntKind.i64) a2 (nat_lit 1)) (1 : Int) (99 : Int) || decide ((0 : Int) ≤ (2 : Int) ∧ (2 : Int) < (↑(List.length a2) : Int)) && true))) else !byteAt a1 (nat_lit 0) == (102 : Int) || (!(↑(List.length a2) : Int) == (3 : Int) || decide ((0 : Int) ≤ (1 : Int) ∧ (1 : Int) < (↑(List.length a2) : Int)) && (g_Ai_in (at_ (Ty.int IntKind.i64) a2 (nat_lit 1)) (1 : Int) (99 : Int) && (!g_Vi_in_0 (at_ (Ty.int IntKind.i64) a2 (nat_lit 1)) (1 : Int) (99 : Int) || decide ((0 : Int) ≤ (2 : Int) ∧ (2 : Int) < (↑(List.length a2) : Int)) && true))) else !a0 == (3 : Int) || (!byteAt a1 (nat_lit 0) == (97 : Int) || true)))
noncomputable def g_Vi_itemOk_0 (a0 : Int) (a1 : ByteArray) (a2 : List (Int)) : Bool := bif a0 == (1 : Int) then bif byteAt a1 (nat_lit 0) == (115 : Int) then bif (↑(ByteArray.size a1) : Int) == (2 : Int) then bif (↑(List.length a2) : Int) == (1 : Int) then g_Vi_in_0 (at_ (Ty.int IntKind.i64) a2 (nat_lit 0)) (0 : Int) (9 : Int) else false else false else false else bif a0 == (2 : Int) then bif byteAt a1 (nat_lit 0) == (99 : Int) then bif byteAt a1 (nat_lit 0) == (102 : Int) then bif (↑(List.length a2) : Int) == (3 : Int) then bif g_Vi_in_0 (at_ (Ty.int IntKind.i64) a2 (nat_lit 1)) (1 : Int) (99 : Int) then bif (↑(ByteArray.size a1) : Int) == (2 : Int) then bif g_Vi_in_0 (at_ (Ty.int IntKind.i64) a2 (nat_lit 0)) (0 : Int) (9 : Int) then bif (↑(List.length a2) : Int) == (2 : Int) then true else decide (at_ (Ty.int IntKind.i64) a2 (nat_lit 2) ≤ (1 : Int)) else false else false else bif (↑(ByteArray.size a1) : Int) == (2 : Int) then bif g_Vi_in_0 (at_ (Ty.int IntKind.i64) a2 (nat_lit 0)) (0 : Int) (9 : Int) then bif (↑(List.length a2) : Int) == (2 : Int) then true else false else false else false else bif (↑(ByteArray.size a1) : Int) == (2 : Int) then bif g_Vi_in_0 (at_ (Ty.int IntKind.i64) a2 (nat_lit 0)) (0 : Int) (9 : Int) then bif (↑(List.length a2) : Int) == (2 : Int) then true else false else false else false else bif (↑(ByteArray.size a1) : Int) == (2 : Int) then bif g_Vi_in_0 (at_ (Ty.int IntKind.i64) a2 (nat_lit 0)) (0 : Int) (9 : Int) then bif (↑(List.length a2) : Int) == (2 : Int) then true else false else false else false else bif byteAt a1 (nat_lit 0) == (102 : Int) then bif (↑(List.length a2) : Int) == (3 : Int) then bif g_Vi_in_0 (at_ (Ty.int IntKind.i64) a2 (nat_lit 1)) (1 : Int) (99 : Int) then bif (↑(ByteArray.size a1) : Int) == (2 : Int) then bif g_Vi_in_0 (at_ (Ty.int IntKind.i64) a2 (nat_lit 0)) (0 : Int) (9 : Int) then decide (at_ (Ty.int IntKind.i64) a2 (nat_lit 2) ≤ (1 : Int)) else false else false else bif (↑(ByteArray.size a1) : Int) == (2 : Int) then bif g_Vi_in_0 (at_ (Ty.int IntKind.i64) a2 (nat_lit 0)) (0 : Int) (9 : Int) then false else false else false else bif (↑(ByteArray.size a1) : Int) == (2 : Int) then bif g_Vi_in_0 (at_ (Ty.int IntKind.i64) a2 (nat_lit 0)) (0 : Int) (9 : Int) then false else false else false else bif (↑(ByteArray.size a1) : Int) == (2 : Int) then bif g_Vi_in_0 (at_ (Ty.int IntKind.i64) a2 (nat_lit 0)) (0 : Int) (9 : Int) then false else false else false else bif a0 == (3 : Int) then bif byteAt a1 (nat_lit 0) == (97 : Int) then (↑(List.length a2) : Int) == (1 : Int) else false else false
noncomputable def Fi_itemOk : FSem := fun ys => match ys with
  | [.val false [.int .i64 a0], .val true [.str a1, .sl .any 3 (.int .i64) a2]] => some ((g_Ai_itemOk a0 a1 a2), .val false [.bool (g_Vi_itemOk_0 a0 a1 a2)], [])
  | _ => none
theorem vi_itemOk (a0 : Int) (a1 : ByteArray) (a2 : List (Int)) : collapseH .std Ei_itemOk Oi_itemOk_0 (execFn Ei_itemOk Go.Proofs.Tryd.f81 msi_itemOk [.val false [.int .i64 a0], .val true [.str a1, .sl .any 3 (.int .i64) a2]]) = some ((g_Ai_itemOk a0 a1 a2), .val false [.bool (g_Vi_itemOk_0 a0 a1 a2)], []) := by kernel_rfl
theorem si_itemOk : Sound Go.Proofs.Tryd.prog 81 msi_itemOk Fi_itemOk := by
  refine fn_gen goodi_itemOk (by kernel_rfl) .std (fn := Go.Proofs.Tryd.f81) (c := (Go.Proofs.Tryd.f81.body.getD .skip)) (o := Oi_itemOk_0) (k := 0) (by kernel_rfl) (by kernel_rfl) (by kernel_rfl) (by kernel_rfl) (by decide) ki_itemOk_0 ?_
  intro ys r outs h
  unfold Fi_itemOk at h
  split at h
  · exact (vi_itemOk _ _ _).trans h
  · cases h
end Go.Proofs.YtopoiinmhajhmaaDoor.E
end
section
namespace Go.Proofs.YtopoiinmhajhmaaDoor.E
open Go
set_option maxRecDepth 100000
set_option maxHeartbeats 0
set_option linter.all false
noncomputable def Ei_PlcOk_1 : Env where
  tt := mkTI Go.Proofs.Tryd.prog
  fn := fun f => match f with
    | 81 => some (msi_itemOk, FSem.wk msi_itemOk Fi_itemOk)
    | _ => none
  mv := []
  keep := fun _ => []
  keepB := fun _ => []
  keepX := fun _ => []
  keepXB := fun _ => []
theorem goodi_PlcOk_1 : Good Go.Proofs.Tryd.prog Ei_PlcOk_1 := ⟨rfl, fun f ms F h => by
  unfold Ei_PlcOk_1 at h
  dsimp only at h
  split at h
  · injection h with h; injection h with e1 e2; subst e1 e2; exact Sound.wk si_itemOk
  · cases h⟩
noncomputable def Oi_PlcOk_1_0 : Orc := fun _ _ => none
noncomputable def msi_PlcOk_1 : List PM := [.rd, .rd]
noncomputable def lsi_PlcOk_1 : List (Nat × Code) := loopsAll 0 (Go.Proofs.Tryd.f80.body.getD .skip)

theorem ki_PlcOk_1_0 : OrcOk Ei_PlcOk_1 Oi_PlcOk_1_0 lsi_PlcOk_1 0 := orcOk_none
noncomputable def g_Ai_PlcOk_1 (a0 : ByteArray) (a1 : List (Int)) (c0 : Int) : Bool := g_Ai_itemOk c0 a0 a1
noncomputable def Fi_PlcOk_1 : FSem := fun ys => match ys with
  | [.val true [.str a0, .sl .any 3 (.int .i64) a1], .val false [.sptr (.int .i64) c0 0]] => some ((g_Ai_PlcOk_1 a0 a1 c0), .val false [.bool (!g_Vi_itemOk_0 c0 a0 a1)], [])
  | _ => none
theorem vi_PlcOk_1 (a0 : ByteArray) (a1 : List (Int)) (c0 : Int) : collapseH .std Ei_PlcOk_1 Oi_PlcOk_1_0 (execFn Ei_PlcOk_1 Go.Proofs.Tryd.f80 msi_PlcOk_1 [.val true [.str a0, .sl .any 3 (.int .i64) a1], .val false [.sptr (.int .i64) c0 0]]) = some ((g_Ai_PlcOk_1 a0 a1 c0), .val false [.bool (!g_Vi_itemOk_0 c0 a0 a1)], []) := by kernel_rfl
theorem si_PlcOk_1 : Sound Go.Proofs.Tryd.prog 80 msi_PlcOk_1 Fi_PlcOk_1 := by
  refine fn_gen goodi_PlcOk_1 (by kernel_rfl) .std (fn := Go.Proofs.Tryd.f80) (c := (Go.Proofs.Tryd.f80.body.getD .skip)) (o := Oi_PlcOk_1_0) (k := 0) (by kernel_rfl) (by kernel_rfl) (by kernel_rfl) (by kernel_rfl) (by decide) ki_PlcOk_1_0 ?_
  intro ys r outs h
  unfold Fi_PlcOk_1 at h
  split at h
  · exact (vi_PlcOk_1 _ _ _).trans h
  · cases h
end Go.Proofs.YtopoiinmhajhmaaDoor.E
end
section
namespace Go.Proofs.YtopoiinmhajhmaaDoor.E
open Go
set_option maxRecDepth 100000
set_option maxHeartbeats 0
set_option linter.all false
noncomputable def Eslices_IndexFunc_i_StoItem_i_StoItem__i_PlcOk_1 : Env where
  tt := mkTI Go.Proofs.Tryd.prog
  fn := fun f => match f with
    | 80 => some (msi_PlcOk_1, FSem.wk msi_PlcOk_1 Fi_PlcOk_1)
    | _ => none
  mv := []
  keep := fun b => match b with
    | 0 => [(0, false), (1, false), (7, false), (8, false)]
    | _ => []
  keepB := fun b => match b with
    | 0 => []
    | _ => []
  keepX := fun b => match b with
    | 0 => [(4, false)]
    | _ => []
  keepXB := fun b => match b with
    | 0 => []
    | _ => []
theorem goodslices_IndexFunc_i_StoItem_i_StoItem__i_PlcOk_1 : Good Go.Proofs.Tryd.prog Eslices_IndexFunc_i_StoItem_i_StoItem__i_PlcOk_1 := ⟨rfl, fun f ms F h => by
  unfold Eslices_IndexFunc_i_StoItem_i_StoItem__i_PlcOk_1 at h
  dsimp only at h
  split at h
  · injection h with h; injection h with e1 e2; subst e1 e2; exact Sound.wk si_PlcOk_1
  · cases h⟩
noncomputable def Oslices_IndexFunc_i_StoItem_i_StoItem__i_PlcOk_1_0 : Orc := fun _ _ => none
noncomputable def msslices_IndexFunc_i_StoItem_i_StoItem__i_PlcOk_1 : List PM := [.rd, .rd]
noncomputable def lsslices_IndexFunc_i_StoItem_i_StoItem__i_PlcOk_1 : List (Nat × Code) := loopsAll 0 (Go.Proofs.Tryd.f108.body.getD .skip)
noncomputable def cslices_IndexFunc_i_StoItem_i_StoItem__i_PlcOk_1_0 : Code := (loopOf 0 (Go.Proofs.Tryd.f108.body.getD .skip)).getD .skip
theorem lseqslices_IndexFunc_i_StoItem_i_StoItem__i_PlcOk_1 : lsslices_IndexFunc_i_StoItem_i_StoItem__i_PlcOk_1 = [(0, cslices_IndexFunc_i_StoItem_i_StoItem__i_PlcOk_1_0)] := by kernel_rfl
theorem mslices_IndexFunc_i_StoItem_i_StoItem__i_PlcOk_1_0 : ∀ p, p ∈ lsslices_IndexFunc_i_StoItem_i_StoItem__i_PlcOk_1 → p.1 = 0 → p.2 = cslices_IndexFunc_i_StoItem_i_StoItem__i_PlcOk_1_0 := by
  intro p hp
  rw [lseqslices_IndexFunc_i_StoItem_i_StoItem__i_PlcOk_1] at hp
  simp only [List.mem_cons, List.not_mem_nil, or_false] at hp
  subst hp; simp
theorem kslices_IndexFunc_i_StoItem_i_StoItem__i_PlcOk_1_0 : OrcOk Eslices_IndexFunc_i_StoItem_i_StoItem__i_PlcOk_1 Oslices_IndexFunc_i_StoItem_i_StoItem__i_PlcOk_1_0 lsslices_IndexFunc_i_StoItem_i_StoItem__i_PlcOk_1 0 := orcOk_none
noncomputable def hslices_IndexFunc_i_StoItem_i_StoItem__i_PlcOk_1_0 (y0 : List ((ByteArray) × (List (Int)))) (y1 : Int) (y2 : Int) (y3 : Int) : List (Pl × LV) := [(.T 0, .t (.val false [.sl .any 88 (.pair .str (.sl 3 (.int .i64))) y0])), (.T 1, .t (.val false [.fn 80 [.sptr (.int .i64) y1 0]])), (.T 7, .t (.val false [.int .i64 y2])), (.T 8, .t (.val false [.int .i64 y3]))]
noncomputable def g_Sslices_IndexFunc_i_StoItem_i_StoItem__i_PlcOk_1_0 (y0 : List ((ByteArray) × (List (Int)))) (y1 : Int) (y2 : Int) : ((Int)) → RT ((Int)) (((Int)) ⊕ (Unit))
  | y3 => .br (true) (.br (decide (y3 < y2)) (.br (decide ((0 : Int) ≤ y3 ∧ y3 < (↑(List.length y0) : Int))) (.br (g_Ai_PlcOk_1 (at_ (Ty.pair Ty.str (Ty.sl (nat_lit 3) (Ty.int IntKind.i64))) y0 (Int.toNat y3)).1 (at_ (Ty.pair Ty.str (Ty.sl (nat_lit 3) (Ty.int IntKind.i64))) y0 (Int.toNat y3)).2 y1) (.br (!g_Vi_itemOk_0 y1 (at_ (Ty.pair Ty.str (Ty.sl (nat_lit 3) (Ty.int IntKind.i64))) y0 (Int.toNat y3)).1 (at_ (Ty.pair Ty.str (Ty.sl (nat_lit 3) (Ty.int IntKind.i64))) y0 (Int.toNat y3)).2) (.out (.inl y3)) (.br (true) (.go (IntKind.wrap IntKind.i64 (y3 + (1 : Int)))) (.bad))) (.bad)) (.bad)) (.out (.inr (())))) (.bad)
noncomputable def g_Lslices_IndexFunc_i_StoItem_i_StoItem__i_PlcOk_1_0 (y0 : List ((ByteArray) × (List (Int)))) (y1 : Int) (y2 : Int) (x : (Int)) : Option (((Int)) ⊕ (Unit)) := loopO (g_Sslices_IndexFunc_i_StoItem_i_StoItem__i_PlcOk_1_0 y0 y1 y2) x
noncomputable def xslices_IndexFunc_i_StoItem_i_StoItem__i_PlcOk_1_0 (y0 : List ((ByteArray) × (List (Int)))) (y1 : Int) (y2 : Int) : (((Int)) ⊕ (Unit)) → Ex × List (Pl × LV) := fun
  | .inl r => (.ret, [(.T 4, .t (.val false [.int .i64 r]))])
  | .inr (r) => (.exit 0, [(.T 4, .t (.val false [.undef]))])
noncomputable def Oslices_IndexFunc_i_StoItem_i_StoItem__i_PlcOk_1_1 : Orc := fun b h => match b, h with
  | 0, [(.T 0, .t (.val false [.sl .any 88 (.pair .str (.sl 3 (.int .i64))) y0])), (.T 1, .t (.val false [.fn 80 [.sptr (.int .i64) y1 0]])), (.T 7, .t (.val false [.int .i64 y2])), (.T 8, .t (.val false [.int .i64 y3]))] => some (okO (g_Lslices_IndexFunc_i_StoItem_i_StoItem__i_PlcOk_1_0 y0 y1 y2 y3), (.br (isL (valO (g_Lslices_IndexFunc_i_StoItem_i_StoItem__i_PlcOk_1_0 y0 y1 y2 y3))) (.leaf .ret [(.T 4, .t (.val false [.int .i64 (getL (valO (g_Lslices_IndexFunc_i_StoItem_i_StoItem__i_PlcOk_1_0 y0 y1 y2 y3)))]))]) (.leaf (.exit 0) [(.T 4, .t (.val false [.undef]))])))
  | b, h => Oslices_IndexFunc_i_StoItem_i_StoItem__i_PlcOk_1_0 b h
theorem bslices_IndexFunc_i_StoItem_i_StoItem__i_PlcOk_1_0 (y0 : List ((ByteArray) × (List (Int)))) (y1 : Int) (y2 : Int) (y3 : Int) : Tr.bt Eslices_IndexFunc_i_StoItem_i_StoItem__i_PlcOk_1 Oslices_IndexFunc_i_StoItem_i_StoItem__i_PlcOk_1_0 (exec Eslices_IndexFunc_i_StoItem_i_StoItem__i_PlcOk_1 0 cslices_IndexFunc_i_StoItem_i_StoItem__i_PlcOk_1_0 (St.of (hslices_IndexFunc_i_StoItem_i_StoItem__i_PlcOk_1_0 y0 y1 y2 y3)) (leafRd Eslices_IndexFunc_i_StoItem_i_StoItem__i_PlcOk_1 0)) = (g_Sslices_IndexFunc_i_StoItem_i_StoItem__i_PlcOk_1_0 y0 y1 y2 y3).bt (fun (y3 : (Int)) => (hslices_IndexFunc_i_StoItem_i_StoItem__i_PlcOk_1_0 y0 y1 y2 y3)) (xslices_IndexFunc_i_StoItem_i_StoItem__i_PlcOk_1_0 y0 y1 y2) := by kernel_rfl
theorem kslices_IndexFunc_i_StoItem_i_StoItem__i_PlcOk_1_1 : OrcOk Eslices_IndexFunc_i_StoItem_i_StoItem__i_PlcOk_1 Oslices_IndexFunc_i_StoItem_i_StoItem__i_PlcOk_1_1 lsslices_IndexFunc_i_StoItem_i_StoItem__i_PlcOk_1 1 := orc_add kslices_IndexFunc_i_StoItem_i_StoItem__i_PlcOk_1_0 (fun n p hp h ex h' ho => by
  obtain ⟨b, c⟩ := p
  obtain ⟨xt, h1, h2⟩ := ho
  have h1 : Oslices_IndexFunc_i_StoItem_i_StoItem__i_PlcOk_1_1 b h = some (true, xt) := h1
  unfold Oslices_IndexFunc_i_StoItem_i_StoItem__i_PlcOk_1_1 at h1
  split at h1
  · injection h1 with h1
    injection h1 with e1 e2
    subst e2
    have hc : c = cslices_IndexFunc_i_StoItem_i_StoItem__i_PlcOk_1_0 := mslices_IndexFunc_i_StoItem_i_StoItem__i_PlcOk_1_0 _ hp rfl
    subst hc
    right
    rename_i y0 y1 y2 y3
    have key := LT_step kslices_IndexFunc_i_StoItem_i_StoItem__i_PlcOk_1_0 hp (fun q hq => loopsAll_in _ _ _ _ hp hq) (fun (y3 : (Int)) => (hslices_IndexFunc_i_StoItem_i_StoItem__i_PlcOk_1_0 y0 y1 y2 y3)) (xslices_IndexFunc_i_StoItem_i_StoItem__i_PlcOk_1_0 y0 y1 y2) (g_Sslices_IndexFunc_i_StoItem_i_StoItem__i_PlcOk_1_0 y0 y1 y2) (fun x => by first | exact bslices_IndexFunc_i_StoItem_i_StoItem__i_PlcOk_1_0 y0 y1 y2 x) n (x := y3) (okO_some e1)
    have hx : ∀ r, XT.sel (.br (isL r) (.leaf .ret [(.T 4, .t (.val false [.int .i64 (getL r)]))]) (.leaf (.exit 0) [(.T 4, .t (.val false [.undef]))])) = xslices_IndexFunc_i_StoItem_i_StoItem__i_PlcOk_1_0 y0 y1 y2 r := fun r => by first | rfl | (rcases r with r | r <;> rfl) | (rcases r with r | r | r <;> rfl) | (rcases r with r | r | r | r <;> rfl)
    have h3 := (hx (valO (g_Lslices_IndexFunc_i_StoItem_i_StoItem__i_PlcOk_1_0 y0 y1 y2 y3))).symm.trans h2
    have e3 := congrArg Prod.fst h3
    have e4 := congrArg Prod.snd h3
    simp only at e3 e4
    rw [← e3, ← e4]
    exact key
  · exact .inl ⟨xt, h1, h2⟩)
noncomputable def g_Aslices_IndexFunc_i_StoItem_i_StoItem__i_PlcOk_1 (a0 : List ((ByteArray) × (List (Int)))) (c0 : Int) : Bool := okO (g_Lslices_IndexFunc_i_StoItem_i_StoItem__i_PlcOk_1_0 a0 c0 (↑(List.length a0) : Int) (0 : Int))
noncomputable def g_Vslices_IndexFunc_i_StoItem_i_StoItem__i_PlcOk_1_0 (a0 : List ((ByteArray) × (List (Int)))) (c0 : Int) : Int := bif isL (valO (g_Lslices_IndexFunc_i_StoItem_i_StoItem__i_PlcOk_1_0 a0 c0 (↑(List.length a0) : Int) (0 : Int))) then getL (valO (g_Lslices_IndexFunc_i_StoItem_i_StoItem__i_PlcOk_1_0 a0 c0 (↑(List.length a0) : Int) (0 : Int))) else (-1 : Int)
noncomputable def Fslices_IndexFunc_i_StoItem_i_StoItem__i_PlcOk_1 : FSem := fun ys => match ys with
  | [.val false [.sl .any 88 (.pair .str (.sl 3 (.int .i64))) a0], .val false [.fn 80 [.sptr (.int .i64) c0 0]]] => some ((g_Aslices_IndexFunc_i_StoItem_i_StoItem__i_PlcOk_1 a0 c0), .val false [.int .i64 (g_Vslices_IndexFunc_i_StoItem_i_StoItem__i_PlcOk_1_0 a0 c0)], [])
  | _ => none
theorem vslices_IndexFunc_i_StoItem_i_StoItem__i_PlcOk_1 (a0 : List ((ByteArray) × (List (Int)))) (c0 : Int) : collapseH .std Eslices_IndexFunc_i_StoItem_i_StoItem__i_PlcOk_1 Oslices_IndexFunc_i_StoItem_i_StoItem__i_PlcOk_1_1 (execFn Eslices_IndexFunc_i_StoItem_i_StoItem__i_PlcOk_1 Go.Proofs.Tryd.f108 msslices_IndexFunc_i_StoItem_i_StoItem__i_PlcOk_1 [.val false [.sl .any 88 (.pair .str (.sl 3 (.int .i64))) a0], .val false [.fn 80 [.sptr (.int .i64) c0 0]]]) = some ((g_Aslices_IndexFunc_i_StoItem_i_StoItem__i_PlcOk_1 a0 c0), .val false [.int .i64 (g_Vslices_IndexFunc_i_StoItem_i_StoItem__i_PlcOk_1_0 a0 c0)], []) := by kernel_rfl
theorem sslices_IndexFunc_i_StoItem_i_StoItem__i_PlcOk_1 : Sound Go.Proofs.Tryd.prog 108 msslices_IndexFunc_i_StoItem_i_StoItem__i_PlcOk_1 Fslices_IndexFunc_i_StoItem_i_StoItem__i_PlcOk_1 := by
  refine fn_gen goodslices_IndexFunc_i_StoItem_i_StoItem__i_PlcOk_1 (by kernel_rfl) .std (fn := Go.Proofs.Tryd.f108) (c := (Go.Proofs.Tryd.f108.body.getD .skip)) (o := Oslices_IndexFunc_i_StoItem_i_StoItem__i_PlcOk_1_1) (k := 1) (by kernel_rfl) (by kernel_rfl) (by kernel_rfl) (by kernel_rfl) (by decide) kslices_IndexFunc_i_StoItem_i_StoItem__i_PlcOk_1_1 ?_
  intro ys r outs h
  unfold Fslices_IndexFunc_i_StoItem_i_StoItem__i_PlcOk_1 at h
  split at h
  · exact (vslices_IndexFunc_i_StoItem_i_StoItem__i_PlcOk_1 _ _).trans h
  · cases h
end Go.Proofs.YtopoiinmhajhmaaDoor.E
end
section
namespace Go.Proofs.YtopoiinmhajhmaaDoor.E
open Go
set_option maxRecDepth 100000
set_option maxHeartbeats 0
set_option linter.all false
noncomputable def Eslices_ContainsFunc_i_StoItem_i_StoItem__i_PlcOk_1 : Env where
  tt := mkTI Go.Proofs.Tryd.prog
  fn := fun f => match f with
    | 80 => some (msi_PlcOk_1, FSem.wk msi_PlcOk_1 Fi_PlcOk_1)
    | 108 => some (msslices_IndexFunc_i_StoItem_i_StoItem__i_PlcOk_1, FSem.wk msslices_IndexFunc_i_StoItem_i_StoItem__i_PlcOk_1 Fslices_IndexFunc_i_StoItem_i_StoItem__i_PlcOk_1)
    | _ => none
  mv := []
  keep := fun _ => []
  keepB := fun _ => []
  keepX := fun _ => []
  keepXB := fun _ => []
theorem goodslices_ContainsFunc_i_StoItem_i_StoItem__i_PlcOk_1 : Good Go.Proofs.Tryd.prog Eslices_ContainsFunc_i_StoItem_i_StoItem__i_PlcOk_1 := ⟨rfl, fun f ms F h => by
  unfold Eslices_ContainsFunc_i_StoItem_i_StoItem__i_PlcOk_1 at h
  dsimp only at h
  split at h
  · injection h with h; injection h with e1 e2; subst e1 e2; exact Sound.wk si_PlcOk_1
  · injection h with h; injection h with e1 e2; subst e1 e2; exact Sound.wk sslices_IndexFunc_i_StoItem_i_StoItem__i_PlcOk_1
  · cases h⟩
noncomputable def Oslices_ContainsFunc_i_StoItem_i_StoItem__i_PlcOk_1_0 : Orc := fun _ _ => none
noncomputable def msslices_ContainsFunc_i_StoItem_i_StoItem__i_PlcOk_1 : List PM := [.rd, .rd]
noncomputable def lsslices_ContainsFunc_i_StoItem_i_StoItem__i_PlcOk_1 : List (Nat × Code) := loopsAll 0 (Go.Proofs.Tryd.f82.body.getD .skip)

theorem kslices_ContainsFunc_i_StoItem_i_StoItem__i_PlcOk_1_0 : OrcOk Eslices_ContainsFunc_i_StoItem_i_StoItem__i_PlcOk_1 Oslices_ContainsFunc_i_StoItem_i_StoItem__i_PlcOk_1_0 lsslices_ContainsFunc_i_StoItem_i_StoItem__i_PlcOk_1 0 := orcOk_none
noncomputable def g_Aslices_ContainsFunc_i_StoItem_i_StoItem__i_PlcOk_1 (a0 : List ((ByteArray) × (List (Int)))) (c0 : Int) : Bool := g_Aslices_IndexFunc_i_StoItem_i_StoItem__i_PlcOk_1 a0 c0 && true
noncomputable def g_Vslices_ContainsFunc_i_StoItem_i_StoItem__i_PlcOk_1_0 (a0 : List ((ByteArray) × (List (Int)))) (c0 : Int) : Bool := decide (g_Vslices_IndexFunc_i_StoItem_i_StoItem__i_PlcOk_1_0 a0 c0 ≥ (0 : Int))
noncomputable def Fslices_ContainsFunc_i_StoItem_i_StoItem__i_PlcOk_1 : FSem := fun ys => match ys with
  | [.val false [.sl .any 88 (.pair .str (.sl 3 (.int .i64))) a0], .val false [.fn 80 [.sptr (.int .i64) c0 0]]] => some ((g_Aslices_ContainsFunc_i_StoItem_i_StoItem__i_PlcOk_1 a0 c0), .val false [.bool (g_Vslices_ContainsFunc_i_StoItem_i_StoItem__i_PlcOk_1_0 a0 c0)], [])
  | _ => none
theorem vslices_ContainsFunc_i_StoItem_i_StoItem__i_PlcOk_1 (a0 : List ((ByteArray) × (List (Int)))) (c0 : Int) : collapseH .std Eslices_ContainsFunc_i_StoItem_i_StoItem__i_PlcOk_1 Oslices_ContainsFunc_i_StoItem_i_StoItem__i_PlcOk_1_0 (execFn Eslices_ContainsFunc_i_StoItem_i_StoItem__i_PlcOk_1 Go.Proofs.Tryd.f82 msslices_ContainsFunc_i_StoItem_i_StoItem__i_PlcOk_1 [.val false [.sl .any 88 (.pair .str (.sl 3 (.int .i64))) a0], .val false [.fn 80 [.sptr (.int .i64) c0 0]]]) = some ((g_Aslices_ContainsFunc_i_StoItem_i_StoItem__i_PlcOk_1 a0 c0), .val false [.bool (g_Vslices_ContainsFunc_i_StoItem_i_StoItem__i_PlcOk_1_0 a0 c0)], []) := by kernel_rfl
theorem sslices_ContainsFunc_i_StoItem_i_StoItem__i_PlcOk_1 : Sound Go.Proofs.Tryd.prog 82 msslices_ContainsFunc_i_StoItem_i_StoItem__i_PlcOk_1 Fslices_ContainsFunc_i_StoItem_i_StoItem__i_PlcOk_1 := by
  refine fn_gen goodslices_ContainsFunc_i_StoItem_i_StoItem__i_PlcOk_1 (by kernel_rfl) .std (fn := Go.Proofs.Tryd.f82) (c := (Go.Proofs.Tryd.f82.body.getD .skip)) (o := Oslices_ContainsFunc_i_StoItem_i_StoItem__i_PlcOk_1_0) (k := 0) (by kernel_rfl) (by kernel_rfl) (by kernel_rfl) (by kernel_rfl) (by decide) kslices_ContainsFunc_i_StoItem_i_StoItem__i_PlcOk_1_0 ?_
  intro ys r outs h
  unfold Fslices_ContainsFunc_i_StoItem_i_StoItem__i_PlcOk_1 at h
  split at h
  · exact (vslices_ContainsFunc_i_StoItem_i_StoItem__i_PlcOk_1 _ _).trans h
  · cases h
end Go.Proofs.YtopoiinmhajhmaaDoor.E
end
section
namespace Go.Proofs.YtopoiinmhajhmaaDoor.E
open Go
set_option maxRecDepth 100000
set_option maxHeartbeats 0
set_option linter.all false
noncomputable def Ei_PlcOk : Env where
  tt := mkTI Go.Proofs.Tryd.prog
  fn := fun f => match f with
    | 36 => some (msi_StoOk, FSem.wk msi_StoOk Fi_StoOk)
    | 77 => some (msi_isService, FSem.wk msi_isService Fi_isService)
    | 82 => some (msslices_ContainsFunc_i_StoItem_i_StoItem__i_PlcOk_1, FSem.wk msslices_ContainsFunc_i_StoItem_i_StoItem__i_PlcOk_1 Fslices_ContainsFunc_i_StoItem_i_StoItem__i_PlcOk_1)
    | _ => none
  mv := []
  keep := fun _ => []
  keepB := fun _ => []
  keepX := fun _ => []
  keepXB := fun _ => []
theorem goodi_PlcOk : Good Go.Proofs.Tryd.prog Ei_PlcOk := ⟨rfl, fun f ms F h => by
  unfold Ei_PlcOk at h
  dsimp only at h
  split at h
  · injection h with h; injection h with e1 e2; subst e1 e2; exact Sound.wk si_StoOk
  · injection h with h; injection h with e1 e2; subst e1 e2; exact Sound.wk si_isService
  · injection h with h; injection h with e1 e2; subst e1 e2; exact Sound.wk sslices_ContainsFunc_i_StoItem_i_StoItem__i_PlcOk_1
  · cases h⟩
noncomputable def Oi_PlcOk_0 : Orc := fun _ _ => none
noncomputable def msi_PlcOk : List PM := [.own, .rd]
noncomputable def lsi_PlcOk : List (Nat × Code) := loopsAll 0 (Go.Proofs.Tryd.f42.body.getD .skip)

theorem ki_PlcOk_0 : OrcOk Ei_PlcOk Oi_PlcOk_0 lsi_PlcOk 0 := orcOk_none
noncomputable def g_Ai_PlcOk (a0 : Int) (a1 : List ((ByteArray) × (List (Int)))) : Bool := g_Ai_isService a0 && (!g_Vi_isService_0 a0 || g_Ai_StoOk a1 && (!g_Vi_StoOk_0 a1 || g_Aslices_ContainsFunc_i_StoItem_i_StoItem__i_PlcOk_1 a1 a0))
noncomputable def g_Vi_PlcOk_0 (a0 : Int) (a1 : List ((ByteArray) × (List (Int)))) : Bool := bif g_Vi_isService_0 a0 then bif g_Vi_StoOk_0 a1 then !g_Vslices_ContainsFunc_i_StoItem_i_StoItem__i_PlcOk_1_0 a1 a0 else false else false
noncomputable def Fi_PlcOk : FSem := fun ys => match ys with
  | [.val false [.int .i64 a0], .val true [.sl .any 88 (.pair .str (.sl 3 (.int .i64))) a1]] => some ((g_Ai_PlcOk a0 a1), .val false [.bool (g_Vi_PlcOk_0 a0 a1)], [])
  | _ => none
theorem vi_PlcOk (a0 : Int) (a1 : List ((ByteArray) × (List (Int)))) : collapseH .std Ei_PlcOk Oi_PlcOk_0 (execFn Ei_PlcOk Go.Proofs.Tryd.f42 msi_PlcOk [.val false [.int .i64 a0], .val true [.sl .any 88 (.pair .str (.sl 3 (.int .i64))) a1]]) = some ((g_Ai_PlcOk a0 a1), .val false [.bool (g_Vi_PlcOk_0 a0 a1)], []) := by kernel_rfl
theorem si_PlcOk : Sound Go.Proofs.Tryd.prog 42 msi_PlcOk Fi_PlcOk := by
  refine fn_gen goodi_PlcOk (by kernel_rfl) .std (fn := Go.Proofs.Tryd.f42) (c := (Go.Proofs.Tryd.f42.body.getD .skip)) (o := Oi_PlcOk_0) (k := 0) (by kernel_rfl) (by kernel_rfl) (by kernel_rfl) (by kernel_rfl) (by decide) ki_PlcOk_0 ?_
  intro ys r outs h
  unfold Fi_PlcOk at h
  split at h
  · exact (vi_PlcOk _ _).trans h
  · cases h
end Go.Proofs.YtopoiinmhajhmaaDoor.E
end
section
namespace Go.Proofs.YtopoiinmhajhmaaDoor.E
open Go
set_option maxRecDepth 100000
set_option maxHeartbeats 0
set_option linter.all false
noncomputable def Ei_GloOk : Env where
  tt := mkTI Go.Proofs.Tryd.prog
  fn := fun f => match f with
    | 42 => some (msi_PlcOk, FSem.wk msi_PlcOk Fi_PlcOk)
    | _ => none
  mv := []
  keep := fun b => match b with
    | 0 => [(0, false), (5, false), (6, false), (7, false)]
    | _ => []
  keepB := fun b => match b with
    | 0 => []
    | _ => []
  keepX := fun b => match b with
    | 0 => [(0, false), (2, false)]
    | _ => []
  keepXB := fun b => match b with
    | 0 => []
    | _ => []
theorem goodi_GloOk : Good Go.Proofs.Tryd.prog Ei_GloOk := ⟨rfl, fun f ms F h => by
  unfold Ei_GloOk at h
  dsimp only at h
  split at h
  · injection h with h; injection h with e1 e2; subst e1 e2; exact Sound.wk si_PlcOk
  · cases h⟩
noncomputable def Oi_GloOk_0 : Orc := fun _ _ => none
noncomputable def msi_GloOk : List PM := [.rd]
noncomputable def lsi_GloOk : List (Nat × Code) := loopsAll 0 (Go.Proofs.Tryd.f50.body.getD .skip)
noncomputable def ci_GloOk_0 : Code := (loopOf 0 (Go.Proofs.Tryd.f50.body.getD .skip)).getD .skip
theorem lseqi_GloOk : lsi_GloOk = [(0, ci_GloOk_0)] := by kernel_rfl
theorem mi_GloOk_0 : ∀ p, p ∈ lsi_GloOk → p.1 = 0 → p.2 = ci_GloOk_0 := by
  intro p hp
  rw [lseqi_GloOk] at hp
  simp only [List.mem_cons, List.not_mem_nil, or_false] at hp
  subst hp; simp
theorem ki_GloOk_0 : OrcOk Ei_GloOk Oi_GloOk_0 lsi_GloOk 0 := orcOk_none
noncomputable def hi_GloOk_0 (y0 : List (List ((ByteArray) × (List (Int))))) (y1 : List (List ((ByteArray) × (List (Int))))) (y2 : Int) (y3 : Int) : List (Pl × LV) := [(.T 0, .t (.val false [.sl .any 52 (.sl 88 (.pair .str (.sl 3 (.int .i64)))) y0])), (.T 5, .t (.val false [.sl .any 52 (.sl 88 (.pair .str (.sl 3 (.int .i64)))) y1])), (.T 6, .t (.val false [.int .i64 y2])), (.T 7, .t (.val false [.int .i64 y3]))]
noncomputable def g_Si_GloOk_0 (y0 : List (List ((ByteArray) × (List (Int))))) (y1 : List (List ((ByteArray) × (List (Int))))) (y2 : Int) : ((Int)) → RT ((Int)) (((Bool)) ⊕ (Unit))
  | y3 => .br (true) (.br (decide (y3 < y2)) (.br (decide ((0 : Int) ≤ y3 ∧ y3 < (↑(List.length y1) : Int))) (.br (true) (.br (g_Ai_PlcOk (IntKind.wrap IntKind.i64 (y3 + (1 : Int))) (at_ (Ty.sl (nat_lit 88) (Ty.pair Ty.str (Ty.sl (nat_lit 3) (Ty.int IntKind.i64)))) y1 (Int.toNat y3))) (.br (!g_Vi_PlcOk_0 (IntKind.wrap IntKind.i64 (y3 + (1 : Int))) (at_ (Ty.sl (nat_lit 88) (Ty.pair Ty.str (Ty.sl (nat_lit 3) (Ty.int IntKind.i64)))) y1 (Int.toNat y3))) (.out (.inl false)) (.br (true) (.go (IntKind.wrap IntKind.i64 (y3 + (1 : Int)))) (.bad))) (.bad)) (.bad)) (.bad)) (.out (.inr (())))) (.bad)
noncomputable def g_Li_GloOk_0 (y0 : List (List ((ByteArray) × (List (Int))))) (y1 : List (List ((ByteArray) × (List (Int))))) (y2 : Int) (x : (Int)) : Option (((Bool)) ⊕ (Unit)) := loopO (g_Si_GloOk_0 y0 y1 y2) x
noncomputable def xi_GloOk_0 (y0 : List (List ((ByteArray) × (List (Int))))) (y1 : List (List ((ByteArray) × (List (Int))))) (y2 : Int) : (((Bool)) ⊕ (Unit)) → Ex × List (Pl × LV) := fun
  | .inl r => (.ret, [(.T 0, .t (.val false [.sl .any 52 (.sl 88 (.pair .str (.sl 3 (.int .i64)))) y0])), (.T 2, .t (.val false [.bool r]))])
  | .inr (r) => (.exit 0, [(.T 0, .t (.val false [.sl .any 52 (.sl 88 (.pair .str (.sl 3 (.int .i64)))) y0])), (.T 2, .t (.val false [.undef]))])
noncomputable def Oi_GloOk_1 : Orc := fun b h => match b, h with
  | 0, [(.T 0, .t (.val false [.sl .any 52 (.sl 88 (.pair .str (.sl 3 (.int .i64)))) y0])), (.T 5, .t (.val false [.sl .any 52 (.sl 88 (.pair .str (.sl 3 (.int .i64)))) y1])), (.T 6, .t (.val false [.int .i64 y2])), (.T 7, .t (.val false [.int .i64 y3]))] => some (okO (g_Li_GloOk_0 y0 y1 y2 y3), (.br (isL (valO (g_Li_GloOk_0 y0 y1 y2 y3))) (.leaf .ret [(.T 0, .t (.val false [.sl .any 52 (.sl 88 (.pair .str (.sl 3 (.int .i64)))) y0])), (.T 2, .t (.val false [.bool (getL (valO (g_Li_GloOk_0 y0 y1 y2 y3)))]))]) (.leaf (.exit 0) [(.T 0, .t (.val false [.sl .any 52 (.sl 88 (.pair .str (.sl 3 (.int .i64)))) y0])), (.T 2, .t (.val false [.undef]))])))
  | b, h => Oi_GloOk_0 b h
theorem bi_GloOk_0 (y0 : List (List ((ByteArray) × (List (Int))))) (y1 : List (List ((ByteArray) × (List (Int))))) (y2 : Int) (y3 : Int) : Tr.bt Ei_GloOk Oi_GloOk_0 (exec Ei_GloOk 0 ci_GloOk_0 (St.of (hi_GloOk_0 y0 y1 y2 y3)) (leafRd Ei_GloOk 0)) = (g_Si_GloOk_0 y0 y1 y2 y3).bt (fun (y3 : (Int)) => (hi_GloOk_0 y0 y1 y2 y3)) (xi_GloOk_0 y0 y1 y2) := by kernel_rfl
theorem ki_GloOk_1 : OrcOk Ei_GloOk Oi_GloOk_1 lsi_GloOk 1 := orc_add ki_GloOk_0 (fun n p hp h ex h' ho => by
  obtain ⟨b, c⟩ := p
  obtain ⟨xt, h1, h2⟩ := ho
  have h1 : Oi_GloOk_1 b h = some (true, xt) := h1
  unfold Oi_GloOk_1 at h1
  split at h1
  · injection h1 with h1
    injection h1 with e1 e2
    subst e2
    have hc : c = ci_GloOk_0 := mi_GloOk_0 _ hp rfl
    subst hc
    right
    rename_i y0 y1 y2 y3
    have key := LT_step ki_GloOk_0 hp (fun q hq => loopsAll_in _ _ _ _ hp hq) (fun (y3 : (Int)) => (hi_GloOk_0 y0 y1 y2 y3)) (xi_GloOk_0 y0 y1 y2) (g_Si_GloOk_0 y0 y1 y2) (fun x => by first | exact bi_GloOk_0 y0 y1 y2 x) n (x := y3) (okO_some e1)
    have hx : ∀ r, XT.sel (.br (isL r) (.leaf .ret [(.T 0, .t (.val false [.sl .any 52 (.sl 88 (.pair .str (.sl 3 (.int .i64)))) y0])), (.T 2, .t (.val false [.bool (getL r)]))]) (.leaf (.exit 0) [(.T 0, .t (.val false [.sl .any 52 (.sl 88 (.pair .str (.sl 3 (.int .i64)))) y0])), (.T 2, .t (.val false [.undef]))])) = xi_GloOk_0 y0 y1 y2 r := fun r => by first | rfl | (rcases r with r | r <;> rfl) | (rcases r with r | r | r <;> rfl) | (rcases r with r | r | r | r <;> rfl)
    have h3 := (hx (valO (g_Li_GloOk_0 y0 y1 y2 y3))).symm.trans h2
    have e3 := congrArg Prod.fst h3
    have e4 := congrArg Prod.snd h3
    simp only at e3 e4
    rw [← e3, ← e4]
    exact key
  · exact .inl ⟨xt, h1, h2⟩)
noncomputable def g_Ai_GloOk (a0 : List (List ((ByteArray) × (List (Int))))) : Bool := okO (g_Li_GloOk_0 a0 a0 (↑(List.length a0) : Int) (0 : Int)) && (isL (valO (g_Li_GloOk_0 a0 a0 (↑(List.length a0) : Int) (0 : Int))) || true)
noncomputable def g_Vi_GloOk_0 (a0 : List (List ((ByteArray) × (List (Int))))) : Bool := bif isL (valO (g_Li_GloOk_0 a0 a0 (↑(List.length a0) : Int) (0 : Int))) then getL (valO (g_Li_GloOk_0 a0 a0 (↑(List.length a0) : Int) (0 : Int))) else (↑(List.length a0) : Int) == (3 : Int)
noncomputable def Fi_GloOk : FSem := fun ys => match ys with
  | [.val false [.sl .any 52 (.sl 88 (.pair .str (.sl 3 (.int .i64)))) a0]] => some ((g_Ai_GloOk a0), .val false [.bool (g_Vi_GloOk_0 a0)], [])
  | _ => none
theorem vi_GloOk (a0 : List (List ((ByteArray) × (List (Int))))) : collapseH .std Ei_GloOk Oi_GloOk_1 (execFn Ei_GloOk Go.Proofs.Tryd.f50 msi_GloOk [.val false [.sl .any 52 (.sl 88 (.pair .str (.sl 3 (.int .i64)))) a0]]) = some ((g_Ai_GloOk a0), .val false [.bool (g_Vi_GloOk_0 a0)], []) := by kernel_rfl
theorem si_GloOk : Sound Go.Proofs.Tryd.prog 50 msi_GloOk Fi_GloOk := by
  refine fn_gen goodi_GloOk (by kernel_rfl) .std (fn := Go.Proofs.Tryd.f50) (c := (Go.Proofs.Tryd.f50.body.getD .skip)) (o := Oi_GloOk_1) (k := 1) (by kernel_rfl) (by kernel_rfl) (by kernel_rfl) (by kernel_rfl) (by decide) ki_GloOk_1 ?_
  intro ys r outs h
  unfold Fi_GloOk at h
  split at h
  · exact (vi_GloOk _).trans h
  · cases h
end Go.Proofs.YtopoiinmhajhmaaDoor.E
end
section
namespace Go.Proofs.YtopoiinmhajhmaaDoor.E
open Go
set_option maxRecDepth 100000
set_option maxHeartbeats 0
set_option linter.all false
noncomputable def Es_l1In : Env where
  tt := mkTI Go.Proofs.Tryd.prog
  fn := fun _ => none
  mv := []
  keep := fun _ => []
  keepB := fun _ => []
  keepX := fun _ => []
  keepXB := fun _ => []
theorem goods_l1In : Good Go.Proofs.Tryd.prog Es_l1In := ⟨rfl, fun f ms F h => by cases h⟩
noncomputable def Os_l1In_0 : Orc := fun _ _ => none
noncomputable def mss_l1In : List PM := [.own, .own, .own]
noncomputable def lss_l1In : List (Nat × Code) := loopsAll 0 (Go.Proofs.Tryd.f61.body.getD .skip)

theorem ks_l1In_0 : OrcOk Es_l1In Os_l1In_0 lss_l1In 0 := orcOk_none
noncomputable def g_As_l1In (a0 : Int) (a1 : Int) (a2 : Int) : Bool := !decide (a0 ≥ a1) || true
noncomputable def g_Vs_l1In_0 (a0 : Int) (a1 : Int) (a2 : Int) : Bool := bif decide (a0 ≥ a1) then decide (a0 ≤ a2) else false
noncomputable def Fs_l1In : FSem := fun ys => match ys with
  | [.val false [.int .i64 a0], .val false [.int .i64 a1], .val false [.int .i64 a2]] => some ((g_As_l1In a0 a1 a2), .val false [.bool (g_Vs_l1In_0 a0 a1 a2)], [])
  | _ => none
theorem vs_l1In (a0 : Int) (a1 : Int) (a2 : Int) : collapseH .std Es_l1In Os_l1In_0 (execFn Es_l1In Go.Proofs.Tryd.f61 mss_l1In [.val false [.int .i64 a0], .val false [.int .i64 a1], .val false [.int .i64 a2]]) = some ((g_As_l1In a0 a1 a2), .val false [.bool (g_Vs_l1In_0 a0 a1 a2)], []) := by kernel_rfl
theorem ss_l1In : Sound Go.Proofs.Tryd.prog 61 mss_l1In Fs_l1In := by
  refine fn_gen goods_l1In (by kernel_rfl) .std (fn := Go.Proofs.Tryd.f61) (c := (Go.Proofs.Tryd.f61.body.getD .skip)) (o := Os_l1In_0) (k := 0) (by kernel_rfl) (by kernel_rfl) (by kernel_rfl) (by kernel_rfl) (by decide) ks_l1In_0 ?_
  intro ys r outs h
  unfold Fs_l1In at h
  split at h
  · exact (vs_l1In _ _ _).trans h
  · cases h
end Go.Proofs.YtopoiinmhajhmaaDoor.E
end
section
namespace Go.Proofs.YtopoiinmhajhmaaDoor.E
open Go
set_option maxRecDepth 100000
set_option maxHeartbeats 0
set_option linter.all false
noncomputable def Es_l1Key : Env where
  tt := mkTI Go.Proofs.Tryd.prog
  fn := fun f => match f with
    | 61 => some (mss_l1In, FSem.wk mss_l1In Fs_l1In)
    | _ => none
  mv := []
  keep := fun b => match b with
    | 0 => [(0, false), (3, false)]
    | _ => []
  keepB := fun b => match b with
    | 0 => []
    | _ => []
  keepX := fun b => match b with
    | 0 => [(2, false)]
    | _ => []
  keepXB := fun b => match b with
    | 0 => []
    | _ => []
theorem goods_l1Key : Good Go.Proofs.Tryd.prog Es_l1Key := ⟨rfl, fun f ms F h => by
  unfold Es_l1Key at h
  dsimp only at h
  split at h
  · injection h with h; injection h with e1 e2; subst e1 e2; exact Sound.wk ss_l1In
  · cases h⟩
noncomputable def Os_l1Key_0 : Orc := fun _ _ => none
noncomputable def mss_l1Key : List PM := [.own]
noncomputable def lss_l1Key : List (Nat × Code) := loopsAll 0 (Go.Proofs.Tryd.f63.body.getD .skip)
noncomputable def cs_l1Key_0 : Code := (loopOf 0 (Go.Proofs.Tryd.f63.body.getD .skip)).getD .skip
theorem lseqs_l1Key : lss_l1Key = [(0, cs_l1Key_0)] := by kernel_rfl
theorem ms_l1Key_0 : ∀ p, p ∈ lss_l1Key → p.1 = 0 → p.2 = cs_l1Key_0 := by
  intro p hp
  rw [lseqs_l1Key] at hp
  simp only [List.mem_cons, List.not_mem_nil, or_false] at hp
  subst hp; simp
theorem ks_l1Key_0 : OrcOk Es_l1Key Os_l1Key_0 lss_l1Key 0 := orcOk_none
noncomputable def hs_l1Key_0 (y0 : ByteArray) (y1 : Int) : List (Pl × LV) := [(.T 0, .t (.val false [.str y0])), (.T 3, .t (.val false [.int .i64 y1]))]
noncomputable def g_Ss_l1Key_0 (y0 : ByteArray) : ((Int)) → RT ((Int)) (((Bool)) ⊕ (Unit))
  | y1 => .br (true) (.br (decide (y1 < (↑(ByteArray.size y0) : Int))) (.br (decide ((0 : Int) ≤ y1 ∧ y1 < (↑(ByteArray.size y0) : Int))) (.br (true) (.br (decide (byteAt y0 (Int.toNat y1) < (48 : Int))) (.out (.inl false)) (.br (decide ((0 : Int) ≤ y1 ∧ y1 < (↑(ByteArray.size y0) : Int))) (.br (true) (.br (decide (byteAt y0 (Int.toNat y1) > (57 : Int))) (.out (.inl false)) (.br (true) (.go (IntKind.wrap IntKind.i64 (y1 + (1 : Int)))) (.bad))) (.bad)) (.bad))) (.bad)) (.bad)) (.out (.inr (())))) (.bad)
noncomputable def g_Ls_l1Key_0 (y0 : ByteArray) (x : (Int)) : Option (((Bool)) ⊕ (Unit)) := loopO (g_Ss_l1Key_0 y0) x
noncomputable def xs_l1Key_0 (y0 : ByteArray) : (((Bool)) ⊕ (Unit)) → Ex × List (Pl × LV) := fun
  | .inl r => (.ret, [(.T 2, .t (.val false [.bool r]))])
  | .inr (r) => (.exit 0, [(.T 2, .t (.val false [.undef]))])
noncomputable def Os_l1Key_1 : Orc := fun b h => match b, h with
  | 0, [(.T 0, .t (.val false [.str y0])), (.T 3, .t (.val false [.int .i64 y1]))] => some (okO (g_Ls_l1Key_0 y0 y1), (.br (isL (valO (g_Ls_l1Key_0 y0 y1))) (.leaf .ret [(.T 2, .t (.val false [.bool (getL (valO (g_Ls_l1Key_0 y0 y1)))]))]) (.leaf (.exit 0) [(.T 2, .t (.val false [.undef]))])))
  | b, h => Os_l1Key_0 b h
theorem bs_l1Key_0 (y0 : ByteArray) (y1 : Int) : Tr.bt Es_l1Key Os_l1Key_0 (exec Es_l1Key 0 cs_l1Key_0 (St.of (hs_l1Key_0 y0 y1)) (leafRd Es_l1Key 0)) = (g_Ss_l1Key_0 y0 y1).bt (fun (y1 : (Int)) => (hs_l1Key_0 y0 y1)) (xs_l1Key_0 y0) := by kernel_rfl
theorem ks_l1Key_1 : OrcOk Es_l1Key Os_l1Key_1 lss_l1Key 1 := orc_add ks_l1Key_0 (fun n p hp h ex h' ho => by
  obtain ⟨b, c⟩ := p
  obtain ⟨xt, h1, h2⟩ := ho
  have h1 : Os_l1Key_1 b h = some (true, xt) := h1
  unfold Os_l1Key_1 at h1
  split at h1
  · injection h1 with h1
    injection h1 with e1 e2
    subst e2
    have hc : c = cs_l1Key_0 := ms_l1Key_0 _ hp rfl
    subst hc
    right
    rename_i y0 y1
    have key := LT_step ks_l1Key_0 hp (fun q hq => loopsAll_in _ _ _ _ hp hq) (fun (y1 : (Int)) => (hs_l1Key_0 y0 y1)) (xs_l1Key_0 y0) (g_Ss_l1Key_0 y0) (fun x => by first | exact bs_l1Key_0 y0 x) n (x := y1) (okO_some e1)
    have hx : ∀ r, XT.sel (.br (isL r) (.leaf .ret [(.T 2, .t (.val false [.bool (getL r)]))]) (.leaf (.exit 0) [(.T 2, .t (.val false [.undef]))])) = xs_l1Key_0 y0 r := fun r => by first | rfl | (rcases r with r | r <;> rfl) | (rcases r with r | r | r <;> rfl) | (rcases r with r | r | r | r <;> rfl)
    have h3 := (hx (valO (g_Ls_l1Key_0 y0 y1))).symm.trans h2
    have e3 := congrArg Prod.fst h3
    have e4 := congrArg Prod.snd h3
    simp only at e3 e4
    rw [← e3, ← e4]
    exact key
  · exact .inl ⟨xt, h1, h2⟩)
noncomputable def g_As_l1Key (a0 : ByteArray) : Bool := g_As_l1In (↑(ByteArray.size a0) : Int) (2 : Int) (3 : Int) && (!g_Vs_l1In_0 (↑(ByteArray.size a0) : Int) (2 : Int) (3 : Int) || decide ((0 : Int) ≤ (0 : Int) ∧ (0 : Int) < (↑(ByteArray.size a0) : Int)) && (decide (byteAt a0 (nat_lit 0) < (97 : Int)) || decide ((0 : Int) ≤ (0 : Int) ∧ (0 : Int) < (↑(ByteArray.size a0) : Int)) && (decide (byteAt a0 (nat_lit 0) > (122 : Int)) || okO (g_Ls_l1Key_0 a0 (1 : Int)))))
noncomputable def g_Vs_l1Key_0 (a0 : ByteArray) : Bool := bif !g_Vs_l1In_0 (↑(ByteArray.size a0) : Int) (2 : Int) (3 : Int) then false else bif decide (byteAt a0 (nat_lit 0) < (97 : Int)) then false else bif decide (byteAt a0 (nat_lit 0) > (122 : Int)) then false else bif isL (valO (g_Ls_l1Key_0 a0 (1 : Int))) then getL (valO (g_Ls_l1Key_0 a0 (1 : Int))) else true
noncomputable def Fs_l1Key : FSem := fun ys => match ys with
  | [.val false [.str a0]] => some ((g_As_l1Key a0), .val false [.bool (g_Vs_l1Key_0 a0)], [])
  | _ => none
theorem vs_l1Key (a0 : ByteArray) : collapseH .std Es_l1Key Os_l1Key_1 (execFn Es_l1Key Go.Proofs.Tryd.f63 mss_l1Key [.val false [.str a0]]) = some ((g_As_l1Key a0), .val false [.bool (g_Vs_l1Key_0 a0)], []) := by kernel_rfl
theorem ss_l1Key : Sound Go.Proofs.Tryd.prog 63 mss_l1Key Fs_l1Key := by
  refine fn_gen goods_l1Key (by kernel_rfl) .std (fn := Go.Proofs.Tryd.f63) (c := (Go.Proofs.Tryd.f63.body.getD .skip)) (o := Os_l1Key_1) (k := 1) (by kernel_rfl) (by kernel_rfl) (by kernel_rfl) (by kernel_rfl) (by decide) ks_l1Key_1 ?_
  intro ys r outs h
  unfold Fs_l1Key at h
  split at h
  · exact (vs_l1Key _).trans h
  · cases h
end Go.Proofs.YtopoiinmhajhmaaDoor.E
end
section
namespace Go.Proofs.YtopoiinmhajhmaaDoor.E
open Go
set_option maxRecDepth 100000
set_option maxHeartbeats 0
set_option linter.all false
noncomputable def Es_l1Val : Env where
  tt := mkTI Go.Proofs.Tryd.prog
  fn := fun f => match f with
    | 61 => some (mss_l1In, FSem.wk mss_l1In Fs_l1In)
    | _ => none
  mv := []
  keep := fun b => match b with
    | 0 => [(0, false), (3, false)]
    | _ => []
  keepB := fun b => match b with
    | 0 => []
    | _ => []
  keepX := fun b => match b with
    | 0 => [(0, false), (2, false)]
    | _ => []
  keepXB := fun b => match b with
    | 0 => []
    | _ => []
theorem goods_l1Val : Good Go.Proofs.Tryd.prog Es_l1Val := ⟨rfl, fun f ms F h => by
  unfold Es_l1Val at h
  dsimp only at h
  split at h
  · injection h with h; injection h with e1 e2; subst e1 e2; exact Sound.wk ss_l1In
  · cases h⟩
noncomputable def Os_l1Val_0 : Orc := fun _ _ => none
noncomputable def mss_l1Val : List PM := [.rd]
noncomputable def lss_l1Val : List (Nat × Code) := loopsAll 0 (Go.Proofs.Tryd.f64.body.getD .skip)
noncomputable def cs_l1Val_0 : Code := (loopOf 0 (Go.Proofs.Tryd.f64.body.getD .skip)).getD .skip
theorem lseqs_l1Val : lss_l1Val = [(0, cs_l1Val_0)] := by kernel_rfl
theorem ms_l1Val_0 : ∀ p, p ∈ lss_l1Val → p.1 = 0 → p.2 = cs_l1Val_0 := by
  intro p hp
  rw [lseqs_l1Val] at hp
  simp only [List.mem_cons, List.not_mem_nil, or_false] at hp
  subst hp; simp
theorem ks_l1Val_0 : OrcOk Es_l1Val Os_l1Val_0 lss_l1Val 0 := orcOk_none
noncomputable def hs_l1Val_0 (y0 : List (Int)) (y1 : Int) : List (Pl × LV) := [(.T 0, .t (.val false [.sl .any 3 (.int .i64) y0])), (.T 3, .t (.val false [.int .i64 y1]))]
noncomputable def g_Ss_l1Val_0 (y0 : List (Int)) : ((Int)) → RT ((Int)) (((Bool)) ⊕ (Unit))
  | y1 => .br (true) (.br (decide (y1 < (↑(List.length y0) : Int))) (.br (decide ((0 : Int) ≤ y1 ∧ y1 < (↑(List.length y0) : Int))) (.br (g_As_l1In (at_ (Ty.int IntKind.i64) y0 (Int.toNat y1)) (0 : Int) (9999 : Int)) (.br (!g_Vs_l1In_0 (at_ (Ty.int IntKind.i64) y0 (Int.toNat y1)) (0 : Int) (9999 : Int)) (.out (.inl false)) (.br (true) (.go (IntKind.wrap IntKind.i64 (y1 + (1 : Int)))) (.bad))) (.bad)) (.bad)) (.out (.inr (())))) (.bad)
noncomputable def g_Ls_l1Val_0 (y0 : List (Int)) (x : (Int)) : Option (((Bool)) ⊕ (Unit)) := loopO (g_Ss_l1Val_0 y0) x
noncomputable def xs_l1Val_0 (y0 : List (Int)) : (((Bool)) ⊕ (Unit)) → Ex × List (Pl × LV) := fun
  | .inl r => (.ret, [(.T 0, .t (.val false [.sl .any 3 (.int .i64) y0])), (.T 2, .t (.val false [.bool r]))])
  | .inr (r) => (.exit 0, [(.T 0, .t (.val false [.sl .any 3 (.int .i64) y0])), (.T 2, .t (.val false [.undef]))])
noncomputable def Os_l1Val_1 : Orc := fun b h => match b, h with
  | 0, [(.T 0, .t (.val false [.sl .any 3 (.int .i64) y0])), (.T 3, .t (.val false [.int .i64 y1]))] => some (okO (g_Ls_l1Val_0 y0 y1), (.br (isL (valO (g_Ls_l1Val_0 y0 y1))) (.leaf .ret [(.T 0, .t (.val false [.sl .any 3 (.int .i64) y0])), (.T 2, .t (.val false [.bool (getL (valO (g_Ls_l1Val_0 y0 y1)))]))]) (.leaf (.exit 0) [(.T 0, .t (.val false [.sl .any 3 (.int .i64) y0])), (.T 2, .t (.val false [.undef]))])))
  | b, h => Os_l1Val_0 b h
theorem bs_l1Val_0 (y0 : List (Int)) (y1 : Int) : Tr.bt Es_l1Val Os_l1Val_0 (exec Es_l1Val 0 cs_l1Val_0 (St.of (hs_l1Val_0 y0 y1)) (leafRd Es_l1Val 0)) = (g_Ss_l1Val_0 y0 y1).bt (fun (y1 : (Int)) => (hs_l1Val_0 y0 y1)) (xs_l1Val_0 y0) := by kernel_rfl
theorem ks_l1Val_1 : OrcOk Es_l1Val Os_l1Val_1 lss_l1Val 1 := orc_add ks_l1Val_0 (fun n p hp h ex h' ho => by
  obtain ⟨b, c⟩ := p
  obtain ⟨xt, h1, h2⟩ := ho
  have h1 : Os_l1Val_1 b h = some (true, xt) := h1
  unfold Os_l1Val_1 at h1
  split at h1
  · injection h1 with h1
    injection h1 with e1 e2
    subst e2
    have hc : c = cs_l1Val_0 := ms_l1Val_0 _ hp rfl
    subst hc
    right
    rename_i y0 y1
    have key := LT_step ks_l1Val_0 hp (fun q hq => loopsAll_in _ _ _ _ hp hq) (fun (y1 : (Int)) => (hs_l1Val_0 y0 y1)) (xs_l1Val_0 y0) (g_Ss_l1Val_0 y0) (fun x => by first | exact bs_l1Val_0 y0 x) n (x := y1) (okO_some e1)
    have hx : ∀ r, XT.sel (.br (isL r) (.leaf .ret [(.T 0, .t (.val false [.sl .any 3 (.int .i64) y0])), (.T 2, .t (.val false [.bool (getL r)]))]) (.leaf (.exit 0) [(.T 0, .t (.val false [.sl .any 3 (.int .i64) y0])), (.T 2, .t (.val false [.undef]))])) = xs_l1Val_0 y0 r := fun r => by first | rfl | (rcases r with r | r <;> rfl) | (rcases r with r | r | r <;> rfl) | (rcases r with r | r | r | r <;> rfl)
    have h3 := (hx (valO (g_Ls_l1Val_0 y0 y1))).symm.trans h2
    have e3 := congrArg Prod.fst h3
    have e4 := congrArg Prod.snd h3
    simp only at e3 e4
    rw [← e3, ← e4]
    exact key
  · exact .inl ⟨xt, h1, h2⟩)
noncomputable def g_As_l1Val (a0 : List (Int)) : Bool := okO (g_Ls_l1Val_0 a0 (0 : Int)) && (isL (valO (g_Ls_l1Val_0 a0 (0 : Int))) || g_As_l1In (↑(List.length a0) : Int) (1 : Int) (3 : Int))
noncomputable def g_Vs_l1Val_0 (a0 : List (Int)) : Bool := bif isL (valO (g_Ls_l1Val_0 a0 (0 : Int))) then getL (valO (g_Ls_l1Val_0 a0 (0 : Int))) else g_Vs_l1In_0 (↑(List.length a0) : Int) (1 : Int) (3 : Int)
noncomputable def Fs_l1Val : FSem := fun ys => match ys with
  | [.val false [.sl .any 3 (.int .i64) a0]] => some ((g_As_l1Val a0), .val false [.bool (g_Vs_l1Val_0 a0)], [])
  | _ => none
theorem vs_l1Val (a0 : List (Int)) : collapseH .std Es_l1Val Os_l1Val_1 (execFn Es_l1Val Go.Proofs.Tryd.f64 mss_l1Val [.val false [.sl .any 3 (.int .i64) a0]]) = some ((g_As_l1Val a0), .val false [.bool (g_Vs_l1Val_0 a0)], []) := by kernel_rfl
theorem ss_l1Val : Sound Go.Proofs.Tryd.prog 64 mss_l1Val Fs_l1Val := by
  refine fn_gen goods_l1Val (by kernel_rfl) .std (fn := Go.Proofs.Tryd.f64) (c := (Go.Proofs.Tryd.f64.body.getD .skip)) (o := Os_l1Val_1) (k := 1) (by kernel_rfl) (by kernel_rfl) (by kernel_rfl) (by kernel_rfl) (by decide) ks_l1Val_1 ?_
  intro ys r outs h
  unfold Fs_l1Val at h
  split at h
  · exact (vs_l1Val _).trans h
  · cases h
end Go.Proofs.YtopoiinmhajhmaaDoor.E
end
section
namespace Go.Proofs.YtopoiinmhajhmaaDoor.E
open Go
set_option maxRecDepth 100000
set_option maxHeartbeats 0
set_option linter.all false
noncomputable def Es_StoOk : Env where
  tt := mkTI Go.Proofs.Tryd.prog
  fn := fun f => match f with
    | 63 => some (mss_l1Key, FSem.wk mss_l1Key Fs_l1Key)
    | 64 => some (mss_l1Val, FSem.wk mss_l1Val Fs_l1Val)
    | _ => none
  mv := []
  keep := fun b => match b with
    | 0 => [(1, false), (3, false)]
    | _ => []
  keepB := fun b => match b with
    | 0 => [(1, false)]
    | _ => []
  keepX := fun b => match b with
    | 0 => [(2, false)]
    | _ => []
  keepXB := fun b => match b with
    | 0 => []
    | _ => []
theorem goods_StoOk : Good Go.Proofs.Tryd.prog Es_StoOk := ⟨rfl, fun f ms F h => by
  unfold Es_StoOk at h
  dsimp only at h
  split at h
  · injection h with h; injection h with e1 e2; subst e1 e2; exact Sound.wk ss_l1Key
  · injection h with h; injection h with e1 e2; subst e1 e2; exact Sound.wk ss_l1Val
  · cases h⟩
noncomputable def Os_StoOk_0 : Orc := fun _ _ => none
noncomputable def mss_StoOk : List PM := [.rd]
noncomputable def lss_StoOk : List (Nat × Code) := loopsAll 0 (Go.Proofs.Tryd.f34.body.getD .skip)
noncomputable def cs_StoOk_0 : Code := (loopOf 0 (Go.Proofs.Tryd.f34.body.getD .skip)).getD .skip
theorem lseqs_StoOk : lss_StoOk = [(0, cs_StoOk_0)] := by kernel_rfl
theorem ms_StoOk_0 : ∀ p, p ∈ lss_StoOk → p.1 = 0 → p.2 = cs_StoOk_0 := by
  intro p hp
  rw [lseqs_StoOk] at hp
  simp only [List.mem_cons, List.not_mem_nil, or_false] at hp
  subst hp; simp
theorem ks_StoOk_0 : OrcOk Es_StoOk Os_StoOk_0 lss_StoOk 0 := orcOk_none
noncomputable def hs_StoOk_0 (y0 : Int) (y1 : List ((ByteArray) × (List (Int)))) : List (Pl × LV) := [(.T 1, .t (.val false [.ptr 1 0 0])), (.T 3, .t (.val false [.int .i64 y0])), (.B 1, .b 0 false [.sl .any 88 (.pair .str (.sl 3 (.int .i64))) y1])]
noncomputable def g_Ss_StoOk_0 (y1 : List ((ByteArray) × (List (Int)))) : ((Int)) → RT ((Int)) (((Bool)) ⊕ (Unit))
  | y0 => .br (true) (.br (decide (y0 < (↑(List.length y1) : Int))) (.br (decide ((0 : Int) ≤ y0 ∧ y0 < (↑(List.length y1) : Int))) (.br (g_As_l1Key (at_ (Ty.pair Ty.str (Ty.sl (nat_lit 3) (Ty.int IntKind.i64))) y1 (Int.toNat y0)).1) (.br (!g_Vs_l1Key_0 (at_ (Ty.pair Ty.str (Ty.sl (nat_lit 3) (Ty.int IntKind.i64))) y1 (Int.toNat y0)).1) (.out (.inl false)) (.br (decide ((0 : Int) ≤ y0 ∧ y0 < (↑(List.length y1) : Int))) (.br (g_As_l1Val (at_ (Ty.pair Ty.str (Ty.sl (nat_lit 3) (Ty.int IntKind.i64))) y1 (Int.toNat y0)).2) (.br (!g_Vs_l1Val_0 (at_ (Ty.pair Ty.str (Ty.sl (nat_lit 3) (Ty.int IntKind.i64))) y1 (Int.toNat y0)).2) (.out (.inl false)) (.br (true) (.br (decide (y0 > (0 : Int))) (.br (true) (.br (decide ((0 : Int) ≤ IntKind.wrap IntKind.i64 (y0 - (1 : Int)) ∧ IntKind.wrap IntKind.i64 (y0 - (1 : Int)) < (↑(List.length y1) : Int))) (.br (decide ((0 : Int) ≤ y0 ∧ y0 < (↑(List.length y1) : Int))) (.br (true) (.br (!Op.bytesLess (ByteArray.toList (at_ (Ty.pair Ty.str (Ty.sl (nat_lit 3) (Ty.int IntKind.i64))) y1 (Int.toNat (IntKind.wrap IntKind.i64 (y0 - (1 : Int))))).1) (ByteArray.toList (at_ (Ty.pair Ty.str (Ty.sl (nat_lit 3) (Ty.int IntKind.i64))) y1 (Int.toNat y0)).1)) (.out (.inl false)) (.br (true) (.go (IntKind.wrap IntKind.i64 (y0 + (1 : Int)))) (.bad))) (.bad)) (.bad)) (.bad)) (.bad)) (.br (true) (.go (IntKind.wrap IntKind.i64 (y0 + (1 : Int)))) (.bad))) (.bad))) (.bad)) (.bad))) (.bad)) (.bad)) (.out (.inr (())))) (.bad)
noncomputable def g_Ls_StoOk_0 (y1 : List ((ByteArray) × (List (Int)))) (x : (Int)) : Option (((Bool)) ⊕ (Unit)) := loopO (g_Ss_StoOk_0 y1) x
noncomputable def xs_StoOk_0 (y1 : List ((ByteArray) × (List (Int)))) : (((Bool)) ⊕ (Unit)) → Ex × List (Pl × LV) := fun
  | .inl r => (.ret, [(.T 2, .t (.val false [.bool r]))])
  | .inr (r) => (.exit 0, [(.T 2, .t (.val false [.undef]))])
noncomputable def Os_StoOk_1 : Orc := fun b h => match b, h with
  | 0, [(.T 1, .t (.val false [.ptr 1 0 0])), (.T 3, .t (.val false [.int .i64 y0])), (.B 1, .b 0 false [.sl .any 88 (.pair .str (.sl 3 (.int .i64))) y1])] => some (okO (g_Ls_StoOk_0 y1 y0), (.br (isL (valO (g_Ls_StoOk_0 y1 y0))) (.leaf .ret [(.T 2, .t (.val false [.bool (getL (valO (g_Ls_StoOk_0 y1 y0)))]))]) (.leaf (.exit 0) [(.T 2, .t (.val false [.undef]))])))
  | b, h => Os_StoOk_0 b h
theorem bs_StoOk_0 (y0 : Int) (y1 : List ((ByteArray) × (List (Int)))) : Tr.bt Es_StoOk Os_StoOk_0 (exec Es_StoOk 0 cs_StoOk_0 (St.of (hs_StoOk_0 y0 y1)) (leafRd Es_StoOk 0)) = (g_Ss_StoOk_0 y1 y0).bt (fun (y0 : (Int)) => (hs_StoOk_0 y0 y1)) (xs_StoOk_0 y1) := by kernel_rfl
theorem ks_StoOk_1 : OrcOk Es_StoOk Os_StoOk_1 lss_StoOk 1 := orc_add ks_StoOk_0 (fun n p hp h ex h' ho => by
  obtain ⟨b, c⟩ := p
  obtain ⟨xt, h1, h2⟩ := ho
  have h1 : Os_StoOk_1 b h = some (true, xt) := h1
  unfold Os_StoOk_1 at h1
  split at h1
  · injection h1 with h1
    injection h1 with e1 e2
    subst e2
    have hc : c = cs_StoOk_0 := ms_StoOk_0 _ hp rfl
    subst hc
    right
    rename_i y0 y1
    have key := LT_step ks_StoOk_0 hp (fun q hq => loopsAll_in _ _ _ _ hp hq) (fun (y0 : (Int)) => (hs_StoOk_0 y0 y1)) (xs_StoOk_0 y1) (g_Ss_StoOk_0 y1) (fun x => by first | exact bs_StoOk_0 x y1) n (x := y0) (okO_some e1)
    have hx : ∀ r, XT.sel (.br (isL r) (.leaf .ret [(.T 2, .t (.val false [.bool (getL r)]))]) (.leaf (.exit 0) [(.T 2, .t (.val false [.undef]))])) = xs_StoOk_0 y1 r := fun r => by first | rfl | (rcases r with r | r <;> rfl) | (rcases r with r | r | r <;> rfl) | (rcases r with r | r | r | r <;> rfl)
    have h3 := (hx (valO (g_Ls_StoOk_0 y1 y0))).symm.trans h2
    have e3 := congrArg Prod.fst h3
    have e4 := congrArg Prod.snd h3
    simp only at e3 e4
    rw [← e3, ← e4]
    exact key
  · exact .inl ⟨xt, h1, h2⟩)
noncomputable def g_As_StoOk (a0 : List ((ByteArray) × (List (Int)))) : Bool := decide ((↑(List.length a0) : Int) > (40 : Int)) || okO (g_Ls_StoOk_0 a0 (0 : Int))
noncomputable def g_Vs_StoOk_0 (a0 : List ((ByteArray) × (List (Int)))) : Bool := bif decide ((↑(List.length a0) : Int) > (40 : Int)) then false else bif isL (valO (g_Ls_StoOk_0 a0 (0 : Int))) then getL (valO (g_Ls_StoOk_0 a0 (0 : Int))) else true
noncomputable def Fs_StoOk : FSem := fun ys => match ys with
  | [.val true [.sl .any 88 (.pair .str (.sl 3 (.int .i64))) a0]] => some ((g_As_StoOk a0), .val false [.bool (g_Vs_StoOk_0 a0)], [])
  | _ => none
theorem vs_StoOk (a0 : List ((ByteArray) × (List (Int)))) : collapseH .std Es_StoOk Os_StoOk_1 (execFn Es_StoOk Go.Proofs.Tryd.f34 mss_StoOk [.val true [.sl .any 88 (.pair .str (.sl 3 (.int .i64))) a0]]) = some ((g_As_StoOk a0), .val false [.bool (g_Vs_StoOk_0 a0)], []) := by kernel_rfl
theorem ss_StoOk : Sound Go.Proofs.Tryd.prog 34 mss_StoOk Fs_StoOk := by
  refine fn_gen goods_StoOk (by kernel_rfl) .std (fn := Go.Proofs.Tryd.f34) (c := (Go.Proofs.Tryd.f34.body.getD .skip)) (o := Os_StoOk_1) (k := 1) (by kernel_rfl) (by kernel_rfl) (by kernel_rfl) (by kernel_rfl) (by decide) ks_StoOk_1 ?_
  intro ys r outs h
  unfold Fs_StoOk at h
  split at h
  · exact (vs_StoOk _).trans h
  · cases h
end Go.Proofs.YtopoiinmhajhmaaDoor.E
end
section
namespace Go.Proofs.YtopoiinmhajhmaaDoor.E
open Go
set_option maxRecDepth 100000
set_option maxHeartbeats 0
set_option linter.all false
noncomputable def Es_l3Form : Env where
  tt := mkTI Go.Proofs.Tryd.prog
  fn := fun f => match f with
    | 61 => some (mss_l1In, FSem.wk mss_l1In Fs_l1In)
    | _ => none
  mv := []
  keep := fun b => match b with
    | 0 => [(0, false), (3, false), (5, false)]
    | _ => []
  keepB := fun b => match b with
    | 0 => [(3, false)]
    | _ => []
  keepX := fun b => match b with
    | 0 => [(4, false)]
    | _ => []
  keepXB := fun b => match b with
    | 0 => []
    | _ => []
theorem goods_l3Form : Good Go.Proofs.Tryd.prog Es_l3Form := ⟨rfl, fun f ms F h => by
  unfold Es_l3Form at h
  dsimp only at h
  split at h
  · injection h with h; injection h with e1 e2; subst e1 e2; exact Sound.wk ss_l1In
  · cases h⟩
noncomputable def Os_l3Form_0 : Orc := fun _ _ => none
noncomputable def mss_l3Form : List PM := [.own, .rd]
noncomputable def lss_l3Form : List (Nat × Code) := loopsAll 0 (Go.Proofs.Tryd.f79.body.getD .skip)
noncomputable def cs_l3Form_0 : Code := (loopOf 0 (Go.Proofs.Tryd.f79.body.getD .skip)).getD .skip
theorem lseqs_l3Form : lss_l3Form = [(0, cs_l3Form_0)] := by kernel_rfl
theorem ms_l3Form_0 : ∀ p, p ∈ lss_l3Form → p.1 = 0 → p.2 = cs_l3Form_0 := by
  intro p hp
  rw [lseqs_l3Form] at hp
  simp only [List.mem_cons, List.not_mem_nil, or_false] at hp
  subst hp; simp
theorem ks_l3Form_0 : OrcOk Es_l3Form Os_l3Form_0 lss_l3Form 0 := orcOk_none
noncomputable def hs_l3Form_0 (y0 : Int) (y1 : Int) (y2 : List ((ByteArray) × (List (Int)))) : List (Pl × LV) := [(.T 0, .t (.val false [.int .i64 y0])), (.T 3, .t (.val false [.ptr 3 0 0])), (.T 5, .t (.val false [.int .i64 y1])), (.B 3, .b 0 false [.sl .any 88 (.pair .str (.sl 3 (.int .i64))) y2])]
noncomputable def g_Ss_l3Form_0 (y0 : Int) (y2 : List ((ByteArray) × (List (Int)))) : ((Int)) → RT ((Int)) (((Bool)) ⊕ (Unit))
  | y1 => .br (true) (.br (decide (y1 < (↑(List.length y2) : Int))) (.br (decide ((0 : Int) ≤ y1 ∧ y1 < (↑(List.length y2) : Int))) (.br (decide ((0 : Int) ≤ (0 : Int) ∧ (0 : Int) < (↑(ByteArray.size (at_ (Ty.pair Ty.str (Ty.sl (nat_lit 3) (Ty.int IntKind.i64))) y2 (Int.toNat y1)).1) : Int))) (.br (decide ((0 : Int) ≤ (0 : Int) ∧ (0 : Int) < (↑(List.length (at_ (Ty.pair Ty.str (Ty.sl (nat_lit 3) (Ty.int IntKind.i64))) y2 (Int.toNat y1)).2) : Int))) (.br (true) (.br (y0 == (1 : Int)) (.br (true) (.br (byteAt (at_ (Ty.pair Ty.str (Ty.sl (nat_lit 3) (Ty.int IntKind.i64))) y2 (Int.toNat y1)).1 (nat_lit 0) == (115 : Int)) (.br (true) (.br ((↑(List.length (at_ (Ty.pair Ty.str (Ty.sl (nat_lit 3) (Ty.int IntKind.i64))) y2 (Int.toNat y1)).2) : Int) == (1 : Int)) (.br (true) (.br (decide (at_ (Ty.int IntKind.i64) (at_ (Ty.pair Ty.str (Ty.sl (nat_lit 3) (Ty.int IntKind.i64))) y2 (Int.toNat y1)).2 (nat_lit 0) ≤ (9 : Int))) (.br (false) (.out (.inl false)) (.br (true) (.br (byteAt (at_ (Ty.pair Ty.str (Ty.sl (nat_lit 3) (Ty.int IntKind.i64))) y2 (Int.toNat y1)).1 (nat_lit 0) != (97 : Int)) (.br (true) (.br ((↑(ByteArray.size (at_ (Ty.pair Ty.str (Ty.sl (nat_lit 3) (Ty.int IntKind.i64))) y2 (Int.toNat y1)).1) : Int) != (2 : Int)) (.out (.inl false)) (.br (true) (.go (IntKind.wrap IntKind.i64 (y1 + (1 : Int)))) (.bad))) (.bad)) (.br (true) (.go (IntKind.wrap IntKind.i64 (y1 + (1 : Int)))) (.bad))) (.bad))) (.br (true) (.br (y0 == (3 : Int)) (.br (true) (.br (byteAt (at_ (Ty.pair Ty.str (Ty.sl (nat_lit 3) (Ty.int IntKind.i64))) y2 (Int.toNat y1)).1 (nat_lit 0) == (97 : Int)) (.br (true) (.br ((↑(List.length (at_ (Ty.pair Ty.str (Ty.sl (nat_lit 3) (Ty.int IntKind.i64))) y2 (Int.toNat y1)).2) : Int) == (1 : Int)) (.br (false) (.out (.inl false)) (.br (true) (.br (byteAt (at_ (Ty.pair Ty.str (Ty.sl (nat_lit 3) (Ty.int IntKind.i64))) y2 (Int.toNat y1)).1 (nat_lit 0) != (97 : Int)) (.br (true) (.br ((↑(ByteArray.size (at_ (Ty.pair Ty.str (Ty.sl (nat_lit 3) (Ty.int IntKind.i64))) y2 (Int.toNat y1)).1) : Int) != (2 : Int)) (.out (.inl false)) (.br (true) (.go (IntKind.wrap IntKind.i64 (y1 + (1 : Int)))) (.bad))) (.bad)) (.br (true) (.go (IntKind.wrap IntKind.i64 (y1 + (1 : Int)))) (.bad))) (.bad))) (.br (true) (.br (y0 == (2 : Int)) (.br (true) (.br (decide (at_ (Ty.int IntKind.i64) (at_ (Ty.pair Ty.str (Ty.sl (nat_lit 3) (Ty.int IntKind.i64))) y2 (Int.toNat y1)).2 (nat_lit 0) ≤ (9 : Int))) (.br (true) (.br (byteAt (at_ (Ty.pair Ty.str (Ty.sl (nat_lit 3) (Ty.int IntKind.i64))) y2 (Int.toNat y1)).1 (nat_lit 0) == (99 : Int)) (.br (true) (.br ((↑(List.length (at_ (Ty.pair Ty.str (Ty.sl (nat_lit 3) (Ty.int IntKind.i64))) y2 (Int.toNat y1)).2) : Int) == (2 : Int)) (.br (false) (.out (.inl false)) (.br (true) (.br (byteAt (at_ (Ty.pair Ty.str (Ty.sl (nat_lit 3) (Ty.int IntKind.i64))) y2 (Int.toNat y1)).1 (nat_lit 0) != (97 : Int)) (.br (true) (.br ((↑(ByteArray.size (at_ (Ty.pair Ty.str (Ty.sl (nat_lit 3) (Ty.int IntKind.i64))) y2 (Int.toNat y1)).1) : Int) != (2 : Int)) (.out (.inl false)) (.br (true) (.go (IntKind.wrap IntKind.i64 (y1 + (1 : Int)))) (.bad))) (.bad)) (.br (true) (.go (IntKind.wrap IntKind.i64 (y1 + (1 : Int)))) (.bad))) (.bad))) (.br (true) (.br (byteAt (at_ (Ty.pair Ty.str (Ty.sl (nat_lit 3) (Ty.int IntKind.i64))) y2 (Int.toNat y1)).1 (nat_lit 0) == (102 : Int)) (.br (true) (.br ((↑(List.length (at_ (Ty.pair Ty.str (Ty.sl (nat_lit 3) (Ty.int IntKind.i64))) y2 (Int.toNat y1)).2) : Int) == (3 : Int)) (.br (decide ((0 : Int) ≤ (1 : Int) ∧ (1 : Int) < (↑(List.length (at_ (Ty.pair Ty.str (Ty.sl (nat_lit 3) (Ty.int IntKind.i64))) y2 (Int.toNat y1)).2) : Int))) (.br (g_As_l1In (at_ (Ty.int IntKind.i64) (at_ (Ty.pair Ty.str (Ty.sl (nat_lit 3) (Ty.int IntKind.i64))) y2 (Int.toNat y1)).2 (nat_lit 1)) (1 : Int) (99 : Int)) (.br (g_Vs_l1In_0 (at_ (Ty.int IntKind.i64) (at_ (Ty.pair Ty.str (Ty.sl (nat_lit 3) (Ty.int IntKind.i64))) y2 (Int.toNat y1)).2 (nat_lit 1)) (1 : Int) (99 : Int)) (.br (decide ((0 : Int) ≤ (2 : Int) ∧ (2 : Int) < (↑(List.length (at_ (Ty.pair Ty.str (Ty.sl (nat_lit 3) (Ty.int IntKind.i64))) y2 (Int.toNat y1)).2) : Int))) (.br (true) (.br (!decide (at_ (Ty.int IntKind.i64) (at_ (Ty.pair Ty.str (Ty.sl (nat_lit 3) (Ty.int IntKind.i64))) y2 (Int.toNat y1)).2 (nat_lit 2) ≤ (1 : Int))) (.out (.inl false)) (.br (true) (.br (byteAt (at_ (Ty.pair Ty.str (Ty.sl (nat_lit 3) (Ty.int IntKind.i64))) y2 (Int.toNat y1)).1 (nat_lit 0) != (97 : Int)) (.br (true) (.br ((↑(ByteArray.size (at_ (Ty.pair Ty.str (Ty.sl (nat_lit 3) (Ty.int IntKind.i64))) y2 (Int.toNat y1)).1) : Int) != (2 : Int)) (.out (.inl false)) (.br (true) (.go (IntKind.wrap IntKind.i64 (y1 + (1 : Int)))) (.bad))) (.bad)) (.br (true) (.go (IntKind.wrap IntKind.i64 (y1 + (1 : Int)))) (.bad))) (.bad))) (.bad)) (.bad)) (.br (true) (.out (.inl false)) (.br (true) (.br (byteAt (at_ (Ty.pair Ty.str (Ty.sl (nat_lit 3) (Ty.int IntKind.i64))) y2 (Int.toNat y1)).1 (nat_lit 0) != (97 : Int)) (.br (true) (.br ((↑(ByteArray.size (at_ (Ty.pair Ty.str (Ty.sl (nat_lit 3) (Ty.int IntKind.i64))) y2 (Int.toNat y1)).1) : Int) != (2 : Int)) (.out (.inl false)) (.br (true) (.go (IntKind.wrap IntKind.i64 (y1 + (1 : Int)))) (.bad))) (.bad)) (.br (true) (.go (IntKind.wrap IntKind.i64 (y1 + (1 : Int)))) (.bad))) (.bad)))) (.bad)) (.bad)) (.br (true) (.out (.inl false)) (.br (true) (.br (byteAt (at_ (Ty.pair Ty.str (Ty.sl (nat_lit 3) (Ty.int IntKind.i64))) y2 (Int.toNat y1)).1 (nat_lit 0) != (97 : Int)) (.br (true) (.br ((↑(ByteArray.size (at_ (Ty.pair Ty.str (Ty.sl (nat_lit 3) (Ty.int IntKind.i64))) y2 (Int.toNat y1)).1) : Int) != (2 : Int)) (.out (.inl false)) (.br (true) (.go (IntKind.wrap IntKind.i64 (y1 + (1 : Int)))) (.bad))) (.bad)) (.br (true) (.go (IntKind.wrap IntKind.i64 (y1 + (1 : Int)))) (.bad))) (.bad)))) (.bad)) (.br (true) (.out (.inl false)) (.br (true) (.br (byteAt (at_ (Ty.pair Ty.str (Ty.sl (nat_lit 3) (Ty.int IntKind.i64))) y2 (Int.toNat y1)).1 (nat_lit 0) != (97 : Int)) (.br (true) (.br ((↑(ByteArray.size (at_ (Ty.pair Ty.str (Ty.sl (nat_lit 3) (Ty.int IntKind.i64))) y2 (Int.toNat y1)).1) : Int) != (2 : Int)) (.out (.inl false)) (.br (true) (.go (IntKind.wrap IntKind.i64 (y1 + (1 : Int)))) (.bad))) (.bad)) (.br (true) (.go (IntKind.wrap IntKind.i64 (y1 + (1 : Int)))) (.bad))) (.bad)))) (.bad))) (.bad)) (.br (true) (.br (byteAt (at_ (Ty.pair Ty.str (Ty.sl (nat_lit 3) (Ty.int IntKind.i64))) y2 (Int.toNat y1)).1 (nat_lit 0) == (102 : Int)) (.br (true) (.br ((↑(List.length (at_ (Ty.pair Ty.str (Ty.sl (nat_lit 3) (Ty.int IntKind.i64))) y2 (Int.toNat y1)).2) : Int) == (3 : Int)) (.br (decide ((0 : Int) ≤ (1 : Int) ∧ (1 : Int) < (↑(List.length (at_ (Ty.pair Ty.str (Ty.sl (nat_lit 3) (Ty.int IntKind.i64))) y2 (Int.toNat y1)).2) : Int))) (.br (g_As_l1In (at_ (Ty.int IntKind.i64) (at_ (Ty.pair Ty.str (Ty.sl (nat_lit 3) (Ty.int IntKind.i64))) y2 (Int.toNat y1)).2 (nat_lit 1)) (1 : Int) (99 : Int)) (.br (g_Vs_l1In_0 (at_ (Ty.int IntKind.i64) (at_ (Ty.pair Ty.str (Ty.sl (nat_lit 3) (Ty.int IntKind.i64))) y2 (Int.toNat y1)).2 (nat_lit 1)) (1 : Int) (99 : Int)) (.br (decide ((0 : Int) ≤ (2 : Int) ∧ (2 : Int) < (↑(List.length (at_ (Ty.pair Ty.str (Ty.sl (nat_lit 3) (Ty.int IntKind.i64))) y2 (Int.toNat y1)).2) : Int))) (.br (true) (.br (!decide (at_ (Ty.int IntKind.i64) (at_ (Ty.pair Ty.str (Ty.sl (nat_lit 3) (Ty.int IntKind.i64))) y2 (Int.toNat y1)).2 (nat_lit 2) ≤ (1 : Int))) (.out (.inl false)) (.br (true) (.br (byteAt (at_ (Ty.pair Ty.str (Ty.sl (nat_lit 3) (Ty.int IntKind.i64))) y2 (Int.toNat y1)).1 (nat_lit 0) != (97 : Int)) (.br (true) (.br ((↑(ByteArray.size (at_ (Ty.pair Ty.str (Ty.sl (nat_lit 3) (Ty.int IntKind.i64))) y2 (Int.toNat y1)).1) : Int) != (2 : Int)) (.out (.inl false)) (.br (true) (.go (IntKind.wrap IntKind.i64 (y1 + (1 : Int)))) (.bad))) (.bad)) (.br (true) (.go (IntKind.wrap IntKind.i64 (y1 + (1 : Int)))) (.bad))) (.bad))) (.bad)) (.bad)) (.br (true) (.out (.inl false)) (.br (true) (.br (byteAt (at_ (Ty.pair Ty.str (Ty.sl (nat_lit 3) (Ty.int IntKind.i64))) y2 (Int.toNat y1)).1 (nat_lit 0) != (97 : Int)) (.br (true) (.br ((↑(ByteArray.size (at_ (Ty.pair Ty.str (Ty.sl (nat_lit 3) (Ty.int IntKind.i64))) y2 (Int.toNat y1)).1) : Int) != (2 : Int)) (.out (.inl false)) (.br (true) (.go (IntKind.wrap IntKind.i64 (y1 + (1 : Int)))) (.bad))) (.bad)) (.br (true) (.go (IntKind.wrap IntKind.i64 (y1 + (1 : Int)))) (.bad))) (.bad)))) (.bad)) (.bad)) (.br (true) (.out (.inl false)) (.br (true) (.br (byteAt (at_ (Ty.pair Ty.str (Ty.sl (nat_lit 3) (Ty.int IntKind.i64))) y2 (Int.toNat y1)).1 (nat_lit 0) != (97 : Int)) (.br (true) (.br ((↑(ByteArray.size (at_ (Ty.pair Ty.str (Ty.sl (nat_lit 3) (Ty.int IntKind.i64))) y2 (Int.toNat y1)).1) : Int) != (2 : Int)) (.out (.inl false)) (.br (true) (.go (IntKind.wrap IntKind.i64 (y1 + (1 : Int)))) (.bad))) (.bad)) (.br (true) (.go (IntKind.wrap IntKind.i64 (y1 + (1 : Int)))) (.bad))) (.bad)))) (.bad)) (.br (true) (.out (.inl false)) (.br (true) (.br (byteAt (at_ (Ty.pair Ty.str (Ty.sl (nat_lit 3) (Ty.int IntKind.i64))) y2 (Int.toNat y1)).1 (nat_lit 0) != (97 : Int)) (.br (true) (.br ((↑(ByteArray.size (at_ (Ty.pair Ty.str (Ty.sl (nat_lit 3) (Ty.int IntKind.i64))) y2 (Int.toNat y1)).1) : Int) != (2 : Int)) (.out (.inl false)) (.br (true) (.go (IntKind.wrap IntKind.i64 (y1 + (1 : Int)))) (.bad))) (.bad)) (.br (true) (.go (IntKind.wrap IntKind.i64 (y1 + (1 : Int)))) (.bad))) (.bad)))) (.bad))) (.bad)) (.br (true) (.out (.inl false)) (.br (true) (.br (byteAt (at_ (Ty.pair Ty.str (Ty.sl (nat_lit 3) (Ty.int IntKind.i64))) y2 (Int.toNat y1)).1 (nat_lit 0) != (97 : Int)) (.br (true) (.br ((↑(ByteArray.size (at_ (Ty.pair Ty.str (Ty.sl (nat_lit 3) (Ty.int IntKind.i64))) y2 (Int.toNat y1)).1) : Int) != (2 : Int)) (.out (.inl false)) (.br (true) (.go (IntKind.wrap IntKind.i64 (y1 + (1 : Int)))) (.bad))) (.bad)) (.br (true) (.go (IntKind.wrap IntKind.i64 (y1 + (1 : Int)))) (.bad))) (.bad)))) (.bad)) (.br (true) (.out (.inl false)) (.br (true) (.br (byteAt (at_ (Ty.pair Ty.str (Ty.sl (nat_lit 3) (Ty.int IntKind.i64))) y2 (Int.toNat y1)).1 (nat_lit 0) != (97 : Int)) (.br (true) (.br ((↑(ByteArray.size (at_ (Ty.pair Ty.str (Ty.sl (nat_lit 3) (Ty.int IntKind.i64))) y2 (Int.toNat y1)).1) : Int) != (2 : Int)) (.out (.inl false)) (.br (true) (.go (IntKind.wrap IntKind.i64 (y1 + (1 : Int)))) (.bad))) (.bad)) (.br (true) (.go (IntKind.wrap IntKind.i64 (y1 + (1 : Int)))) (.bad))) (.bad)))) (.bad))) (.bad)) (.br (true) (.br (y0 == (2 : Int)) (.br (true) (.br (decide (at_ (Ty.int IntKind.i64) (at_ (Ty.pair Ty.str (Ty.sl (nat_lit 3) (Ty.int IntKind.i64))) y2 (Int.toNat y1)).2 (nat_lit 0) ≤ (9 : Int))) (.br (true) (.br (byteAt (at_ (Ty.pair Ty.str (Ty.sl (nat_lit 3) (Ty.int IntKind.i64))) y2 (Int.toNat y1)).1 (nat_lit 0) == (99 : Int)) (.br (true) (.br ((↑(List.length (at_ (Ty.pair Ty.str (Ty.sl (nat_lit 3) (Ty.int IntKind.i64))) y2 (Int.toNat y1)).2) : Int) == (2 : Int)) (.br (false) (.out (.inl false)) (.br (true) (.br (byteAt (at_ (Ty.pair Ty.str (Ty.sl (nat_lit 3) (Ty.int IntKind.i64))) y2 (Int.toNat y1)).1 (nat_lit 0) != (97 : Int)) (.br (true) (.br ((↑(ByteArray.size (at_ (Ty.pair Ty.str (Ty.sl (nat_lit 3) (Ty.int IntKind.i64))) y2 (Int.toNat y1)).1) : Int) != (2 : Int)) (.out (.inl false)) (.br (true) (.go (IntKind.wrap IntKind.i64 (y1 + (1 : Int)))) (.bad))) (.bad)) (.br (true) (.go (IntKind.wrap IntKind.i64 (y1 + (1 : Int)))) (.bad))) (.bad))) (.br (true) (.br (byteAt (at_ (Ty.pair Ty.str (Ty.sl (nat_lit 3) (Ty.int IntKind.i64))) y2 (Int.toNat y1)).1 (nat_lit 0) == (102 : Int)) (.br (true) (.br ((↑(List.length (at_ (Ty.pair Ty.str (Ty.sl (nat_lit 3) (Ty.int IntKind.i64))) y2 (Int.toNat y1)).2) : Int) == (3 : Int)) (.br (decide ((0 : Int) ≤ (1 : Int) ∧ (1 : Int) < (↑(List.length (at_ (Ty.pair Ty.str (Ty.sl (nat_lit 3) (Ty.int IntKind.i64))) y2 (Int.toNat y1)).2) : Int))) (.br (g_As_l1In (at_ (Ty.int IntKind.i64) (at_ (Ty.pair Ty.str (Ty.sl (nat_lit 3) (Ty.int IntKind.i64))) y2 (Int.toNat y1)).2 (nat_lit 1)) (1 : Int) (99 : Int)) (.br (g_Vs_l1In_0 (at_ (Ty.int IntKind.i64) (at_ (Ty.pair Ty.str (Ty.sl (nat_lit 3) (Ty.int IntKind.i64))) y2 (Int.toNat y1)).2 (nat_lit 1)) (1 : Int) (99 : Int)) (.br (decide ((0 : Int) ≤ (2 : Int) ∧ (2 : Int) < (↑(List.length (at_ (Ty.pair Ty.str (Ty.sl (nat_lit 3) (Ty.int IntKind.i64))) y2 (Int.toNat y1)).2) : Int))) (.br (true) (.br (!decide (at_ (Ty.int IntKind.i64) (at_ (Ty.pair Ty.str (Ty.sl (nat_lit 3) (Ty.int IntKind.i64))) y2 (Int.toNat y1)).2 (nat_lit 2) ≤ (1 : Int))) (.out (.inl false)) (.br (true) (.br (byteAt (at_ (Ty.pair Ty.str (Ty.sl (nat_lit 3) (Ty.int IntKind.i64))) y2 (Int.toNat y1)).1 (nat_lit 0) != (97 : Int)) (.br (true) (.br ((↑(ByteArray.size (at_ (Ty.pair Ty.str (Ty.sl (nat_lit 3) (Ty.int IntKind.i64))) y2 (Int.toNat y1)).1) : Int) != (2 : Int)) (.out (.inl false)) (.br (true) (.go (IntKind.wrap IntKind.i64 (y1 + (1 : Int)))) (.bad))) (.bad)) (.br (true) (.go (IntKind.wrap IntKind.i64 (y1 + (1 : Int)))) (.bad))) (.bad))) (.bad)) (.bad)) (.br (true) (.out (.inl false)) (.br (true) (.br (byteAt (at_ (Ty.pair Ty.str (Ty.sl (nat_lit 3) (Ty.int IntKind.i64))) y2 (Int.toNat y1)).1 (nat_lit 0) != (97 : Int)) (.br (true) (.br ((↑(ByteArray.size (at_ (Ty.pair Ty.str (Ty.sl (nat_lit 3) (Ty.int IntKind.i64))) y2 (Int.toNat y1)).1) : Int) != (2 : Int)) (.out (.inl false)) (.br (true) (.go (IntKind.wrap IntKind.i64 (y1 + (1 : Int)))) (.bad))) (.bad)) (.br (true) (.go (IntKind.wrap IntKind.i64 (y1 + (1 : Int)))) (.bad))) (.bad)))) (.bad)) (.bad)) (.br (true) (.out (.inl false)) (.br (true) (.br (byteAt (at_ (Ty.pair Ty.str (Ty.sl (nat_lit 3) (Ty.int IntKind.i64))) y2 (Int.toNat y1)).1 (nat_lit 0) != (97 : Int)) (.br (true) (.br ((↑(ByteArray.size (at_ (Ty.pair Ty.str (Ty.sl (nat_lit 3) (Ty.int IntKind.i64))) y2 (Int.toNat y1)).1) : Int) != (2 : Int)) (.out (.inl false)) (.br (true) (.go (IntKind.wrap IntKind.i64 (y1 + (1 : Int)))) (.bad))) (.bad)) (.br (true) (.go (IntKind.wrap IntKind.i64 (y1 + (1 : Int)))) (.bad))) (.bad)))) (.bad)) (.br (true) (.out (.inl false)) (.br (true) (.br (byteAt (at_ (Ty.pair Ty.str (Ty.sl (nat_lit 3) (Ty.int IntKind.i64))) y2 (Int.toNat y1)).1 (nat_lit 0) != (97 : Int)) (.br (true) (.br ((↑(ByteArray.size (at_ (Ty.pair Ty.str (Ty.sl (nat_lit 3) (Ty.int IntKind.i64))) y2 (Int.toNat y1)).1) : Int) != (2 : Int)) (.out (.inl false)) (.br (true) (.go (IntKind.wrap IntKind.i64 (y1 + (1 : Int)))) (.bad))) (.bad)) (.br (true) (.go (IntKind.wrap IntKind.i64 (y1 + (1 : Int)))) (.bad))) (.bad)))) (.bad))) (.bad)) (.br (true) (.br (byteAt (at_ (Ty.pair Ty.str (Ty.sl (nat_lit 3) (Ty.int IntKind.i64))) y2 (Int.toNat y1)).1 (nat_lit 0) == (102 : Int)) (.br (true) (.br ((↑(List.length (at_ (Ty.pair Ty.str (Ty.sl (nat_lit 3) (Ty.int IntKind.i64))) y2 (Int.toNat y1)).2) : Int) == (3 : Int)) (.br (decide ((0 : Int) ≤ (1 : Int) ∧ (1 : Int) < (↑(List.length (at_ (Ty.pair Ty.str (Ty.sl (nat_lit 3) (Ty.int IntKind.i64))) y2 (Int.toNat y1)).2) : Int))) (.br (g_As_l1In (at_ (Ty.int IntKind.i64) (at_ (Ty.pair Ty.str (Ty.sl (nat_lit 3) (Ty.int IntKind.i64))) y2 (Int.toNat y1)).2 (nat_lit 1)) (1 : Int) (99 : Int)) (.br (g_Vs_l1In_0 (at_ (Ty.int IntKind.i64) (at_ (Ty.pair Ty.str (Ty.sl (nat_lit 3) (Ty.int IntKind.i64))) y2 (Int.toNat y1)).2 (nat_lit 1)) (1 : Int) (99 : Int)) (.br (decide ((0 : Int) ≤ (2 : Int) ∧ (2 : Int) < (↑(List.length (at_ (Ty.pair Ty.str (Ty.sl (nat_lit 3) (Ty.int IntKind.i64))) y2 (Int.toNat y1)).2) : Int))) (.br (true) (.br (!decide (at_ (Ty.int IntKind.i64) (at_ (Ty.pair Ty.str (Ty.sl (nat_lit 3) (Ty.int IntKind.i64))) y2 (Int.toNat y1)).2 (nat_lit 2) ≤ (1 : Int))) (.out (.inl false)) (.br (true) (.br (byteAt (at_ (Ty.pair Ty.str (Ty.sl (nat_lit 3) (Ty.int IntKind.i64))) y2 (Int.toNat y1)).1 (nat_lit 0) != (97 : Int)) (.br (true) (.br ((↑(ByteArray.size (at_ (Ty.pair Ty.str (Ty.sl (nat_lit 3) (Ty.int IntKind.i64))) y2 (Int.toNat y1)).1) : Int) != (2 : Int)) (.out (.inl false)) (.br (true) (.go (IntKind.wrap IntKind.i64 (y1 + (1 : Int)))) (.bad))) (.bad)) (.br (true) (.go (IntKind.wrap IntKind.i64 (y1 + (1 : Int)))) (.bad))) (.bad))) (.bad)) (.bad)) (.br (true) (.out (.inl false)) (.br (true) (.br (byteAt (at_ (Ty.pair Ty.str (Ty.sl (nat_lit 3) (Ty.int IntKind.i64))) y2 (Int.toNat y1)).1 (nat_lit 0) != (97 : Int)) (.br (true) (.br ((↑(ByteArray.size (at_ (Ty.pair Ty.str (Ty.sl (nat_lit 3) (Ty.int IntKind.i64))) y2 (Int.toNat y1)).1) : Int) != (2 : Int)) (.out (.inl false)) (.br (true) (.go (IntKind.wrap IntKind.i64 (y1 + (1 : Int)))) (.bad))) (.bad)) (.br (true) (.go (IntKind.wrap IntKind.i64 (y1 + (1 : Int)))) (.bad))) (.bad)))) (.bad)) (.bad)) (.br (true) (.out (.inl false)) (.br (true) (.br (byteAt (at_ (Ty.pair Ty.str (Ty.sl (nat_lit 3) (Ty.int IntKind.i64))) y2 (Int.toNat y1)).1 (nat_lit 0) != (97 : Int)) (.br (true) (.br ((↑(ByteArray.size (at_ (Ty.pair Ty.str (Ty.sl (nat_lit 3) (Ty.int IntKind.i64))) y2 (Int.toNat y1)).1) : Int) != (2 : Int)) (.out (.inl false)) (.br (true) (.go (IntKind.wrap IntKind.i64 (y1 + (1 : Int)))) (.bad))) (.bad)) (.br (true) (.go (IntKind.wrap IntKind.i64 (y1 + (1 : Int)))) (.bad))) (.bad)))) (.bad)) (.br (true) (.out (.inl false)) (.br (true) (.br (byteAt (at_ (Ty.pair Ty.str (Ty.sl (nat_lit 3) (Ty.int IntKind.i64))) y2 (Int.toNat y1)).1 (nat_lit 0) != (97 : Int)) (.br (true) (.br ((↑(ByteArray.size (at_ (Ty.pair Ty.str (Ty.sl (nat_lit 3) (Ty.int IntKind.i64))) y2 (Int.toNat y1)).1) : Int) != (2 : Int)) (.out (.inl false)) (.br (true) (.go (IntKind.wrap IntKind.i64 (y1 + (1 : Int)))) (.bad))) (.bad)) (.br (true) (.go (IntKind.wrap IntKind.i64 (y1 + (1 : Int)))) (.bad))) (.bad)))) (.bad))) (.bad)) (.br (true) (.out (.inl false)) (.br (true) (.br (byteAt (at_ (Ty.pair Ty.str (Ty.sl (nat_lit 3) (Ty.int IntKind.i64))) y2 (Int.toNat y1)).1 (nat_lit 0) != (97 : Int)) (.br (true) (.br ((↑(ByteArray.size (at_ (Ty.pair Ty.str (Ty.sl (nat_lit 3) (Ty.int IntKind.i64))) y2 (Int.toNat y1)).1) : Int) != (2 : Int)) (.out (.inl false)) (.br (true) (.go (IntKind.wrap IntKind.i64 (y1 + (1 : Int)))) (.bad))) (.bad)) (.br (true) (.go (IntKind.wrap IntKind.i64 (y1 + (1 : Int)))) (.bad))) (.bad)))) (.bad)) (.br (true) (.out (.inl false)) (.br (true) (.br (byteAt (at_ (Ty.pair Ty.str (Ty.sl (nat_lit 3) (Ty.int IntKind.i64))) y2 (Int.toNat y1)).1 (nat_lit 0) != (97 : Int)) (.br (true) (.br ((↑(ByteArray.size (at_ (Ty.pair Ty.str (Ty.sl (nat_lit 3) (Ty.int IntKind.i64))) y2 (Int.toNat y1)).1) : Int) != (2 : Int)) (.out (.inl false)) (.br (true) (.go (IntKind.wrap IntKind.i64 (y1 + (1 : Int)))) (.bad))) (.bad)) (.br (true) (.go (IntKind.wrap IntKind.i64 (y1 + (1 : Int)))) (.bad))) (.bad)))) (.bad))) (.bad)) (.br (true) (.br (y0 == (2 : Int)) (.br (true) (.br (decide (at_ (Ty.int IntKind.i64) (at_ (Ty.pair Ty.str (Ty.sl (nat_lit 3) (Ty.int IntKind.i64))) y2 (Int.toNat y1)).2 (nat_lit 0) ≤ (9 : Int))) (.br (true) (.br (byteAt (at_ (Ty.pair Ty.str (Ty.sl (nat_lit 3) (Ty.int IntKind.i64))) y2 (Int.toNat y1)).1 (nat_lit 0) == (99 : Int)) (.br (true) (.br ((↑(List.length (at_ (Ty.pair Ty.str (Ty.sl (nat_lit 3) (Ty.int IntKind.i64))) y2 (Int.toNat y1)).2) : Int) == (2 : Int)) (.br (false) (.out (.inl false)) (.br (true) (.br (byteAt (at_ (Ty.pair Ty.str (Ty.sl (nat_lit 3) (Ty.int IntKind.i64))) y2 (Int.toNat y1)).1 (nat_lit 0) != (97 : Int)) (.br (true) (.br ((↑(ByteArray.size (at_ (Ty.pair Ty.str (Ty.sl (nat_lit 3) (Ty.int IntKind.i64))) y2 (Int.toNat y1)).1) : Int) != (2 : Int)) (.out (.inl false)) (.br (true) (.go (IntKind.wrap IntKind.i64 (y1 + (1 : Int)))) (.bad))) (.bad)) (.br (true) (.go (IntKind.wrap IntKind.i64 (y1 + (1 : Int)))) (.bad))) (.bad))) (.br (true) (.br (byteAt (at_ (Ty.pair Ty.str (Ty.sl (nat_lit 3) (Ty.int IntKind.i64))) y2 (Int.toNat y1)).1 (nat_lit 0) == (102 : Int)) (.br (true) (.br ((↑(List.length (at_ (Ty.pair Ty.str (Ty.sl (nat_lit 3) (Ty.int IntKind.i64))) y2 (Int.toNat y1)).2) : Int) == (3 : Int)) (.br (decide ((0 : Int) ≤ (1 : Int) ∧ (1 : Int) < (↑(List.length (at_ (Ty.pair Ty.str (Ty.sl (nat_lit 3) (Ty.int IntKind.i64))) y2 (Int.toNat y1)).2) : Int))) (.br (g_As_l1In (at_ (Ty.int IntKind.i64) (at_ (Ty.pair Ty.str (Ty.sl (nat_lit 3) (Ty.int IntKind.i64))) y2 (Int.toNat y1)).2 (nat_lit 1)) (1 : Int) (99 : Int)) (.br (g_Vs_l1In_0 (at_ (Ty.int IntKind.i64) (at_ (Ty.pair Ty.str (Ty.sl (nat_lit 3) (Ty.int IntKind.i64))) y2 (Int.toNat y1)).2 (nat_lit 1)) (1 : Int) (99 : Int)) (.br (decide ((0 : Int) ≤ (2 : Int) ∧ (2 : Int) < (↑(List.length (at_ (Ty.pair Ty.str (Ty.sl (nat_lit 3) (Ty.int IntKind.i64))) y2 (Int.toNat y1)).2) : Int))) (.br (true) (.br (!decide (at_ (Ty.int IntKind.i64) (at_ (Ty.pair Ty.str (Ty.sl (nat_lit 3) (Ty.int IntKind.i64))) y2 (Int.toNat y1)).2 (nat_lit 2) ≤ (1 : Int))) (.out (.inl false)) (.br (true) (.br (byteAt (at_ (Ty.pair Ty.str (Ty.sl (nat_lit 3) (Ty.int IntKind.i64))) y2 (Int.toNat y1)).1 (nat_lit 0) != (97 : Int)) (.br (true) (.br ((↑(ByteArray.size (at_ (Ty.pair Ty.str (Ty.sl (nat_lit 3) (Ty.int IntKind.i64))) y2 (Int.toNat y1)).1) : Int) != (2 : Int)) (.out (.inl false)) (.br (true) (.go (IntKind.wrap IntKind.i64 (y1 + (1 : Int)))) (.bad))) (.bad)) (.br (true) (.go (IntKind.wrap IntKind.i64 (y1 + (1 : Int)))) (.bad))) (.bad))) (.bad)) (.bad)) (.br (true) (.out (.inl false)) (.br (true) (.br (byteAt (at_ (Ty.pair Ty.str (Ty.sl (nat_lit 3) (Ty.int IntKind.i64))) y2 (Int.toNat y1)).1 (nat_lit 0) != (97 : Int)) (.br (true) (.br ((↑(ByteArray.size (at_ (Ty.pair Ty.str (Ty.sl (nat_lit 3) (Ty.int IntKind.i64))) y2 (Int.toNat y1)).1) : Int) != (2 : Int)) (.out (.inl false)) (.br (true) (.go (IntKind.wrap IntKind.i64 (y1 + (1 : Int)))) (.bad))) (.bad)) (.br (true) (.go (IntKind.wrap IntKind.i64 (y1 + (1 : Int)))) (.bad))) (.bad)))) (.bad)) (.bad)) (.br (true) (.out (.inl false)) (.br (true) (.br (byteAt (at_ (Ty.pair Ty.str (Ty.sl (nat_lit 3) (Ty.int IntKind.i64))) y2 (Int.toNat y1)).1 (nat_lit 0) != (97 : Int)) (.br (true) (.br ((↑(ByteArray.size (at_ (Ty.pair Ty.str (Ty.sl (nat_lit 3) (Ty.int IntKind.i64))) y2 (Int.toNat y1)).1) : Int) != (2 : Int)) (.out (.inl false)) (.br (true) (.go (IntKind.wrap IntKind.i64 (y1 + (1 : Int)))) (.bad))) (.bad)) (.br (true) (.go (IntKind.wrap IntKind.i64 (y1 + (1 : Int)))) (.bad))) (.bad)))) (.bad)) (.br (true) (.out (.inl false)) (.br (true) (.br (byteAt (at_ (Ty.pair Ty.str (Ty.sl (nat_lit 3) (Ty.int IntKind.i64))) y2 (Int.toNat y1)).1 (nat_lit 0) != (97 : Int)) (.br (true) (.br ((↑(ByteArray.size (at_ (Ty.pair Ty.str (Ty.sl (nat_lit 3) (Ty.int IntKind.i64))) y2 (Int.toNat y1)).1) : Int) != (2 : Int)) (.out (.inl false)) (.br (true) (.go (IntKind.wrap IntKind.i64 (y1 + (1 : Int)))) (.bad))) (.bad)) (.br (true) (.go (IntKind.wrap IntKind.i64 (y1 + (1 : Int)))) (.bad))) (.bad)))) (.bad))) (.bad)) (.br (true) (.br (byteAt (at_ (Ty.pair Ty.str (Ty.sl (nat_lit 3) (Ty.int IntKind.i64))) y2 (Int.toNat y1)).1 (nat_lit 0) == (102 : Int)) (.br (true) (.br ((↑(List.length (at_ (Ty.pair Ty.str (Ty.sl (nat_lit 3) (Ty.int IntKind.i64))) y2 (Int.toNat y1)).2) : Int) == (3 : Int)) (.br (decide ((0 : Int) ≤ (1 : Int) ∧ (1 : Int) < (↑(List.length (at_ (Ty.pair Ty.str (Ty.sl (nat_lit 3) (Ty.int IntKind.i64))) y2 (Int.toNat y1)).2) : Int))) (.br (g_As_l1In (at_ (Ty.int IntKind.i64) (at_ (Ty.pair Ty.str (Ty.sl (nat_lit 3) (Ty.int IntKind.i64))) y2 (Int.toNat y1)).2 (nat_lit 1)) (1 : Int) (99 : Int)) (.br (g_Vs_l1In_0 (at_ (Ty.int IntKind.i64) (at_ (Ty.pair Ty.str (Ty.sl (nat_lit 3) (Ty.int IntKind.i64))) y2 (Int.toNat y1)).2 (nat_lit 1)) (1 : Int) (99 : Int)) (.br (decide ((0 : Int) ≤ (2 : Int) ∧ (2 : Int) < (↑(List.length (at_ (Ty.pair Ty.str (Ty.sl (nat_lit 3) (Ty.int IntKind.i64))) y2 (Int.toNat y1)).2) : Int))) (.br (true) (.br (!decide (at_ (Ty.int IntKind.i64) (at_ (Ty.pair Ty.str (Ty.sl (nat_lit 3) (Ty.int IntKind.i64))) y2 (Int.toNat y1)).2 (nat_lit 2) ≤ (1 : Int))) (.out (.inl false)) (.br (true) (.br (byteAt (at_ (Ty.pair Ty.str (Ty.sl (nat_lit 3) (Ty.int IntKind.i64))) y2 (Int.toNat y1)).1 (nat_lit 0) != (97 : Int)) (.br (true) (.br ((↑(ByteArray.size (at_ (Ty.pair Ty.str (Ty.sl (nat_lit 3) (Ty.int IntKind.i64))) y2 (Int.toNat y1)).1) : Int) != (2 : Int)) (.out (.inl false)) (.br (true) (.go (IntKind.wrap IntKind.i64 (y1 + (1 : Int)))) (.bad))) (.bad)) (.br (true) (.go (IntKind.wrap IntKind.i64 (y1 + (1 : Int)))) (.bad))) (.bad))) (.bad)) (.bad)) (.br (true) (.out (.inl false)) (.br (true) (.br (byteAt (at_ (Ty.pair Ty.str (Ty.sl (nat_lit 3) (Ty.int IntKind.i64))) y2 (Int.toNat y1)).1 (nat_lit 0) != (97 : Int)) (.br (true) (.br ((↑(ByteArray.size (at_ (Ty.pair Ty.str (Ty.sl (nat_lit 3) (Ty.int IntKind.i64))) y2 (Int.toNat y1)).1) : Int) != (2 : Int)) (.out (.inl false)) (.br (true) (.go (IntKind.wrap IntKind.i64 (y1 + (1 : Int)))) (.bad))) (.bad)) (.br (true) (.go (IntKind.wrap IntKind.i64 (y1 + (1 : Int)))) (.bad))) (.bad)))) (.bad)) (.bad)) (.br (true) (.out (.inl false)) (.br (true) (.br (byteAt (at_ (Ty.pair Ty.str (Ty.sl (nat_lit 3) (Ty.int IntKind.i64))) y2 (Int.toNat y1)).1 (nat_lit 0) != (97 : Int)) (.br (true) (.br ((↑(ByteArray.size (at_ (Ty.pair Ty.str (Ty.sl (nat_lit 3) (Ty.int IntKind.i64))) y2 (Int.toNat y1)).1) : Int) != (2 : Int)) (.out (.inl false)) (.br (true) (.go (IntKind.wrap IntKind.i64 (y1 + (1 : Int)))) (.bad))) (.bad)) (.br (true) (.go (IntKind.wrap IntKind.i64 (y1 + (1 : Int)))) (.bad))) (.bad)))) (.bad)) (.br (true) (.out (.inl false)) (.br (true) (.br (byteAt (at_ (Ty.pair Ty.str (Ty.sl (nat_lit 3) (Ty.int IntKind.i64))) y2 (Int.toNat y1)).1 (nat_lit 0) != (97 : Int)) (.br (true) (.br ((↑(ByteArray.size (at_ (Ty.pair Ty.str (Ty.sl (nat_lit 3) (Ty.int IntKind.i64))) y2 (Int.toNat y1)).1) : Int) != (2 : Int)) (.out (.inl false)) (.br (true) (.go (IntKind.wrap IntKind.i64 (y1 + (1 : Int)))) (.bad))) (.bad)) (.br (true) (.go (IntKind.wrap IntKind.i64 (y1 + (1 : Int)))) (.bad))) (.bad)))) (.bad))) (.bad)) (.br (true) (.out (.inl false)) (.br (true) (.br (byteAt (at_ (Ty.pair Ty.str (Ty.sl (nat_lit 3) (Ty.int IntKind.i64))) y2 (Int.toNat y1)).1 (nat_lit 0) != (97 : Int)) (.br (true) (.br ((↑(ByteArray.size (at_ (Ty.pair Ty.str (Ty.sl (nat_lit 3) (Ty.int IntKind.i64))) y2 (Int.toNat y1)).1) : Int) != (2 : Int)) (.out (.inl false)) (.br (true) (.go (IntKind.wrap IntKind.i64 (y1 + (1 : Int)))) (.bad))) (.bad)) (.br (true) (.go (IntKind.wrap IntKind.i64 (y1 + (1 : Int)))) (.bad))) (.bad)))) (.bad)) (.br (true) (.out (.inl false)) (.br (true) (.br (byteAt (at_ (Ty.pair Ty.str (Ty.sl (nat_lit 3) (Ty.int IntKind.i64))) y2 (Int.toNat y1)).1 (nat_lit 0) != (97 : Int)) (.br (true) (.br ((↑(ByteArray.size (at_ (Ty.pair Ty.str (Ty.sl (nat_lit 3) (Ty.int IntKind.i64))) y2 (Int.toNat y1)).1) : Int) != (2 : Int)) (.out (.inl false)) (.br (true) (.go (IntKind.wrap IntKind.i64 (y1 + (1 : Int)))) (.bad))) (.bad)) (.br (true) (.go (IntKind.wrap IntKind.i64 (y1 + (1 : Int)))) (.bad))) (.bad)))) (.bad))) (.bad))) (.bad)) (.br (true) (.br (y0 == (3 : Int)) (.br (true) (.br (byteAt (at_ (Ty.pair Ty.str (Ty.sl (nat_lit 3) (Ty.int IntKind.i64))) y2 (Int.toNat y1)).1 (nat_lit 0) == (97 : Int)) (.br (true) (.br ((↑(List.length (at_ (Ty.pair Ty.str (Ty.sl (nat_lit 3) (Ty.int IntKind.i64))) y2 (Int.toNat y1)).2) : Int) == (1 : Int)) (.br (false) (.out (.inl false)) (.br (true) (.br (byteAt (at_ (Ty.pair Ty.str (Ty.sl (nat_lit 3) (Ty.int IntKind.i64))) y2 (Int.toNat y1)).1 (nat_lit 0) != (97 : Int)) (.br (true) (.br ((↑(ByteArray.size (at_ (Ty.pair Ty.str (Ty.sl (nat_lit 3) (Ty.int IntKind.i64))) y2 (Int.toNat y1)).1) : Int) != (2 : Int)) (.out (.inl false)) (.br (true) (.go (IntKind.wrap IntKind.i64 (y1 + (1 : Int)))) (.bad))) (.bad)) (.br (true) (.go (IntKind.wrap IntKind.i64 (y1 + (1 : Int)))) (.bad))) (.bad))) (.br (true) (.br (y0 == (2 : Int)) (.br (true) (.br (decide (at_ (Ty.int IntKind.i64) (at_ (Ty.pair Ty.str (Ty.sl (nat_lit 3) (Ty.int IntKind.i64))) y2 (Int.toNat y1)).2 (nat_lit 0) ≤ (9 : Int))) (.br (true) (.br (byteAt (at_ (Ty.pair Ty.str (Ty.sl (nat_lit 3) (Ty.int IntKind.i64))) y2 (Int.toNat y1)).1 (nat_lit 0) == (99 : Int)) (.br (true) (.br ((↑(List.length (at_ (Ty.pair Ty.str (Ty.sl (nat_lit 3) (Ty.int IntKind.i64))) y2 (Int.toNat y1)).2) : Int) == (2 : Int)) (.br (false) (.out (.inl false)) (.br (true) (.br (byteAt (at_ (Ty.pair Ty.str (Ty.sl (nat_lit 3) (Ty.int IntKind.i64))) y2 (Int.toNat y1)).1 (nat_lit 0) != (97 : Int)) (.br (true) (.br ((↑(ByteArray.size (at_ (Ty.pair Ty.str (Ty.sl (nat_lit 3) (Ty.int IntKind.i64))) y2 (Int.toNat y1)).1) : Int) != (2 : Int)) (.out (.inl false)) (.br (true) (.go (IntKind.wrap IntKind.i64 (y1 + (1 : Int)))) (.bad))) (.bad)) (.br (true) (.go (IntKind.wrap IntKind.i64 (y1 + (1 : Int)))) (.bad))) (.bad))) (.br (true) (.br (byteAt (at_ (Ty.pair Ty.str (Ty.sl (nat_lit 3) (Ty.int IntKind.i64))) y2 (Int.toNat y1)).1 (nat_lit 0) == (102 : Int)) (.br (true) (.br ((↑(List.length (at_ (Ty.pair Ty.str (Ty.sl (nat_lit 3) (Ty.int IntKind.i64))) y2 (Int.toNat y1)).2) : Int) == (3 : Int)) (.br (decide ((0 : Int) ≤ (1 : Int) ∧ (1 : Int) < (↑(List.length (at_ (Ty.pair Ty.str (Ty.sl (nat_lit 3) (Ty.int IntKind.i64))) y2 (Int.toNat y1)).2) : Int))) (.br (g_As_l1In (at_ (Ty.int IntKind.i64) (at_ (Ty.pair Ty.str (Ty.sl (nat_lit 3) (Ty.int IntKind.i64))) y2 (Int.toNat y1)).2 (nat_lit 1)) (1 : Int) (99 : Int)) (.br (g_Vs_l1In_0 (at_ (Ty.int IntKind.i64) (at_ (Ty.pair Ty.str (Ty.sl (nat_lit 3) (Ty.int IntKind.i64))) y2 (Int.toNat y1)).2 (nat_lit 1)) (1 : Int) (99 : Int)) (.br (decide ((0 : Int) ≤ (2 : Int) ∧ (2 : Int) < (↑(List.length (at_ (Ty.pair Ty.str (Ty.sl (nat_lit 3) (Ty.int IntKind.i64))) y2 (Int.toNat y1)).2) : Int))) (.br (true) (.br (!decide (at_ (Ty.int IntKind.i64) (at_ (Ty.pair Ty.str (Ty.sl (nat_lit 3) (Ty.int IntKind.i64))) y2 (Int.toNat y1)).2 (nat_lit 2) ≤ (1 : Int))) (.out (.inl false)) (.br (true) (.br (byteAt (at_ (Ty.pair Ty.str (Ty.sl (nat_lit 3) (Ty.int IntKind.i64))) y2 (Int.toNat y1)).1 (nat_lit 0) != (97 : Int)) (.br (true) (.br ((↑(ByteArray.size (at_ (Ty.pair Ty.str (Ty.sl (nat_lit 3) (Ty.int IntKind.i64))) y2 (Int.toNat y1)).1) : Int) != (2 : Int)) (.out (.inl false)) (.br (true) (.go (IntKind.wrap IntKind.i64 (y1 + (1 : Int)))) (.bad))) (.bad)) (.br (true) (.go (IntKind.wrap IntKind.i64 (y1 + (1 : Int)))) (.bad))) (.bad))) (.bad)) (.bad)) (.br (true) (.out (.inl false)) (.br (true) (.br (byteAt (at_ (Ty.pair Ty.str (Ty.sl (nat_lit 3) (Ty.int IntKind.i64))) y2 (Int.toNat y1)).1 (nat_lit 0) != (97 : Int)) (.br (true) (.br ((↑(ByteArray.size (at_ (Ty.pair Ty.str (Ty.sl (nat_lit 3) (Ty.int IntKind.i64))) y2 (Int.toNat y1)).1) : Int) != (2 : Int)) (.out (.inl false)) (.br (true) (.go (IntKind.wrap IntKind.i64 (y1 + (1 : Int)))) (.bad))) (.bad)) (.br (true) (.go (IntKind.wrap IntKind.i64 (y1 + (1 : Int)))) (.bad))) (.bad)))) (.bad)) (.bad)) (.br (true) (.out (.inl false)) (.br (true) (.br (byteAt (at_ (Ty.pair Ty.str (Ty.sl (nat_lit 3) (Ty.int IntKind.i64))) y2 (Int.toNat y1)).1 (nat_lit 0) != (97 : Int)) (.br (true) (.br ((↑(ByteArray.size (at_ (Ty.pair Ty.str (Ty.sl (nat_lit 3) (Ty.int IntKind.i64))) y2 (Int.toNat y1)).1) : Int) != (2 : Int)) (.out (.inl false)) (.br (true) (.go (IntKind.wrap IntKind.i64 (y1 + (1 : Int)))) (.bad))) (.bad)) (.br (true) (.go (IntKind.wrap IntKind.i64 (y1 + (1 : Int)))) (.bad))) (.bad)))) (.bad)) (.br (true) (.out (.inl false)) (.br (true) (.br (byteAt (at_ (Ty.pair Ty.str (Ty.sl (nat_lit 3) (Ty.int IntKind.i64))) y2 (Int.toNat y1)).1 (nat_lit 0) != (97 : Int)) (.br (true) (.br ((↑(ByteArray.size (at_ (Ty.pair Ty.str (Ty.sl (nat_lit 3) (Ty.int IntKind.i64))) y2 (Int.toNat y1)).1) : Int) != (2 : Int)) (.out (.inl false)) (.br (true) (.go (IntKind.wrap IntKind.i64 (y1 + (1 : Int)))) (.bad))) (.bad)) (.br (true) (.go (IntKind.wrap IntKind.i64 (y1 + (1 : Int)))) (.bad))) (.bad)))) (.bad))) (.bad)) (.br (true) (.br (byteAt (at_ (Ty.pair Ty.str (Ty.sl (nat_lit 3) (Ty.int IntKind.i64))) y2 (Int.toNat y1)).1 (nat_lit 0) == (102 : Int)) (.br (true) (.br ((↑(List.length (at_ (Ty.pair Ty.str (Ty.sl (nat_lit 3) (Ty.int IntKind.i64))) y2 (Int.toNat y1)).2) : Int) == (3 : Int)) (.br (decide ((0 : Int) ≤ (1 : Int) ∧ (1 : Int) < (↑(List.length (at_ (Ty.pair Ty.str (Ty.sl (nat_lit 3) (Ty.int IntKind.i64))) y2 (Int.toNat y1)).2) : Int))) (.br (g_As_l1In (at_ (Ty.int IntKind.i64) (at_ (Ty.pair Ty.str (Ty.sl (nat_lit 3) (Ty.int IntKind.i64))) y2 (Int.toNat y1)).2 (nat_lit 1)) (1 : Int) (99 : Int)) (.br (g_Vs_l1In_0 (at_ (Ty.int IntKind.i64) (at_ (Ty.pair Ty.str (Ty.sl (nat_lit 3) (Ty.int IntKind.i64))) y2 (Int.toNat y1)).2 (nat_lit 1)) (1 : Int) (99 : Int)) (.br (decide ((0 : Int) ≤ (2 : Int) ∧ (2 : Int) < (↑(List.length (at_ (Ty.pair Ty.str (Ty.sl (nat_lit 3) (Ty.int IntKind.i64))) y2 (Int.toNat y1)).2) : Int))) (.br (true) (.br (!decide (at_ (Ty.int IntKind.i64) (at_ (Ty.pair Ty.str (Ty.sl (nat_lit 3) (Ty.int IntKind.i64))) y2 (Int.toNat y1)).2 (nat_lit 2) ≤ (1 : Int))) (.out (.inl false)) (.br (true) (.br (byteAt (at_ (Ty.pair Ty.str (Ty.sl (nat_lit 3) (Ty.int IntKind.i64))) y2 (Int.toNat y1)).1 (nat_lit 0) != (97 : Int)) (.br (true) (.br ((↑(ByteArray.size (at_ (Ty.pair Ty.str (Ty.sl (nat_lit 3) (Ty.int IntKind.i64))) y2 (Int.toNat y1)).1) : Int) != (2 : Int)) (.out (.inl false)) (.br (true) (.go (IntKind.wrap IntKind.i64 (y1 + (1 : Int)))) (.bad))) (.bad)) (.br (true) (.go (IntKind.wrap IntKind.i64 (y1 + (1 : Int)))) (.bad))) (.bad))) (.bad)) (.bad)) (.br (true) (.out (.inl false)) (.br (true) (.br (byteAt (at_ (Ty.pair Ty.str (Ty.sl (nat_lit 3) (Ty.int IntKind.i64))) y2 (Int.toNat y1)).1 (nat_lit 0) != (97 : Int)) (.br (true) (.br ((↑(ByteArray.size (at_ (Ty.pair Ty.str (Ty.sl (nat_lit 3) (Ty.int IntKind.i64))) y2 (Int.toNat y1)).1) : Int) != (2 : Int)) (.out (.inl false)) (.br (true) (.go (IntKind.wrap IntKind.i64 (y1 + (1 : Int)))) (.bad))) (.bad)) (.br (true) (.go (IntKind.wrap IntKind.i64 (y1 + (1 : Int)))) (.bad))) (.bad)))) (.bad)) (.bad)) (.br (true) (.out (.inl false)) (.br (true) (.br (byteAt (at_ (Ty.pair Ty.str (Ty.sl (nat_lit 3) (Ty.int IntKind.i64))) y2 (Int.toNat y1)).1 (nat_lit 0) != (97 : Int)) (.br (true) (.br ((↑(ByteArray.size (at_ (Ty.pair Ty.str (Ty.sl (nat_lit 3) (Ty.int IntKind.i64))) y2 (Int.toNat y1)).1) : Int) != (2 : Int)) (.out (.inl false)) (.br (true) (.go (IntKind.wrap IntKind.i64 (y1 + (1 : Int)))) (.bad))) (.bad)) (.br (true) (.go (IntKind.wrap IntKind.i64 (y1 + (1 : Int)))) (.bad))) (.bad)))) (.bad)) (.br (true) (.out (.inl false)) (.br (true) (.br (byteAt (at_ (Ty.pair Ty.str (Ty.sl (nat_lit 3) (Ty.int IntKind.i64))) y2 (Int.toNat y1)).1 (nat_lit 0) != (97 : Int)) (.br (true) (.br ((↑(ByteArray.size (at_ (Ty.pair Ty.str (Ty.sl (nat_lit 3) (Ty.int IntKind.i64))) y2 (Int.toNat y1)).1) : Int) != (2 : Int)) (.out (.inl false)) (.br (true) (.go (IntKind.wrap IntKind.i64 (y1 + (1 : Int)))) (.bad))) (.bad)) (.br (true) (.go (IntKind.wrap IntKind.i64 (y1 + (1 : Int)))) (.bad))) (.bad)))) (.bad))) (.bad)) (.br (true) (.out (.inl false)) (.br (true) (.br (byteAt (at_ (Ty.pair Ty.str (Ty.sl (nat_lit 3) (Ty.int IntKind.i64))) y2 (Int.toNat y1)).1 (nat_lit 0) != (97 : Int)) (.br (true) (.br ((↑(ByteArray.size (at_ (Ty.pair Ty.str (Ty.sl (nat_lit 3) (Ty.int IntKind.i64))) y2 (Int.toNat y1)).1) : Int) != (2 : Int)) (.out (.inl false)) (.br (true) (.go (IntKind.wrap IntKind.i64 (y1 + (1 : Int)))) (.bad))) (.bad)) (.br (true) (.go (IntKind.wrap IntKind.i64 (y1 + (1 : Int)))) (.bad))) (.bad)))) (.bad)) (.br (true) (.out (.inl false)) (.br (true) (.br (byteAt (at_ (Ty.pair Ty.str (Ty.sl (nat_lit 3) (Ty.int IntKind.i64))) y2 (Int.toNat y1)).1 (nat_lit 0) != (97 : Int)) (.br (true) (.br ((↑(ByteArray.size (at_ (Ty.pair Ty.str (Ty.sl (nat_lit 3) (Ty.int IntKind.i64))) y2 (Int.toNat y1)).1) : Int) != (2 : Int)) (.out (.inl false)) (.br (true) (.go (IntKind.wrap IntKind.i64 (y1 + (1 : Int)))) (.bad))) (.bad)) (.br (true) (.go (IntKind.wrap IntKind.i64 (y1 + (1 : Int)))) (.bad))) (.bad)))) (.bad))) (.bad)) (.br (true) (.br (y0 == (2 : Int)) (.br (true) (.br (decide (at_ (Ty.int IntKind.i64) (at_ (Ty.pair Ty.str (Ty.sl (nat_lit 3) (Ty.int IntKind.i64))) y2 (Int.toNat y1)).2 (nat_lit 0) ≤ (9 : Int))) (.br (true) (.br (byteAt (at_ (Ty.pair Ty.str (Ty.sl (nat_lit 3) (Ty.int IntKind.i64))) y2 (Int.toNat y1)).1 (nat_lit 0) == (99 : Int)) (.br (true) (.br ((↑(List.length (at_ (Ty.pair Ty.str (Ty.sl (nat_lit 3) (Ty.int IntKind.i64))) y2 (Int.toNat y1)).2) : Int) == (2 : Int)) (.br (false) (.out (.inl false)) (.br (true) (.br (byteAt (at_ (Ty.pair Ty.str (Ty.sl (nat_lit 3) (Ty.int IntKind.i64))) y2 (Int.toNat y1)).1 (nat_lit 0) != (97 : Int)) (.br (true) (.br ((↑(ByteArray.size (at_ (Ty.pair Ty.str (Ty.sl (nat_lit 3) (Ty.int IntKind.i64))) y2 (Int.toNat y1)).1) : Int) != (2 : Int)) (.out (.inl false)) (.br (true) (.go (IntKind.wrap IntKind.i64 (y1 + (1 : Int)))) (.bad))) (.bad)) (.br (true) (.go (IntKind.wrap IntKind.i64 (y1 + (1 : Int)))) (.bad))) (.bad))) (.br (true) (.br (byteAt (at_ (Ty.pair Ty.str (Ty.sl (nat_lit 3) (Ty.int IntKind.i64))) y2 (Int.toNat y1)).1 (nat_lit 0) == (102 : Int)) (.br (true) (.br ((↑(List.length (at_ (Ty.pair Ty.str (Ty.sl (nat_lit 3) (Ty.int IntKind.i64))) y2 (Int.toNat y1)).2) : Int) == (3 : Int)) (.br (decide ((0 : Int) ≤ (1 : Int) ∧ (1 : Int) < (↑(List.length (at_ (Ty.pair Ty.str (Ty.sl (nat_lit 3) (Ty.int IntKind.i64))) y2 (Int.toNat y1)).2) : Int))) (.br (g_As_l1In (at_ (Ty.int IntKind.i64) (at_ (Ty.pair Ty.str (Ty.sl (nat_lit 3) (Ty.int IntKind.i64))) y2 (Int.toNat y1)).2 (nat_lit 1)) (1 : Int) (99 : Int)) (.br (g_Vs_l1In_0 (at_ (Ty.int IntKind.i64) (at_ (Ty.pair Ty.str (Ty.sl (nat_lit 3) (Ty.int IntKind.i64))) y2 (Int.toNat y1)).2 (nat_lit 1)) (1 : Int) (99 : Int)) (.br (decide ((0 : Int) ≤ (2 : Int) ∧ (2 : Int) < (↑(List.length (at_ (Ty.pair Ty.str (Ty.sl (nat_lit 3) (Ty.int IntKind.i64))) y2 (Int.toNat y1)).2) : Int))) (.br (true) (.br (!decide (at_ (Ty.int IntKind.i64) (at_ (Ty.pair Ty.str (Ty.sl (nat_lit 3) (Ty.int IntKind.i64))) y2 (Int.toNat y1)).2 (nat_lit 2) ≤ (1 : Int))) (.out (.inl false)) (.br (true) (.br (byteAt (at_ (Ty.pair Ty.str (Ty.sl (nat_lit 3) (Ty.int IntKind.i64))) y2 (Int.toNat y1)).1 (nat_lit 0) != (97 : Int)) (.br (true) (.br ((↑(ByteArray.size (at_ (Ty.pair Ty.str (Ty.sl (nat_lit 3) (Ty.int IntKind.i64))) y2 (Int.toNat y1)).1) : Int) != (2 : Int)) (.out (.inl false)) (.br (true) (.go (IntKind.wrap IntKind.i64 (y1 + (1 : Int)))) (.bad))) (.bad)) (.br (true) (.go (IntKind.wrap IntKind.i64 (y1 + (1 : Int)))) (.bad))) (.bad))) (.bad)) (.bad)) (.br (true) (.out (.inl false)) (.br (true) (.br (byteAt (at_ (Ty.pair Ty.str (Ty.sl (nat_lit 3) (Ty.int IntKind.i64))) y2 (Int.toNat y1)).1 (nat_lit 0) != (97 : Int)) (.br (true) (.br ((↑(ByteArray.size (at_ (Ty.pair Ty.str (Ty.sl (nat_lit 3) (Ty.int IntKind.i64))) y2 (Int.toNat y1)).1) : Int) != (2 : Int)) (.out (.inl false)) (.br (true) (.go (IntKind.wrap IntKind.i64 (y1 + (1 : Int)))) (.bad))) (.bad)) (.br (true) (.go (IntKind.wrap IntKind.i64 (y1 + (1 : Int)))) (.bad))) (.bad)))) (.bad)) (.bad)) (.br (true) (.out (.inl false)) (.br (true) (.br (byteAt (at_ (Ty.pair Ty.str (Ty.sl (nat_lit 3) (Ty.int IntKind.i64))) y2 (Int.toNat y1)).1 (nat_lit 0) != (97 : Int)) (.br (true) (.br ((↑(ByteArray.size (at_ (Ty.pair Ty.str (Ty.sl (nat_lit 3) (Ty.int IntKind.i64))) y2 (Int.toNat y1)).1) : Int) != (2 : Int)) (.out (.inl false)) (.br (true) (.go (IntKind.wrap IntKind.i64 (y1 + (1 : Int)))) (.bad))) (.bad)) (.br (true) (.go (IntKind.wrap IntKind.i64 (y1 + (1 : Int)))) (.bad))) (.bad)))) (.bad)) (.br (true) (.out (.inl false)) (.br (true) (.br (byteAt (at_ (Ty.pair Ty.str (Ty.sl (nat_lit 3) (Ty.int IntKind.i64))) y2 (Int.toNat y1)).1 (nat_lit 0) != (97 : Int)) (.br (true) (.br ((↑(ByteArray.size (at_ (Ty.pair Ty.str (Ty.sl (nat_lit 3) (Ty.int IntKind.i64))) y2 (Int.toNat y1)).1) : Int) != (2 : Int)) (.out (.inl false)) (.br (true) (.go (IntKind.wrap IntKind.i64 (y1 + (1 : Int)))) (.bad))) (.bad)) (.br (true) (.go (IntKind.wrap IntKind.i64 (y1 + (1 : Int)))) (.bad))) (.bad)))) (.bad))) (.bad)) (.br (true) (.br (byteAt (at_ (Ty.pair Ty.str (Ty.sl (nat_lit 3) (Ty.int IntKind.i64))) y2 (Int.toNat y1)).1 (nat_lit 0) == (102 : Int)) (.br (true) (.br ((↑(List.length (at_ (Ty.pair Ty.str (Ty.sl (nat_lit 3) (Ty.int IntKind.i64))) y2 (Int.toNat y1)).2) : Int) == (3 : Int)) (.br (decide ((0 : Int) ≤ (1 : Int) ∧ (1 : Int) < (↑(List.length (at_ (Ty.pair Ty.str (Ty.sl (nat_lit 3) (Ty.int IntKind.i64))) y2 (Int.toNat y1)).2) : Int))) (.br (g_As_l1In (at_ (Ty.int IntKind.i64) (at_ (Ty.pair Ty.str (Ty.sl (nat_lit 3) (Ty.int IntKind.i64))) y2 (Int.toNat y1)).2 (nat_lit 1)) (1 : Int) (99 : Int)) (.br (g_Vs_l1In_0 (at_ (Ty.int IntKind.i64) (at_ (Ty.pair Ty.str (Ty.sl (nat_lit 3) (Ty.int IntKind.i64))) y2 (Int.toNat y1)).2 (nat_lit 1)) (1 : Int) (99 : Int)) (.br (decide ((0 : Int) ≤ (2 : Int) ∧ (2 : Int) < (↑(List.length (at_ (Ty.pair Ty.str (Ty.sl (nat_lit 3) (Ty.int IntKind.i64))) y2 (Int.toNat y1)).2) : Int))) (.br (true) (.br (!decide (at_ (Ty.int IntKind.i64) (at_ (Ty.pair Ty.str (Ty.sl (nat_lit 3) (Ty.int IntKind.i64))) y2 (Int.toNat y1)).2 (nat_lit 2) ≤ (1 : Int))) (.out (.inl false)) (.br (true) (.br (byteAt (at_ (Ty.pair Ty.str (Ty.sl (nat_lit 3) (Ty.int IntKind.i64))) y2 (Int.toNat y1)).1 (nat_lit 0) != (97 : Int)) (.br (true) (.br ((↑(ByteArray.size (at_ (Ty.pair Ty.str (Ty.sl (nat_lit 3) (Ty.int IntKind.i64))) y2 (Int.toNat y1)).1) : Int) != (2 : Int)) (.out (.inl false)) (.br (true) (.go (IntKind.wrap IntKind.i64 (y1 + (1 : Int)))) (.bad))) (.bad)) (.br (true) (.go (IntKind.wrap IntKind.i64 (y1 + (1 : Int)))) (.bad))) (.bad))) (.bad)) (.bad)) (.br (true) (.out (.inl false)) (.br (true) (.br (byteAt (at_ (Ty.pair Ty.str (Ty.sl (nat_lit 3) (Ty.int IntKind.i64))) y2 (Int.toNat y1)).1 (nat_lit 0) != (97 : Int)) (.br (true) (.br ((↑(ByteArray.size (at_ (Ty.pair Ty.str (Ty.sl (nat_lit 3) (Ty.int IntKind.i64))) y2 (Int.toNat y1)).1) : Int) != (2 : Int)) (.out (.inl false)) (.br (true) (.go (IntKind.wrap IntKind.i64 (y1 + (1 : Int)))) (.bad))) (.bad)) (.br (true) (.go (IntKind.wrap IntKind.i64 (y1 + (1 : Int)))) (.bad))) (.bad)))) (.bad)) (.bad)) (.br (true) (.out (.inl false)) (.br (true) (.br (byteAt (at_ (Ty.pair Ty.str (Ty.sl (nat_lit 3) (Ty.int IntKind.i64))) y2 (Int.toNat y1)).1 (nat_lit 0) != (97 : Int)) (.br (true) (.br ((↑(ByteArray.size (at_ (Ty.pair Ty.str (Ty.sl (nat_lit 3) (Ty.int IntKind.i64))) y2 (Int.toNat y1)).1) : Int) != (2 : Int)) (.out (.inl false)) (.br (true) (.go (IntKind.wrap IntKind.i64 (y1 + (1 : Int)))) (.bad))) (.bad)) (.br (true) (.go (IntKind.wrap IntKind.i64 (y1 + (1 : Int)))) (.bad))) (.bad)))) (.bad)) (.br (true) (.out (.inl false)) (.br (true) (.br (byteAt (at_ (Ty.pair Ty.str (Ty.sl (nat_lit 3) (Ty.int IntKind.i64))) y2 (Int.toNat y1)).1 (nat_lit 0) != (97 : Int)) (.br (true) (.br ((↑(ByteArray.size (at_ (Ty.pair Ty.str (Ty.sl (nat_lit 3) (Ty.int IntKind.i64))) y2 (Int.toNat y1)).1) : Int) != (2 : Int)) (.out (.inl false)) (.br (true) (.go (IntKind.wrap IntKind.i64 (y1 + (1 : Int)))) (.bad))) (.bad)) (.br (true) (.go (IntKind.wrap IntKind.i64 (y1 + (1 : Int)))) (.bad))) (.bad)))) (.bad))) (.bad)) (.br (true) (.out (.inl false)) (.br (true) (.br (byteAt (at_ (Ty.pair Ty.str (Ty.sl (nat_lit 3) (Ty.int IntKind.i64))) y2 (Int.toNat y1)).1 (nat_lit 0) != (97 : Int)) (.br (true) (.br ((↑(ByteArray.size (at_ (Ty.pair Ty.str (Ty.sl (nat_lit 3) (Ty.int IntKind.i64))) y2 (Int.toNat y1)).1) : Int) != (2 : Int)) (.out (.inl false)) (.br (true) (.go (IntKind.wrap IntKind.i64 (y1 + (1 : Int)))) (.bad))) (.bad)) (.br (true) (.go (IntKind.wrap IntKind.i64 (y1 + (1 : Int)))) (.bad))) (.bad)))) (.bad)) (.br (true) (.out (.inl false)) (.br (true) (.br (byteAt (at_ (Ty.pair Ty.str (Ty.sl (nat_lit 3) (Ty.int IntKind.i64))) y2 (Int.toNat y1)).1 (nat_lit 0) != (97 : Int)) (.br (true) (.br ((↑(ByteArray.size (at_ (Ty.pair Ty.str (Ty.sl (nat_lit 3) (Ty.int IntKind.i64))) y2 (Int.toNat y1)).1) : Int) != (2 : Int)) (.out (.inl false)) (.br (true) (.go (IntKind.wrap IntKind.i64 (y1 + (1 : Int)))) (.bad))) (.bad)) (.br (true) (.go (IntKind.wrap IntKind.i64 (y1 + (1 : Int)))) (.bad))) (.bad)))) (.bad))) (.bad)) (.br (true) (.br (y0 == (2 : Int)) (.br (true) (.br (decide (at_ (Ty.int IntKind.i64) (at_ (Ty.pair Ty.str (Ty.sl (nat_lit 3) (Ty.int IntKind.i64))) y2 (Int.toNat y1)).2 (nat_lit 0) ≤ (9 : Int))) (.br (true) (.br (byteAt (at_ (Ty.pair Ty.str (Ty.sl (nat_lit 3) (Ty.int IntKind.i64))) y2 (Int.toNat y1)).1 (nat_lit 0) == (99 : Int)) (.br (true) (.br ((↑(List.length (at_ (Ty.pair Ty.str (Ty.sl (nat_lit 3) (Ty.int IntKind.i64))) y2 (Int.toNat y1)).2) : Int) == (2 : Int)) (.br (false) (.out (.inl false)) (.br (true) (.br (byteAt (at_ (Ty.pair Ty.str (Ty.sl (nat_lit 3) (Ty.int IntKind.i64))) y2 (Int.toNat y1)).1 (nat_lit 0) != (97 : Int)) (.br (true) (.br ((↑(ByteArray.size (at_ (Ty.pair Ty.str (Ty.sl (nat_lit 3) (Ty.int IntKind.i64))) y2 (Int.toNat y1)).1) : Int) != (2 : Int)) (.out (.inl false)) (.br (true) (.go (IntKind.wrap IntKind.i64 (y1 + (1 : Int)))) (.bad))) (.bad)) (.br (true) (.go (IntKind.wrap IntKind.i64 (y1 + (1 : Int)))) (.bad))) (.bad))) (.br (true) (.br (byteAt (at_ (Ty.pair Ty.str (Ty.sl (nat_lit 3) (Ty.int IntKind.i64))) y2 (Int.toNat y1)).1 (nat_lit 0) == (102 : Int)) (.br (true) (.br ((↑(List.length (at_ (Ty.pair Ty.str (Ty.sl (nat_lit 3) (Ty.int IntKind.i64))) y2 (Int.toNat y1)).2) : Int) == (3 : Int)) (.br (decide ((0 : Int) ≤ (1 : Int) ∧ (1 : Int) < (↑(List.length (at_ (Ty.pair Ty.str (Ty.sl (nat_lit 3) (Ty.int IntKind.i64))) y2 (Int.toNat y1)).2) : Int))) (.br (g_As_l1In (at_ (Ty.int IntKind.i64) (at_ (Ty.pair Ty.str (Ty.sl (nat_lit 3) (Ty.int IntKind.i64))) y2 (Int.toNat y1)).2 (nat_lit 1)) (1 : Int) (99 : Int)) (.br (g_Vs_l1In_0 (at_ (Ty.int IntKind.i64) (at_ (Ty.pair Ty.str (Ty.sl (nat_lit 3) (Ty.int IntKind.i64))) y2 (Int.toNat y1)).2 (nat_lit 1)) (1 : Int) (99 : Int)) (.br (decide ((0 : Int) ≤ (2 : Int) ∧ (2 : Int) < (↑(List.length (at_ (Ty.pair Ty.str (Ty.sl (nat_lit 3) (Ty.int IntKind.i64))) y2 (Int.toNat y1)).2) : Int))) (.br (true) (.br (!decide (at_ (Ty.int IntKind.i64) (at_ (Ty.pair Ty.str (Ty.sl (nat_lit 3) (Ty.int IntKind.i64))) y2 (Int.toNat y1)).2 (nat_lit 2) ≤ (1 : Int))) (.out (.inl false)) (.br (true) (.br (byteAt (at_ (Ty.pair Ty.str (Ty.sl (nat_lit 3) (Ty.int IntKind.i64))) y2 (Int.toNat y1)).1 (nat_lit 0) != (97 : Int)) (.br (true) (.br ((↑(ByteArray.size (at_ (Ty.pair Ty.str (Ty.sl (nat_lit 3) (Ty.int IntKind.i64))) y2 (Int.toNat y1)).1) : Int) != (2 : Int)) (.out (.inl false)) (.br (true) (.go (IntKind.wrap IntKind.i64 (y1 + (1 : Int)))) (.bad))) (.bad)) (.br (true) (.go (IntKind.wrap IntKind.i64 (y1 + (1 : Int)))) (.bad))) (.bad))) (.bad)) (.bad)) (.br (true) (.out (.inl false)) (.br (true) (.br (byteAt (at_ (Ty.pair Ty.str (Ty.sl (nat_lit 3) (Ty.int IntKind.i64))) y2 (Int.toNat y1)).1 (nat_lit 0) != (97 : Int)) (.br (true) (.br ((↑(ByteArray.size (at_ (Ty.pair Ty.str (Ty.sl (nat_lit 3) (Ty.int IntKind.i64))) y2 (Int.toNat y1)).1) : Int) != (2 : Int)) (.out (.inl false)) (.br (true) (.go (IntKind.wrap IntKind.i64 (y1 + (1 : Int)))) (.bad))) (.bad)) (.br (true) (.go (IntKind.wrap IntKind.i64 (y1 + (1 : Int)))) (.bad))) (.bad)))) (.bad)) (.bad)) (.br (true) (.out (.inl false)) (.br (true) (.br (byteAt (at_ (Ty.pair Ty.str (Ty.sl (nat_lit 3) (Ty.int IntKind.i64))) y2 (Int.toNat y1)).1 (nat_lit 0) != (97 : Int)) (.br (true) (.br ((↑(ByteArray.size (at_ (Ty.pair Ty.str (Ty.sl (nat_lit 3) (Ty.int IntKind.i64))) y2 (Int.toNat y1)).1) : Int) != (2 : Int)) (.out (.inl false)) (.br (true) (.go (IntKind.wrap IntKind.i64 (y1 + (1 : Int)))) (.bad))) (.bad)) (.br (true) (.go (IntKind.wrap IntKind.i64 (y1 + (1 : Int)))) (.bad))) (.bad)))) (.bad)) (.br (true) (.out (.inl false)) (.br (true) (.br (byteAt (at_ (Ty.pair Ty.str (Ty.sl (nat_lit 3) (Ty.int IntKind.i64))) y2 (Int.toNat y1)).1 (nat_lit 0) != (97 : Int)) (.br (true) (.br ((↑(ByteArray.size (at_ (Ty.pair Ty.str (Ty.sl (nat_lit 3) (Ty.int IntKind.i64))) y2 (Int.toNat y1)).1) : Int) != (2 : Int)) (.out (.inl false)) (.br (true) (.go (IntKind.wrap IntKind.i64 (y1 + (1 : Int)))) (.bad))) (.bad)) (.br (true) (.go (IntKind.wrap IntKind.i64 (y1 + (1 : Int)))) (.bad))) (.bad)))) (.bad))) (.bad)) (.br (true) (.br (byteAt (at_ (Ty.pair Ty.str (Ty.sl (nat_lit 3) (Ty.int IntKind.i64))) y2 (Int.toNat y1)).1 (nat_lit 0) == (102 : Int)) (.br (true) (.br ((↑(List.length (at_ (Ty.pair Ty.str (Ty.sl (nat_lit 3) (Ty.int IntKind.i64))) y2 (Int.toNat y1)).2) : Int) == (3 : Int)) (.br (decide ((0 : Int) ≤ (1 : Int) ∧ (1 : Int) < (↑(List.length (at_ (Ty.pair Ty.str (Ty.sl (nat_lit 3) (Ty.int IntKind.i64))) y2 (Int.toNat y1)).2) : Int))) (.br (g_As_l1In (at_ (Ty.int IntKind.i64) (at_ (Ty.pair Ty.str (Ty.sl (nat_lit 3) (Ty.int IntKind.i64))) y2 (Int.toNat y1)).2 (nat_lit 1)) (1 : Int) (99 : Int)) (.br (g_Vs_l1In_0 (at_ (Ty.int IntKind.i64) (at_ (Ty.pair Ty.str (Ty.sl (nat_lit 3) (Ty.int IntKind.i64))) y2 (Int.toNat y1)).2 (nat_lit 1)) (1 : Int) (99 : Int)) (.br (decide ((0 : Int) ≤ (2 : Int) ∧ (2 : Int) < (↑(List.length (at_ (Ty.pair Ty.str (Ty.sl (nat_lit 3) (Ty.int IntKind.i64))) y2 (Int.toNat y1)).2) : Int))) (.br (true) (.br (!decide (at_ (Ty.int IntKind.i64) (at_ (Ty.pair Ty.str (Ty.sl (nat_lit 3) (Ty.int IntKind.i64))) y2 (Int.toNat y1)).2 (nat_lit 2) ≤ (1 : Int))) (.out (.inl false)) (.br (true) (.br (byteAt (at_ (Ty.pair Ty.str (Ty.sl (nat_lit 3) (Ty.int IntKind.i64))) y2 (Int.toNat y1)).1 (nat_lit 0) != (97 : Int)) (.br (true) (.br ((↑(ByteArray.size (at_ (Ty.pair Ty.str (Ty.sl (nat_lit 3) (Ty.int IntKind.i64))) y2 (Int.toNat y1)).1) : Int) != (2 : Int)) (.out (.inl false)) (.br (true) (.go (IntKind.wrap IntKind.i64 (y1 + (1 : Int)))) (.bad))) (.bad)) (.br (true) (.go (IntKind.wrap IntKind.i64 (y1 + (1 : Int)))) (.bad))) (.bad))) (.bad)) (.bad)) (.br (true) (.out (.inl false)) (.br (true) (.br (byteAt (at_ (Ty.pair Ty.str (Ty.sl (nat_lit 3) (Ty.int IntKind.i64))) y2 (Int.toNat y1)).1 (nat_lit 0) != (97 : Int)) (.br (true) (.br ((↑(ByteArray.size (at_ (Ty.pair Ty.str (Ty.sl (nat_lit 3) (Ty.int IntKind.i64))) y2 (Int.toNat y1)).1) : Int) != (2 : Int)) (.out (.inl false)) (.br (true) (.go (IntKind.wrap IntKind.i64 (y1 + (1 : Int)))) (.bad))) (.bad)) (.br (true) (.go (IntKind.wrap IntKind.i64 (y1 + (1 : Int)))) (.bad))) (.bad)))) (.bad)) (.bad)) (.br (true) (.out (.inl false)) (.br (true) (.br (byteAt (at_ (Ty.pair Ty.str (Ty.sl (nat_lit 3) (Ty.int IntKind.i64))) y2 (Int.toNat y1)).1 (nat_lit 0) != (97 : Int)) (.br (true) (.br ((↑(ByteArray.size (at_ (Ty.pair Ty.str (Ty.sl (nat_lit 3) (Ty.int IntKind.i64))) y2 (Int.toNat y1)).1) : Int) != (2 : Int)) (.out (.inl false)) (.br (true) (.go (IntKind.wrap IntKind.i64 (y1 + (1 : Int)))) (.bad))) (.bad)) (.br (true) (.go (IntKind.wrap IntKind.i64 (y1 + (1 : Int)))) (.bad))) (.bad)))) (.bad)) (.br (true) (.out (.inl false)) (.br (true) (.br (byteAt (at_ (Ty.pair Ty.str (Ty.sl (nat_lit 3) (Ty.int IntKind.i64))) y2 (Int.toNat y1)).1 (nat_lit 0) != (97 : Int)) (.br (true) (.br ((↑(ByteArray.size (at_ (Ty.pair Ty.str (Ty.sl (nat_lit 3) (Ty.int IntKind.i64))) y2 (Int.toNat y1)).1) : Int) != (2 : Int)) (.out (.inl false)) (.br (true) (.go (IntKind.wrap IntKind.i64 (y1 + (1 : Int)))) (.bad))) (.bad)) (.br (true) (.go (IntKind.wrap IntKind.i64 (y1 + (1 : Int)))) (.bad))) (.bad)))) (.bad))) (.bad)) (.br (true) (.out (.inl false)) (.br (true) (.br (byteAt (at_ (Ty.pair Ty.str (Ty.sl (nat_lit 3) (Ty.int IntKind.i64))) y2 (Int.toNat y1)).1 (nat_lit 0) != (97 : Int)) (.br (true) (.br ((↑(ByteArray.size (at_ (Ty.pair Ty.str (Ty.sl (nat_lit 3) (Ty.int IntKind.i64))) y2 (Int.toNat y1)).1) : Int) != (2 : Int)) (.out (.inl false)) (.br (true) (.go (IntKind.wrap IntKind.i64 (y1 + (1 : Int)))) (.bad))) (.bad)) (.br (true) (.go (IntKind.wrap IntKind.i64 (y1 + (1 : Int)))) (.bad))) (.bad)))) (.bad)) (.br (true) (.out (.inl false)) (.br (true) (.br (byteAt (at_ (Ty.pair Ty.str (Ty.sl (nat_lit 3) (Ty.int IntKind.i64))) y2 (Int.toNat y1)).1 (nat_lit 0) != (97 : Int)) (.br (true) (.br ((↑(ByteArray.size (at_ (Ty.pair Ty.str (Ty.sl (nat_lit 3) (Ty.int IntKind.i64))) y2 (Int.toNat y1)).1) : Int) != (2 : Int)) (.out (.inl false)) (.br (true) (.go (IntKind.wrap IntKind.i64 (y1 + (1 : Int)))) (.bad))) (.bad)) (.br (true) (.go (IntKind.wrap IntKind.i64 (y1 + (1 : Int)))) (.bad))) (.bad)))) (.bad))) (.bad))) (.bad)) (.br (true) (.br (y0 == (3 : Int)) (.br (true) (.br (byteAt (at_ (Ty.pair Ty.str (Ty.sl (nat_lit 3) (Ty.int IntKind.i64))) y2 (Int.toNat y1)).1 (nat_lit 0) == (97 : Int)) (.br (true) (.br ((↑(List.length (at_ (Ty.pair Ty.str (Ty.sl (nat_lit 3) (Ty.int IntKind.i64))) y2 (Int.toNat y1)).2) : Int) == (1 : Int)) (.br (false) (.out (.inl false)) (.br (true) (.br (byteAt (at_ (Ty.pair Ty.str (Ty.sl (nat_lit 3) (Ty.int IntKind.i64))) y2 (Int.toNat y1)).1 (nat_lit 0) != (97 : Int)) (.br (true) (.br ((↑(ByteArray.size (at_ (Ty.pair Ty.str (Ty.sl (nat_lit 3) (Ty.int IntKind.i64))) y2 (Int.toNat y1)).1) : Int) != (2 : Int)) (.out (.inl false)) (.br (true) (.go (IntKind.wrap IntKind.i64 (y1 + (1 : Int)))) (.bad))) (.bad)) (.br (true) (.go (IntKind.wrap IntKind.i64 (y1 + (1 : Int)))) (.bad))) (.bad))) (.br (true) (.br (y0 == (2 : Int)) (.br (true) (.br (decide (at_ (Ty.int IntKind.i64) (at_ (Ty.pair Ty.str (Ty.sl (nat_lit 3) (Ty.int IntKind.i64))) y2 (Int.toNat y1)).2 (nat_lit 0) ≤ (9 : Int))) (.br (true) (.br (byteAt (at_ (Ty.pair Ty.str (Ty.sl (nat_lit 3) (Ty.int IntKind.i64))) y2 (Int.toNat y1)).1 (nat_lit 0) == (99 : Int)) (.br (true) (.br ((↑(List.length (at_ (Ty.pair Ty.str (Ty.sl (nat_lit 3) (Ty.int IntKind.i64))) y2 (Int.toNat y1)).2) : Int) == (2 : Int)) (.br (false) (.out (.inl false)) (.br (true) (.br (byteAt (at_ (Ty.pair Ty.str (Ty.sl (nat_lit 3) (Ty.int IntKind.i64))) y2 (Int.toNat y1)).1 (nat_lit 0) != (97 : Int)) (.br (true) (.br ((↑(ByteArray.size (at_ (Ty.pair Ty.str (Ty.sl (nat_lit 3) (Ty.int IntKind.i64))) y2 (Int.toNat y1)).1) : Int) != (2 : Int)) (.out (.inl false)) (.br (true) (.go (IntKind.wrap IntKind.i64 (y1 + (1 : Int)))) (.bad))) (.bad)) (.br (true) (.go (IntKind.wrap IntKind.i64 (y1 + (1 : Int)))) (.bad))) (.bad))) (.br (true) (.br (byteAt (at_ (Ty.pair Ty.str (Ty.sl (nat_lit 3) (Ty.int IntKind.i64))) y2 (Int.toNat y1)).1 (nat_lit 0) == (102 : Int)) (.br (true) (.br ((↑(List.length (at_ (Ty.pair Ty.str (Ty.sl (nat_lit 3) (Ty.int IntKind.i64))) y2 (Int.toNat y1)).2) : Int) == (3 : Int)) (.br (decide ((0 : Int) ≤ (1 : Int) ∧ (1 : Int) < (↑(List.length (at_ (Ty.pair Ty.str (Ty.sl (nat_lit 3) (Ty.int IntKind.i64))) y2 (Int.toNat y1)).2) : Int))) (.br (g_As_l1In (at_ (Ty.int IntKind.i64) (at_ (Ty.pair Ty.str (Ty.sl (nat_lit 3) (Ty.int IntKind.i64))) y2 (Int.toNat y1)).2 (nat_lit 1)) (1 : Int) (99 : Int)) (.br (g_Vs_l1In_0 (at_ (Ty.int IntKind.i64) (at_ (Ty.pair Ty.str (Ty.sl (nat_lit 3) (Ty.int IntKind.i64))) y2 (Int.toNat y1)).2 (nat_lit 1)) (1 : Int) (99 : Int)) (.br (decide ((0 : Int) ≤ (2 : Int) ∧ (2 : Int) < (↑(List.length (at_ (Ty.pair Ty.str (Ty.sl (nat_lit 3) (Ty.int IntKind.i64))) y2 (Int.toNat y1)).2) : Int))) (.br (true) (.br (!decide (at_ (Ty.int IntKind.i64) (at_ (Ty.pair Ty.str (Ty.sl (nat_lit 3) (Ty.int IntKind.i64))) y2 (Int.toNat y1)).2 (nat_lit 2) ≤ (1 : Int))) (.out (.inl false)) (.br (true) (.br (byteAt (at_ (Ty.pair Ty.str (Ty.sl (nat_lit 3) (Ty.int IntKind.i64))) y2 (Int.toNat y1)).1 (nat_lit 0) != (97 : Int)) (.br (true) (.br ((↑(ByteArray.size (at_ (Ty.pair Ty.str (Ty.sl (nat_lit 3) (Ty.int IntKind.i64))) y2 (Int.toNat y1)).1) : Int) != (2 : Int)) (.out (.inl false)) (.br (true) (.go (IntKind.wrap IntKind.i64 (y1 + (1 : Int)))) (.bad))) (.bad)) (.br (true) (.go (IntKind.wrap IntKind.i64 (y1 + (1 : Int)))) (.bad))) (.bad))) (.bad)) (.bad)) (.br (true) (.out (.inl false)) (.br (true) (.br (byteAt (at_ (Ty.pair Ty.str (Ty.sl (nat_lit 3) (Ty.int IntKind.i64))) y2 (Int.toNat y1)).1 (nat_lit 0) != (97 : Int)) (.br (true) (.br ((↑(ByteArray.size (at_ (Ty.pair Ty.str (Ty.sl (nat_lit 3) (Ty.int IntKind.i64))) y2 (Int.toNat y1)).1) : Int) != (2 : Int)) (.out (.inl false)) (.br (true) (.go (IntKind.wrap IntKind.i64 (y1 + (1 : Int)))) (.bad))) (.bad)) (.br (true) (.go (IntKind.wrap IntKind.i64 (y1 + (1 : Int)))) (.bad))) (.bad)))) (.bad)) (.bad)) (.br (true) (.out (.inl false)) (.br (true) (.br (byteAt (at_ (Ty.pair Ty.str (Ty.sl (nat_lit 3) (Ty.int IntKind.i64))) y2 (Int.toNat y1)).1 (nat_lit 0) != (97 : Int)) (.br (true) (.br ((↑(ByteArray.size (at_ (Ty.pair Ty.str (Ty.sl (nat_lit 3) (Ty.int IntKind.i64))) y2 (Int.toNat y1)).1) : Int) != (2 : Int)) (.out (.inl false)) (.br (true) (.go (IntKind.wrap IntKind.i64 (y1 + (1 : Int)))) (.bad))) (.bad)) (.br (true) (.go (IntKind.wrap IntKind.i64 (y1 + (1 : Int)))) (.bad))) (.bad)))) (.bad)) (.br (true) (.out (.inl false)) (.br (true) (.br (byteAt (at_ (Ty.pair Ty.str (Ty.sl (nat_lit 3) (Ty.int IntKind.i64))) y2 (Int.toNat y1)).1 (nat_lit 0) != (97 : Int)) (.br (true) (.br ((↑(ByteArray.size (at_ (Ty.pair Ty.str (Ty.sl (nat_lit 3) (Ty.int IntKind.i64))) y2 (Int.toNat y1)).1) : Int) != (2 : Int)) (.out (.inl false)) (.br (true) (.go (IntKind.wrap IntKind.i64 (y1 + (1 : Int)))) (.bad))) (.bad)) (.br (true) (.go (IntKind.wrap IntKind.i64 (y1 + (1 : Int)))) (.bad))) (.bad)))) (.bad))) (.bad)) (.br (true) (.br (byteAt (at_ (Ty.pair Ty.str (Ty.sl (nat_lit 3) (Ty.int IntKind.i64))) y2 (Int.toNat y1)).1 (nat_lit 0) == (102 : Int)) (.br (true) (.br ((↑(List.length (at_ (Ty.pair Ty.str (Ty.sl (nat_lit 3) (Ty.int IntKind.i64))) y2 (Int.toNat y1)).2) : Int) == (3 : Int)) (.br (decide ((0 : Int) ≤ (1 : Int) ∧ (1 : Int) < (↑(List.length (at_ (Ty.pair Ty.str (Ty.sl (nat_lit 3) (Ty.int IntKind.i64))) y2 (Int.toNat y1)).2) : Int))) (.br (g_As_l1In (at_ (Ty.int IntKind.i64) (at_ (Ty.pair Ty.str (Ty.sl (nat_lit 3) (Ty.int IntKind.i64))) y2 (Int.toNat y1)).2 (nat_lit 1)) (1 : Int) (99 : Int)) (.br (g_Vs_l1In_0 (at_ (Ty.int IntKind.i64) (at_ (Ty.pair Ty.str (Ty.sl (nat_lit 3) (Ty.int IntKind.i64))) y2 (Int.toNat y1)).2 (nat_lit 1)) (1 : Int) (99 : Int)) (.br (decide ((0 : Int) ≤ (2 : Int) ∧ (2 : Int) < (↑(List.length (at_ (Ty.pair Ty.str (Ty.sl (nat_lit 3) (Ty.int IntKind.i64))) y2 (Int.toNat y1)).2) : Int))) (.br (true) (.br (!decide (at_ (Ty.int IntKind.i64) (at_ (Ty.pair Ty.str (Ty.sl (nat_lit 3) (Ty.int IntKind.i64))) y2 (Int.toNat y1)).2 (nat_lit 2) ≤ (1 : Int))) (.out (.inl false)) (.br (true) (.br (byteAt (at_ (Ty.pair Ty.str (Ty.sl (nat_lit 3) (Ty.int IntKind.i64))) y2 (Int.toNat y1)).1 (nat_lit 0) != (97 : Int)) (.br (true) (.br ((↑(ByteArray.size (at_ (Ty.pair Ty.str (Ty.sl (nat_lit 3) (Ty.int IntKind.i64))) y2 (Int.toNat y1)).1) : Int) != (2 : Int)) (.out (.inl false)) (.br (true) (.go (IntKind.wrap IntKind.i64 (y1 + (1 : Int)))) (.bad))) (.bad)) (.br (true) (.go (IntKind.wrap IntKind.i64 (y1 + (1 : Int)))) (.bad))) (.bad))) (.bad)) (.bad)) (.br (true) (.out (.inl false)) (.br (true) (.br (byteAt (at_ (Ty.pair Ty.str (Ty.sl (nat_lit 3) (Ty.int IntKind.i64))) y2 (Int.toNat y1)).1 (nat_lit 0) != (97 : Int)) (.br (true) (.br ((↑(ByteArray.size (at_ (Ty.pair Ty.str (Ty.sl (nat_lit 3) (Ty.int IntKind.i64))) y2 (Int.toNat y1)).1) : Int) != (2 : Int)) (.out (.inl false)) (.br (true) (.go (IntKind.wrap IntKind.i64 (y1 + (1 : Int)))) (.bad))) (.bad)) (.br (true) (.go (IntKind.wrap IntKind.i64 (y1 + (1 : Int)))) (.bad))) (.bad)))) (.bad)) (.bad)) (.br (true) (.out (.inl false)) (.br (true) (.br (byteAt (at_ (Ty.pair Ty.str (Ty.sl (nat_lit 3) (Ty.int IntKind.i64))) y2 (Int.toNat y1)).1 (nat_lit 0) != (97 : Int)) (.br (true) (.br ((↑(ByteArray.size (at_ (Ty.pair Ty.str (Ty.sl (nat_lit 3) (Ty.int IntKind.i64))) y2 (Int.toNat y1)).1) : Int) != (2 : Int)) (.out (.inl false)) (.br (true) (.go (IntKind.wrap IntKind.i64 (y1 + (1 : Int)))) (.bad))) (.bad)) (.br (true) (.go (IntKind.wrap IntKind.i64 (y1 + (1 : Int)))) (.bad))) (.bad)))) (.bad)) (.br (true) (.out (.inl false)) (.br (true) (.br (byteAt (at_ (Ty.pair Ty.str (Ty.sl (nat_lit 3) (Ty.int IntKind.i64))) y2 (Int.toNat y1)).1 (nat_lit 0) != (97 : Int)) (.br (true) (.br ((↑(ByteArray.size (at_ (Ty.pair Ty.str (Ty.sl (nat_lit 3) (Ty.int IntKind.i64))) y2 (Int.toNat y1)).1) : Int) != (2 : Int)) (.out (.inl false)) (.br (true) (.go (IntKind.wrap IntKind.i64 (y1 + (1 : Int)))) (.bad))) (.bad)) (.br (true) (.go (IntKind.wrap IntKind.i64 (y1 + (1 : Int)))) (.bad))) (.bad)))) (.bad))) (.bad)) (.br (true) (.out (.inl false)) (.br (true) (.br (byteAt (at_ (Ty.pair Ty.str (Ty.sl (nat_lit 3) (Ty.int IntKind.i64))) y2 (Int.toNat y1)).1 (nat_lit 0) != (97 : Int)) (.br (true) (.br ((↑(ByteArray.size (at_ (Ty.pair Ty.str (Ty.sl (nat_lit 3) (Ty.int IntKind.i64))) y2 (Int.toNat y1)).1) : Int) != (2 : Int)) (.out (.inl false)) (.br (true) (.go (IntKind.wrap IntKind.i64 (y1 + (1 : Int)))) (.bad))) (.bad)) (.br (true) (.go (IntKind.wrap IntKind.i64 (y1 + (1 : Int)))) (.bad))) (.bad)))) (.bad)) (.br (true) (.out (.inl false)) (.br (true) (.br (byteAt (at_ (Ty.pair Ty.str (Ty.sl (nat_lit 3) (Ty.int IntKind.i64))) y2 (Int.toNat y1)).1 (nat_lit 0) != (97 : Int)) (.br (true) (.br ((↑(ByteArray.size (at_ (Ty.pair Ty.str (Ty.sl (nat_lit 3) (Ty.int IntKind.i64))) y2 (Int.toNat y1)).1) : Int) != (2 : Int)) (.out (.inl false)) (.br (true) (.go (IntKind.wrap IntKind.i64 (y1 + (1 : Int)))) (.bad))) (.bad)) (.br (true) (.go (IntKind.wrap IntKind.i64 (y1 + (1 : Int)))) (.bad))) (.bad)))) (.bad))) (.bad)) (.br (true) (.br (y0 == (2 : Int)) (.br (true) (.br (decide (at_ (Ty.int IntKind.i64) (at_ (Ty.pair Ty.str (Ty.sl (nat_lit 3) (Ty.int IntKind.i64))) y2 (Int.toNat y1)).2 (nat_lit 0) ≤ (9 : Int))) (.br (true) (.br (byteAt (at_ (Ty.pair Ty.str (Ty.sl (nat_lit 3) (Ty.int IntKind.i64))) y2 (Int.toNat y1)).1 (nat_lit 0) == (99 : Int)) (.br (true) (.br ((↑(List.length (at_ (Ty.pair Ty.str (Ty.sl (nat_lit 3) (Ty.int IntKind.i64))) y2 (Int.toNat y1)).2) : Int) == (2 : Int)) (.br (false) (.out (.inl false)) (.br (true) (.br (byteAt (at_ (Ty.pair Ty.str (Ty.sl (nat_lit 3) (Ty.int IntKind.i64))) y2 (Int.toNat y1)).1 (nat_lit 0) != (97 : Int)) (.br (true) (.br ((↑(ByteArray.size (at_ (Ty.pair Ty.str (Ty.sl (nat_lit 3) (Ty.int IntKind.i64))) y2 (Int.toNat y1)).1) : Int) != (2 : Int)) (.out (.inl false)) (.br (true) (.go (IntKind.wrap IntKind.i64 (y1 + (1 : Int)))) (.bad))) (.bad)) (.br (true) (.go (IntKind.wrap IntKind.i64 (y1 + (1 : Int)))) (.bad))) (.bad))) (.br (true) (.br (byteAt (at_ (Ty.pair Ty.str (Ty.sl (nat_lit 3) (Ty.int IntKind.i64))) y2 (Int.toNat y1)).1 (nat_lit 0) == (102 : Int)) (.br (true) (.br ((↑(List.length (at_ (Ty.pair Ty.str (Ty.sl (nat_lit 3) (Ty.int IntKind.i64))) y2 (Int.toNat y1)).2) : Int) == (3 : Int)) (.br (decide ((0 : Int) ≤ (1 : Int) ∧ (1 : Int) < (↑(List.length (at_ (Ty.pair Ty.str (Ty.sl (nat_lit 3) (Ty.int IntKind.i64))) y2 (Int.toNat y1)).2) : Int))) (.br (g_As_l1In (at_ (Ty.int IntKind.i64) (at_ (Ty.pair Ty.str (Ty.sl (nat_lit 3) (Ty.int IntKind.i64))) y2 (Int.toNat y1)).2 (nat_lit 1)) (1 : Int) (99 : Int)) (.br (g_Vs_l1In_0 (at_ (Ty.int IntKind.i64) (at_ (Ty.pair Ty.str (Ty.sl (nat_lit 3) (Ty.int IntKind.i64))) y2 (Int.toNat y1)).2 (nat_lit 1)) (1 : Int) (99 : Int)) (.br (decide ((0 : Int) ≤ (2 : Int) ∧ (2 : Int) < (↑(List.length (at_ (Ty.pair Ty.str (Ty.sl (nat_lit 3) (Ty.int IntKind.i64))) y2 (Int.toNat y1)).2) : Int))) (.br (true) (.br (!decide (at_ (Ty.int IntKind.i64) (at_ (Ty.pair Ty.str (Ty.sl (nat_lit 3) (Ty.int IntKind.i64))) y2 (Int.toNat y1)).2 (nat_lit 2) ≤ (1 : Int))) (.out (.inl false)) (.br (true) (.br (byteAt (at_ (Ty.pair Ty.str (Ty.sl (nat_lit 3) (Ty.int IntKind.i64))) y2 (Int.toNat y1)).1 (nat_lit 0) != (97 : Int)) (.br (true) (.br ((↑(ByteArray.size (at_ (Ty.pair Ty.str (Ty.sl (nat_lit 3) (Ty.int IntKind.i64))) y2 (Int.toNat y1)).1) : Int) != (2 : Int)) (.out (.inl false)) (.br (true) (.go (IntKind.wrap IntKind.i64 (y1 + (1 : Int)))) (.bad))) (.bad)) (.br (true) (.go (IntKind.wrap IntKind.i64 (y1 + (1 : Int)))) (.bad))) (.bad))) (.bad)) (.bad)) (.br (true) (.out (.inl false)) (.br (true) (.br (byteAt (at_ (Ty.pair Ty.str (Ty.sl (nat_lit 3) (Ty.int IntKind.i64))) y2 (Int.toNat y1)).1 (nat_lit 0) != (97 : Int)) (.br (true) (.br ((↑(ByteArray.size (at_ (Ty.pair Ty.str (Ty.sl (nat_lit 3) (Ty.int IntKind.i64))) y2 (Int.toNat y1)).1) : Int) != (2 : Int)) (.out (.inl false)) (.br (true) (.go (IntKind.wrap IntKind.i64 (y1 + (1 : Int)))) (.bad))) (.bad)) (.br (true) (.go (IntKind.wrap IntKind.i64 (y1 + (1 : Int)))) (.bad))) (.bad)))) (.bad)) (.bad)) (.br (true) (.out (.inl false)) (.br (true) (.br (byteAt (at_ (Ty.pair Ty.str (Ty.sl (nat_lit 3) (Ty.int IntKind.i64))) y2 (Int.toNat y1)).1 (nat_lit 0) != (97 : Int)) (.br (true) (.br ((↑(ByteArray.size (at_ (Ty.pair Ty.str (Ty.sl (nat_lit 3) (Ty.int IntKind.i64))) y2 (Int.toNat y1)).1) : Int) != (2 : Int)) (.out (.inl false)) (.br (true) (.go (IntKind.wrap IntKind.i64 (y1 + (1 : Int)))) (.bad))) (.bad)) (.br (true) (.go (IntKind.wrap IntKind.i64 (y1 + (1 : Int)))) (.bad))) (.bad)))) (.bad)) (.br (true) (.out (.inl false)) (.br (true) (.br (byteAt (at_ (Ty.pair Ty.str (Ty.sl (nat_lit 3) (Ty.int IntKind.i64))) y2 (Int.toNat y1)).1 (nat_lit 0) != (97 : Int)) (.br (true) (.br ((↑(ByteArray.size (at_ (Ty.pair Ty.str (Ty.sl (nat_lit 3) (Ty.int IntKind.i64))) y2 (Int.toNat y1)).1) : Int) != (2 : Int)) (.out (.inl false)) (.br (true) (.go (IntKind.wrap IntKind.i64 (y1 + (1 : Int)))) (.bad))) (.bad)) (.br (true) (.go (IntKind.wrap IntKind.i64 (y1 + (1 : Int)))) (.bad))) (.bad)))) (.bad))) (.bad)) (.br (true) (.br (byteAt (at_ (Ty.pair Ty.str (Ty.sl (nat_lit 3) (Ty.int IntKind.i64))) y2 (Int.toNat y1)).1 (nat_lit 0) == (102 : Int)) (.br (true) (.br ((↑(List.length (at_ (Ty.pair Ty.str (Ty.sl (nat_lit 3) (Ty.int IntKind.i64))) y2 (Int.toNat y1)).2) : Int) == (3 : Int)) (.br (decide ((0 : Int) ≤ (1 : Int) ∧ (1 : Int) < (↑(List.length (at_ (Ty.pair Ty.str (Ty.sl (nat_lit 3) (Ty.int IntKind.i64))) y2 (Int.toNat y1)).2) : Int))) (.br (g_As_l1In (at_ (Ty.int IntKind.i64) (at_ (Ty.pair Ty.str (Ty.sl (nat_lit 3) (Ty.int IntKind.i64))) y2 (Int.toNat y1)).2 (nat_lit 1)) (1 : Int) (99 : Int)) (.br (g_Vs_l1In_0 (at_ (Ty.int IntKind.i64) (at_ (Ty.pair Ty.str (Ty.sl (nat_lit 3) (Ty.int IntKind.i64))) y2 (Int.toNat y1)).2 (nat_lit 1)) (1 : Int) (99 : Int)) (.br (decide ((0 : Int) ≤ (2 : Int) ∧ (2 : Int) < (↑(List.length (at_ (Ty.pair Ty.str (Ty.sl (nat_lit 3) (Ty.int IntKind.i64))) y2 (Int.toNat y1)).2) : Int))) (.br (true) (.br (!decide (at_ (Ty.int IntKind.i64) (at_ (Ty.pair Ty.str (Ty.sl (nat_lit 3) (Ty.int IntKind.i64))) y2 (Int.toNat y1)).2 (nat_lit 2) ≤ (1 : Int))) (.out (.inl false)) (.br (true) (.br (byteAt (at_ (Ty.pair Ty.str (Ty.sl (nat_lit 3) (Ty.int IntKind.i64))) y2 (Int.toNat y1)).1 (nat_lit 0) != (97 : Int)) (.br (true) (.br ((↑(ByteArray.size (at_ (Ty.pair Ty.str (Ty.sl (nat_lit 3) (Ty.int IntKind.i64))) y2 (Int.toNat y1)).1) : Int) != (2 : Int)) (.out (.inl false)) (.br (true) (.go (IntKind.wrap IntKind.i64 (y1 + (1 : Int)))) (.bad))) (.bad)) (.br (true) (.go (IntKind.wrap IntKind.i64 (y1 + (1 : Int)))) (.bad))) (.bad))) (.bad)) (.bad)) (.br (true) (.out (.inl false)) (.br (true) (.br (byteAt (at_ (Ty.pair Ty.str (Ty.sl (nat_lit 3) (Ty.int IntKind.i64))) y2 (Int.toNat y1)).1 (nat_lit 0) != (97 : Int)) (.br (true) (.br ((↑(ByteArray.size (at_ (Ty.pair Ty.str (Ty.sl (nat_lit 3) (Ty.int IntKind.i64))) y2 (Int.toNat y1)).1) : Int) != (2 : Int)) (.out (.inl false)) (.br (true) (.go (IntKind.wrap IntKind.i64 (y1 + (1 : Int)))) (.bad))) (.bad)) (.br (true) (.go (IntKind.wrap IntKind.i64 (y1 + (1 : Int)))) (.bad))) (.bad)))) (.bad)) (.bad)) (.br (true) (.out (.inl false)) (.br (true) (.br (byteAt (at_ (Ty.pair Ty.str (Ty.sl (nat_lit 3) (Ty.int IntKind.i64))) y2 (Int.toNat y1)).1 (nat_lit 0) != (97 : Int)) (.br (true) (.br ((↑(ByteArray.size (at_ (Ty.pair Ty.str (Ty.sl (nat_lit 3) (Ty.int IntKind.i64))) y2 (Int.toNat y1)).1) : Int) != (2 : Int)) (.out (.inl false)) (.br (true) (.go (IntKind.wrap IntKind.i64 (y1 + (1 : Int)))) (.bad))) (.bad)) (.br (true) (.go (IntKind.wrap IntKind.i64 (y1 + (1 : Int)))) (.bad))) (.bad)))) (.bad)) (.br (true) (.out (.inl false)) (.br (true) (.br (byteAt (at_ (Ty.pair Ty.str (Ty.sl (nat_lit 3) (Ty.int IntKind.i64))) y2 (Int.toNat y1)).1 (nat_lit 0) != (97 : Int)) (.br (true) (.br ((↑(ByteArray.size (at_ (Ty.pair Ty.str (Ty.sl (nat_lit 3) (Ty.int IntKind.i64))) y2 (Int.toNat y1)).1) : Int) != (2 : Int)) (.out (.inl false)) (.br (true) (.go (IntKind.wrap IntKind.i64 (y1 + (1 : Int)))) (.bad))) (.bad)) (.br (true) (.go (IntKind.wrap IntKind.i64 (y1 + (1 : Int)))) (.bad))) (.bad)))) (.bad))) (.bad)) (.br (true) (.out (.inl false)) (.br (true) (.br (byteAt (at_ (Ty.pair Ty.str (Ty.sl (nat_lit 3) (Ty.int IntKind.i64))) y2 (Int.toNat y1)).1 (nat_lit 0) != (97 : Int)) (.br (true) (.br ((↑(ByteArray.size (at_ (Ty.pair Ty.str (Ty.sl (nat_lit 3) (Ty.int IntKind.i64))) y2 (Int.toNat y1)).1) : Int) != (2 : Int)) (.out (.inl false)) (.br (true) (.go (IntKind.wrap IntKind.i64 (y1 + (1 : Int)))) (.bad))) (.bad)) (.br (true) (.go (IntKind.wrap IntKind.i64 (y1 + (1 : Int)))) (.bad))) (.bad)))) (.bad)) (.br (true) (.out (.inl false)) (.br (true) (.br (byteAt (at_ (Ty.pair Ty.str (Ty.sl (nat_lit 3) (Ty.int IntKind.i64))) y2 (Int.toNat y1)).1 (nat_lit 0) != (97 : Int)) (.br (true) (.br ((↑(ByteArray.size (at_ (Ty.pair Ty.str (Ty.sl (nat_lit 3) (Ty.int IntKind.i64))) y2 (Int.toNat y1)).1) : Int) != (2 : Int)) (.out (.inl false)) (.br (true) (.go (IntKind.wrap IntKind.i64 (y1 + (1 : Int)))) (.bad))) (.bad)) (.br (true) (.go (IntKind.wrap IntKind.i64 (y1 + (1 : Int)))) (.bad))) (.bad)))) (.bad))) (.bad)) (.br (true) (.br (y0 == (2 : Int)) (.br (true) (.br (decide (at_ (Ty.int IntKind.i64) (at_ (Ty.pair Ty.str (Ty.sl (nat_lit 3) (Ty.int IntKind.i64))) y2 (Int.toNat y1)).2 (nat_lit 0) ≤ (9 : Int))) (.br (true) (.br (byteAt (at_ (Ty.pair Ty.str (Ty.sl (nat_lit 3) (Ty.int IntKind.i64))) y2 (Int.toNat y1)).1 (nat_lit 0) == (99 : Int)) (.br (true) (.br ((↑(List.length (at_ (Ty.pair Ty.str (Ty.sl (nat_lit 3) (Ty.int IntKind.i64))) y2 (Int.toNat y1)).2) : Int) == (2 : Int)) (.br (false) (.out (.inl false)) (.br (true) (.br (byteAt (at_ (Ty.pair Ty.str (Ty.sl (nat_lit 3) (Ty.int IntKind.i64))) y2 (Int.toNat y1)).1 (nat_lit 0) != (97 : Int)) (.br (true) (.br ((↑(ByteArray.size (at_ (Ty.pair Ty.str (Ty.sl (nat_lit 3) (Ty.int IntKind.i64))) y2 (Int.toNat y1)).1) : Int) != (2 : Int)) (.out (.inl false)) (.br (true) (.go (IntKind.wrap IntKind.i64 (y1 + (1 : Int)))) (.bad))) (.bad)) (.br (true) (.go (IntKind.wrap IntKind.i64 (y1 + (1 : Int)))) (.bad))) (.bad))) (.br (true) (.br (byteAt (at_ (Ty.pair Ty.str (Ty.sl (nat_lit 3) (Ty.int IntKind.i64))) y2 (Int.toNat y1)).1 (nat_lit 0) == (102 : Int)) (.br (true) (.br ((↑(List.length (at_ (Ty.pair Ty.str (Ty.sl (nat_lit 3) (Ty.int IntKind.i64))) y2 (Int.toNat y1)).2) : Int) == (3 : Int)) (.br (decide ((0 : Int) ≤ (1 : Int) ∧ (1 : Int) < (↑(List.length (at_ (Ty.pair Ty.str (Ty.sl (nat_lit 3) (Ty.int IntKind.i64))) y2 (Int.toNat y1)).2) : Int))) (.br (g_As_l1In (at_ (Ty.int IntKind.i64) (at_ (Ty.pair Ty.str (Ty.sl (nat_lit 3) (Ty.int IntKind.i64))) y2 (Int.toNat y1)).2 (nat_lit 1)) (1 : Int) (99 : Int)) (.br (g_Vs_l1In_0 (at_ (Ty.int IntKind.i64) (at_ (Ty.pair Ty.str (Ty.sl (nat_lit 3) (Ty.int IntKind.i64))) y2 (Int.toNat y1)).2 (nat_lit 1)) (1 : Int) (99 : Int)) (.br (decide ((0 : Int) ≤ (2 : Int) ∧ (2 : Int) < (↑(List.length (at_ (Ty.pair Ty.str (Ty.sl (nat_lit 3) (Ty.int IntKind.i64))) y2 (Int.toNat y1)).2) : Int))) (.br (true) (.br (!decide (at_ (Ty.int IntKind.i64) (at_ (Ty.pair Ty.str (Ty.sl (nat_lit 3) (Ty.int IntKind.i64))) y2 (Int.toNat y1)).2 (nat_lit 2) ≤ (1 : Int))) (.out (.inl false)) (.br (true) (.br (byteAt (at_ (Ty.pair Ty.str (Ty.sl (nat_lit 3) (Ty.int IntKind.i64))) y2 (Int.toNat y1)).1 (nat_lit 0) != (97 : Int)) (.br (true) (.br ((↑(ByteArray.size (at_ (Ty.pair Ty.str (Ty.sl (nat_lit 3) (Ty.int IntKind.i64))) y2 (Int.toNat y1)).1) : Int) != (2 : Int)) (.out (.inl false)) (.br (true) (.go (IntKind.wrap IntKind.i64 (y1 + (1 : Int)))) (.bad))) (.bad)) (.br (true) (.go (IntKind.wrap IntKind.i64 (y1 + (1 : Int)))) (.bad))) (.bad))) (.bad)) (.bad)) (.br (true) (.out (.inl false)) (.br (true) (.br (byteAt (at_ (Ty.pair Ty.str (Ty.sl (nat_lit 3) (Ty.int IntKind.i64))) y2 (Int.toNat y1)).1 (nat_lit 0) != (97 : Int)) (.br (true) (.br ((↑(ByteArray.size (at_ (Ty.pair Ty.str (Ty.sl (nat_lit 3) (Ty.int IntKind.i64))) y2 (Int.toNat y1)).1) : Int) != (2 : Int)) (.out (.inl false)) (.br (true) (.go (IntKind.wrap IntKind.i64 (y1 + (1 : Int)))) (.bad))) (.bad)) (.br (true) (.go (IntKind.wrap IntKind.i64 (y1 + (1 : Int)))) (.bad))) (.bad)))) (.bad)) (.bad)) (.br (true) (.out (.inl false)) (.br (true) (.br (byteAt (at_ (Ty.pair Ty.str (Ty.sl (nat_lit 3) (Ty.int IntKind.i64))) y2 (Int.toNat y1)).1 (nat_lit 0) != (97 : Int)) (.br (true) (.br ((↑(ByteArray.size (at_ (Ty.pair Ty.str (Ty.sl (nat_lit 3) (Ty.int IntKind.i64))) y2 (Int.toNat y1)).1) : Int) != (2 : Int)) (.out (.inl false)) (.br (true) (.go (IntKind.wrap IntKind.i64 (y1 + (1 : Int)))) (.bad))) (.bad)) (.br (true) (.go (IntKind.wrap IntKind.i64 (y1 + (1 : Int)))) (.bad))) (.bad)))) (.bad)) (.br (true) (.out (.inl false)) (.br (true) (.br (byteAt (at_ (Ty.pair Ty.str (Ty.sl (nat_lit 3) (Ty.int IntKind.i64))) y2 (Int.toNat y1)).1 (nat_lit 0) != (97 : Int)) (.br (true) (.br ((↑(ByteArray.size (at_ (Ty.pair Ty.str (Ty.sl (nat_lit 3) (Ty.int IntKind.i64))) y2 (Int.toNat y1)).1) : Int) != (2 : Int)) (.out (.inl false)) (.br (true) (.go (IntKind.wrap IntKind.i64 (y1 + (1 : Int)))) (.bad))) (.bad)) (.br (true) (.go (IntKind.wrap IntKind.i64 (y1 + (1 : Int)))) (.bad))) (.bad)))) (.bad))) (.bad)) (.br (true) (.br (byteAt (at_ (Ty.pair Ty.str (Ty.sl (nat_lit 3) (Ty.int IntKind.i64))) y2 (Int.toNat y1)).1 (nat_lit 0) == (102 : Int)) (.br (true) (.br ((↑(List.length (at_ (Ty.pair Ty.str (Ty.sl (nat_lit 3) (Ty.int IntKind.i64))) y2 (Int.toNat y1)).2) : Int) == (3 : Int)) (.br (decide ((0 : Int) ≤ (1 : Int) ∧ (1 : Int) < (↑(List.length (at_ (Ty.pair Ty.str (Ty.sl (nat_lit 3) (Ty.int IntKind.i64))) y2 (Int.toNat y1)).2) : Int))) (.br (g_As_l1In (at_ (Ty.int IntKind.i64) (at_ (Ty.pair Ty.str (Ty.sl (nat_lit 3) (Ty.int IntKind.i64))) y2 (Int.toNat y1)).2 (nat_lit 1)) (1 : Int) (99 : Int)) (.br (g_Vs_l1In_0 (at_ (Ty.int IntKind.i64) (at_ (Ty.pair Ty.str (Ty.sl (nat_lit 3) (Ty.int IntKind.i64))) y2 (Int.toNat y1)).2 (nat_lit 1)) (1 : Int) (99 : Int)) (.br (decide ((0 : Int) ≤ (2 : Int) ∧ (2 : Int) < (↑(List.length (at_ (Ty.pair Ty.str (Ty.sl (nat_lit 3) (Ty.int IntKind.i64))) y2 (Int.toNat y1)).2) : Int))) (.br (true) (.br (!decide (at_ (Ty.int IntKind.i64) (at_ (Ty.pair Ty.str (Ty.sl (nat_lit 3) (Ty.int IntKind.i64))) y2 (Int.toNat y1)).2 (nat_lit 2) ≤ (1 : Int))) (.out (.inl false)) (.br (true) (.br (byteAt (at_ (Ty.pair Ty.str (Ty.sl (nat_lit 3) (Ty.int IntKind.i64))) y2 (Int.toNat y1)).1 (nat_lit 0) != (97 : Int)) (.br (true) (.br ((↑(ByteArray.size (at_ (Ty.pair Ty.str (Ty.sl (nat_lit 3) (Ty.int IntKind.i64))) y2 (Int.toNat y1)).1) : Int) != (2 : Int)) (.out (.inl false)) (.br (true) (.go (IntKind.wrap IntKind.i64 (y1 + (1 : Int)))) (.bad))) (.bad)) (.br (true) (.go (IntKind.wrap IntKind.i64 (y1 + (1 : Int)))) (.bad))) (.bad))) (.bad)) (.bad)) (.br (true) (.out (.inl false)) (.br (true) (.br (byteAt (at_ (Ty.pair Ty.str (Ty.sl (nat_lit 3) (Ty.int IntKind.i64))) y2 (Int.toNat y1)).1 (nat_lit 0) != (97 : Int)) (.br (true) (.br ((↑(ByteArray.size (at_ (Ty.pair Ty.str (Ty.sl (nat_lit 3) (Ty.int IntKind.i64))) y2 (Int.toNat y1)).1) : Int) != (2 : Int)) (.out (.inl false)) (.br (true) (.go (IntKind.wrap IntKind.i64 (y1 + (1 : Int)))) (.bad))) (.bad)) (.br (true) (.go (IntKind.wrap IntKind.i64 (y1 + (1 : Int)))) (.bad))) (.bad)))) (.bad)) (.bad)) (.br (true) (.out (.inl false)) (.br (true) (.br (byteAt (at_ (Ty.pair Ty.str (Ty.sl (nat_lit 3) (Ty.int IntKind.i64))) y2 (Int.toNat y1)).1 (nat_lit 0) != (97 : Int)) (.br (true) (.br ((↑(ByteArray.size (at_ (Ty.pair Ty.str (Ty.sl (nat_lit 3) (Ty.int IntKind.i64))) y2 (Int.toNat y1)).1) : Int) != (2 : Int)) (.out (.inl false)) (.br (true) (.go (IntKind.wrap IntKind.i64 (y1 + (1 : Int)))) (.bad))) (.bad)) (.br (true) (.go (IntKind.wrap IntKind.i64 (y1 + (1 : Int)))) (.bad))) (.bad)))) (.bad)) (.br (true) (.out (.inl false)) (.br (true) (.br (byteAt (at_ (Ty.pair Ty.str (Ty.sl (nat_lit 3) (Ty.int IntKind.i64))) y2 (Int.toNat y1)).1 (nat_lit 0) != (97 : Int)) (.br (true) (.br ((↑(ByteArray.size (at_ (Ty.pair Ty.str (Ty.sl (nat_lit 3) (Ty.int IntKind.i64))) y2 (Int.toNat y1)).1) : Int) != (2 : Int)) (.out (.inl false)) (.br (true) (.go (IntKind.wrap IntKind.i64 (y1 + (1 : Int)))) (.bad))) (.bad)) (.br (true) (.go (IntKind.wrap IntKind.i64 (y1 + (1 : Int)))) (.bad))) (.bad)))) (.bad))) (.bad)) (.br (true) (.out (.inl false)) (.br (true) (.br (byteAt (at_ (Ty.pair Ty.str (Ty.sl (nat_lit 3) (Ty.int IntKind.i64))) y2 (Int.toNat y1)).1 (nat_lit 0) != (97 : Int)) (.br (true) (.br ((↑(ByteArray.size (at_ (Ty.pair Ty.str (Ty.sl (nat_lit 3) (Ty.int IntKind.i64))) y2 (Int.toNat y1)).1) : Int) != (2 : Int)) (.out (.inl false)) (.br (true) (.go (IntKind.wrap IntKind.i64 (y1 + (1 : Int)))) (.bad))) (.bad)) (.br (true) (.go (IntKind.wrap IntKind.i64 (y1 + (1 : Int)))) (.bad))) (.bad)))) (.bad)) (.br (true) (.out (.inl false)) (.br (true) (.br (byteAt (at_ (Ty.pair Ty.str (Ty.sl (nat_lit 3) (Ty.int IntKind.i64))) y2 (Int.toNat y1)).1 (nat_lit 0) != (97 : Int)) (.br (true) (.br ((↑(ByteArray.size (at_ (Ty.pair Ty.str (Ty.sl (nat_lit 3) (Ty.int IntKind.i64))) y2 (Int.toNat y1)).1) : Int) != (2 : Int)) (.out (.inl false)) (.br (true) (.go (IntKind.wrap IntKind.i64 (y1 + (1 : Int)))) (.bad))) (.bad)) (.br (true) (.go (IntKind.wrap IntKind.i64 (y1 + (1 : Int)))) (.bad))) (.bad)))) (.bad))) (.bad))) (.bad)) (.br (true) (.br (y0 == (3 : Int)) (.br (true) (.br (byteAt (at_ (Ty.pair Ty.str (Ty.sl (nat_lit 3) (Ty.int IntKind.i64))) y2 (Int.toNat y1)).1 (nat_lit 0) == (97 : Int)) (.br (true) (.br ((↑(List.length (at_ (Ty.pair Ty.str (Ty.sl (nat_lit 3) (Ty.int IntKind.i64))) y2 (Int.toNat y1)).2) : Int) == (1 : Int)) (.br (false) (.out (.inl false)) (.br (true) (.br (byteAt (at_ (Ty.pair Ty.str (Ty.sl (nat_lit 3) (Ty.int IntKind.i64))) y2 (Int.toNat y1)).1 (nat_lit 0) != (97 : Int)) (.br (true) (.br ((↑(ByteArray.size (at_ (Ty.pair Ty.str (Ty.sl (nat_lit 3) (Ty.int IntKind.i64))) y2 (Int.toNat y1)).1) : Int) != (2 : Int)) (.out (.inl false)) (.br (true) (.go (IntKind.wrap IntKind.i64 (y1 + (1 : Int)))) (.bad))) (.bad)) (.br (true) (.go (IntKind.wrap IntKind.i64 (y1 + (1 : Int)))) (.bad))) (.bad))) (.br (true) (.br (y0 == (2 : Int)) (.br (true) (.br (decide (at_ (Ty.int IntKind.i64) (at_ (Ty.pair Ty.str (Ty.sl (nat_lit 3) (Ty.int IntKind.i64))) y2 (Int.toNat y1)).2 (nat_lit 0) ≤ (9 : Int))) (.br (true) (.br (byteAt (at_ (Ty.pair Ty.str (Ty.sl (nat_lit 3) (Ty.int IntKind.i64))) y2 (Int.toNat y1)).1 (nat_lit 0) == (99 : Int)) (.br (true) (.br ((↑(List.length (at_ (Ty.pair Ty.str (Ty.sl (nat_lit 3) (Ty.int IntKind.i64))) y2 (Int.toNat y1)).2) : Int) == (2 : Int)) (.br (false) (.out (.inl false)) (.br (true) (.br (byteAt (at_ (Ty.pair Ty.str (Ty.sl (nat_lit 3) (Ty.int IntKind.i64))) y2 (Int.toNat y1)).1 (nat_lit 0) != (97 : Int)) (.br (true) (.br ((↑(ByteArray.size (at_ (Ty.pair Ty.str (Ty.sl (nat_lit 3) (Ty.int IntKind.i64))) y2 (Int.toNat y1)).1) : Int) != (2 : Int)) (.out (.inl false)) (.br (true) (.go (IntKind.wrap IntKind.i64 (y1 + (1 : Int)))) (.bad))) (.bad)) (.br (true) (.go (IntKind.wrap IntKind.i64 (y1 + (1 : Int)))) (.bad))) (.bad))) (.br (true) (.br (byteAt (at_ (Ty.pair Ty.str (Ty.sl (nat_lit 3) (Ty.int IntKind.i64))) y2 (Int.toNat y1)).1 (nat_lit 0) == (102 : Int)) (.br (true) (.br ((↑(List.length (at_ (Ty.pair Ty.str (Ty.sl (nat_lit 3) (Ty.int IntKind.i64))) y2 (Int.toNat y1)).2) : Int) == (3 : Int)) (.br (decide ((0 : Int) ≤ (1 : Int) ∧ (1 : Int) < (↑(List.length (at_ (Ty.pair Ty.str (Ty.sl (nat_lit 3) (Ty.int IntKind.i64))) y2 (Int.toNat y1)).2) : Int))) (.br (g_As_l1In (at_ (Ty.int IntKind.i64) (at_ (Ty.pair Ty.str (Ty.sl (nat_lit 3) (Ty.int IntKind.i64))) y2 (Int.toNat y1)).2 (nat_lit 1)) (1 : Int) (99 : Int)) (.br (g_Vs_l1In_0 (at_ (Ty.int IntKind.i64) (at_ (Ty.pair Ty.str (Ty.sl (nat_lit 3) (Ty.int IntKind.i64))) y2 (Int.toNat y1)).2 (nat_lit 1)) (1 : Int) (99 : Int)) (.br (decide ((0 : Int) ≤ (2 : Int) ∧ (2 : Int) < (↑(List.length (at_ (Ty.pair Ty.str (Ty.sl (nat_lit 3) (Ty.int IntKind.i64))) y2 (Int.toNat y1)).2) : Int))) (.br (true) (.br (!decide (at_ (Ty.int IntKind.i64) (at_ (Ty.pair Ty.str (Ty.sl (nat_lit 3) (Ty.int IntKind.i64))) y2 (Int.toNat y1)).2 (nat_lit 2) ≤ (1 : Int))) (.out (.inl false)) (.br (true) (.br (byteAt (at_ (Ty.pair Ty.str (Ty.sl (nat_lit 3) (Ty.int IntKind.i64))) y2 (Int.toNat y1)).1 (nat_lit 0) != (97 : Int)) (.br (true) (.br ((↑(ByteArray.size (at_ (Ty.pair Ty.str (Ty.sl (nat_lit 3) (Ty.int IntKind.i64))) y2 (Int.toNat y1)).1) : Int) != (2 : Int)) (.out (.inl false)) (.br (true) (.go (IntKind.wrap IntKind.i64 (y1 + (1 : Int)))) (.bad))) (.bad)) (.br (true) (.go (IntKind.wrap IntKind.i64 (y1 + (1 : Int)))) (.bad))) (.bad))) (.bad)) (.bad)) (.br (true) (.out (.inl false)) (.br (true) (.br (byteAt (at_ (Ty.pair Ty.str (Ty.sl (nat_lit 3) (Ty.int IntKind.i64))) y2 (Int.toNat y1)).1 (nat_lit 0) != (97 : Int)) (.br (true) (.br ((↑(ByteArray.size (at_ (Ty.pair Ty.str (Ty.sl (nat_lit 3) (Ty.int IntKind.i64))) y2 (Int.toNat y1)).1) : Int) != (2 : Int)) (.out (.inl false)) (.br (true) (.go (IntKind.wrap IntKind.i64 (y1 + (1 : Int)))) (.bad))) (.bad)) (.br (true) (.go (IntKind.wrap IntKind.i64 (y1 + (1 : Int)))) (.bad))) (.bad)))) (.bad)) (.bad)) (.br (true) (.out (.inl false)) (.br (true) (.br (byteAt (at_ (Ty.pair Ty.str (Ty.sl (nat_lit 3) (Ty.int IntKind.i64))) y2 (Int.toNat y1)).1 (nat_lit 0) != (97 : Int)) (.br (true) (.br ((↑(ByteArray.size (at_ (Ty.pair Ty.str (Ty.sl (nat_lit 3) (Ty.int IntKind.i64))) y2 (Int.toNat y1)).1) : Int) != (2 : Int)) (.out (.inl false)) (.br (true) (.go (IntKind.wrap IntKind.i64 (y1 + (1 : Int)))) (.bad))) (.bad)) (.br (true) (.go (IntKind.wrap IntKind.i64 (y1 + (1 : Int)))) (.bad))) (.bad)))) (.bad)) (.br (true) (.out (.inl false)) (.br (true) (.br (byteAt (at_ (Ty.pair Ty.str (Ty.sl (nat_lit 3) (Ty.int IntKind.i64))) y2 (Int.toNat y1)).1 (nat_lit 0) != (97 : Int)) (.br (true) (.br ((↑(ByteArray.size (at_ (Ty.pair Ty.str (Ty.sl (nat_lit 3) (Ty.int IntKind.i64))) y2 (Int.toNat y1)).1) : Int) != (2 : Int)) (.out (.inl false)) (.br (true) (.go (IntKind.wrap IntKind.i64 (y1 + (1 : Int)))) (.bad))) (.bad)) (.br (true) (.go (IntKind.wrap IntKind.i64 (y1 + (1 : Int)))) (.bad))) (.bad)))) (.bad))) (.bad)) (.br (true) (.br (byteAt (at_ (Ty.pair Ty.str (Ty.sl (nat_lit 3) (Ty.int IntKind.i64))) y2 (Int.toNat y1)).1 (nat_lit 0) == (102 : Int)) (.br (true) (.br ((↑(List.length (at_ (Ty.pair Ty.str (Ty.sl (nat_lit 3) (Ty.int IntKind.i64))) y2 (Int.toNat y1)).2) : Int) == (3 : Int)) (.br (decide ((0 : Int) ≤ (1 : Int) ∧ (1 : Int) < (↑(List.length (at_ (Ty.pair Ty.str (Ty.sl (nat_lit 3) (Ty.int IntKind.i64))) y2 (Int.toNat y1)).2) : Int))) (.br (g_As_l1In (at_ (Ty.int IntKind.i64) (at_ (Ty.pair Ty.str (Ty.sl (nat_lit 3) (Ty.int IntKind.i64))) y2 (Int.toNat y1)).2 (nat_lit 1)) (1 : Int) (99 : Int)) (.br (g_Vs_l1In_0 (at_ (Ty.int IntKind.i64) (at_ (Ty.pair Ty.str (Ty.sl (nat_lit 3) (Ty.int IntKind.i64))) y2 (Int.toNat y1)).2 (nat_lit 1)) (1 : Int) (99 : Int)) (.br (decide ((0 : Int) ≤ (2 : Int) ∧ (2 : Int) < (↑(List.length (at_ (Ty.pair Ty.str (Ty.sl (nat_lit 3) (Ty.int IntKind.i64))) y2 (Int.toNat y1)).2) : Int))) (.br (true) (.br (!decide (at_ (Ty.int IntKind.i64) (at_ (Ty.pair Ty.str (Ty.sl (nat_lit 3) (Ty.int IntKind.i64))) y2 (Int.toNat y1)).2 (nat_lit 2) ≤ (1 : Int))) (.out (.inl false)) (.br (true) (.br (byteAt (at_ (Ty.pair Ty.str (Ty.sl (nat_lit 3) (Ty.int IntKind.i64))) y2 (Int.toNat y1)).1 (nat_lit 0) != (97 : Int)) (.br (true) (.br ((↑(ByteArray.size (at_ (Ty.pair Ty.str (Ty.sl (nat_lit 3) (Ty.int IntKind.i64))) y2 (Int.toNat y1)).1) : Int) != (2 : Int)) (.out (.inl false)) (.br (true) (.go (IntKind.wrap IntKind.i64 (y1 + (1 : Int)))) (.bad))) (.bad)) (.br (true) (.go (IntKind.wrap IntKind.i64 (y1 + (1 : Int)))) (.bad))) (.bad))) (.bad)) (.bad)) (.br (true) (.out (.inl false)) (.br (true) (.br (byteAt (at_ (Ty.pair Ty.str (Ty.sl (nat_lit 3) (Ty.int IntKind.i64))) y2 (Int.toNat y1)).1 (nat_lit 0) != (97 : Int)) (.br (true) (.br ((↑(ByteArray.size (at_ (Ty.pair Ty.str (Ty.sl (nat_lit 3) (Ty.int IntKind.i64))) y2 (Int.toNat y1)).1) : Int) != (2 : Int)) (.out (.inl false)) (.br (true) (.go (IntKind.wrap IntKind.i64 (y1 + (1 : Int)))) (.bad))) (.bad)) (.br (true) (.go (IntKind.wrap IntKind.i64 (y1 + (1 : Int)))) (.bad))) (.bad)))) (.bad)) (.bad)) (.br (true) (.out (.inl false)) (.br (true) (.br (byteAt (at_ (Ty.pair Ty.str (Ty.sl (nat_lit 3) (Ty.int IntKind.i64))) y2 (Int.toNat y1)).1 (nat_lit 0) != (97 : Int)) (.br (true) (.br ((↑(ByteArray.size (at_ (Ty.pair Ty.str (Ty.sl (nat_lit 3) (Ty.int IntKind.i64))) y2 (Int.toNat y1)).1) : Int) != (2 : Int)) (.out (.inl false)) (.br (true) (.go (IntKind.wrap IntKind.i64 (y1 + (1 : Int)))) (.bad))) (.bad)) (.br (true) (.go (IntKind.wrap IntKind.i64 (y1 + (1 : Int)))) (.bad))) (.bad)))) (.bad)) (.br (true) (.out (.inl false)) (.br (true) (.br (byteAt (at_ (Ty.pair Ty.str (Ty.sl (nat_lit 3) (Ty.int IntKind.i64))) y2 (Int.toNat y1)).1 (nat_lit 0) != (97 : Int)) (.br (true) (.br ((↑(ByteArray.size (at_ (Ty.pair Ty.str (Ty.sl (nat_lit 3) (Ty.int IntKind.i64))) y2 (Int.toNat y1)).1) : Int) != (2 : Int)) (.out (.inl false)) (.br (true) (.go (IntKind.wrap IntKind.i64 (y1 + (1 : Int)))) (.bad))) (.bad)) (.br (true) (.go (IntKind.wrap IntKind.i64 (y1 + (1 : Int)))) (.bad))) (.bad)))) (.bad))) (.bad)) (.br (true) (.out (.inl false)) (.br (true) (.br (byteAt (at_ (Ty.pair Ty.str (Ty.sl (nat_lit 3) (Ty.int IntKind.i64))) y2 (Int.toNat y1)).1 (nat_lit 0) != (97 : Int)) (.br (true) (.br ((↑(ByteArray.size (at_ (Ty.pair Ty.str (Ty.sl (nat_lit 3) (Ty.int IntKind.i64))) y2 (Int.toNat y1)).1) : Int) != (2 : Int)) (.out (.inl false)) (.br (true) (.go (IntKind.wrap IntKind.i64 (y1 + (1 : Int)))) (.bad))) (.bad)) (.br (true) (.go (IntKind.wrap IntKind.i64 (y1 + (1 : Int)))) (.bad))) (.bad)))) (.bad)) (.br (true) (.out (.inl false)) (.br (true) (.br (byteAt (at_ (Ty.pair Ty.str (Ty.sl (nat_lit 3) (Ty.int IntKind.i64))) y2 (Int.toNat y1)).1 (nat_lit 0) != (97 : Int)) (.br (true) (.br ((↑(ByteArray.size (at_ (Ty.pair Ty.str (Ty.sl (nat_lit 3) (Ty.int IntKind.i64))) y2 (Int.toNat y1)).1) : Int) != (2 : Int)) (.out (.inl false)) (.br (true) (.go (IntKind.wrap IntKind.i64 (y1 + (1 : Int)))) (.bad))) (.bad)) (.br (true) (.go (IntKind.wrap IntKind.i64 (y1 + (1 : Int)))) (.bad))) (.bad)))) (.bad))) (.bad)) (.br (true) (.br (y0 == (2 : Int)) (.br (true) (.br (decide (at_ (Ty.int IntKind.i64) (at_ (Ty.pair Ty.str (Ty.sl (nat_lit 3) (Ty.int IntKind.i64))) y2 (Int.toNat y1)).2 (nat_lit 0) ≤ (9 : Int))) (.br (true) (.br (byteAt (at_ (Ty.pair Ty.str (Ty.sl (nat_lit 3) (Ty.int IntKind.i64))) y2 (Int.toNat y1)).1 (nat_lit 0) == (99 : Int)) (.br (true) (.br ((↑(List.length (at_ (Ty.pair Ty.str (Ty.sl (nat_lit 3) (Ty.int IntKind.i64))) y2 (Int.toNat y1)).2) : Int) == (2 : Int)) (.br (false) (.out (.inl false)) (.br (true) (.br (byteAt (at_ (Ty.pair Ty.str (Ty.sl (nat_lit 3) (Ty.int IntKind.i64))) y2 (Int.toNat y1)).1 (nat_lit 0) != (97 : Int)) (.br (true) (.br ((↑(ByteArray.size (at_ (Ty.pair Ty.str (Ty.sl (nat_lit 3) (Ty.int IntKind.i64))) y2 (Int.toNat y1)).1) : Int) != (2 : Int)) (.out (.inl false)) (.br (true) (.go (IntKind.wrap IntKind.i64 (y1 + (1 : Int)))) (.bad))) (.bad)) (.br (true) (.go (IntKind.wrap IntKind.i64 (y1 + (1 : Int)))) (.bad))) (.bad))) (.br (true) (.br (byteAt (at_ (Ty.pair Ty.str (Ty.sl (nat_lit 3) (Ty.int IntKind.i64))) y2 (Int.toNat y1)).1 (nat_lit 0) == (102 : Int)) (.br (true) (.br ((↑(List.length (at_ (Ty.pair Ty.str (Ty.sl (nat_lit 3) (Ty.int IntKind.i64))) y2 (Int.toNat y1)).2) : Int) == (3 : Int)) (.br (decide ((0 : Int) ≤ (1 : Int) ∧ (1 : Int) < (↑(List.length (at_ (Ty.pair Ty.str (Ty.sl (nat_lit 3) (Ty.int IntKind.i64))) y2 (Int.toNat y1)).2) : Int))) (.br (g_As_l1In (at_ (Ty.int IntKind.i64) (at_ (Ty.pair Ty.str (Ty.sl (nat_lit 3) (Ty.int IntKind.i64))) y2 (Int.toNat y1)).2 (nat_lit 1)) (1 : Int) (99 : Int)) (.br (g_Vs_l1In_0 (at_ (Ty.int IntKind.i64) (at_ (Ty.pair Ty.str (Ty.sl (nat_lit 3) (Ty.int IntKind.i64))) y2 (Int.toNat y1)).2 (nat_lit 1)) (1 : Int) (99 : Int)) (.br (decide ((0 : Int) ≤ (2 : Int) ∧ (2 : Int) < (↑(List.length (at_ (Ty.pair Ty.str (Ty.sl (nat_lit 3) (Ty.int IntKind.i64))) y2 (Int.toNat y1)).2) : Int))) (.br (true) (.br (!decide (at_ (Ty.int IntKind.i64) (at_ (Ty.pair Ty.str (Ty.sl (nat_lit 3) (Ty.int IntKind.i64))) y2 (Int.toNat y1)).2 (nat_lit 2) ≤ (1 : Int))) (.out (.inl false)) (.br (true) (.br (byteAt (at_ (Ty.pair Ty.str (Ty.sl (nat_lit 3) (Ty.int IntKind.i64))) y2 (Int.toNat y1)).1 (nat_lit 0) != (97 : Int)) (.br (true) (.br ((↑(ByteArray.size (at_ (Ty.pair Ty.str (Ty.sl (nat_lit 3) (Ty.int IntKind.i64))) y2 (Int.toNat y1)).1) : Int) != (2 : Int)) (.out (.inl false)) (.br (true) (.go (IntKind.wrap IntKind.i64 (y1 + (1 : Int)))) (.bad))) (.bad)) (.br (true) (.go (IntKind.wrap IntKind.i64 (y1 + (1 : Int)))) (.bad))) (.bad))) (.bad)) (.bad)) (.br (true) (.out (.inl false)) (.br (true) (.br (byteAt (at_ (Ty.pair Ty.str (Ty.sl (nat_lit 3) (Ty.int IntKind.i64))) y2 (Int.toNat y1)).1 (nat_lit 0) != (97 : Int)) (.br (true) (.br ((↑(ByteArray.size (at_ (Ty.pair Ty.str (Ty.sl (nat_lit 3) (Ty.int IntKind.i64))) y2 (Int.toNat y1)).1) : Int) != (2 : Int)) (.out (.inl false)) (.br (true) (.go (IntKind.wrap IntKind.i64 (y1 + (1 : Int)))) (.bad))) (.bad)) (.br (true) (.go (IntKind.wrap IntKind.i64 (y1 + (1 : Int)))) (.bad))) (.bad)))) (.bad)) (.bad)) (.br (true) (.out (.inl false)) (.br (true) (.br (byteAt (at_ (Ty.pair Ty.str (Ty.sl (nat_lit 3) (Ty.int IntKind.i64))) y2 (Int.toNat y1)).1 (nat_lit 0) != (97 : Int)) (.br (true) (.br ((↑(ByteArray.size (at_ (Ty.pair Ty.str (Ty.sl (nat_lit 3) (Ty.int IntKind.i64))) y2 (Int.toNat y1)).1) : Int) != (2 : Int)) (.out (.inl false)) (.br (true) (.go (IntKind.wrap IntKind.i64 (y1 + (1 : Int)))) (.bad))) (.bad)) (.br (true) (.go (IntKind.wrap IntKind.i64 (y1 + (1 : Int)))) (.bad))) (.bad)))) (.bad)) (.br (true) (.out (.inl false)) (.br (true) (.br (byteAt (at_ (Ty.pair Ty.str (Ty.sl (nat_lit 3) (Ty.int IntKind.i64))) y2 (Int.toNat y1)).1 (nat_lit 0) != (97 : Int)) (.br (true) (.br ((↑(ByteArray.size (at_ (Ty.pair Ty.str (Ty.sl (nat_lit 3) (Ty.int IntKind.i64))) y2 (Int.toNat y1)).1) : Int) != (2 : Int)) (.out (.inl false)) (.br (true) (.go (IntKind.wrap IntKind.i64 (y1 + (1 : Int)))) (.bad))) (.bad)) (.br (true) (.go (IntKind.wrap IntKind.i64 (y1 + (1 : Int)))) (.bad))) (.bad)))) (.bad))) (.bad)) (.br (true) (.br (byteAt (at_ (Ty.pair Ty.str (Ty.sl (nat_lit 3) (Ty.int IntKind.i64))) y2 (Int.toNat y1)).1 (nat_lit 0) == (102 : Int)) (.br (true) (.br ((↑(List.length (at_ (Ty.pair Ty.str (Ty.sl (nat_lit 3) (Ty.int IntKind.i64))) y2 (Int.toNat y1)).2) : Int) == (3 : Int)) (.br (decide ((0 : Int) ≤ (1 : Int) ∧ (1 : Int) < (↑(List.length (at_ (Ty.pair Ty.str (Ty.sl (nat_lit 3) (Ty.int IntKind.i64))) y2 (Int.toNat y1)).2) : Int))) (.br (g_As_l1In (at_ (Ty.int IntKind.i64) (at_ (Ty.pair Ty.str (Ty.sl (nat_lit 3) (Ty.int IntKind.i64))) y2 (Int.toNat y1)).2 (nat_lit 1)) (1 : Int) (99 : Int)) (.br (g_Vs_l1In_0 (at_ (Ty.int IntKind.i64) (at_ (Ty.pair Ty.str (Ty.sl (nat_lit 3) (Ty.int IntKind.i64))) y2 (Int.toNat y1)).2 (nat_lit 1)) (1 : Int) (99 : Int)) (.br (decide ((0 : Int) ≤ (2 : Int) ∧ (2 : Int) < (↑(List.length (at_ (Ty.pair Ty.str (Ty.sl (nat_lit 3) (Ty.int IntKind.i64))) y2 (Int.toNat y1)).2) : Int))) (.br (true) (.br (!decide (at_ (Ty.int IntKind.i64) (at_ (Ty.pair Ty.str (Ty.sl (nat_lit 3) (Ty.int IntKind.i64))) y2 (Int.toNat y1)).2 (nat_lit 2) ≤ (1 : Int))) (.out (.inl false)) (.br (true) (.br (byteAt (at_ (Ty.pair Ty.str (Ty.sl (nat_lit 3) (Ty.int IntKind.i64))) y2 (Int.toNat y1)).1 (nat_lit 0) != (97 : Int)) (.br (true) (.br ((↑(ByteArray.size (at_ (Ty.pair Ty.str (Ty.sl (nat_lit 3) (Ty.int IntKind.i64))) y2 (Int.toNat y1)).1) : Int) != (2 : Int)) (.out (.inl false)) (.br (true) (.go (IntKind.wrap IntKind.i64 (y1 + (1 : Int)))) (.bad))) (.bad)) (.br (true) (.go (IntKind.wrap IntKind.i64 (y1 + (1 : Int)))) (.bad))) (.bad))) (.bad)) (.bad)) (.br (true) (.out (.inl false)) (.br (true) (.br (byteAt (at_ (Ty.pair Ty.str (Ty.sl (nat_lit 3) (Ty.int IntKind.i64))) y2 (Int.toNat y1)).1 (nat_lit 0) != (97 : Int)) (.br (true) (.br ((↑(ByteArray.size (at_ (Ty.pair Ty.str (Ty.sl (nat_lit 3) (Ty.int IntKind.i64))) y2 (Int.toNat y1)).1) : Int) != (2 : Int)) (.out (.inl false)) (.br (true) (.go (IntKind.wrap IntKind.i64 (y1 + (1 : Int)))) (.bad))) (.bad)) (.br (true) (.go (IntKind.wrap IntKind.i64 (y1 + (1 : Int)))) (.bad))) (.bad)))) (.bad)) (.bad)) (.br (true) (.out (.inl false)) (.br (true) (.br (byteAt (at_ (Ty.pair Ty.str (Ty.sl (nat_lit 3) (Ty.int IntKind.i64))) y2 (Int.toNat y1)).1 (nat_lit 0) != (97 : Int)) (.br (true) (.br ((↑(ByteArray.size (at_ (Ty.pair Ty.str (Ty.sl (nat_lit 3) (Ty.int IntKind.i64))) y2 (Int.toNat y1)).1) : Int) != (2 : Int)) (.out (.inl false)) (.br (true) (.go (IntKind.wrap IntKind.i64 (y1 + (1 : Int)))) (.bad))) (.bad)) (.br (true) (.go (IntKind.wrap IntKind.i64 (y1 + (1 : Int)))) (.bad))) (.bad)))) (.bad)) (.br (true) (.out (.inl false)) (.br (true) (.br (byteAt (at_ (Ty.pair Ty.str (Ty.sl (nat_lit 3) (Ty.int IntKind.i64))) y2 (Int.toNat y1)).1 (nat_lit 0) != (97 : Int)) (.br (true) (.br ((↑(ByteArray.size (at_ (Ty.pair Ty.str (Ty.sl (nat_lit 3) (Ty.int IntKind.i64))) y2 (Int.toNat y1)).1) : Int) != (2 : Int)) (.out (.inl false)) (.br (true) (.go (IntKind.wrap IntKind.i64 (y1 + (1 : Int)))) (.bad))) (.bad)) (.br (true) (.go (IntKind.wrap IntKind.i64 (y1 + (1 : Int)))) (.bad))) (.bad)))) (.bad))) (.bad)) (.br (true) (.out (.inl false)) (.br (true) (.br (byteAt (at_ (Ty.pair Ty.str (Ty.sl (nat_lit 3) (Ty.int IntKind.i64))) y2 (Int.toNat y1)).1 (nat_lit 0) != (97 : Int)) (.br (true) (.br ((↑(ByteArray.size (at_ (Ty.pair Ty.str (Ty.sl (nat_lit 3) (Ty.int IntKind.i64))) y2 (Int.toNat y1)).1) : Int) != (2 : Int)) (.out (.inl false)) (.br (true) (.go (IntKind.wrap IntKind.i64 (y1 + (1 : Int)))) (.bad))) (.bad)) (.br (true) (.go (IntKind.wrap IntKind.i64 (y1 + (1 : Int)))) (.bad))) (.bad)))) (.bad)) (.br (true) (.out (.inl false)) (.br (true) (.br (byteAt (at_ (Ty.pair Ty.str (Ty.sl (nat_lit 3) (Ty.int IntKind.i64))) y2 (Int.toNat y1)).1 (nat_lit 0) != (97 : Int)) (.br (true) (.br ((↑(ByteArray.size (at_ (Ty.pair Ty.str (Ty.sl (nat_lit 3) (Ty.int IntKind.i64))) y2 (Int.toNat y1)).1) : Int) != (2 : Int)) (.out (.inl false)) (.br (true) (.go (IntKind.wrap IntKind.i64 (y1 + (1 : Int)))) (.bad))) (.bad)) (.br (true) (.go (IntKind.wrap IntKind.i64 (y1 + (1 : Int)))) (.bad))) (.bad)))) (.bad))) (.bad)) (.br (true) (.br (y0 == (2 : Int)) (.br (true) (.br (decide (at_ (Ty.int IntKind.i64) (at_ (Ty.pair Ty.str (Ty.sl (nat_lit 3) (Ty.int IntKind.i64))) y2 (Int.toNat y1)).2 (nat_lit 0) ≤ (9 : Int))) (.br (true) (.br (byteAt (at_ (Ty.pair Ty.str (Ty.sl (nat_lit 3) (Ty.int IntKind.i64))) y2 (Int.toNat y1)).1 (nat_lit 0) == (99 : Int)) (.br (true) (.br ((↑(List.length (at_ (Ty.pair Ty.str (Ty.sl (nat_lit 3) (Ty.int IntKind.i64))) y2 (Int.toNat y1)).2) : Int) == (2 : Int)) (.br (false) (.out (.inl false)) (.br (true) (.br (byteAt (at_ (Ty.pair Ty.str (Ty.sl (nat_lit 3) (Ty.int IntKind.i64))) y2 (Int.toNat y1)).1 (nat_lit 0) != (97 : Int)) (.br (true) (.br ((↑(ByteArray.size (at_ (Ty.pair Ty.str (Ty.sl (nat_lit 3) (Ty.int IntKind.i64))) y2 (Int.toNat y1)).1) : Int) != (2 : Int)) (.out (.inl false)) (.br (true) (.go (IntKind.wrap IntKind.i64 (y1 + (1 : Int)))) (.bad))) (.bad)) (.br (true) (.go (IntKind.wrap IntKind.i64 (y1 + (1 : Int)))) (.bad))) (.bad))) (.br (true) (.br (byteAt (at_ (Ty.pair Ty.str (Ty.sl (nat_lit 3) (Ty.int IntKind.i64))) y2 (Int.toNat y1)).1 (nat_lit 0) == (102 : Int)) (.br (true) (.br ((↑(List.length (at_ (Ty.pair Ty.str (Ty.sl (nat_lit 3) (Ty.int IntKind.i64))) y2 (Int.toNat y1)).2) : Int) == (3 : Int)) (.br (decide ((0 : Int) ≤ (1 : Int) ∧ (1 : Int) < (↑(List.length (at_ (Ty.pair Ty.str (Ty.sl (nat_lit 3) (Ty.int IntKind.i64))) y2 (Int.toNat y1)).2) : Int))) (.br (g_As_l1In (at_ (Ty.int IntKind.i64) (at_ (Ty.pair Ty.str (Ty.sl (nat_lit 3) (Ty.int IntKind.i64))) y2 (Int.toNat y1)).2 (nat_lit 1)) (1 : Int) (99 : Int)) (.br (g_Vs_l1In_0 (at_ (Ty.int IntKind.i64) (at_ (Ty.pair Ty.str (Ty.sl (nat_lit 3) (Ty.int IntKind.i64))) y2 (Int.toNat y1)).2 (nat_lit 1)) (1 : Int) (99 : Int)) (.br (decide ((0 : Int) ≤ (2 : Int) ∧ (2 : Int) < (↑(List.length (at_ (Ty.pair Ty.str (Ty.sl (nat_lit 3) (Ty.int IntKind.i64))) y2 (Int.toNat y1)).2) : Int))) (.br (true) (.br (!decide (at_ (Ty.int IntKind.i64) (at_ (Ty.pair Ty.str (Ty.sl (nat_lit 3) (Ty.int IntKind.i64))) y2 (Int.toNat y1)).2 (nat_lit 2) ≤ (1 : Int))) (.out (.inl false)) (.br (true) (.br (byteAt (at_ (Ty.pair Ty.str (Ty.sl (nat_lit 3) (Ty.int IntKind.i64))) y2 (Int.toNat y1)).1 (nat_lit 0) != (97 : Int)) (.br (true) (.br ((↑(ByteArray.size (at_ (Ty.pair Ty.str (Ty.sl (nat_lit 3) (Ty.int IntKind.i64))) y2 (Int.toNat y1)).1) : Int) != (2 : Int)) (.out (.inl false)) (.br (true) (.go (IntKind.wrap IntKind.i64 (y1 + (1 : Int)))) (.bad))) (.bad)) (.br (true) (.go (IntKind.wrap IntKind.i64 (y1 + (1 : Int)))) (.bad))) (.bad))) (.bad)) (.bad)) (.br (true) (.out (.inl false)) (.br (true) (.br (byteAt (at_ (Ty.pair Ty.str (Ty.sl (nat_lit 3) (Ty.int IntKind.i64))) y2 (Int.toNat y1)).1 (nat_lit 0) != (97 : Int)) (.br (true) (.br ((↑(ByteArray.size (at_ (Ty.pair Ty.str (Ty.sl (nat_lit 3) (Ty.int IntKind.i64))) y2 (Int.toNat y1)).1) : Int) != (2 : Int)) (.out (.inl false)) (.br (true) (.go (IntKind.wrap IntKind.i64 (y1 + (1 : Int)))) (.bad))) (.bad)) (.br (true) (.go (IntKind.wrap IntKind.i64 (y1 + (1 : Int)))) (.bad))) (.bad)))) (.bad)) (.bad)) (.br (true) (.out (.inl false)) (.br (true) (.br (byteAt (at_ (Ty.pair Ty.str (Ty.sl (nat_lit 3) (Ty.int IntKind.i64))) y2 (Int.toNat y1)).1 (nat_lit 0) != (97 : Int)) (.br (true) (.br ((↑(ByteArray.size (at_ (Ty.pair Ty.str (Ty.sl (nat_lit 3) (Ty.int IntKind.i64))) y2 (Int.toNat y1)).1) : Int) != (2 : Int)) (.out (.inl false)) (.br (true) (.go (IntKind.wrap IntKind.i64 (y1 + (1 : Int)))) (.bad))) (.bad)) (.br (true) (.go (IntKind.wrap IntKind.i64 (y1 + (1 : Int)))) (.bad))) (.bad)))) (.bad)) (.br (true) (.out (.inl false)) (.br (true) (.br (byteAt (at_ (Ty.pair Ty.str (Ty.sl (nat_lit 3) (Ty.int IntKind.i64))) y2 (Int.toNat y1)).1 (nat_lit 0) != (97 : Int)) (.br (true) (.br ((↑(ByteArray.size (at_ (Ty.pair Ty.str (Ty.sl (nat_lit 3) (Ty.int IntKind.i64))) y2 (Int.toNat y1)).1) : Int) != (2 : Int)) (.out (.inl false)) (.br (true) (.go (IntKind.wrap IntKind.i64 (y1 + (1 : Int)))) (.bad))) (.bad)) (.br (true) (.go (IntKind.wrap IntKind.i64 (y1 + (1 : Int)))) (.bad))) (.bad)))) (.bad))) (.bad)) (.br (true) (.br (byteAt (at_ (Ty.pair Ty.str (Ty.sl (nat_lit 3) (Ty.int IntKind.i64))) y2 (Int.toNat y1)).1 (nat_lit 0) == (102 : Int)) (.br (true) (.br ((↑(List.length (at_ (Ty.pair Ty.str (Ty.sl (nat_lit 3) (Ty.int IntKind.i64))) y2 (Int.toNat y1)).2) : Int) == (3 : Int)) (.br (decide ((0 : Int) ≤ (1 : Int) ∧ (1 : Int) < (↑(List.length (at_ (Ty.pair Ty.str (Ty.sl (nat_lit 3) (Ty.int IntKind.i64))) y2 (Int.toNat y1)).2) : Int))) (.br (g_As_l1In (at_ (Ty.int IntKind.i64) (at_ (Ty.pair Ty.str (Ty.sl (nat_lit 3) (Ty.int IntKind.i64))) y2 (Int.toNat y1)).2 (nat_lit 1)) (1 : Int) (99 : Int)) (.br (g_Vs_l1In_0 (at_ (Ty.int IntKind.i64) (at_ (Ty.pair Ty.str (Ty.sl (nat_lit 3) (Ty.int IntKind.i64))) y2 (Int.toNat y1)).2 (nat_lit 1)) (1 : Int) (99 : Int)) (.br (decide ((0 : Int) ≤ (2 : Int) ∧ (2 : Int) < (↑(List.length (at_ (Ty.pair Ty.str (Ty.sl (nat_lit 3) (Ty.int IntKind.i64))) y2 (Int.toNat y1)).2) : Int))) (.br (true) (.br (!decide (at_ (Ty.int IntKind.i64) (at_ (Ty.pair Ty.str (Ty.sl (nat_lit 3) (Ty.int IntKind.i64))) y2 (Int.toNat y1)).2 (nat_lit 2) ≤ (1 : Int))) (.out (.inl false)) (.br (true) (.br (byteAt (at_ (Ty.pair Ty.str (Ty.sl (nat_lit 3) (Ty.int IntKind.i64))) y2 (Int.toNat y1)).1 (nat_lit 0) != (97 : Int)) (.br (true) (.br ((↑(ByteArray.size (at_ (Ty.pair Ty.str (Ty.sl (nat_lit 3) (Ty.int IntKind.i64))) y2 (Int.toNat y1)).1) : Int) != (2 : Int)) (.out (.inl false)) (.br (true) (.go (IntKind.wrap IntKind.i64 (y1 + (1 : Int)))) (.bad))) (.bad)) (.br (true) (.go (IntKind.wrap IntKind.i64 (y1 + (1 : Int)))) (.bad))) (.bad))) (.bad)) (.bad)) (.br (true) (.out (.inl false)) (.br (true) (.br (byteAt (at_ (Ty.pair Ty.str (Ty.sl (nat_lit 3) (Ty.int IntKind.i64))) y2 (Int.toNat y1)).1 (nat_lit 0) != (97 : Int)) (.br (true) (.br ((↑(ByteArray.size (at_ (Ty.pair Ty.str (Ty.sl (nat_lit 3) (Ty.int IntKind.i64))) y2 (Int.toNat y1)).1) : Int) != (2 : Int)) (.out (.inl false)) (.br (true) (.go (IntKind.wrap IntKind.i64 (y1 + (1 : Int)))) (.bad))) (.bad)) (.br (true) (.go (IntKind.wrap IntKind.i64 (y1 + (1 : Int)))) (.bad))) (.bad)))) (.bad)) (.bad)) (.br (true) (.out (.inl false)) (.br (true) (.br (byteAt (at_ (Ty.pair Ty.str (Ty.sl (nat_lit 3) (Ty.int IntKind.i64))) y2 (Int.toNat y1)).1 (nat_lit 0) != (97 : Int)) (.br (true) (.br ((↑(ByteArray.size (at_ (Ty.pair Ty.str (Ty.sl (nat_lit 3) (Ty.int IntKind.i64))) y2 (Int.toNat y1)).1) : Int) != (2 : Int)) (.out (.inl false)) (.br (true) (.go (IntKind.wrap IntKind.i64 (y1 + (1 : Int)))) (.bad))) (.bad)) (.br (true) (.go (IntKind.wrap IntKind.i64 (y1 + (1 : Int)))) (.bad))) (.bad)))) (.bad)) (.br (true) (.out (.inl false)) (.br (true) (.br (byteAt (at_ (Ty.pair Ty.str (Ty.sl (nat_lit 3) (Ty.int IntKind.i64))) y2 (Int.toNat y1)).1 (nat_lit 0) != (97 : Int)) (.br (true) (.br ((↑(ByteArray.size (at_ (Ty.pair Ty.str (Ty.sl (nat_lit 3) (Ty.int IntKind.i64))) y2 (Int.toNat y1)).1) : Int) != (2 : Int)) (.out (.inl false)) (.br (true) (.go (IntKind.wrap IntKind.i64 (y1 + (1 : Int)))) (.bad))) (.bad)) (.br (true) (.go (IntKind.wrap IntKind.i64 (y1 + (1 : Int)))) (.bad))) (.bad)))) (.bad))) (.bad)) (.br (true) (.out (.inl false)) (.br (true) (.br (byteAt (at_ (Ty.pair Ty.str (Ty.sl (nat_lit 3) (Ty.int IntKind.i64))) y2 (Int.toNat y1)).1 (nat_lit 0) != (97 : Int)) (.br (true) (.br ((↑(ByteArray.size (at_ (Ty.pair Ty.str (Ty.sl (nat_lit 3) (Ty.int IntKind.i64))) y2 (Int.toNat y1)).1) : Int) != (2 : Int)) (.out (.inl false)) (.br (true) (.go (IntKind.wrap IntKind.i64 (y1 + (1 : Int)))) (.bad))) (.bad)) (.br (true) (.go (IntKind.wrap IntKind.i64 (y1 + (1 : Int)))) (.bad))) (.bad)))) (.bad)) (.br (true) (.out (.inl false)) (.br (true) (.br (byteAt (at_ (Ty.pair Ty.str (Ty.sl (nat_lit 3) (Ty.int IntKind.i64))) y2 (Int.toNat y1)).1 (nat_lit 0) != (97 : Int)) (.br (true) (.br ((↑(ByteArray.size (at_ (Ty.pair Ty.str (Ty.sl (nat_lit 3) (Ty.int IntKind.i64))) y2 (Int.toNat y1)).1) : Int) != (2 : Int)) (.out (.inl false)) (.br (true) (.go (IntKind.wrap IntKind.i64 (y1 + (1 : Int)))) (.bad))) (.bad)) (.br (true) (.go (IntKind.wrap IntKind.i64 (y1 + (1 : Int)))) (.bad))) (.bad)))) (.bad))) (.bad))) (.bad)) (.bad)) (.bad)) (.bad)) (.out (.inr (())))) (.bad)
noncomputable def g_Ls_l3Form_0 (y0 : Int) (y2 : List ((ByteArray) × (List (Int)))) (x : (Int)) : Option (((Bool)) ⊕ (Unit)) := loopO (g_Ss_l3Form_0 y0 y2) x
noncomputable def xs_l3Form_0 (y0 : Int) (y2 : List ((ByteArray) × (List (Int)))) : (((Bool)) ⊕ (Unit)) → Ex × List (Pl × LV) := fun
  | .inl r => (.ret, [(.T 4, .t (.val false [.bool r]))])
  | .inr (r) => (.exit 0, [(.T 4, .t (.val false [.undef]))])
noncomputable def Os_l3Form_1 : Orc := fun b h => match b, h with
  | 0, [(.T 0, .t (.val false [.int .i64 y0])), (.T 3, .t (.val false [.ptr 3 0 0])), (.T 5, .t (.val false [.int .i64 y1])), (.B 3, .b 0 false [.sl .any 88 (.pair .str (.sl 3 (.int .i64))) y2])] => some (okO (g_Ls_l3Form_0 y0 y2 y1), (.br (isL (valO (g_Ls_l3Form_0 y0 y2 y1))) (.leaf .ret [(.T 4, .t (.val false [.bool (getL (valO (g_Ls_l3Form_0 y0 y2 y1)))]))]) (.leaf (.exit 0) [(.T 4, .t (.val false [.undef]))])))
  | b, h => Os_l3Form_0 b h
theorem bs_l3Form_0 (y0 : Int) (y1 : Int) (y2 : List ((ByteArray) × (List (Int)))) : Tr.bt Es_l3Form Os_l3Form_0 (exec Es_l3Form 0 cs_l3Form_0 (St.of (hs_l3Form_0 y0 y1 y2)) (leafRd Es_l3Form 0)) = (g_Ss_l3Form_0 y0 y2 y1).bt (fun (y1 : (Int)) => (hs_l3Form_0 y0 y1 y2)) (xs_l3Form_0 y0 y2) := by kernel_rfl
theorem ks_l3Form_1 : OrcOk Es_l3Form Os_l3Form_1 lss_l3Form 1 := orc_add ks_l3Form_0 (fun n p hp h ex h' ho => by
  obtain ⟨b, c⟩ := p
  obtain ⟨xt, h1, h2⟩ := ho
  have h1 : Os_l3Form_1 b h = some (true, xt) := h1
  unfold Os_l3Form_1 at h1
  split at h1
  · injection h1 with h1
    injection h1 with e1 e2
    subst e2
    have hc : c = cs_l3Form_0 := ms_l3Form_0 _ hp rfl
    subst hc
    right
    rename_i y0 y1 y2
    have key := LT_step ks_l3Form_0 hp (fun q hq => loopsAll_in _ _ _ _ hp hq) (fun (y1 : (Int)) => (hs_l3Form_0 y0 y1 y2)) (xs_l3Form_0 y0 y2) (g_Ss_l3Form_0 y0 y2) (fun x => by first | exact bs_l3Form_0 y0 x y2) n (x := y1) (okO_some e1)
    have hx : ∀ r, XT.sel (.br (isL r) (.leaf .ret [(.T 4, .t (.val false [.bool (getL r)]))]) (.leaf (.exit 0) [(.T 4, .t (.val false [.undef]))])) = xs_l3Form_0 y0 y2 r := fun r => by first | rfl | (rcases r with r | r <;> rfl) | (rcases r with r | r | r <;> rfl) | (rcases r with r | r | r | r <;> rfl)
    have h3 := (hx (valO (g_Ls_l3Form_0 y0 y2 y1))).symm.trans h2
    have e3 := congrArg Prod.fst h3
    have e4 := congrArg Prod.snd h3
    simp only at e3 e4
    rw [← e3, ← e4]
    exact key
  · exact .inl ⟨xt, h1, h2⟩)
noncomputable def g_As_l3Form (a0 : Int) (a1 : List ((ByteArray) × (List (Int)))) : Bool := okO (g_Ls_l3Form_0 a0 a1 (0 : Int))
noncomputable def g_Vs_l3Form_0 (a0 : Int) (a1 : List ((ByteArray) × (List (Int)))) : Bool := bif isL (valO (g_Ls_l3Form_0 a0 a1 (0 : Int))) then getL (valO (g_Ls_l3Form_0 a0 a1 (0 : Int))) else true
noncomputable def Fs_l3Form : FSem := fun ys => match ys with
  | [.val false [.int .i64 a0], .val true [.sl .any 88 (.pair .str (.sl 3 (.int .i64))) a1]] => some ((g_As_l3Form a0 a1), .val false [.bool (g_Vs_l3Form_0 a0 a1)], [])
  | _ => none
theorem vs_l3Form (a0 : Int) (a1 : List ((ByteArray) × (List (Int)))) : collapseH .std Es_l3Form Os_l3Form_1 (execFn Es_l3Form Go.Proofs.Tryd.f79 mss_l3Form [.val false [.int .i64 a0], .val true [.sl .any 88 (.pair .str (.sl 3 (.int .i64))) a1]]) = some ((g_As_l3Form a0 a1), .val false [.bool (g_Vs_l3Form_0 a0 a1)], []) := by kernel_rfl
theorem ss_l3Form : Sound Go.Proofs.Tryd.prog 79 mss_l3Form Fs_l3Form := by
  refine fn_gen goods_l3Form (by kernel_rfl) .std (fn := Go.Proofs.Tryd.f79) (c := (Go.Proofs.Tryd.f79.body.getD .skip)) (o := Os_l3Form_1) (k := 1) (by kernel_rfl) (by kernel_rfl) (by kernel_rfl) (by kernel_rfl) (by decide) ks_l3Form_1 ?_
  intro ys r outs h
  unfold Fs_l3Form at h
  split at h
  · exact (vs_l3Form _ _).trans h
  · cases h
end Go.Proofs.YtopoiinmhajhmaaDoor.E
end
section
namespace Go.Proofs.YtopoiinmhajhmaaDoor.E
open Go
set_option maxRecDepth 100000
set_option maxHeartbeats 0
set_option linter.all false
noncomputable def Es_PlcOk : Env where
  tt := mkTI Go.Proofs.Tryd.prog
  fn := fun f => match f with
    | 34 => some (mss_StoOk, FSem.wk mss_StoOk Fs_StoOk)
    | 61 => some (mss_l1In, FSem.wk mss_l1In Fs_l1In)
    | 79 => some (mss_l3Form, FSem.wk mss_l3Form Fs_l3Form)
    | _ => none
  mv := []
  keep := fun _ => []
  keepB := fun _ => []
  keepX := fun _ => []
  keepXB := fun _ => []
theorem goods_PlcOk : Good Go.Proofs.Tryd.prog Es_PlcOk := ⟨rfl, fun f ms F h => by
  unfold Es_PlcOk at h
  dsimp only at h
  split at h
  · injection h with h; injection h with e1 e2; subst e1 e2; exact Sound.wk ss_StoOk
  · injection h with h; injection h with e1 e2; subst e1 e2; exact Sound.wk ss_l1In
  · injection h with h; injection h with e1 e2; subst e1 e2; exact Sound.wk ss_l3Form
  · cases h⟩
noncomputable def Os_PlcOk_0 : Orc := fun _ _ => none
noncomputable def mss_PlcOk : List PM := [.own, .rd]
noncomputable def lss_PlcOk : List (Nat × Code) := loopsAll 0 (Go.Proofs.Tryd.f41.body.getD .skip)

theorem ks_PlcOk_0 : OrcOk Es_PlcOk Os_PlcOk_0 lss_PlcOk 0 := orcOk_none
noncomputable def g_As_PlcOk (a0 : Int) (a1 : List ((ByteArray) × (List (Int)))) : Bool := g_As_l1In a0 (1 : Int) (3 : Int) && (!g_Vs_l1In_0 a0 (1 : Int) (3 : Int) || g_As_StoOk a1 && (!g_Vs_StoOk_0 a1 || g_As_l3Form a0 a1))
noncomputable def g_Vs_PlcOk_0 (a0 : Int) (a1 : List ((ByteArray) × (List (Int)))) : Bool := bif g_Vs_l1In_0 a0 (1 : Int) (3 : Int) then bif g_Vs_StoOk_0 a1 then g_Vs_l3Form_0 a0 a1 else false else false
noncomputable def Fs_PlcOk : FSem := fun ys => match ys with
  | [.val false [.int .i64 a0], .val true [.sl .any 88 (.pair .str (.sl 3 (.int .i64))) a1]] => some ((g_As_PlcOk a0 a1), .val false [.bool (g_Vs_PlcOk_0 a0 a1)], [])
  | _ => none
theorem vs_PlcOk (a0 : Int) (a1 : List ((ByteArray) × (List (Int)))) : collapseH .std Es_PlcOk Os_PlcOk_0 (execFn Es_PlcOk Go.Proofs.Tryd.f41 mss_PlcOk [.val false [.int .i64 a0], .val true [.sl .any 88 (.pair .str (.sl 3 (.int .i64))) a1]]) = some ((g_As_PlcOk a0 a1), .val false [.bool (g_Vs_PlcOk_0 a0 a1)], []) := by kernel_rfl
theorem ss_PlcOk : Sound Go.Proofs.Tryd.prog 41 mss_PlcOk Fs_PlcOk := by
  refine fn_gen goods_PlcOk (by kernel_rfl) .std (fn := Go.Proofs.Tryd.f41) (c := (Go.Proofs.Tryd.f41.body.getD .skip)) (o := Os_PlcOk_0) (k := 0) (by kernel_rfl) (by kernel_rfl) (by kernel_rfl) (by kernel_rfl) (by decide) ks_PlcOk_0 ?_
  intro ys r outs h
  unfold Fs_PlcOk at h
  split at h
  · exact (vs_PlcOk _ _).trans h
  · cases h
end Go.Proofs.YtopoiinmhajhmaaDoor.E
end
section
namespace Go.Proofs.YtopoiinmhajhmaaDoor.E
open Go
set_option maxRecDepth 100000
set_option maxHeartbeats 0
set_option linter.all false
noncomputable def Es_GloOk : Env where
  tt := mkTI Go.Proofs.Tryd.prog
  fn := fun f => match f with
    | 41 => some (mss_PlcOk, FSem.wk mss_PlcOk Fs_PlcOk)
    | _ => none
  mv := []
  keep := fun b => match b with
    | 0 => [(0, false), (3, false)]
    | _ => []
  keepB := fun b => match b with
    | 0 => []
    | _ => []
  keepX := fun b => match b with
    | 0 => [(2, false)]
    | _ => []
  keepXB := fun b => match b with
    | 0 => []
    | _ => []
theorem goods_GloOk : Good Go.Proofs.Tryd.prog Es_GloOk := ⟨rfl, fun f ms F h => by
  unfold Es_GloOk at h
  dsimp only at h
  split at h
  · injection h with h; injection h with e1 e2; subst e1 e2; exact Sound.wk ss_PlcOk
  · cases h⟩
noncomputable def Os_GloOk_0 : Orc := fun _ _ => none
noncomputable def mss_GloOk : List PM := [.rd]
noncomputable def lss_GloOk : List (Nat × Code) := loopsAll 0 (Go.Proofs.Tryd.f48.body.getD .skip)
noncomputable def cs_GloOk_0 : Code := (loopOf 0 (Go.Proofs.Tryd.f48.body.getD .skip)).getD .skip
theorem lseqs_GloOk : lss_GloOk = [(0, cs_GloOk_0)] := by kernel_rfl
theorem ms_GloOk_0 : ∀ p, p ∈ lss_GloOk → p.1 = 0 → p.2 = cs_GloOk_0 := by
  intro p hp
  rw [lseqs_GloOk] at hp
  simp only [List.mem_cons, List.not_mem_nil, or_false] at hp
  subst hp; simp
theorem ks_GloOk_0 : OrcOk Es_GloOk Os_GloOk_0 lss_GloOk 0 := orcOk_none
noncomputable def hs_GloOk_0 (y0 : List (List ((ByteArray) × (List (Int))))) (y1 : Int) : List (Pl × LV) := [(.T 0, .t (.val false [.sl .any 52 (.sl 88 (.pair .str (.sl 3 (.int .i64)))) y0])), (.T 3, .t (.val false [.int .i64 y1]))]
noncomputable def g_Ss_GloOk_0 (y0 : List (List ((ByteArray) × (List (Int))))) : ((Int)) → RT ((Int)) (((Bool)) ⊕ (Unit))
  | y1 => .br (true) (.br (decide (y1 < (↑(List.length y0) : Int))) (.br (true) (.br (decide ((0 : Int) ≤ y1 ∧ y1 < (↑(List.length y0) : Int))) (.br (g_As_PlcOk (IntKind.wrap IntKind.i64 (y1 + (1 : Int))) (at_ (Ty.sl (nat_lit 88) (Ty.pair Ty.str (Ty.sl (nat_lit 3) (Ty.int IntKind.i64)))) y0 (Int.toNat y1))) (.br (!g_Vs_PlcOk_0 (IntKind.wrap IntKind.i64 (y1 + (1 : Int))) (at_ (Ty.sl (nat_lit 88) (Ty.pair Ty.str (Ty.sl (nat_lit 3) (Ty.int IntKind.i64)))) y0 (Int.toNat y1))) (.out (.inl false)) (.br (true) (.go (IntKind.wrap IntKind.i64 (y1 + (1 : Int)))) (.bad))) (.bad)) (.bad)) (.bad)) (.out (.inr (())))) (.bad)
noncomputable def g_Ls_GloOk_0 (y0 : List (List ((ByteArray) × (List (Int))))) (x : (Int)) : Option (((Bool)) ⊕ (Unit)) := loopO (g_Ss_GloOk_0 y0) x
noncomputable def xs_GloOk_0 (y0 : List (List ((ByteArray) × (List (Int))))) : (((Bool)) ⊕ (Unit)) → Ex × List (Pl × LV) := fun
  | .inl r => (.ret, [(.T 2, .t (.val false [.bool r]))])
  | .inr (r) => (.exit 0, [(.T 2, .t (.val false [.undef]))])
noncomputable def Os_GloOk_1 : Orc := fun b h => match b, h with
  | 0, [(.T 0, .t (.val false [.sl .any 52 (.sl 88 (.pair .str (.sl 3 (.int .i64)))) y0])), (.T 3, .t (.val false [.int .i64 y1]))] => some (okO (g_Ls_GloOk_0 y0 y1), (.br (isL (valO (g_Ls_GloOk_0 y0 y1))) (.leaf .ret [(.T 2, .t (.val false [.bool (getL (valO (g_Ls_GloOk_0 y0 y1)))]))]) (.leaf (.exit 0) [(.T 2, .t (.val false [.undef]))])))
  | b, h => Os_GloOk_0 b h
theorem bs_GloOk_0 (y0 : List (List ((ByteArray) × (List (Int))))) (y1 : Int) : Tr.bt Es_GloOk Os_GloOk_0 (exec Es_GloOk 0 cs_GloOk_0 (St.of (hs_GloOk_0 y0 y1)) (leafRd Es_GloOk 0)) = (g_Ss_GloOk_0 y0 y1).bt (fun (y1 : (Int)) => (hs_GloOk_0 y0 y1)) (xs_GloOk_0 y0) := by kernel_rfl
theorem ks_GloOk_1 : OrcOk Es_GloOk Os_GloOk_1 lss_GloOk 1 := orc_add ks_GloOk_0 (fun n p hp h ex h' ho => by
  obtain ⟨b, c⟩ := p
  obtain ⟨xt, h1, h2⟩ := ho
  have h1 : Os_GloOk_1 b h = some (true, xt) := h1
  unfold Os_GloOk_1 at h1
  split at h1
  · injection h1 with h1
    injection h1 with e1 e2
    subst e2
    have hc : c = cs_GloOk_0 := ms_GloOk_0 _ hp rfl
    subst hc
    right
    rename_i y0 y1
    have key := LT_step ks_GloOk_0 hp (fun q hq => loopsAll_in _ _ _ _ hp hq) (fun (y1 : (Int)) => (hs_GloOk_0 y0 y1)) (xs_GloOk_0 y0) (g_Ss_GloOk_0 y0) (fun x => by first | exact bs_GloOk_0 y0 x) n (x := y1) (okO_some e1)
    have hx : ∀ r, XT.sel (.br (isL r) (.leaf .ret [(.T 2, .t (.val false [.bool (getL r)]))]) (.leaf (.exit 0) [(.T 2, .t (.val false [.undef]))])) = xs_GloOk_0 y0 r := fun r => by first | rfl | (rcases r with r | r <;> rfl) | (rcases r with r | r | r <;> rfl) | (rcases r with r | r | r | r <;> rfl)
    have h3 := (hx (valO (g_Ls_GloOk_0 y0 y1))).symm.trans h2
    have e3 := congrArg Prod.fst h3
    have e4 := congrArg Prod.snd h3
    simp only at e3 e4
    rw [← e3, ← e4]
    exact key
  · exact .inl ⟨xt, h1, h2⟩)
noncomputable def g_As_GloOk (a0 : List (List ((ByteArray) × (List (Int))))) : Bool := (↑(List.length a0) : Int) != (3 : Int) || okO (g_Ls_GloOk_0 a0 (0 : Int))
noncomputable def g_Vs_GloOk_0 (a0 : List (List ((ByteArray) × (List (Int))))) : Bool := bif (↑(List.length a0) : Int) != (3 : Int) then false else bif isL (valO (g_Ls_GloOk_0 a0 (0 : Int))) then getL (valO (g_Ls_GloOk_0 a0 (0 : Int))) else true
noncomputable def Fs_GloOk : FSem := fun ys => match ys with
  | [.val false [.sl .any 52 (.sl 88 (.pair .str (.sl 3 (.int .i64)))) a0]] => some ((g_As_GloOk a0), .val false [.bool (g_Vs_GloOk_0 a0)], [])
  | _ => none
theorem vs_GloOk (a0 : List (List ((ByteArray) × (List (Int))))) : collapseH .std Es_GloOk Os_GloOk_1 (execFn Es_GloOk Go.Proofs.Tryd.f48 mss_GloOk [.val false [.sl .any 52 (.sl 88 (.pair .str (.sl 3 (.int .i64)))) a0]]) = some ((g_As_GloOk a0), .val false [.bool (g_Vs_GloOk_0 a0)], []) := by kernel_rfl
theorem ss_GloOk : Sound Go.Proofs.Tryd.prog 48 mss_GloOk Fs_GloOk := by
  refine fn_gen goods_GloOk (by kernel_rfl) .std (fn := Go.Proofs.Tryd.f48) (c := (Go.Proofs.Tryd.f48.body.getD .skip)) (o := Os_GloOk_1) (k := 1) (by kernel_rfl) (by kernel_rfl) (by kernel_rfl) (by kernel_rfl) (by decide) ks_GloOk_1 ?_
  intro ys r outs h
  unfold Fs_GloOk at h
  split at h
  · exact (vs_GloOk _).trans h
  · cases h
end Go.Proofs.YtopoiinmhajhmaaDoor.E
end
section
namespace Go.Proofs.YtopoiinmhajhmaaDoor.E
open Go
set_option maxRecDepth 100000
set_option maxHeartbeats 0
set_option linter.all false
noncomputable def Ew_eqIntS : Env where
  tt := mkTI Go.Proofs.Tryd.prog
  fn := fun _ => none
  mv := []
  keep := fun b => match b with
    | 0 => [(0, false), (1, false), (5, false)]
    | _ => []
  keepB := fun b => match b with
    | 0 => []
    | _ => []
  keepX := fun b => match b with
    | 0 => [(4, false)]
    | _ => []
  keepXB := fun b => match b with
    | 0 => []
    | _ => []
theorem goodw_eqIntS : Good Go.Proofs.Tryd.prog Ew_eqIntS := ⟨rfl, fun f ms F h => by cases h⟩
noncomputable def Ow_eqIntS_0 : Orc := fun _ _ => none
noncomputable def msw_eqIntS : List PM := [.rd, .rd]
noncomputable def lsw_eqIntS : List (Nat × Code) := loopsAll 0 (Go.Proofs.Tryd.f68.body.getD .skip)
noncomputable def cw_eqIntS_0 : Code := (loopOf 0 (Go.Proofs.Tryd.f68.body.getD .skip)).getD .skip
theorem lseqw_eqIntS : lsw_eqIntS = [(0, cw_eqIntS_0)] := by kernel_rfl
theorem mw_eqIntS_0 : ∀ p, p ∈ lsw_eqIntS → p.1 = 0 → p.2 = cw_eqIntS_0 := by
  intro p hp
  rw [lseqw_eqIntS] at hp
  simp only [List.mem_cons, List.not_mem_nil, or_false] at hp
  subst hp; simp
theorem kw_eqIntS_0 : OrcOk Ew_eqIntS Ow_eqIntS_0 lsw_eqIntS 0 := orcOk_none
noncomputable def hw_eqIntS_0 (y0 : List (Int)) (y1 : List (Int)) (y2 : Int) : List (Pl × LV) := [(.T 0, .t (.val false [.sl .any 3 (.int .i64) y0])), (.T 1, .t (.val false [.sl .any 3 (.int .i64) y1])), (.T 5, .t (.val false [.int .i64 y2]))]
noncomputable def g_Sw_eqIntS_0 (y0 : List (Int)) (y1 : List (Int)) : ((Int)) → RT ((Int)) (((Bool)) ⊕ (Unit))
  | y2 => .br (true) (.br (decide (y2 < (↑(List.length y0) : Int))) (.br (decide ((0 : Int) ≤ y2 ∧ y2 < (↑(List.length y0) : Int))) (.br (decide ((0 : Int) ≤ y2 ∧ y2 < (↑(List.length y1) : Int))) (.br (true) (.br (at_ (Ty.int IntKind.i64) y0 (Int.toNat y2) != at_ (Ty.int IntKind.i64) y1 (Int.toNat y2)) (.out (.inl false)) (.br (true) (.go (IntKind.wrap IntKind.i64 (y2 + (1 : Int)))) (.bad))) (.bad)) (.bad)) (.bad)) (.out (.inr (())))) (.bad)
noncomputable def g_Lw_eqIntS_0 (y0 : List (Int)) (y1 : List (Int)) (x : (Int)) : Option (((Bool)) ⊕ (Unit)) := loopO (g_Sw_eqIntS_0 y0 y1) x
noncomputable def xw_eqIntS_0 (y0 : List (Int)) (y1 : List (Int)) : (((Bool)) ⊕ (Unit)) → Ex × List (Pl × LV) := fun
  | .inl r => (.ret, [(.T 4, .t (.val false [.bool r]))])
  | .inr (r) => (.exit 0, [(.T 4, .t (.val false [.undef]))])
noncomputable def Ow_eqIntS_1 : Orc := fun b h => match b, h with
  | 0, [(.T 0, .t (.val false [.sl .any 3 (.int .i64) y0])), (.T 1, .t (.val false [.sl .any 3 (.int .i64) y1])), (.T 5, .t (.val false [.int .i64 y2]))] => some (okO (g_Lw_eqIntS_0 y0 y1 y2), (.br (isL (valO (g_Lw_eqIntS_0 y0 y1 y2))) (.leaf .ret [(.T 4, .t (.val false [.bool (getL (valO (g_Lw_eqIntS_0 y0 y1 y2)))]))]) (.leaf (.exit 0) [(.T 4, .t (.val false [.undef]))])))
  | b, h => Ow_eqIntS_0 b h
theorem bw_eqIntS_0 (y0 : List (Int)) (y1 : List (Int)) (y2 : Int) : Tr.bt Ew_eqIntS Ow_eqIntS_0 (exec Ew_eqIntS 0 cw_eqIntS_0 (St.of (hw_eqIntS_0 y0 y1 y2)) (leafRd Ew_eqIntS 0)) = (g_Sw_eqIntS_0 y0 y1 y2).bt (fun (y2 : (Int)) => (hw_eqIntS_0 y0 y1 y2)) (xw_eqIntS_0 y0 y1) := by kernel_rfl
theorem kw_eqIntS_1 : OrcOk Ew_eqIntS Ow_eqIntS_1 lsw_eqIntS 1 := orc_add kw_eqIntS_0 (fun n p hp h ex h' ho => by
  obtain ⟨b, c⟩ := p
  obtain ⟨xt, h1, h2⟩ := ho
  have h1 : Ow_eqIntS_1 b h = some (true, xt) := h1
  unfold Ow_eqIntS_1 at h1
  split at h1
  · injection h1 with h1
    injection h1 with e1 e2
    subst e2
    have hc : c = cw_eqIntS_0 := mw_eqIntS_0 _ hp rfl
    subst hc
    right
    rename_i y0 y1 y2
    have key := LT_step kw_eqIntS_0 hp (fun q hq => loopsAll_in _ _ _ _ hp hq) (fun (y2 : (Int)) => (hw_eqIntS_0 y0 y1 y2)) (xw_eqIntS_0 y0 y1) (g_Sw_eqIntS_0 y0 y1) (fun x => by first | exact bw_eqIntS_0 y0 y1 x) n (x := y2) (okO_some e1)
    have hx : ∀ r, XT.sel (.br (isL r) (.leaf .ret [(.T 4, .t (.val false [.bool (getL r)]))]) (.leaf (.exit 0) [(.T 4, .t (.val false [.undef]))])) = xw_eqIntS_0 y0 y1 r := fun r => by first | rfl | (rcases r with r | r <;> rfl) | (rcases r with r | r | r <;> rfl) | (rcases r with r | r | r | r <;> rfl)
    have h3 := (hx (valO (g_Lw_eqIntS_0 y0 y1 y2))).symm.trans h2
    have e3 := congrArg Prod.fst h3
    have e4 := congrArg Prod.snd h3
    simp only at e3 e4
    rw [← e3, ← e4]
    exact key
  · exact .inl ⟨xt, h1, h2⟩)
noncomputable def g_Aw_eqIntS (a0 : List (Int)) (a1 : List (Int)) : Bool := (↑(List.length a0) : Int) != (↑(List.length a1) : Int) || okO (g_Lw_eqIntS_0 a0 a1 (0 : Int))
noncomputable def g_Vw_eqIntS_0 (a0 : List (Int)) (a1 : List (Int)) : Bool := bif (↑(List.length a0) : Int) != (↑(List.length a1) : Int) then false else bif isL (valO (g_Lw_eqIntS_0 a0 a1 (0 : Int))) then getL (valO (g_Lw_eqIntS_0 a0 a1 (0 : Int))) else true
noncomputable def Fw_eqIntS : FSem := fun ys => match ys with
  | [.val false [.sl .any 3 (.int .i64) a0], .val false [.sl .any 3 (.int .i64) a1]] => some ((g_Aw_eqIntS a0 a1), .val false [.bool (g_Vw_eqIntS_0 a0 a1)], [])
  | _ => none
theorem vw_eqIntS (a0 : List (Int)) (a1 : List (Int)) : collapseH .std Ew_eqIntS Ow_eqIntS_1 (execFn Ew_eqIntS Go.Proofs.Tryd.f68 msw_eqIntS [.val false [.sl .any 3 (.int .i64) a0], .val false [.sl .any 3 (.int .i64) a1]]) = some ((g_Aw_eqIntS a0 a1), .val false [.bool (g_Vw_eqIntS_0 a0 a1)], []) := by kernel_rfl
theorem sw_eqIntS : Sound Go.Proofs.Tryd.prog 68 msw_eqIntS Fw_eqIntS := by
  refine fn_gen goodw_eqIntS (by kernel_rfl) .std (fn := Go.Proofs.Tryd.f68) (c := (Go.Proofs.Tryd.f68.body.getD .skip)) (o := Ow_eqIntS_1) (k := 1) (by kernel_rfl) (by kernel_rfl) (by kernel_rfl) (by kernel_rfl) (by decide) kw_eqIntS_1 ?_
  intro ys r outs h
  unfold Fw_eqIntS at h
  split at h
  · exact (vw_eqIntS _ _).trans h
  · cases h
end Go.Proofs.YtopoiinmhajhmaaDoor.E
end
section
namespace Go.Proofs.YtopoiinmhajhmaaDoor.E
open Go
set_option maxRecDepth 100000
set_option maxHeartbeats 0
set_option linter.all false
noncomputable def Ew_eqStoItem : Env where
  tt := mkTI Go.Proofs.Tryd.prog
  fn := fun f => match f with
    | 68 => some (msw_eqIntS, FSem.wk msw_eqIntS Fw_eqIntS)
    | _ => none
  mv := []
  keep := fun _ => []
  keepB := fun _ => []
  keepX := fun _ => []
  keepXB := fun _ => []
theorem goodw_eqStoItem : Good Go.Proofs.Tryd.prog Ew_eqStoItem := ⟨rfl, fun f ms F h => by
  unfold Ew_eqStoItem at h
  dsimp only at h
  split at h
  · injection h with h; injection h with e1 e2; subst e1 e2; exact Sound.wk sw_eqIntS
  · cases h⟩
noncomputable def Ow_eqStoItem_0 : Orc := fun _ _ => none
noncomputable def msw_eqStoItem : List PM := [.rd, .rd]
noncomputable def lsw_eqStoItem : List (Nat × Code) := loopsAll 0 (Go.Proofs.Tryd.f107.body.getD .skip)

theorem kw_eqStoItem_0 : OrcOk Ew_eqStoItem Ow_eqStoItem_0 lsw_eqStoItem 0 := orcOk_none
noncomputable def g_Aw_eqStoItem (a0 : ByteArray) (a1 : List (Int)) (a2 : ByteArray) (a3 : List (Int)) : Bool := !ByteArray.toList a0 == ByteArray.toList a2 || g_Aw_eqIntS a1 a3
noncomputable def g_Vw_eqStoItem_0 (a0 : ByteArray) (a1 : List (Int)) (a2 : ByteArray) (a3 : List (Int)) : Bool := bif !ByteArray.toList a0 == ByteArray.toList a2 then false else bif !g_Vw_eqIntS_0 a1 a3 then false else true
noncomputable def Fw_eqStoItem : FSem := fun ys => match ys with
  | [.val true [.str a0, .sl .any 3 (.int .i64) a1], .val true [.str a2, .sl .any 3 (.int .i64) a3]] => some ((g_Aw_eqStoItem a0 a1 a2 a3), .val false [.bool (g_Vw_eqStoItem_0 a0 a1 a2 a3)], [])
  | _ => none
theorem vw_eqStoItem (a0 : ByteArray) (a1 : List (Int)) (a2 : ByteArray) (a3 : List (Int)) : collapseH .std Ew_eqStoItem Ow_eqStoItem_0 (execFn Ew_eqStoItem Go.Proofs.Tryd.f107 msw_eqStoItem [.val true [.str a0, .sl .any 3 (.int .i64) a1], .val true [.str a2, .sl .any 3 (.int .i64) a3]]) = some ((g_Aw_eqStoItem a0 a1 a2 a3), .val false [.bool (g_Vw_eqStoItem_0 a0 a1 a2 a3)], []) := by kernel_rfl
theorem sw_eqStoItem : Sound Go.Proofs.Tryd.prog 107 msw_eqStoItem Fw_eqStoItem := by
  refine fn_gen goodw_eqStoItem (by kernel_rfl) .std (fn := Go.Proofs.Tryd.f107) (c := (Go.Proofs.Tryd.f107.body.getD .skip)) (o := Ow_eqStoItem_0) (k := 0) (by kernel_rfl) (by kernel_rfl) (by kernel_rfl) (by kernel_rfl) (by decide) kw_eqStoItem_0 ?_
  intro ys r outs h
  unfold Fw_eqStoItem at h
  split at h
  · exact (vw_eqStoItem _ _ _ _).trans h
  · cases h
end Go.Proofs.YtopoiinmhajhmaaDoor.E
end
section
namespace Go.Proofs.YtopoiinmhajhmaaDoor.E
open Go
set_option maxRecDepth 100000
set_option maxHeartbeats 0
set_option linter.all false
noncomputable def Ew_eqStoItemS : Env where
  tt := mkTI Go.Proofs.Tryd.prog
  fn := fun f => match f with
    | 107 => some (msw_eqStoItem, FSem.wk msw_eqStoItem Fw_eqStoItem)
    | _ => none
  mv := []
  keep := fun b => match b with
    | 0 => [(0, false), (1, false), (5, false)]
    | _ => []
  keepB := fun b => match b with
    | 0 => []
    | _ => []
  keepX := fun b => match b with
    | 0 => [(4, false)]
    | _ => []
  keepXB := fun b => match b with
    | 0 => []
    | _ => []
theorem goodw_eqStoItemS : Good Go.Proofs.Tryd.prog Ew_eqStoItemS := ⟨rfl, fun f ms F h => by
  unfold Ew_eqStoItemS at h
  dsimp only at h
  split at h
  · injection h with h; injection h with e1 e2; subst e1 e2; exact Sound.wk sw_eqStoItem
  · cases h⟩
noncomputable def Ow_eqStoItemS_0 : Orc := fun _ _ => none
noncomputable def msw_eqStoItemS : List PM := [.rd, .rd]
noncomputable def lsw_eqStoItemS : List (Nat × Code) := loopsAll 0 (Go.Proofs.Tryd.f75.body.getD .skip)
noncomputable def cw_eqStoItemS_0 : Code := (loopOf 0 (Go.Proofs.Tryd.f75.body.getD .skip)).getD .skip
theorem lseqw_eqStoItemS : lsw_eqStoItemS = [(0, cw_eqStoItemS_0)] := by kernel_rfl
theorem mw_eqStoItemS_0 : ∀ p, p ∈ lsw_eqStoItemS → p.1 = 0 → p.2 = cw_eqStoItemS_0 := by
  intro p hp
  rw [lseqw_eqStoItemS] at hp
  simp only [List.mem_cons, List.not_mem_nil, or_false] at hp
  subst hp; simp
theorem kw_eqStoItemS_0 : OrcOk Ew_eqStoItemS Ow_eqStoItemS_0 lsw_eqStoItemS 0 := orcOk_none
noncomputable def hw_eqStoItemS_0 (y0 : List ((ByteArray) × (List (Int)))) (y1 : List ((ByteArray) × (List (Int)))) (y2 : Int) : List (Pl × LV) := [(.T 0, .t (.val false [.sl .any 88 (.pair .str (.sl 3 (.int .i64))) y0])), (.T 1, .t (.val false [.sl .any 88 (.pair .str (.sl 3 (.int .i64))) y1])), (.T 5, .t (.val false [.int .i64 y2]))]
noncomputable def g_Sw_eqStoItemS_0 (y0 : List ((ByteArray) × (List (Int)))) (y1 : List ((ByteArray) × (List (Int)))) : ((Int)) → RT ((Int)) (((Bool)) ⊕ (Unit))
  | y2 => .br (true) (.br (decide (y2 < (↑(List.length y0) : Int))) (.br (decide ((0 : Int) ≤ y2 ∧ y2 < (↑(List.length y0) : Int))) (.br (decide ((0 : Int) ≤ y2 ∧ y2 < (↑(List.length y1) : Int))) (.br (g_Aw_eqStoItem (at_ (Ty.pair Ty.str (Ty.sl (nat_lit 3) (Ty.int IntKind.i64))) y0 (Int.toNat y2)).1 (at_ (Ty.pair Ty.str (Ty.sl (nat_lit 3) (Ty.int IntKind.i64))) y0 (Int.toNat y2)).2 (at_ (Ty.pair Ty.str (Ty.sl (nat_lit 3) (Ty.int IntKind.i64))) y1 (Int.toNat y2)).1 (at_ (Ty.pair Ty.str (Ty.sl (nat_lit 3) (Ty.int IntKind.i64))) y1 (Int.toNat y2)).2) (.br (!g_Vw_eqStoItem_0 (at_ (Ty.pair Ty.str (Ty.sl (nat_lit 3) (Ty.int IntKind.i64))) y0 (Int.toNat y2)).1 (at_ (Ty.pair Ty.str (Ty.sl (nat_lit 3) (Ty.int IntKind.i64))) y0 (Int.toNat y2)).2 (at_ (Ty.pair Ty.str (Ty.sl (nat_lit 3) (Ty.int IntKind.i64))) y1 (Int.toNat y2)).1 (at_ (Ty.pair Ty.str (Ty.sl (nat_lit 3) (Ty.int IntKind.i64))) y1 (Int.toNat y2)).2) (.out (.inl false)) (.br (true) (.go (IntKind.wrap IntKind.i64 (y2 + (1 : Int)))) (.bad))) (.bad)) (.bad)) (.bad)) (.out (.inr (())))) (.bad)
noncomputable def g_Lw_eqStoItemS_0 (y0 : List ((ByteArray) × (List (Int)))) (y1 : List ((ByteArray) × (List (Int)))) (x : (Int)) : Option (((Bool)) ⊕ (Unit)) := loopO (g_Sw_eqStoItemS_0 y0 y1) x
noncomputable def xw_eqStoItemS_0 (y0 : List ((ByteArray) × (List (Int)))) (y1 : List ((ByteArray) × (List (Int)))) : (((Bool)) ⊕ (Unit)) → Ex × List (Pl × LV) := fun
  | .inl r => (.ret, [(.T 4, .t (.val false [.bool r]))])
  | .inr (r) => (.exit 0, [(.T 4, .t (.val false [.undef]))])
noncomputable def Ow_eqStoItemS_1 : Orc := fun b h => match b, h with
  | 0, [(.T 0, .t (.val false [.sl .any 88 (.pair .str (.sl 3 (.int .i64))) y0])), (.T 1, .t (.val false [.sl .any 88 (.pair .str (.sl 3 (.int .i64))) y1])), (.T 5, .t (.val false [.int .i64 y2]))] => some (okO (g_Lw_eqStoItemS_0 y0 y1 y2), (.br (isL (valO (g_Lw_eqStoItemS_0 y0 y1 y2))) (.leaf .ret [(.T 4, .t (.val false [.bool (getL (valO (g_Lw_eqStoItemS_0 y0 y1 y2)))]))]) (.leaf (.exit 0) [(.T 4, .t (.val false [.undef]))])))
  | b, h => Ow_eqStoItemS_0 b h
theorem bw_eqStoItemS_0 (y0 : List ((ByteArray) × (List (Int)))) (y1 : List ((ByteArray) × (List (Int)))) (y2 : Int) : Tr.bt Ew_eqStoItemS Ow_eqStoItemS_0 (exec Ew_eqStoItemS 0 cw_eqStoItemS_0 (St.of (hw_eqStoItemS_0 y0 y1 y2)) (leafRd Ew_eqStoItemS 0)) = (g_Sw_eqStoItemS_0 y0 y1 y2).bt (fun (y2 : (Int)) => (hw_eqStoItemS_0 y0 y1 y2)) (xw_eqStoItemS_0 y0 y1) := by kernel_rfl
theorem kw_eqStoItemS_1 : OrcOk Ew_eqStoItemS Ow_eqStoItemS_1 lsw_eqStoItemS 1 := orc_add kw_eqStoItemS_0 (fun n p hp h ex h' ho => by
  obtain ⟨b, c⟩ := p
  obtain ⟨xt, h1, h2⟩ := ho
  have h1 : Ow_eqStoItemS_1 b h = some (true, xt) := h1
  unfold Ow_eqStoItemS_1 at h1
  split at h1
  · injection h1 with h1
    injection h1 with e1 e2
    subst e2
    have hc : c = cw_eqStoItemS_0 := mw_eqStoItemS_0 _ hp rfl
    subst hc
    right
    rename_i y0 y1 y2
    have key := LT_step kw_eqStoItemS_0 hp (fun q hq => loopsAll_in _ _ _ _ hp hq) (fun (y2 : (Int)) => (hw_eqStoItemS_0 y0 y1 y2)) (xw_eqStoItemS_0 y0 y1) (g_Sw_eqStoItemS_0 y0 y1) (fun x => by first | exact bw_eqStoItemS_0 y0 y1 x) n (x := y2) (okO_some e1)
    have hx : ∀ r, XT.sel (.br (isL r) (.leaf .ret [(.T 4, .t (.val false [.bool (getL r)]))]) (.leaf (.exit 0) [(.T 4, .t (.val false [.undef]))])) = xw_eqStoItemS_0 y0 y1 r := fun r => by first | rfl | (rcases r with r | r <;> rfl) | (rcases r with r | r | r <;> rfl) | (rcases r with r | r | r | r <;> rfl)
    have h3 := (hx (valO (g_Lw_eqStoItemS_0 y0 y1 y2))).symm.trans h2
    have e3 := congrArg Prod.fst h3
    have e4 := congrArg Prod.snd h3
    simp only at e3 e4
    rw [← e3, ← e4]
    exact key
  · exact .inl ⟨xt, h1, h2⟩)
noncomputable def g_Aw_eqStoItemS (a0 : List ((ByteArray) × (List (Int)))) (a1 : List ((ByteArray) × (List (Int)))) : Bool := (↑(List.length a0) : Int) != (↑(List.length a1) : Int) || okO (g_Lw_eqStoItemS_0 a0 a1 (0 : Int))
noncomputable def g_Vw_eqStoItemS_0 (a0 : List ((ByteArray) × (List (Int)))) (a1 : List ((ByteArray) × (List (Int)))) : Bool := bif (↑(List.length a0) : Int) != (↑(List.length a1) : Int) then false else bif isL (valO (g_Lw_eqStoItemS_0 a0 a1 (0 : Int))) then getL (valO (g_Lw_eqStoItemS_0 a0 a1 (0 : Int))) else true
noncomputable def Fw_eqStoItemS : FSem := fun ys => match ys with
  | [.val false [.sl .any 88 (.pair .str (.sl 3 (.int .i64))) a0], .val false [.sl .any 88 (.pair .str (.sl 3 (.int .i64))) a1]] => some ((g_Aw_eqStoItemS a0 a1), .val false [.bool (g_Vw_eqStoItemS_0 a0 a1)], [])
  | _ => none
theorem vw_eqStoItemS (a0 : List ((ByteArray) × (List (Int)))) (a1 : List ((ByteArray) × (List (Int)))) : collapseH .std Ew_eqStoItemS Ow_eqStoItemS_1 (execFn Ew_eqStoItemS Go.Proofs.Tryd.f75 msw_eqStoItemS [.val false [.sl .any 88 (.pair .str (.sl 3 (.int .i64))) a0], .val false [.sl .any 88 (.pair .str (.sl 3 (.int .i64))) a1]]) = some ((g_Aw_eqStoItemS a0 a1), .val false [.bool (g_Vw_eqStoItemS_0 a0 a1)], []) := by kernel_rfl
theorem sw_eqStoItemS : Sound Go.Proofs.Tryd.prog 75 msw_eqStoItemS Fw_eqStoItemS := by
  refine fn_gen goodw_eqStoItemS (by kernel_rfl) .std (fn := Go.Proofs.Tryd.f75) (c := (Go.Proofs.Tryd.f75.body.getD .skip)) (o := Ow_eqStoItemS_1) (k := 1) (by kernel_rfl) (by kernel_rfl) (by kernel_rfl) (by kernel_rfl) (by decide) kw_eqStoItemS_1 ?_
  intro ys r outs h
  unfold Fw_eqStoItemS at h
  split at h
  · exact (vw_eqStoItemS _ _).trans h
  · cases h
end Go.Proofs.YtopoiinmhajhmaaDoor.E
end
section
namespace Go.Proofs.YtopoiinmhajhmaaDoor.E
open Go
set_option maxRecDepth 100000
set_option maxHeartbeats 0
set_option linter.all false
noncomputable def Ew_eqStoStore : Env where
  tt := mkTI Go.Proofs.Tryd.prog
  fn := fun f => match f with
    | 75 => some (msw_eqStoItemS, FSem.wk msw_eqStoItemS Fw_eqStoItemS)
    | _ => none
  mv := []
  keep := fun _ => []
  keepB := fun _ => []
  keepX := fun _ => []
  keepXB := fun _ => []
theorem goodw_eqStoStore : Good Go.Proofs.Tryd.prog Ew_eqStoStore := ⟨rfl, fun f ms F h => by
  unfold Ew_eqStoStore at h
  dsimp only at h
  split at h
  · injection h with h; injection h with e1 e2; subst e1 e2; exact Sound.wk sw_eqStoItemS
  · cases h⟩
noncomputable def Ow_eqStoStore_0 : Orc := fun _ _ => none
noncomputable def msw_eqStoStore : List PM := [.rd, .rd]
noncomputable def lsw_eqStoStore : List (Nat × Code) := loopsAll 0 (Go.Proofs.Tryd.f37.body.getD .skip)

theorem kw_eqStoStore_0 : OrcOk Ew_eqStoStore Ow_eqStoStore_0 lsw_eqStoStore 0 := orcOk_none
noncomputable def g_Aw_eqStoStore (a0 : List ((ByteArray) × (List (Int)))) (a1 : List ((ByteArray) × (List (Int)))) : Bool := g_Aw_eqStoItemS a0 a1
noncomputable def g_Vw_eqStoStore_0 (a0 : List ((ByteArray) × (List (Int)))) (a1 : List ((ByteArray) × (List (Int)))) : Bool := bif !g_Vw_eqStoItemS_0 a0 a1 then false else true
noncomputable def Fw_eqStoStore : FSem := fun ys => match ys with
  | [.val true [.sl .any 88 (.pair .str (.sl 3 (.int .i64))) a0], .val true [.sl .any 88 (.pair .str (.sl 3 (.int .i64))) a1]] => some ((g_Aw_eqStoStore a0 a1), .val false [.bool (g_Vw_eqStoStore_0 a0 a1)], [])
  | _ => none
theorem vw_eqStoStore (a0 : List ((ByteArray) × (List (Int)))) (a1 : List ((ByteArray) × (List (Int)))) : collapseH .std Ew_eqStoStore Ow_eqStoStore_0 (execFn Ew_eqStoStore Go.Proofs.Tryd.f37 msw_eqStoStore [.val true [.sl .any 88 (.pair .str (.sl 3 (.int .i64))) a0], .val true [.sl .any 88 (.pair .str (.sl 3 (.int .i64))) a1]]) = some ((g_Aw_eqStoStore a0 a1), .val false [.bool (g_Vw_eqStoStore_0 a0 a1)], []) := by kernel_rfl
theorem sw_eqStoStore : Sound Go.Proofs.Tryd.prog 37 msw_eqStoStore Fw_eqStoStore := by
  refine fn_gen goodw_eqStoStore (by kernel_rfl) .std (fn := Go.Proofs.Tryd.f37) (c := (Go.Proofs.Tryd.f37.body.getD .skip)) (o := Ow_eqStoStore_0) (k := 0) (by kernel_rfl) (by kernel_rfl) (by kernel_rfl) (by kernel_rfl) (by decide) kw_eqStoStore_0 ?_
  intro ys r outs h
  unfold Fw_eqStoStore at h
  split at h
  · exact (vw_eqStoStore _ _).trans h
  · cases h
end Go.Proofs.YtopoiinmhajhmaaDoor.E
end
section
namespace Go.Proofs.YtopoiinmhajhmaaDoor.E
open Go
set_option maxRecDepth 100000
set_option maxHeartbeats 0
set_option linter.all false
noncomputable def Ew_eqStoStoreS : Env where
  tt := mkTI Go.Proofs.Tryd.prog
  fn := fun f => match f with
    | 37 => some (msw_eqStoStore, FSem.wk msw_eqStoStore Fw_eqStoStore)
    | _ => none
  mv := []
  keep := fun b => match b with
    | 0 => [(0, false), (1, false), (5, false)]
    | _ => []
  keepB := fun b => match b with
    | 0 => []
    | _ => []
  keepX := fun b => match b with
    | 0 => [(4, false)]
    | _ => []
  keepXB := fun b => match b with
    | 0 => []
    | _ => []
theorem goodw_eqStoStoreS : Good Go.Proofs.Tryd.prog Ew_eqStoStoreS := ⟨rfl, fun f ms F h => by
  unfold Ew_eqStoStoreS at h
  dsimp only at h
  split at h
  · injection h with h; injection h with e1 e2; subst e1 e2; exact Sound.wk sw_eqStoStore
  · cases h⟩
noncomputable def Ow_eqStoStoreS_0 : Orc := fun _ _ => none
noncomputable def msw_eqStoStoreS : List PM := [.rd, .rd]
noncomputable def lsw_eqStoStoreS : List (Nat × Code) := loopsAll 0 (Go.Proofs.Tryd.f51.body.getD .skip)
noncomputable def cw_eqStoStoreS_0 : Code := (loopOf 0 (Go.Proofs.Tryd.f51.body.getD .skip)).getD .skip
theorem lseqw_eqStoStoreS : lsw_eqStoStoreS = [(0, cw_eqStoStoreS_0)] := by kernel_rfl
theorem mw_eqStoStoreS_0 : ∀ p, p ∈ lsw_eqStoStoreS → p.1 = 0 → p.2 = cw_eqStoStoreS_0 := by
  intro p hp
  rw [lseqw_eqStoStoreS] at hp
  simp only [List.mem_cons, List.not_mem_nil, or_false] at hp
  subst hp; simp
theorem kw_eqStoStoreS_0 : OrcOk Ew_eqStoStoreS Ow_eqStoStoreS_0 lsw_eqStoStoreS 0 := orcOk_none
noncomputable def hw_eqStoStoreS_0 (y0 : List (List ((ByteArray) × (List (Int))))) (y1 : List (List ((ByteArray) × (List (Int))))) (y2 : Int) : List (Pl × LV) := [(.T 0, .t (.val false [.sl .any 52 (.sl 88 (.pair .str (.sl 3 (.int .i64)))) y0])), (.T 1, .t (.val false [.sl .any 52 (.sl 88 (.pair .str (.sl 3 (.int .i64)))) y1])), (.T 5, .t (.val false [.int .i64 y2]))]
noncomputable def g_Sw_eqStoStoreS_0 (y0 : List (List ((ByteArray) × (List (Int))))) (y1 : List (List ((ByteArray) × (List (Int))))) : ((Int)) → RT ((Int)) (((Bool)) ⊕ (Unit))
  | y2 => .br (true) (.br (decide (y2 < (↑(List.length y0) : Int))) (.br (decide ((0 : Int) ≤ y2 ∧ y2 < (↑(List.length y0) : Int))) (.br (decide ((0 : Int) ≤ y2 ∧ y2 < (↑(List.length y1) : Int))) (.br (g_Aw_eqStoStore (at_ (Ty.sl (nat_lit 88) (Ty.pair Ty.str (Ty.sl (nat_lit 3) (Ty.int IntKind.i64)))) y0 (Int.toNat y2)) (at_ (Ty.sl (nat_lit 88) (Ty.pair Ty.str (Ty.sl (nat_lit 3) (Ty.int IntKind.i64)))) y1 (Int.toNat y2))) (.br (!g_Vw_eqStoStore_0 (at_ (Ty.sl (nat_lit 88) (Ty.pair Ty.str (Ty.sl (nat_lit 3) (Ty.int IntKind.i64)))) y0 (Int.toNat y2)) (at_ (Ty.sl (nat_lit 88) (Ty.pair Ty.str (Ty.sl (nat_lit 3) (Ty.int IntKind.i64)))) y1 (Int.toNat y2))) (.out (.inl false)) (.br (true) (.go (IntKind.wrap IntKind.i64 (y2 + (1 : Int)))) (.bad))) (.bad)) (.bad)) (.bad)) (.out (.inr (())))) (.bad)
noncomputable def g_Lw_eqStoStoreS_0 (y0 : List (List ((ByteArray) × (List (Int))))) (y1 : List (List ((ByteArray) × (List (Int))))) (x : (Int)) : Option (((Bool)) ⊕ (Unit)) := loopO (g_Sw_eqStoStoreS_0 y0 y1) x
noncomputable def xw_eqStoStoreS_0 (y0 : List (List ((ByteArray) × (List (Int))))) (y1 : List (List ((ByteArray) × (List (Int))))) : (((Bool)) ⊕ (Unit)) → Ex × List (Pl × LV) := fun
  | .inl r => (.ret, [(.T 4, .t (.val false [.bool r]))])
  | .inr (r) => (.exit 0, [(.T 4, .t (.val false [.undef]))])
noncomputable def Ow_eqStoStoreS_1 : Orc := fun b h => match b, h with
  | 0, [(.T 0, .t (.val false [.sl .any 52 (.sl 88 (.pair .str (.sl 3 (.int .i64)))) y0])), (.T 1, .t (.val false [.sl .any 52 (.sl 88 (.pair .str (.sl 3 (.int .i64)))) y1])), (.T 5, .t (.val false [.int .i64 y2]))] => some (okO (g_Lw_eqStoStoreS_0 y0 y1 y2), (.br (isL (valO (g_Lw_eqStoStoreS_0 y0 y1 y2))) (.leaf .ret [(.T 4, .t (.val false [.bool (getL (valO (g_Lw_eqStoStoreS_0 y0 y1 y2)))]))]) (.leaf (.exit 0) [(.T 4, .t (.val false [.undef]))])))
  | b, h => Ow_eqStoStoreS_0 b h
theorem bw_eqStoStoreS_0 (y0 : List (List ((ByteArray) × (List (Int))))) (y1 : List (List ((ByteArray) × (List (Int))))) (y2 : Int) : Tr.bt Ew_eqStoStoreS Ow_eqStoStoreS_0 (exec Ew_eqStoStoreS 0 cw_eqStoStoreS_0 (St.of (hw_eqStoStoreS_0 y0 y1 y2)) (leafRd Ew_eqStoStoreS 0)) = (g_Sw_eqStoStoreS_0 y0 y1 y2).bt (fun (y2 : (Int)) => (hw_eqStoStoreS_0 y0 y1 y2)) (xw_eqStoStoreS_0 y0 y1) := by kernel_rfl
theorem kw_eqStoStoreS_1 : OrcOk Ew_eqStoStoreS Ow_eqStoStoreS_1 lsw_eqStoStoreS 1 := orc_add kw_eqStoStoreS_0 (fun n p hp h ex h' ho => by
  obtain ⟨b, c⟩ := p
  obtain ⟨xt, h1, h2⟩ := ho
  have h1 : Ow_eqStoStoreS_1 b h = some (true, xt) := h1
  unfold Ow_eqStoStoreS_1 at h1
  split at h1
  · injection h1 with h1
    injection h1 with e1 e2
    subst e2
    have hc : c = cw_eqStoStoreS_0 := mw_eqStoStoreS_0 _ hp rfl
    subst hc
    right
    rename_i y0 y1 y2
    have key := LT_step kw_eqStoStoreS_0 hp (fun q hq => loopsAll_in _ _ _ _ hp hq) (fun (y2 : (Int)) => (hw_eqStoStoreS_0 y0 y1 y2)) (xw_eqStoStoreS_0 y0 y1) (g_Sw_eqStoStoreS_0 y0 y1) (fun x => by first | exact bw_eqStoStoreS_0 y0 y1 x) n (x := y2) (okO_some e1)
    have hx : ∀ r, XT.sel (.br (isL r) (.leaf .ret [(.T 4, .t (.val false [.bool (getL r)]))]) (.leaf (.exit 0) [(.T 4, .t (.val false [.undef]))])) = xw_eqStoStoreS_0 y0 y1 r := fun r => by first | rfl | (rcases r with r | r <;> rfl) | (rcases r with r | r | r <;> rfl) | (rcases r with r | r | r | r <;> rfl)
    have h3 := (hx (valO (g_Lw_eqStoStoreS_0 y0 y1 y2))).symm.trans h2
    have e3 := congrArg Prod.fst h3
    have e4 := congrArg Prod.snd h3
    simp only at e3 e4
    rw [← e3, ← e4]
    exact key
  · exact .inl ⟨xt, h1, h2⟩)
noncomputable def g_Aw_eqStoStoreS (a0 : List (List ((ByteArray) × (List (Int))))) (a1 : List (List ((ByteArray) × (List (Int))))) : Bool := (↑(List.length a0) : Int) != (↑(List.length a1) : Int) || okO (g_Lw_eqStoStoreS_0 a0 a1 (0 : Int))
noncomputable def g_Vw_eqStoStoreS_0 (a0 : List (List ((ByteArray) × (List (Int))))) (a1 : List (List ((ByteArray) × (List (Int))))) : Bool := bif (↑(List.length a0) : Int) != (↑(List.length a1) : Int) then false else bif isL (valO (g_Lw_eqStoStoreS_0 a0 a1 (0 : Int))) then getL (valO (g_Lw_eqStoStoreS_0 a0 a1 (0 : Int))) else true
noncomputable def Fw_eqStoStoreS : FSem := fun ys => match ys with
  | [.val false [.sl .any 52 (.sl 88 (.pair .str (.sl 3 (.int .i64)))) a0], .val false [.sl .any 52 (.sl 88 (.pair .str (.sl 3 (.int .i64)))) a1]] => some ((g_Aw_eqStoStoreS a0 a1), .val false [.bool (g_Vw_eqStoStoreS_0 a0 a1)], [])
  | _ => none
theorem vw_eqStoStoreS (a0 : List (List ((ByteArray) × (List (Int))))) (a1 : List (List ((ByteArray) × (List (Int))))) : collapseH .std Ew_eqStoStoreS Ow_eqStoStoreS_1 (execFn Ew_eqStoStoreS Go.Proofs.Tryd.f51 msw_eqStoStoreS [.val false [.sl .any 52 (.sl 88 (.pair .str (.sl 3 (.int .i64)))) a0], .val false [.sl .any 52 (.sl 88 (.pair .str (.sl 3 (.int .i64)))) a1]]) = some ((g_Aw_eqStoStoreS a0 a1), .val false [.bool (g_Vw_eqStoStoreS_0 a0 a1)], []) := by kernel_rfl
theorem sw_eqStoStoreS : Sound Go.Proofs.Tryd.prog 51 msw_eqStoStoreS Fw_eqStoStoreS := by
  refine fn_gen goodw_eqStoStoreS (by kernel_rfl) .std (fn := Go.Proofs.Tryd.f51) (c := (Go.Proofs.Tryd.f51.body.getD .skip)) (o := Ow_eqStoStoreS_1) (k := 1) (by kernel_rfl) (by kernel_rfl) (by kernel_rfl) (by kernel_rfl) (by decide) kw_eqStoStoreS_1 ?_
  intro ys r outs h
  unfold Fw_eqStoStoreS at h
  split at h
  · exact (vw_eqStoStoreS _ _).trans h
  · cases h
end Go.Proofs.YtopoiinmhajhmaaDoor.E
end
section
namespace Go.Proofs.YtopoiinmhajhmaaDoor.E
open Go
set_option maxRecDepth 100000
set_option maxHeartbeats 0
set_option linter.all false
noncomputable def Ew_szIntS : Env where
  tt := mkTI Go.Proofs.Tryd.prog
  fn := fun _ => none
  mv := []
  keep := fun _ => []
  keepB := fun _ => []
  keepX := fun _ => []
  keepXB := fun _ => []
theorem goodw_szIntS : Good Go.Proofs.Tryd.prog Ew_szIntS := ⟨rfl, fun f ms F h => by cases h⟩
noncomputable def Ow_szIntS_0 : Orc := fun _ _ => none
noncomputable def msw_szIntS : List PM := [.rd, .own]
noncomputable def lsw_szIntS : List (Nat × Code) := loopsAll 0 (Go.Proofs.Tryd.f62.body.getD .skip)

theorem kw_szIntS_0 : OrcOk Ew_szIntS Ow_szIntS_0 lsw_szIntS 0 := orcOk_none
noncomputable def g_Vw_szIntS_0 (a0 : List (Int)) (a1 : Int) : Int := bif decide (IntKind.wrap IntKind.i64 (a1 - (↑(List.length a0) : Int)) < (0 : Int)) then (-1 : Int) else IntKind.wrap IntKind.i64 (a1 - (↑(List.length a0) : Int))
noncomputable def Fw_szIntS : FSem := fun ys => match ys with
  | [.val false [.sl .any 3 (.int .i64) a0], .val false [.int .i64 a1]] => some (true, .val false [.int .i64 (g_Vw_szIntS_0 a0 a1)], [])
  | _ => none
theorem vw_szIntS (a0 : List (Int)) (a1 : Int) : collapseH .std Ew_szIntS Ow_szIntS_0 (execFn Ew_szIntS Go.Proofs.Tryd.f62 msw_szIntS [.val false [.sl .any 3 (.int .i64) a0], .val false [.int .i64 a1]]) = some (true, .val false [.int .i64 (g_Vw_szIntS_0 a0 a1)], []) := by kernel_rfl
theorem sw_szIntS : Sound Go.Proofs.Tryd.prog 62 msw_szIntS Fw_szIntS := by
  refine fn_gen goodw_szIntS (by kernel_rfl) .std (fn := Go.Proofs.Tryd.f62) (c := (Go.Proofs.Tryd.f62.body.getD .skip)) (o := Ow_szIntS_0) (k := 0) (by kernel_rfl) (by kernel_rfl) (by kernel_rfl) (by kernel_rfl) (by decide) kw_szIntS_0 ?_
  intro ys r outs h
  unfold Fw_szIntS at h
  split at h
  · exact (vw_szIntS _ _).trans h
  · cases h
end Go.Proofs.YtopoiinmhajhmaaDoor.E
end
section
namespace Go.Proofs.YtopoiinmhajhmaaDoor.E
open Go
set_option maxRecDepth 100000
set_option maxHeartbeats 0
set_option linter.all false
noncomputable def Ew_szStoItem : Env where
  tt := mkTI Go.Proofs.Tryd.prog
  fn := fun f => match f with
    | 62 => some (msw_szIntS, FSem.wk msw_szIntS Fw_szIntS)
    | _ => none
  mv := []
  keep := fun _ => []
  keepB := fun _ => []
  keepX := fun _ => []
  keepXB := fun _ => []
theorem goodw_szStoItem : Good Go.Proofs.Tryd.prog Ew_szStoItem := ⟨rfl, fun f ms F h => by
  unfold Ew_szStoItem at h
  dsimp only at h
  split at h
  · injection h with h; injection h with e1 e2; subst e1 e2; exact Sound.wk sw_szIntS
  · cases h⟩
noncomputable def Ow_szStoItem_0 : Orc := fun _ _ => none
noncomputable def msw_szStoItem : List PM := [.rd, .own]
noncomputable def lsw_szStoItem : List (Nat × Code) := loopsAll 0 (Go.Proofs.Tryd.f105.body.getD .skip)

theorem kw_szStoItem_0 : OrcOk Ew_szStoItem Ow_szStoItem_0 lsw_szStoItem 0 := orcOk_none
noncomputable def g_Aw_szStoItem (a0 : ByteArray) (a1 : List (Int)) (a2 : Int) : Bool := decide (IntKind.wrap IntKind.i64 (a2 - (↑(ByteArray.size a0) : Int)) < (0 : Int)) || true
noncomputable def g_Vw_szStoItem_0 (a0 : ByteArray) (a1 : List (Int)) (a2 : Int) : Int := bif decide (IntKind.wrap IntKind.i64 (a2 - (↑(ByteArray.size a0) : Int)) < (0 : Int)) then (-1 : Int) else bif decide (g_Vw_szIntS_0 a1 (IntKind.wrap IntKind.i64 (a2 - (↑(ByteArray.size a0) : Int))) < (0 : Int)) then (-1 : Int) else g_Vw_szIntS_0 a1 (IntKind.wrap IntKind.i64 (a2 - (↑(ByteArray.size a0) : Int)))
noncomputable def Fw_szStoItem : FSem := fun ys => match ys with
  | [.val true [.str a0, .sl .any 3 (.int .i64) a1], .val false [.int .i64 a2]] => some ((g_Aw_szStoItem a0 a1 a2), .val false [.int .i64 (g_Vw_szStoItem_0 a0 a1 a2)], [])
  | _ => none
theorem vw_szStoItem (a0 : ByteArray) (a1 : List (Int)) (a2 : Int) : collapseH .std Ew_szStoItem Ow_szStoItem_0 (execFn Ew_szStoItem Go.Proofs.Tryd.f105 msw_szStoItem [.val true [.str a0, .sl .any 3 (.int .i64) a1], .val false [.int .i64 a2]]) = some ((g_Aw_szStoItem a0 a1 a2), .val false [.int .i64 (g_Vw_szStoItem_0 a0 a1 a2)], []) := by kernel_rfl
theorem sw_szStoItem : Sound Go.Proofs.Tryd.prog 105 msw_szStoItem Fw_szStoItem := by
  refine fn_gen goodw_szStoItem (by kernel_rfl) .std (fn := Go.Proofs.Tryd.f105) (c := (Go.Proofs.Tryd.f105.body.getD .skip)) (o := Ow_szStoItem_0) (k := 0) (by kernel_rfl) (by kernel_rfl) (by kernel_rfl) (by kernel_rfl) (by decide) kw_szStoItem_0 ?_
  intro ys r outs h
  unfold Fw_szStoItem at h
  split at h
  · exact (vw_szStoItem _ _ _).trans h
  · cases h
end Go.Proofs.YtopoiinmhajhmaaDoor.E
end
section
namespace Go.Proofs.YtopoiinmhajhmaaDoor.E
open Go
set_option maxRecDepth 100000
set_option maxHeartbeats 0
set_option linter.all false
noncomputable def Ew_szStoItemS : Env where
  tt := mkTI Go.Proofs.Tryd.prog
  fn := fun f => match f with
    | 105 => some (msw_szStoItem, FSem.wk msw_szStoItem Fw_szStoItem)
    | _ => none
  mv := []
  keep := fun b => match b with
    | 0 => [(0, false), (1, false), (5, false)]
    | _ => []
  keepB := fun b => match b with
    | 0 => []
    | _ => []
  keepX := fun b => match b with
    | 0 => [(1, false), (4, false)]
    | _ => []
  keepXB := fun b => match b with
    | 0 => []
    | _ => []
theorem goodw_szStoItemS : Good Go.Proofs.Tryd.prog Ew_szStoItemS := ⟨rfl, fun f ms F h => by
  unfold Ew_szStoItemS at h
  dsimp only at h
  split at h
  · injection h with h; injection h with e1 e2; subst e1 e2; exact Sound.wk sw_szStoItem
  · cases h⟩
noncomputable def Ow_szStoItemS_0 : Orc := fun _ _ => none
noncomputable def msw_szStoItemS : List PM := [.rd, .own]
noncomputable def lsw_szStoItemS : List (Nat × Code) := loopsAll 0 (Go.Proofs.Tryd.f73.body.getD .skip)
noncomputable def cw_szStoItemS_0 : Code := (loopOf 0 (Go.Proofs.Tryd.f73.body.getD .skip)).getD .skip
theorem lseqw_szStoItemS : lsw_szStoItemS = [(0, cw_szStoItemS_0)] := by kernel_rfl
theorem mw_szStoItemS_0 : ∀ p, p ∈ lsw_szStoItemS → p.1 = 0 → p.2 = cw_szStoItemS_0 := by
  intro p hp
  rw [lseqw_szStoItemS] at hp
  simp only [List.mem_cons, List.not_mem_nil, or_false] at hp
  subst hp; simp
theorem kw_szStoItemS_0 : OrcOk Ew_szStoItemS Ow_szStoItemS_0 lsw_szStoItemS 0 := orcOk_none
noncomputable def hw_szStoItemS_0 (y0 : List ((ByteArray) × (List (Int)))) (y1 : Int) (y2 : Int) : List (Pl × LV) := [(.T 0, .t (.val false [.sl .any 124 (.pair .str (.sl 3 (.int .i64))) y0])), (.T 1, .t (.val false [.int .i64 y1])), (.T 5, .t (.val false [.int .i64 y2]))]
noncomputable def g_Sw_szStoItemS_0 (y0 : List ((ByteArray) × (List (Int)))) : ((Int) × (Int)) → RT ((Int) × (Int)) (((Int) × (Int)) ⊕ ((Int)))
  | (y1, y2) => .br (true) (.br (decide (y2 < (↑(List.length y0) : Int))) (.br (decide ((0 : Int) ≤ y2 ∧ y2 < (↑(List.length y0) : Int))) (.br (g_Aw_szStoItem (at_ (Ty.pair Ty.str (Ty.sl (nat_lit 3) (Ty.int IntKind.i64))) y0 (Int.toNat y2)).1 (at_ (Ty.pair Ty.str (Ty.sl (nat_lit 3) (Ty.int IntKind.i64))) y0 (Int.toNat y2)).2 y1) (.br (true) (.br (decide (g_Vw_szStoItem_0 (at_ (Ty.pair Ty.str (Ty.sl (nat_lit 3) (Ty.int IntKind.i64))) y0 (Int.toNat y2)).1 (at_ (Ty.pair Ty.str (Ty.sl (nat_lit 3) (Ty.int IntKind.i64))) y0 (Int.toNat y2)).2 y1 < (0 : Int))) (.out (.inl ((g_Vw_szStoItem_0 (at_ (Ty.pair Ty.str (Ty.sl (nat_lit 3) (Ty.int IntKind.i64))) y0 (Int.toNat y2)).1 (at_ (Ty.pair Ty.str (Ty.sl (nat_lit 3) (Ty.int IntKind.i64))) y0 (Int.toNat y2)).2 y1, (-1 : Int))))) (.br (true) (.go ((g_Vw_szStoItem_0 (at_ (Ty.pair Ty.str (Ty.sl (nat_lit 3) (Ty.int IntKind.i64))) y0 (Int.toNat y2)).1 (at_ (Ty.pair Ty.str (Ty.sl (nat_lit 3) (Ty.int IntKind.i64))) y0 (Int.toNat y2)).2 y1, IntKind.wrap IntKind.i64 (y2 + (1 : Int))))) (.bad))) (.bad)) (.bad)) (.bad)) (.out (.inr (y1)))) (.bad)
noncomputable def g_Lw_szStoItemS_0 (y0 : List ((ByteArray) × (List (Int)))) (x : (Int) × (Int)) : Option (((Int) × (Int)) ⊕ ((Int))) := loopO (g_Sw_szStoItemS_0 y0) x
noncomputable def xw_szStoItemS_0 (y0 : List ((ByteArray) × (List (Int)))) : (((Int) × (Int)) ⊕ ((Int))) → Ex × List (Pl × LV) := fun
  | .inl r => (.ret, [(.T 1, .t (.val false [.int .i64 r.1])), (.T 4, .t (.val false [.int .i64 r.2]))])
  | .inr (r) => (.exit 0, [(.T 1, .t (.val false [.int .i64 r])), (.T 4, .t (.val false [.undef]))])
noncomputable def Ow_szStoItemS_1 : Orc := fun b h => match b, h with
  | 0, [(.T 0, .t (.val false [.sl .any 124 (.pair .str (.sl 3 (.int .i64))) y0])), (.T 1, .t (.val false [.int .i64 y1])), (.T 5, .t (.val false [.int .i64 y2]))] => some (okO (g_Lw_szStoItemS_0 y0 (y1, y2)), (.br (isL (valO (g_Lw_szStoItemS_0 y0 (y1, y2)))) (.leaf .ret [(.T 1, .t (.val false [.int .i64 (getL (valO (g_Lw_szStoItemS_0 y0 (y1, y2)))).1])), (.T 4, .t (.val false [.int .i64 (getL (valO (g_Lw_szStoItemS_0 y0 (y1, y2)))).2]))]) (.leaf (.exit 0) [(.T 1, .t (.val false [.int .i64 (getR (valO (g_Lw_szStoItemS_0 y0 (y1, y2))))])), (.T 4, .t (.val false [.undef]))])))
  | b, h => Ow_szStoItemS_0 b h
theorem bw_szStoItemS_0 (y0 : List ((ByteArray) × (List (Int)))) (y1 : Int) (y2 : Int) : Tr.bt Ew_szStoItemS Ow_szStoItemS_0 (exec Ew_szStoItemS 0 cw_szStoItemS_0 (St.of (hw_szStoItemS_0 y0 y1 y2)) (leafRd Ew_szStoItemS 0)) = (g_Sw_szStoItemS_0 y0 (y1, y2)).bt (fun ((y1, y2) : (Int) × (Int)) => (hw_szStoItemS_0 y0 y1 y2)) (xw_szStoItemS_0 y0) := by kernel_rfl
theorem kw_szStoItemS_1 : OrcOk Ew_szStoItemS Ow_szStoItemS_1 lsw_szStoItemS 1 := orc_add kw_szStoItemS_0 (fun n p hp h ex h' ho => by
  obtain ⟨b, c⟩ := p
  obtain ⟨xt, h1, h2⟩ := ho
  have h1 : Ow_szStoItemS_1 b h = some (true, xt) := h1
  unfold Ow_szStoItemS_1 at h1
  split at h1
  · injection h1 with h1
    injection h1 with e1 e2
    subst e2
    have hc : c = cw_szStoItemS_0 := mw_szStoItemS_0 _ hp rfl
    subst hc
    right
    rename_i y0 y1 y2
    have key := LT_step kw_szStoItemS_0 hp (fun q hq => loopsAll_in _ _ _ _ hp hq) (fun ((y1, y2) : (Int) × (Int)) => (hw_szStoItemS_0 y0 y1 y2)) (xw_szStoItemS_0 y0) (g_Sw_szStoItemS_0 y0) (fun x => by first | exact bw_szStoItemS_0 y0 x.1 x.2) n (x := (y1, y2)) (okO_some e1)
    have hx : ∀ r, XT.sel (.br (isL r) (.leaf .ret [(.T 1, .t (.val false [.int .i64 (getL r).1])), (.T 4, .t (.val false [.int .i64 (getL r).2]))]) (.leaf (.exit 0) [(.T 1, .t (.val false [.int .i64 (getR r)])), (.T 4, .t (.val false [.undef]))])) = xw_szStoItemS_0 y0 r := fun r => by first | rfl | (rcases r with r | r <;> rfl) | (rcases r with r | r | r <;> rfl) | (rcases r with r | r | r | r <;> rfl)
    have h3 := (hx (valO (g_Lw_szStoItemS_0 y0 (y1, y2)))).symm.trans h2
    have e3 := congrArg Prod.fst h3
    have e4 := congrArg Prod.snd h3
    simp only at e3 e4
    rw [← e3, ← e4]
    exact key
  · exact .inl ⟨xt, h1, h2⟩)
noncomputable def g_Aw_szStoItemS (a0 : List ((ByteArray) × (List (Int)))) (a1 : Int) : Bool := decide (IntKind.wrap IntKind.i64 (a1 - (↑(List.length a0) : Int)) < (0 : Int)) || okO (g_Lw_szStoItemS_0 a0 (IntKind.wrap IntKind.i64 (a1 - (↑(List.length a0) : Int)), (0 : Int)))
noncomputable def g_Vw_szStoItemS_0 (a0 : List ((ByteArray) × (List (Int)))) (a1 : Int) : Int := bif decide (IntKind.wrap IntKind.i64 (a1 - (↑(List.length a0) : Int)) < (0 : Int)) then (-1 : Int) else bif isL (valO (g_Lw_szStoItemS_0 a0 (IntKind.wrap IntKind.i64 (a1 - (↑(List.length a0) : Int)), (0 : Int)))) then (getL (valO (g_Lw_szStoItemS_0 a0 (IntKind.wrap IntKind.i64 (a1 - (↑(List.length a0) : Int)), (0 : Int))))).2 else getR (valO (g_Lw_szStoItemS_0 a0 (IntKind.wrap IntKind.i64 (a1 - (↑(List.length a0) : Int)), (0 : Int))))
noncomputable def Fw_szStoItemS : FSem := fun ys => match ys with
  | [.val false [.sl .any 124 (.pair .str (.sl 3 (.int .i64))) a0], .val false [.int .i64 a1]] => some ((g_Aw_szStoItemS a0 a1), .val false [.int .i64 (g_Vw_szStoItemS_0 a0 a1)], [])
  | _ => none
theorem vw_szStoItemS (a0 : List ((ByteArray) × (List (Int)))) (a1 : Int) : collapseH .std Ew_szStoItemS Ow_szStoItemS_1 (execFn Ew_szStoItemS Go.Proofs.Tryd.f73 msw_szStoItemS [.val false [.sl .any 124 (.pair .str (.sl 3 (.int .i64))) a0], .val false [.int .i64 a1]]) = some ((g_Aw_szStoItemS a0 a1), .val false [.int .i64 (g_Vw_szStoItemS_0 a0 a1)], []) := by kernel_rfl
theorem sw_szStoItemS : Sound Go.Proofs.Tryd.prog 73 msw_szStoItemS Fw_szStoItemS := by
  refine fn_gen goodw_szStoItemS (by kernel_rfl) .std (fn := Go.Proofs.Tryd.f73) (c := (Go.Proofs.Tryd.f73.body.getD .skip)) (o := Ow_szStoItemS_1) (k := 1) (by kernel_rfl) (by kernel_rfl) (by kernel_rfl) (by kernel_rfl) (by decide) kw_szStoItemS_1 ?_
  intro ys r outs h
  unfold Fw_szStoItemS at h
  split at h
  · exact (vw_szStoItemS _ _).trans h
  · cases h
end Go.Proofs.YtopoiinmhajhmaaDoor.E
end
section
namespace Go.Proofs.YtopoiinmhajhmaaDoor.E
open Go
set_option maxRecDepth 100000
set_option maxHeartbeats 0
set_option linter.all false
noncomputable def Ew_szStoStore : Env where
  tt := mkTI Go.Proofs.Tryd.prog
  fn := fun f => match f with
    | 73 => some (msw_szStoItemS, FSem.wk msw_szStoItemS Fw_szStoItemS)
    | _ => none
  mv := []
  keep := fun _ => []
  keepB := fun _ => []
  keepX := fun _ => []
  keepXB := fun _ => []
theorem goodw_szStoStore : Good Go.Proofs.Tryd.prog Ew_szStoStore := ⟨rfl, fun f ms F h => by
  unfold Ew_szStoStore at h
  dsimp only at h
  split at h
  · injection h with h; injection h with e1 e2; subst e1 e2; exact Sound.wk sw_szStoItemS
  · cases h⟩
noncomputable def Ow_szStoStore_0 : Orc := fun _ _ => none
noncomputable def msw_szStoStore : List PM := [.rd, .own]
noncomputable def lsw_szStoStore : List (Nat × Code) := loopsAll 0 (Go.Proofs.Tryd.f33.body.getD .skip)

theorem kw_szStoStore_0 : OrcOk Ew_szStoStore Ow_szStoStore_0 lsw_szStoStore 0 := orcOk_none
noncomputable def g_Aw_szStoStore (a0 : List ((ByteArray) × (List (Int)))) (a1 : Int) : Bool := g_Aw_szStoItemS a0 a1 && true
noncomputable def g_Vw_szStoStore_0 (a0 : List ((ByteArray) × (List (Int)))) (a1 : Int) : Int := bif decide (g_Vw_szStoItemS_0 a0 a1 < (0 : Int)) then (-1 : Int) else g_Vw_szStoItemS_0 a0 a1
noncomputable def Fw_szStoStore : FSem := fun ys => match ys with
  | [.val true [.sl .any 124 (.pair .str (.sl 3 (.int .i64))) a0], .val false [.int .i64 a1]] => some ((g_Aw_szStoStore a0 a1), .val false [.int .i64 (g_Vw_szStoStore_0 a0 a1)], [])
  | _ => none
theorem vw_szStoStore (a0 : List ((ByteArray) × (List (Int)))) (a1 : Int) : collapseH .std Ew_szStoStore Ow_szStoStore_0 (execFn Ew_szStoStore Go.Proofs.Tryd.f33 msw_szStoStore [.val true [.sl .any 124 (.pair .str (.sl 3 (.int .i64))) a0], .val false [.int .i64 a1]]) = some ((g_Aw_szStoStore a0 a1), .val false [.int .i64 (g_Vw_szStoStore_0 a0 a1)], []) := by kernel_rfl
theorem sw_szStoStore : Sound Go.Proofs.Tryd.prog 33 msw_szStoStore Fw_szStoStore := by
  refine fn_gen goodw_szStoStore (by kernel_rfl) .std (fn := Go.Proofs.Tryd.f33) (c := (Go.Proofs.Tryd.f33.body.getD .skip)) (o := Ow_szStoStore_0) (k := 0) (by kernel_rfl) (by kernel_rfl) (by kernel_rfl) (by kernel_rfl) (by decide) kw_szStoStore_0 ?_
  intro ys r outs h
  unfold Fw_szStoStore at h
  split at h
  · exact (vw_szStoStore _ _).trans h
  · cases h
end Go.Proofs.YtopoiinmhajhmaaDoor.E
end
section
namespace Go.Proofs.YtopoiinmhajhmaaDoor.E
open Go
set_option maxRecDepth 100000
set_option maxHeartbeats 0
set_option linter.all false
noncomputable def Ew_szStoStoreS : Env where
  tt := mkTI Go.Proofs.Tryd.prog
  fn := fun f => match f with
    | 33 => some (msw_szStoStore, FSem.wk msw_szStoStore Fw_szStoStore)
    | _ => none
  mv := []
  keep := fun b => match b with
    | 0 => [(0, false), (1, false), (5, false)]
    | _ => []
  keepB := fun b => match b with
    | 0 => []
    | _ => []
  keepX := fun b => match b with
    | 0 => [(1, false), (4, false)]
    | _ => []
  keepXB := fun b => match b with
    | 0 => []
    | _ => []
theorem goodw_szStoStoreS : Good Go.Proofs.Tryd.prog Ew_szStoStoreS := ⟨rfl, fun f ms F h => by
  unfold Ew_szStoStoreS at h
  dsimp only at h
  split at h
  · injection h with h; injection h with e1 e2; subst e1 e2; exact Sound.wk sw_szStoStore
  · cases h⟩
noncomputable def Ow_szStoStoreS_0 : Orc := fun _ _ => none
noncomputable def msw_szStoStoreS : List PM := [.rd, .own]
noncomputable def lsw_szStoStoreS : List (Nat × Code) := loopsAll 0 (Go.Proofs.Tryd.f47.body.getD .skip)
noncomputable def cw_szStoStoreS_0 : Code := (loopOf 0 (Go.Proofs.Tryd.f47.body.getD .skip)).getD .skip
theorem lseqw_szStoStoreS : lsw_szStoStoreS = [(0, cw_szStoStoreS_0)] := by kernel_rfl
theorem mw_szStoStoreS_0 : ∀ p, p ∈ lsw_szStoStoreS → p.1 = 0 → p.2 = cw_szStoStoreS_0 := by
  intro p hp
  rw [lseqw_szStoStoreS] at hp
  simp only [List.mem_cons, List.not_mem_nil, or_false] at hp
  subst hp; simp
theorem kw_szStoStoreS_0 : OrcOk Ew_szStoStoreS Ow_szStoStoreS_0 lsw_szStoStoreS 0 := orcOk_none
noncomputable def hw_szStoStoreS_0 (y0 : List (List ((ByteArray) × (List (Int))))) (y1 : Int) (y2 : Int) : List (Pl × LV) := [(.T 0, .t (.val false [.sl .any 47 (.sl 124 (.pair .str (.sl 3 (.int .i64)))) y0])), (.T 1, .t (.val false [.int .i64 y1])), (.T 5, .t (.val false [.int .i64 y2]))]
noncomputable def g_Sw_szStoStoreS_0 (y0 : List (List ((ByteArray) × (List (Int))))) : ((Int) × (Int)) → RT ((Int) × (Int)) (((Int) × (Int)) ⊕ ((Int)))
  | (y1, y2) => .br (true) (.br (decide (y2 < (↑(List.length y0) : Int))) (.br (decide ((0 : Int) ≤ y2 ∧ y2 < (↑(List.length y0) : Int))) (.br (g_Aw_szStoStore (at_ (Ty.sl (nat_lit 124) (Ty.pair Ty.str (Ty.sl (nat_lit 3) (Ty.int IntKind.i64)))) y0 (Int.toNat y2)) y1) (.br (true) (.br (decide (g_Vw_szStoStore_0 (at_ (Ty.sl (nat_lit 124) (Ty.pair Ty.str (Ty.sl (nat_lit 3) (Ty.int IntKind.i64)))) y0 (Int.toNat y2)) y1 < (0 : Int))) (.out (.inl ((g_Vw_szStoStore_0 (at_ (Ty.sl (nat_lit 124) (Ty.pair Ty.str (Ty.sl (nat_lit 3) (Ty.int IntKind.i64)))) y0 (Int.toNat y2)) y1, (-1 : Int))))) (.br (true) (.go ((g_Vw_szStoStore_0 (at_ (Ty.sl (nat_lit 124) (Ty.pair Ty.str (Ty.sl (nat_lit 3) (Ty.int IntKind.i64)))) y0 (Int.toNat y2)) y1, IntKind.wrap IntKind.i64 (y2 + (1 : Int))))) (.bad))) (.bad)) (.bad)) (.bad)) (.out (.inr (y1)))) (.bad)
noncomputable def g_Lw_szStoStoreS_0 (y0 : List (List ((ByteArray) × (List (Int))))) (x : (Int) × (Int)) : Option (((Int) × (Int)) ⊕ ((Int))) := loopO (g_Sw_szStoStoreS_0 y0) x
noncomputable def xw_szStoStoreS_0 (y0 : List (List ((ByteArray) × (List (Int))))) : (((Int) × (Int)) ⊕ ((Int))) → Ex × List (Pl × LV) := fun
  | .inl r => (.ret, [(.T 1, .t (.val false [.int .i64 r.1])), (.T 4, .t (.val false [.int .i64 r.2]))])
  | .inr (r) => (.exit 0, [(.T 1, .t (.val false [.int .i64 r])), (.T 4, .t (.val false [.undef]))])
noncomputable def Ow_szStoStoreS_1 : Orc := fun b h => match b, h with
  | 0, [(.T 0, .t (.val false [.sl .any 47 (.sl 124 (.pair .str (.sl 3 (.int .i64)))) y0])), (.T 1, .t (.val false [.int .i64 y1])), (.T 5, .t (.val false [.int .i64 y2]))] => some (okO (g_Lw_szStoStoreS_0 y0 (y1, y2)), (.br (isL (valO (g_Lw_szStoStoreS_0 y0 (y1, y2)))) (.leaf .ret [(.T 1, .t (.val false [.int .i64 (getL (valO (g_Lw_szStoStoreS_0 y0 (y1, y2)))).1])), (.T 4, .t (.val false [.int .i64 (getL (valO (g_Lw_szStoStoreS_0 y0 (y1, y2)))).2]))]) (.leaf (.exit 0) [(.T 1, .t (.val false [.int .i64 (getR (valO (g_Lw_szStoStoreS_0 y0 (y1, y2))))])), (.T 4, .t (.val false [.undef]))])))
  | b, h => Ow_szStoStoreS_0 b h
theorem bw_szStoStoreS_0 (y0 : List (List ((ByteArray) × (List (Int))))) (y1 : Int) (y2 : Int) : Tr.bt Ew_szStoStoreS Ow_szStoStoreS_0 (exec Ew_szStoStoreS 0 cw_szStoStoreS_0 (St.of (hw_szStoStoreS_0 y0 y1 y2)) (leafRd Ew_szStoStoreS 0)) = (g_Sw_szStoStoreS_0 y0 (y1, y2)).bt (fun ((y1, y2) : (Int) × (Int)) => (hw_szStoStoreS_0 y0 y1 y2)) (xw_szStoStoreS_0 y0) := by kernel_rfl
theorem kw_szStoStoreS_1 : OrcOk Ew_szStoStoreS Ow_szStoStoreS_1 lsw_szStoStoreS 1 := orc_add kw_szStoStoreS_0 (fun n p hp h ex h' ho => by
  obtain ⟨b, c⟩ := p
  obtain ⟨xt, h1, h2⟩ := ho
  have h1 : Ow_szStoStoreS_1 b h = some (true, xt) := h1
  unfold Ow_szStoStoreS_1 at h1
  split at h1
  · injection h1 with h1
    injection h1 with e1 e2
    subst e2
    have hc : c = cw_szStoStoreS_0 := mw_szStoStoreS_0 _ hp rfl
    subst hc
    right
    rename_i y0 y1 y2
    have key := LT_step kw_szStoStoreS_0 hp (fun q hq => loopsAll_in _ _ _ _ hp hq) (fun ((y1, y2) : (Int) × (Int)) => (hw_szStoStoreS_0 y0 y1 y2)) (xw_szStoStoreS_0 y0) (g_Sw_szStoStoreS_0 y0) (fun x => by first | exact bw_szStoStoreS_0 y0 x.1 x.2) n (x := (y1, y2)) (okO_some e1)
    have hx : ∀ r, XT.sel (.br (isL r) (.leaf .ret [(.T 1, .t (.val false [.int .i64 (getL r).1])), (.T 4, .t (.val false [.int .i64 (getL r).2]))]) (.leaf (.exit 0) [(.T 1, .t (.val false [.int .i64 (getR r)])), (.T 4, .t (.val false [.undef]))])) = xw_szStoStoreS_0 y0 r := fun r => by first | rfl | (rcases r with r | r <;> rfl) | (rcases r with r | r | r <;> rfl) | (rcases r with r | r | r | r <;> rfl)
    have h3 := (hx (valO (g_Lw_szStoStoreS_0 y0 (y1, y2)))).symm.trans h2
    have e3 := congrArg Prod.fst h3
    have e4 := congrArg Prod.snd h3
    simp only at e3 e4
    rw [← e3, ← e4]
    exact key
  · exact .inl ⟨xt, h1, h2⟩)
noncomputable def g_Aw_szStoStoreS (a0 : List (List ((ByteArray) × (List (Int))))) (a1 : Int) : Bool := decide (IntKind.wrap IntKind.i64 (a1 - (↑(List.length a0) : Int)) < (0 : Int)) || okO (g_Lw_szStoStoreS_0 a0 (IntKind.wrap IntKind.i64 (a1 - (↑(List.length a0) : Int)), (0 : Int)))
noncomputable def g_Vw_szStoStoreS_0 (a0 : List (List ((ByteArray) × (List (Int))))) (a1 : Int) : Int := bif decide (IntKind.wrap IntKind.i64 (a1 - (↑(List.length a0) : Int)) < (0 : Int)) then (-1 : Int) else bif isL (valO (g_Lw_szStoStoreS_0 a0 (IntKind.wrap IntKind.i64 (a1 - (↑(List.length a0) : Int)), (0 : Int)))) then (getL (valO (g_Lw_szStoStoreS_0 a0 (IntKind.wrap IntKind.i64 (a1 - (↑(List.length a0) : Int)), (0 : Int))))).2 else getR (valO (g_Lw_szStoStoreS_0 a0 (IntKind.wrap IntKind.i64 (a1 - (↑(List.length a0) : Int)), (0 : Int))))
noncomputable def Fw_szStoStoreS : FSem := fun ys => match ys with
  | [.val false [.sl .any 47 (.sl 124 (.pair .str (.sl 3 (.int .i64)))) a0], .val false [.int .i64 a1]] => some ((g_Aw_szStoStoreS a0 a1), .val false [.int .i64 (g_Vw_szStoStoreS_0 a0 a1)], [])
  | _ => none
theorem vw_szStoStoreS (a0 : List (List ((ByteArray) × (List (Int))))) (a1 : Int) : collapseH .std Ew_szStoStoreS Ow_szStoStoreS_1 (execFn Ew_szStoStoreS Go.Proofs.Tryd.f47 msw_szStoStoreS [.val false [.sl .any 47 (.sl 124 (.pair .str (.sl 3 (.int .i64)))) a0], .val false [.int .i64 a1]]) = some ((g_Aw_szStoStoreS a0 a1), .val false [.int .i64 (g_Vw_szStoStoreS_0 a0 a1)], []) := by kernel_rfl
theorem sw_szStoStoreS : Sound Go.Proofs.Tryd.prog 47 msw_szStoStoreS Fw_szStoStoreS := by
  refine fn_gen goodw_szStoStoreS (by kernel_rfl) .std (fn := Go.Proofs.Tryd.f47) (c := (Go.Proofs.Tryd.f47.body.getD .skip)) (o := Ow_szStoStoreS_1) (k := 1) (by kernel_rfl) (by kernel_rfl) (by kernel_rfl) (by kernel_rfl) (by decide) kw_szStoStoreS_1 ?_
  intro ys r outs h
  unfold Fw_szStoStoreS at h
  split at h
  · exact (vw_szStoStoreS _ _).trans h
  · cases h
end Go.Proofs.YtopoiinmhajhmaaDoor.E
end
section
namespace Go.Proofs.YtopoiinmhajhmaaDoor.E
open Go
set_option maxRecDepth 100000
set_option maxHeartbeats 0
set_option linter.all false
noncomputable def Ew_toIntS : Env where
  tt := mkTI Go.Proofs.Tryd.prog
  fn := fun _ => none
  mv := []
  keep := fun b => match b with
    | 0 => [(0, false), (3, false), (4, false)]
    | _ => []
  keepB := fun b => match b with
    | 0 => []
    | _ => []
  keepX := fun b => match b with
    | 0 => [(3, false)]
    | _ => []
  keepXB := fun b => match b with
    | 0 => []
    | _ => []
theorem goodw_toIntS : Good Go.Proofs.Tryd.prog Ew_toIntS := ⟨rfl, fun f ms F h => by cases h⟩
noncomputable def Ow_toIntS_0 : Orc := fun _ _ => none
noncomputable def msw_toIntS : List PM := [.rd]
noncomputable def lsw_toIntS : List (Nat × Code) := loopsAll 0 (Go.Proofs.Tryd.f65.body.getD .skip)
noncomputable def cw_toIntS_0 : Code := (loopOf 0 (Go.Proofs.Tryd.f65.body.getD .skip)).getD .skip
theorem lseqw_toIntS : lsw_toIntS = [(0, cw_toIntS_0)] := by kernel_rfl
theorem mw_toIntS_0 : ∀ p, p ∈ lsw_toIntS → p.1 = 0 → p.2 = cw_toIntS_0 := by
  intro p hp
  rw [lseqw_toIntS] at hp
  simp only [List.mem_cons, List.not_mem_nil, or_false] at hp
  subst hp; simp
theorem kw_toIntS_0 : OrcOk Ew_toIntS Ow_toIntS_0 lsw_toIntS 0 := orcOk_none
noncomputable def hw_toIntS_0 (y0 : List (Int)) (y1 : List (Int)) (y2 : Int) : List (Pl × LV) := [(.T 0, .t (.val false [.sl .any 3 (.int .i64) y0])), (.T 3, .t (.val false [.row 3 0 0])), (.R 3 0, .r 0 (some ⟨false, .non, true, 3, (.int .i64), y1⟩)), (.T 4, .t (.val false [.int .i64 y2]))]
noncomputable def g_Sw_toIntS_0 (y0 : List (Int)) : ((List (Int)) × (Int)) → RT ((List (Int)) × (Int)) (((List (Int))))
  | (y1, y2) => .br (true) (.br (decide (y2 < (↑(List.length y0) : Int))) (.br (decide ((0 : Int) ≤ y2 ∧ y2 < (↑(List.length y0) : Int))) (.br (decide ((0 : Int) ≤ y2 ∧ y2 < (↑(List.length y1) : Int))) (.br (decide (Int.toNat y2 < List.length y1)) (.br (true) (.go ((List.set y1 (Int.toNat y2) (at_ (Ty.int IntKind.i64) y0 (Int.toNat y2)), IntKind.wrap IntKind.i64 (y2 + (1 : Int))))) (.bad)) (.bad)) (.bad)) (.bad)) (.out (y1))) (.bad)
noncomputable def g_Lw_toIntS_0 (y0 : List (Int)) (x : (List (Int)) × (Int)) : Option (((List (Int)))) := loopO (g_Sw_toIntS_0 y0) x
noncomputable def xw_toIntS_0 (y0 : List (Int)) : (((List (Int)))) → Ex × List (Pl × LV) := fun r => (.exit 0, [(.T 3, .t (.val false [.row 3 0 0])), (.R 3 0, .r 0 (some ⟨false, .non, true, 3, (.int .i64), r⟩))])
noncomputable def Ow_toIntS_1 : Orc := fun b h => match b, h with
  | 0, [(.T 0, .t (.val false [.sl .any 3 (.int .i64) y0])), (.T 3, .t (.val false [.row 3 0 0])), (.R 3 0, .r 0 (some ⟨false, .non, true, 3, (.int .i64), y1⟩)), (.T 4, .t (.val false [.int .i64 y2]))] => some (okO (g_Lw_toIntS_0 y0 (y1, y2)), (.leaf (.exit 0) [(.T 3, .t (.val false [.row 3 0 0])), (.R 3 0, .r 0 (some ⟨false, .non, true, 3, (.int .i64), (valO (g_Lw_toIntS_0 y0 (y1, y2)))⟩))]))
  | b, h => Ow_toIntS_0 b h
theorem bw_toIntS_0 (y0 : List (Int)) (y1 : List (Int)) (y2 : Int) : Tr.bt Ew_toIntS Ow_toIntS_0 (exec Ew_toIntS 0 cw_toIntS_0 (St.of (hw_toIntS_0 y0 y1 y2)) (leafRd Ew_toIntS 0)) = (g_Sw_toIntS_0 y0 (y1, y2)).bt (fun ((y1, y2) : (List (Int)) × (Int)) => (hw_toIntS_0 y0 y1 y2)) (xw_toIntS_0 y0) := by kernel_rfl
theorem kw_toIntS_1 : OrcOk Ew_toIntS Ow_toIntS_1 lsw_toIntS 1 := orc_add kw_toIntS_0 (fun n p hp h ex h' ho => by
  obtain ⟨b, c⟩ := p
  obtain ⟨xt, h1, h2⟩ := ho
  have h1 : Ow_toIntS_1 b h = some (true, xt) := h1
  unfold Ow_toIntS_1 at h1
  split at h1
  · injection h1 with h1
    injection h1 with e1 e2
    subst e2
    have hc : c = cw_toIntS_0 := mw_toIntS_0 _ hp rfl
    subst hc
    right
    rename_i y0 y1 y2
    have key := LT_step kw_toIntS_0 hp (fun q hq => loopsAll_in _ _ _ _ hp hq) (fun ((y1, y2) : (List (Int)) × (Int)) => (hw_toIntS_0 y0 y1 y2)) (xw_toIntS_0 y0) (g_Sw_toIntS_0 y0) (fun x => by first | exact bw_toIntS_0 y0 x.1 x.2) n (x := (y1, y2)) (okO_some e1)
    have hx : ∀ r, XT.sel (.leaf (.exit 0) [(.T 3, .t (.val false [.row 3 0 0])), (.R 3 0, .r 0 (some ⟨false, .non, true, 3, (.int .i64), r⟩))]) = xw_toIntS_0 y0 r := fun r => by first | rfl | (rcases r with r | r <;> rfl) | (rcases r with r | r | r <;> rfl) | (rcases r with r | r | r | r <;> rfl)
    have h3 := (hx (valO (g_Lw_toIntS_0 y0 (y1, y2)))).symm.trans h2
    have e3 := congrArg Prod.fst h3
    have e4 := congrArg Prod.snd h3
    simp only at e3 e4
    rw [← e3, ← e4]
    exact key
  · exact .inl ⟨xt, h1, h2⟩)
noncomputable def g_Aw_toIntS (a0 : List (Int)) : Bool := decide ((↑(List.length a0) : Int) = (↑(List.length a0) : Int) ∧ (0 : Int) ≤ (↑(List.length a0) : Int) ∧ (↑(List.length a0) : Int) ≤ (9223372036854775807 : Int) ∧ (8 : Int) * (↑(List.length a0) : Int) ≤ (281474976710656 : Int)) && okO (g_Lw_toIntS_0 a0 (List.replicate (Int.toNat (↑(List.length a0) : Int)) (0 : Int), (0 : Int)))
noncomputable def g_Vw_toIntS_0 (a0 : List (Int)) : List (Int) := valO (g_Lw_toIntS_0 a0 (List.replicate (Int.toNat (↑(List.length a0) : Int)) (0 : Int), (0 : Int)))
noncomputable def Fw_toIntS : FSem := fun ys => match ys with
  | [.val false [.sl .any 3 (.int .i64) a0]] => some ((g_Aw_toIntS a0), .val false [.own .any true 3 (.int .i64) (g_Vw_toIntS_0 a0)], [])
  | _ => none
theorem vw_toIntS (a0 : List (Int)) : collapseH .std Ew_toIntS Ow_toIntS_1 (execFn Ew_toIntS Go.Proofs.Tryd.f65 msw_toIntS [.val false [.sl .any 3 (.int .i64) a0]]) = some ((g_Aw_toIntS a0), .val false [.own .any true 3 (.int .i64) (g_Vw_toIntS_0 a0)], []) := by kernel_rfl
theorem sw_toIntS : Sound Go.Proofs.Tryd.prog 65 msw_toIntS Fw_toIntS := by
  refine fn_gen goodw_toIntS (by kernel_rfl) .std (fn := Go.Proofs.Tryd.f65) (c := (Go.Proofs.Tryd.f65.body.getD .skip)) (o := Ow_toIntS_1) (k := 1) (by kernel_rfl) (by kernel_rfl) (by kernel_rfl) (by kernel_rfl) (by decide) kw_toIntS_1 ?_
  intro ys r outs h
  unfold Fw_toIntS at h
  split at h
  · exact (vw_toIntS _).trans h
  · cases h
end Go.Proofs.YtopoiinmhajhmaaDoor.E
end
section
namespace Go.Proofs.YtopoiinmhajhmaaDoor.E
open Go
set_option maxRecDepth 100000
set_option maxHeartbeats 0
set_option linter.all false
noncomputable def Ew_toStoItem : Env where
  tt := mkTI Go.Proofs.Tryd.prog
  fn := fun f => match f with
    | 65 => some (msw_toIntS, FSem.wk msw_toIntS Fw_toIntS)
    | _ => none
  mv := []
  keep := fun _ => []
  keepB := fun _ => []
  keepX := fun _ => []
  keepXB := fun _ => []
theorem goodw_toStoItem : Good Go.Proofs.Tryd.prog Ew_toStoItem := ⟨rfl, fun f ms F h => by
  unfold Ew_toStoItem at h
  dsimp only at h
  split at h
  · injection h with h; injection h with e1 e2; subst e1 e2; exact Sound.wk sw_toIntS
  · cases h⟩
noncomputable def Ow_toStoItem_0 : Orc := fun _ _ => none
noncomputable def msw_toStoItem : List PM := [.rd]
noncomputable def lsw_toStoItem : List (Nat × Code) := loopsAll 0 (Go.Proofs.Tryd.f106.body.getD .skip)

theorem kw_toStoItem_0 : OrcOk Ew_toStoItem Ow_toStoItem_0 lsw_toStoItem 0 := orcOk_none
noncomputable def g_Aw_toStoItem (a0 : ByteArray) (a1 : List (Int)) : Bool := g_Aw_toIntS a1
noncomputable def Fw_toStoItem : FSem := fun ys => match ys with
  | [.val true [.str a0, .sl .any 3 (.int .i64) a1]] => some ((g_Aw_toStoItem a0 a1), .val true [.str a0, .own .any true 3 (.int .i64) (g_Vw_toIntS_0 a1)], [])
  | _ => none
theorem vw_toStoItem (a0 : ByteArray) (a1 : List (Int)) : collapseH .std Ew_toStoItem Ow_toStoItem_0 (execFn Ew_toStoItem Go.Proofs.Tryd.f106 msw_toStoItem [.val true [.str a0, .sl .any 3 (.int .i64) a1]]) = some ((g_Aw_toStoItem a0 a1), .val true [.str a0, .own .any true 3 (.int .i64) (g_Vw_toIntS_0 a1)], []) := by kernel_rfl
theorem sw_toStoItem : Sound Go.Proofs.Tryd.prog 106 msw_toStoItem Fw_toStoItem := by
  refine fn_gen goodw_toStoItem (by kernel_rfl) .std (fn := Go.Proofs.Tryd.f106) (c := (Go.Proofs.Tryd.f106.body.getD .skip)) (o := Ow_toStoItem_0) (k := 0) (by kernel_rfl) (by kernel_rfl) (by kernel_rfl) (by kernel_rfl) (by decide) kw_toStoItem_0 ?_
  intro ys r outs h
  unfold Fw_toStoItem at h
  split at h
  · exact (vw_toStoItem _ _).trans h
  · cases h
end Go.Proofs.YtopoiinmhajhmaaDoor.E
end
section
namespace Go.Proofs.YtopoiinmhajhmaaDoor.E
open Go
set_option maxRecDepth 100000
set_option maxHeartbeats 0
set_option linter.all false
noncomputable def Ew_toStoItemS : Env where
  tt := mkTI Go.Proofs.Tryd.prog
  fn := fun f => match f with
    | 106 => some (msw_toStoItem, FSem.wk msw_toStoItem Fw_toStoItem)
    | _ => none
  mv := []
  keep := fun b => match b with
    | 0 => [(0, false), (3, false), (4, false)]
    | _ => []
  keepB := fun b => match b with
    | 0 => []
    | _ => []
  keepX := fun b => match b with
    | 0 => [(3, false)]
    | _ => []
  keepXB := fun b => match b with
    | 0 => []
    | _ => []
theorem goodw_toStoItemS : Good Go.Proofs.Tryd.prog Ew_toStoItemS := ⟨rfl, fun f ms F h => by
  unfold Ew_toStoItemS at h
  dsimp only at h
  split at h
  · injection h with h; injection h with e1 e2; subst e1 e2; exact Sound.wk sw_toStoItem
  · cases h⟩
noncomputable def Ow_toStoItemS_0 : Orc := fun _ _ => none
noncomputable def msw_toStoItemS : List PM := [.rd]
noncomputable def lsw_toStoItemS : List (Nat × Code) := loopsAll 0 (Go.Proofs.Tryd.f74.body.getD .skip)
noncomputable def cw_toStoItemS_0 : Code := (loopOf 0 (Go.Proofs.Tryd.f74.body.getD .skip)).getD .skip
theorem lseqw_toStoItemS : lsw_toStoItemS = [(0, cw_toStoItemS_0)] := by kernel_rfl
theorem mw_toStoItemS_0 : ∀ p, p ∈ lsw_toStoItemS → p.1 = 0 → p.2 = cw_toStoItemS_0 := by
  intro p hp
  rw [lseqw_toStoItemS] at hp
  simp only [List.mem_cons, List.not_mem_nil, or_false] at hp
  subst hp; simp
theorem kw_toStoItemS_0 : OrcOk Ew_toStoItemS Ow_toStoItemS_0 lsw_toStoItemS 0 := orcOk_none
noncomputable def hw_toStoItemS_0 (y0 : List ((ByteArray) × (List (Int)))) (y1 : List ((ByteArray) × (List (Int)))) (y2 : Int) : List (Pl × LV) := [(.T 0, .t (.val false [.sl .any 124 (.pair .str (.sl 3 (.int .i64))) y0])), (.T 3, .t (.val false [.row 3 0 0])), (.R 3 0, .r 0 (some ⟨false, .non, true, 88, (.pair .str (.sl 3 (.int .i64))), y1⟩)), (.T 4, .t (.val false [.int .i64 y2]))]
noncomputable def g_Sw_toStoItemS_0 (y0 : List ((ByteArray) × (List (Int)))) : ((List ((ByteArray) × (List (Int)))) × (Int)) → RT ((List ((ByteArray) × (List (Int)))) × (Int)) (((List ((ByteArray) × (List (Int))))))
  | (y1, y2) => .br (true) (.br (decide (y2 < (↑(List.length y0) : Int))) (.br (decide ((0 : Int) ≤ y2 ∧ y2 < (↑(List.length y0) : Int))) (.br (g_Aw_toStoItem (at_ (Ty.pair Ty.str (Ty.sl (nat_lit 3) (Ty.int IntKind.i64))) y0 (Int.toNat y2)).1 (at_ (Ty.pair Ty.str (Ty.sl (nat_lit 3) (Ty.int IntKind.i64))) y0 (Int.toNat y2)).2) (.br (decide ((0 : Int) ≤ y2 ∧ y2 < (↑(List.length y1) : Int))) (.br (decide (Int.toNat y2 < List.length y1)) (.br (true) (.go ((List.set y1 (Int.toNat y2) ((at_ (Ty.pair Ty.str (Ty.sl (nat_lit 3) (Ty.int IntKind.i64))) y0 (Int.toNat y2)).1, g_Vw_toIntS_0 (at_ (Ty.pair Ty.str (Ty.sl (nat_lit 3) (Ty.int IntKind.i64))) y0 (Int.toNat y2)).2), IntKind.wrap IntKind.i64 (y2 + (1 : Int))))) (.bad)) (.bad)) (.bad)) (.bad)) (.bad)) (.out (y1))) (.bad)
noncomputable def g_Lw_toStoItemS_0 (y0 : List ((ByteArray) × (List (Int)))) (x : (List ((ByteArray) × (List (Int)))) × (Int)) : Option (((List ((ByteArray) × (List (Int)))))) := loopO (g_Sw_toStoItemS_0 y0) x
noncomputable def xw_toStoItemS_0 (y0 : List ((ByteArray) × (List (Int)))) : (((List ((ByteArray) × (List (Int)))))) → Ex × List (Pl × LV) := fun r => (.exit 0, [(.T 3, .t (.val false [.row 3 0 0])), (.R 3 0, .r 0 (some ⟨false, .non, true, 88, (.pair .str (.sl 3 (.int .i64))), r⟩))])
noncomputable def Ow_toStoItemS_1 : Orc := fun b h => match b, h with
  | 0, [(.T 0, .t (.val false [.sl .any 124 (.pair .str (.sl 3 (.int .i64))) y0])), (.T 3, .t (.val false [.row 3 0 0])), (.R 3 0, .r 0 (some ⟨false, .non, true, 88, (.pair .str (.sl 3 (.int .i64))), y1⟩)), (.T 4, .t (.val false [.int .i64 y2]))] => some (okO (g_Lw_toStoItemS_0 y0 (y1, y2)), (.leaf (.exit 0) [(.T 3, .t (.val false [.row 3 0 0])), (.R 3 0, .r 0 (some ⟨false, .non, true, 88, (.pair .str (.sl 3 (.int .i64))), (valO (g_Lw_toStoItemS_0 y0 (y1, y2)))⟩))]))
  | b, h => Ow_toStoItemS_0 b h
theorem bw_toStoItemS_0 (y0 : List ((ByteArray) × (List (Int)))) (y1 : List ((ByteArray) × (List (Int)))) (y2 : Int) : Tr.bt Ew_toStoItemS Ow_toStoItemS_0 (exec Ew_toStoItemS 0 cw_toStoItemS_0 (St.of (hw_toStoItemS_0 y0 y1 y2)) (leafRd Ew_toStoItemS 0)) = (g_Sw_toStoItemS_0 y0 (y1, y2)).bt (fun ((y1, y2) : (List ((ByteArray) × (List (Int)))) × (Int)) => (hw_toStoItemS_0 y0 y1 y2)) (xw_toStoItemS_0 y0) := by kernel_rfl
theorem kw_toStoItemS_1 : OrcOk Ew_toStoItemS Ow_toStoItemS_1 lsw_toStoItemS 1 := orc_add kw_toStoItemS_0 (fun n p hp h ex h' ho => by
  obtain ⟨b, c⟩ := p
  obtain ⟨xt, h1, h2⟩ := ho
  have h1 : Ow_toStoItemS_1 b h = some (true, xt) := h1
  unfold Ow_toStoItemS_1 at h1
  split at h1
  · injection h1 with h1
    injection h1 with e1 e2
    subst e2
    have hc : c = cw_toStoItemS_0 := mw_toStoItemS_0 _ hp rfl
    subst hc
    right
    rename_i y0 y1 y2
    have key := LT_step kw_toStoItemS_0 hp (fun q hq => loopsAll_in _ _ _ _ hp hq) (fun ((y1, y2) : (List ((ByteArray) × (List (Int)))) × (Int)) => (hw_toStoItemS_0 y0 y1 y2)) (xw_toStoItemS_0 y0) (g_Sw_toStoItemS_0 y0) (fun x => by first | exact bw_toStoItemS_0 y0 x.1 x.2) n (x := (y1, y2)) (okO_some e1)
    have hx : ∀ r, XT.sel (.leaf (.exit 0) [(.T 3, .t (.val false [.row 3 0 0])), (.R 3 0, .r 0 (some ⟨false, .non, true, 88, (.pair .str (.sl 3 (.int .i64))), r⟩))]) = xw_toStoItemS_0 y0 r := fun r => by first | rfl | (rcases r with r | r <;> rfl) | (rcases r with r | r | r <;> rfl) | (rcases r with r | r | r | r <;> rfl)
    have h3 := (hx (valO (g_Lw_toStoItemS_0 y0 (y1, y2)))).symm.trans h2
    have e3 := congrArg Prod.fst h3
    have e4 := congrArg Prod.snd h3
    simp only at e3 e4
    rw [← e3, ← e4]
    exact key
  · exact .inl ⟨xt, h1, h2⟩)
noncomputable def g_Aw_toStoItemS (a0 : List ((ByteArray) × (List (Int)))) : Bool := decide ((↑(List.length a0) : Int) = (↑(List.length a0) : Int) ∧ (0 : Int) ≤ (↑(List.length a0) : Int) ∧ (↑(List.length a0) : Int) ≤ (9223372036854775807 : Int) ∧ (40 : Int) * (↑(List.length a0) : Int) ≤ (281474976710656 : Int)) && okO (g_Lw_toStoItemS_0 a0 (List.replicate (Int.toNat (↑(List.length a0) : Int)) (lit [], []), (0 : Int)))
noncomputable def g_Vw_toStoItemS_0 (a0 : List ((ByteArray) × (List (Int)))) : List ((ByteArray) × (List (Int))) := valO (g_Lw_toStoItemS_0 a0 (List.replicate (Int.toNat (↑(List.length a0) : Int)) (lit [], []), (0 : Int)))
noncomputable def Fw_toStoItemS : FSem := fun ys => match ys with
  | [.val false [.sl .any 124 (.pair .str (.sl 3 (.int .i64))) a0]] => some ((g_Aw_toStoItemS a0), .val false [.own .any true 88 (.pair .str (.sl 3 (.int .i64))) (g_Vw_toStoItemS_0 a0)], [])
  | _ => none
theorem vw_toStoItemS (a0 : List ((ByteArray) × (List (Int)))) : collapseH .std Ew_toStoItemS Ow_toStoItemS_1 (execFn Ew_toStoItemS Go.Proofs.Tryd.f74 msw_toStoItemS [.val false [.sl .any 124 (.pair .str (.sl 3 (.int .i64))) a0]]) = some ((g_Aw_toStoItemS a0), .val false [.own .any true 88 (.pair .str (.sl 3 (.int .i64))) (g_Vw_toStoItemS_0 a0)], []) := by kernel_rfl
theorem sw_toStoItemS : Sound Go.Proofs.Tryd.prog 74 msw_toStoItemS Fw_toStoItemS := by
  refine fn_gen goodw_toStoItemS (by kernel_rfl) .std (fn := Go.Proofs.Tryd.f74) (c := (Go.Proofs.Tryd.f74.body.getD .skip)) (o := Ow_toStoItemS_1) (k := 1) (by kernel_rfl) (by kernel_rfl) (by kernel_rfl) (by kernel_rfl) (by decide) kw_toStoItemS_1 ?_
  intro ys r outs h
  unfold Fw_toStoItemS at h
  split at h
  · exact (vw_toStoItemS _).trans h
  · cases h
end Go.Proofs.YtopoiinmhajhmaaDoor.E
end
section
namespace Go.Proofs.YtopoiinmhajhmaaDoor.E
open Go
set_option maxRecDepth 100000
set_option maxHeartbeats 0
set_option linter.all false
noncomputable def Ew_toStoStore : Env where
  tt := mkTI Go.Proofs.Tryd.prog
  fn := fun f => match f with
    | 74 => some (msw_toStoItemS, FSem.wk msw_toStoItemS Fw_toStoItemS)
    | _ => none
  mv := []
  keep := fun _ => []
  keepB := fun _ => []
  keepX := fun _ => []
  keepXB := fun _ => []
theorem goodw_toStoStore : Good Go.Proofs.Tryd.prog Ew_toStoStore := ⟨rfl, fun f ms F h => by
  unfold Ew_toStoStore at h
  dsimp only at h
  split at h
  · injection h with h; injection h with e1 e2; subst e1 e2; exact Sound.wk sw_toStoItemS
  · cases h⟩
noncomputable def Ow_toStoStore_0 : Orc := fun _ _ => none
noncomputable def msw_toStoStore : List PM := [.rd]
noncomputable def lsw_toStoStore : List (Nat × Code) := loopsAll 0 (Go.Proofs.Tryd.f35.body.getD .skip)

theorem kw_toStoStore_0 : OrcOk Ew_toStoStore Ow_toStoStore_0 lsw_toStoStore 0 := orcOk_none
noncomputable def g_Aw_toStoStore (a0 : List ((ByteArray) × (List (Int)))) : Bool := g_Aw_toStoItemS a0
noncomputable def Fw_toStoStore : FSem := fun ys => match ys with
  | [.val true [.sl .any 124 (.pair .str (.sl 3 (.int .i64))) a0]] => some ((g_Aw_toStoStore a0), .val true [.own .any true 88 (.pair .str (.sl 3 (.int .i64))) (g_Vw_toStoItemS_0 a0)], [])
  | _ => none
theorem vw_toStoStore (a0 : List ((ByteArray) × (List (Int)))) : collapseH .std Ew_toStoStore Ow_toStoStore_0 (execFn Ew_toStoStore Go.Proofs.Tryd.f35 msw_toStoStore [.val true [.sl .any 124 (.pair .str (.sl 3 (.int .i64))) a0]]) = some ((g_Aw_toStoStore a0), .val true [.own .any true 88 (.pair .str (.sl 3 (.int .i64))) (g_Vw_toStoItemS_0 a0)], []) := by kernel_rfl
theorem sw_toStoStore : Sound Go.Proofs.Tryd.prog 35 msw_toStoStore Fw_toStoStore := by
  refine fn_gen goodw_toStoStore (by kernel_rfl) .std (fn := Go.Proofs.Tryd.f35) (c := (Go.Proofs.Tryd.f35.body.getD .skip)) (o := Ow_toStoStore_0) (k := 0) (by kernel_rfl) (by kernel_rfl) (by kernel_rfl) (by kernel_rfl) (by decide) kw_toStoStore_0 ?_
  intro ys r outs h
  unfold Fw_toStoStore at h
  split at h
  · exact (vw_toStoStore _).trans h
  · cases h
end Go.Proofs.YtopoiinmhajhmaaDoor.E
end
section
namespace Go.Proofs.YtopoiinmhajhmaaDoor.E
open Go
set_option maxRecDepth 100000
set_option maxHeartbeats 0
set_option linter.all false
noncomputable def Ew_toStoStoreS : Env where
  tt := mkTI Go.Proofs.Tryd.prog
  fn := fun f => match f with
    | 35 => some (msw_toStoStore, FSem.wk msw_toStoStore Fw_toStoStore)
    | _ => none
  mv := []
  keep := fun b => match b with
    | 0 => [(0, false), (3, false), (4, false)]
    | _ => []
  keepB := fun b => match b with
    | 0 => []
    | _ => []
  keepX := fun b => match b with
    | 0 => [(3, false)]
    | _ => []
  keepXB := fun b => match b with
    | 0 => []
    | _ => []
theorem goodw_toStoStoreS : Good Go.Proofs.Tryd.prog Ew_toStoStoreS := ⟨rfl, fun f ms F h => by
  unfold Ew_toStoStoreS at h
  dsimp only at h
  split at h
  · injection h with h; injection h with e1 e2; subst e1 e2; exact Sound.wk sw_toStoStore
  · cases h⟩
noncomputable def Ow_toStoStoreS_0 : Orc := fun _ _ => none
noncomputable def msw_toStoStoreS : List PM := [.rd]
noncomputable def lsw_toStoStoreS : List (Nat × Code) := loopsAll 0 (Go.Proofs.Tryd.f49.body.getD .skip)
noncomputable def cw_toStoStoreS_0 : Code := (loopOf 0 (Go.Proofs.Tryd.f49.body.getD .skip)).getD .skip
theorem lseqw_toStoStoreS : lsw_toStoStoreS = [(0, cw_toStoStoreS_0)] := by kernel_rfl
theorem mw_toStoStoreS_0 : ∀ p, p ∈ lsw_toStoStoreS → p.1 = 0 → p.2 = cw_toStoStoreS_0 := by
  intro p hp
  rw [lseqw_toStoStoreS] at hp
  simp only [List.mem_cons, List.not_mem_nil, or_false] at hp
  subst hp; simp
theorem kw_toStoStoreS_0 : OrcOk Ew_toStoStoreS Ow_toStoStoreS_0 lsw_toStoStoreS 0 := orcOk_none
noncomputable def hw_toStoStoreS_0 (y0 : List (List ((ByteArray) × (List (Int))))) (y1 : List (List ((ByteArray) × (List (Int))))) (y2 : Int) : List (Pl × LV) := [(.T 0, .t (.val false [.sl .any 47 (.sl 124 (.pair .str (.sl 3 (.int .i64)))) y0])), (.T 3, .t (.val false [.row 3 0 0])), (.R 3 0, .r 0 (some ⟨false, .non, true, 52, (.sl 88 (.pair .str (.sl 3 (.int .i64)))), y1⟩)), (.T 4, .t (.val false [.int .i64 y2]))]
noncomputable def g_Sw_toStoStoreS_0 (y0 : List (List ((ByteArray) × (List (Int))))) : ((List (List ((ByteArray) × (List (Int))))) × (Int)) → RT ((List (List ((ByteArray) × (List (Int))))) × (Int)) (((List (List ((ByteArray) × (List (Int)))))))
  | (y1, y2) => .br (true) (.br (decide (y2 < (↑(List.length y0) : Int))) (.br (decide ((0 : Int) ≤ y2 ∧ y2 < (↑(List.length y0) : Int))) (.br (g_Aw_toStoStore (at_ (Ty.sl (nat_lit 124) (Ty.pair Ty.str (Ty.sl (nat_lit 3) (Ty.int IntKind.i64)))) y0 (Int.toNat y2))) (.br (decide ((0 : Int) ≤ y2 ∧ y2 < (↑(List.length y1) : Int))) (.br (decide (Int.toNat y2 < List.length y1)) (.br (true) (.go ((List.set y1 (Int.toNat y2) (g_Vw_toStoItemS_0 (at_ (Ty.sl (nat_lit 124) (Ty.pair Ty.str (Ty.sl (nat_lit 3) (Ty.int IntKind.i64)))) y0 (Int.toNat y2))), IntKind.wrap IntKind.i64 (y2 + (1 : Int))))) (.bad)) (.bad)) (.bad)) (.bad)) (.bad)) (.out (y1))) (.bad)
noncomputable def g_Lw_toStoStoreS_0 (y0 : List (List ((ByteArray) × (List (Int))))) (x : (List (List ((ByteArray) × (List (Int))))) × (Int)) : Option (((List (List ((ByteArray) × (List (Int))))))) := loopO (g_Sw_toStoStoreS_0 y0) x
noncomputable def xw_toStoStoreS_0 (y0 : List (List ((ByteArray) × (List (Int))))) : (((List (List ((ByteArray) × (List (Int))))))) → Ex × List (Pl × LV) := fun r => (.exit 0, [(.T 3, .t (.val false [.row 3 0 0])), (.R 3 0, .r 0 (some ⟨false, .non, true, 52, (.sl 88 (.pair .str (.sl 3 (.int .i64)))), r⟩))])
noncomputable def Ow_toStoStoreS_1 : Orc := fun b h => match b, h with
  | 0, [(.T 0, .t (.val false [.sl .any 47 (.sl 124 (.pair .str (.sl 3 (.int .i64)))) y0])), (.T 3, .t (.val false [.row 3 0 0])), (.R 3 0, .r 0 (some ⟨false, .non, true, 52, (.sl 88 (.pair .str (.sl 3 (.int .i64)))), y1⟩)), (.T 4, .t (.val false [.int .i64 y2]))] => some (okO (g_Lw_toStoStoreS_0 y0 (y1, y2)), (.leaf (.exit 0) [(.T 3, .t (.val false [.row 3 0 0])), (.R 3 0, .r 0 (some ⟨false, .non, true, 52, (.sl 88 (.pair .str (.sl 3 (.int .i64)))), (valO (g_Lw_toStoStoreS_0 y0 (y1, y2)))⟩))]))
  | b, h => Ow_toStoStoreS_0 b h
theorem bw_toStoStoreS_0 (y0 : List (List ((ByteArray) × (List (Int))))) (y1 : List (List ((ByteArray) × (List (Int))))) (y2 : Int) : Tr.bt Ew_toStoStoreS Ow_toStoStoreS_0 (exec Ew_toStoStoreS 0 cw_toStoStoreS_0 (St.of (hw_toStoStoreS_0 y0 y1 y2)) (leafRd Ew_toStoStoreS 0)) = (g_Sw_toStoStoreS_0 y0 (y1, y2)).bt (fun ((y1, y2) : (List (List ((ByteArray) × (List (Int))))) × (Int)) => (hw_toStoStoreS_0 y0 y1 y2)) (xw_toStoStoreS_0 y0) := by kernel_rfl
theorem kw_toStoStoreS_1 : OrcOk Ew_toStoStoreS Ow_toStoStoreS_1 lsw_toStoStoreS 1 := orc_add kw_toStoStoreS_0 (fun n p hp h ex h' ho => by
  obtain ⟨b, c⟩ := p
  obtain ⟨xt, h1, h2⟩ := ho
  have h1 : Ow_toStoStoreS_1 b h = some (true, xt) := h1
  unfold Ow_toStoStoreS_1 at h1
  split at h1
  · injection h1 with h1
    injection h1 with e1 e2
    subst e2
    have hc : c = cw_toStoStoreS_0 := mw_toStoStoreS_0 _ hp rfl
    subst hc
    right
    rename_i y0 y1 y2
    have key := LT_step kw_toStoStoreS_0 hp (fun q hq => loopsAll_in _ _ _ _ hp hq) (fun ((y1, y2) : (List (List ((ByteArray) × (List (Int))))) × (Int)) => (hw_toStoStoreS_0 y0 y1 y2)) (xw_toStoStoreS_0 y0) (g_Sw_toStoStoreS_0 y0) (fun x => by first | exact bw_toStoStoreS_0 y0 x.1 x.2) n (x := (y1, y2)) (okO_some e1)
    have hx : ∀ r, XT.sel (.leaf (.exit 0) [(.T 3, .t (.val false [.row 3 0 0])), (.R 3 0, .r 0 (some ⟨false, .non, true, 52, (.sl 88 (.pair .str (.sl 3 (.int .i64)))), r⟩))]) = xw_toStoStoreS_0 y0 r := fun r => by first | rfl | (rcases r with r | r <;> rfl) | (rcases r with r | r | r <;> rfl) | (rcases r with r | r | r | r <;> rfl)
    have h3 := (hx (valO (g_Lw_toStoStoreS_0 y0 (y1, y2)))).symm.trans h2
    have e3 := congrArg Prod.fst h3
    have e4 := congrArg Prod.snd h3
    simp only at e3 e4
    rw [← e3, ← e4]
    exact key
  · exact .inl ⟨xt, h1, h2⟩)
noncomputable def g_Aw_toStoStoreS (a0 : List (List ((ByteArray) × (List (Int))))) : Bool := decide ((↑(List.length a0) : Int) = (↑(List.length a0) : Int) ∧ (0 : Int) ≤ (↑(List.length a0) : Int) ∧ (↑(List.length a0) : Int) ≤ (9223372036854775807 : Int) ∧ (24 : Int) * (↑(List.length a0) : Int) ≤ (281474976710656 : Int)) && okO (g_Lw_toStoStoreS_0 a0 (List.replicate (Int.toNat (↑(List.length a0) : Int)) [], (0 : Int)))
noncomputable def g_Vw_toStoStoreS_0 (a0 : List (List ((ByteArray) × (List (Int))))) : List (List ((ByteArray) × (List (Int)))) := valO (g_Lw_toStoStoreS_0 a0 (List.replicate (Int.toNat (↑(List.length a0) : Int)) [], (0 : Int)))
noncomputable def Fw_toStoStoreS : FSem := fun ys => match ys with
  | [.val false [.sl .any 47 (.sl 124 (.pair .str (.sl 3 (.int .i64)))) a0]] => some ((g_Aw_toStoStoreS a0), .val false [.own .any true 52 (.sl 88 (.pair .str (.sl 3 (.int .i64)))) (g_Vw_toStoStoreS_0 a0)], [])
  | _ => none
theorem vw_toStoStoreS (a0 : List (List ((ByteArray) × (List (Int))))) : collapseH .std Ew_toStoStoreS Ow_toStoStoreS_1 (execFn Ew_toStoStoreS Go.Proofs.Tryd.f49 msw_toStoStoreS [.val false [.sl .any 47 (.sl 124 (.pair .str (.sl 3 (.int .i64)))) a0]]) = some ((g_Aw_toStoStoreS a0), .val false [.own .any true 52 (.sl 88 (.pair .str (.sl 3 (.int .i64)))) (g_Vw_toStoStoreS_0 a0)], []) := by kernel_rfl
theorem sw_toStoStoreS : Sound Go.Proofs.Tryd.prog 49 msw_toStoStoreS Fw_toStoStoreS := by
  refine fn_gen goodw_toStoStoreS (by kernel_rfl) .std (fn := Go.Proofs.Tryd.f49) (c := (Go.Proofs.Tryd.f49.body.getD .skip)) (o := Ow_toStoStoreS_1) (k := 1) (by kernel_rfl) (by kernel_rfl) (by kernel_rfl) (by kernel_rfl) (by decide) kw_toStoStoreS_1 ?_
  intro ys r outs h
  unfold Fw_toStoStoreS at h
  split at h
  · exact (vw_toStoStoreS _).trans h
  · cases h
end Go.Proofs.YtopoiinmhajhmaaDoor.E
end
