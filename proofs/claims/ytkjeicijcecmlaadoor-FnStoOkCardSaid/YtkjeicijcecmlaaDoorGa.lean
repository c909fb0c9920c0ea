/- What the functions that are reached do, by the engine: for the proof (laws.FnStoOk): part 1. No conditions. -/
import Derived.Test.YtkjeicijcecmlaaDoorEc
import Derived.Test.YtkjeicijcecmlaaDoorProg
import Derived.Test.YtkjeicijcecmlaaDoorShelf
set_option linter.all false
section
namespace Go.Proofs.YtkjeicijcecmlaaDoor.E
open Go
set_option maxRecDepth 100000
set_option maxHeartbeats 0
set_option linter.all false
noncomputable def Ei_in : Env where
  tt := mkTI Go.Proofs.Tryd.prog
  fn := fun _ => none
  bxf := fun _ => none
  mv := []
  keep := fun _ => []
  keepB := fun _ => []
  keepX := fun _ => []
  keepXB := fun _ => []
theorem goodFi_in : ∀ f ms F, Ei_in.fn f = some (ms, F) → Sound Go.Proofs.Tryd.prog f ms F := fun f ms F h => by cases h
theorem goodBi_in : ∀ f ms F, Ei_in.bxf f = some (ms, F) → SoundB Go.Proofs.Tryd.prog f ms F := fun f ms F h => by cases h
theorem goodi_in : Good Go.Proofs.Tryd.prog Ei_in := ⟨rfl, goodFi_in, goodBi_in⟩
noncomputable def Oi_in_0 : Orc := fun _ _ => none
noncomputable def msi_in : List PM := [.own, .own, .own]
noncomputable def lsi_in : List (Nat × Code) := loopsAll 0 (Go.Proofs.Tryd.f129.body.getD .skip)

theorem ki_in_0 : OrcOk Ei_in Oi_in_0 lsi_in 0 := orcOk_none
noncomputable def g_Ai_in (a0 : Int) (a1 : Int) (a2 : Int) : Bool := !decide (a0 ≥ a1) || true
noncomputable def g_Vi_in_0 (a0 : Int) (a1 : Int) (a2 : Int) : Bool := bif decide (a0 ≥ a1) then decide (a0 ≤ a2) else false
noncomputable def Fi_in : FSem := fun ys => match ys with
  | [.val false [.int .i64 a0], .val false [.int .i64 a1], .val false [.int .i64 a2]] => some ((g_Ai_in a0 a1 a2), .val false [.bool (g_Vi_in_0 a0 a1 a2)], [])
  | _ => none
theorem vi_in (a0 : Int) (a1 : Int) (a2 : Int) : collapseH .std Ei_in Oi_in_0 (execFn Ei_in Go.Proofs.Tryd.f129 msi_in [.val false [.int .i64 a0], .val false [.int .i64 a1], .val false [.int .i64 a2]]) = some ((g_Ai_in a0 a1 a2), .val false [.bool (g_Vi_in_0 a0 a1 a2)], []) := by kernel_rfl
theorem si_in : Sound Go.Proofs.Tryd.prog 129 msi_in Fi_in := by
  refine fn_gen goodi_in (by kernel_rfl) .std (fn := Go.Proofs.Tryd.f129) (c := (Go.Proofs.Tryd.f129.body.getD .skip)) (o := Oi_in_0) (k := 0) (by kernel_rfl) (by kernel_rfl) (by kernel_rfl) (by kernel_rfl) (by decide) ki_in_0 ?_
  intro ys r outs h
  unfold Fi_in at h
  split at h
  · exact (vi_in _ _ _).trans h
  · cases h
end Go.Proofs.YtkjeicijcecmlaaDoor.E
end
section
namespace Go.Proofs.YtkjeicijcecmlaaDoor.E
open Go
set_option maxRecDepth 100000
set_option linter.all false
def msstrings_Trim : List PM := [.own, .own]
def g_trim (s c : ByteArray) : ByteArray := ⟨(Lib.trimS s.data.toList c.data.toList).toArray⟩
def g_ascii (c : ByteArray) : Bool := c.data.toList.all fun b => decide (b.toNat < 128)
def Fstrings_Trim : FSem := fun ys => match ys with
  | [.val false [.str s], .val false [.str c]] => some (decide (s.size ≤ 9223372036854775807) && (decide (c.size < 4294967281) && g_ascii c), .val false [.str (g_trim s c)], [])
  | _ => none
theorem sstrings_Trim : Sound Go.Proofs.Tryd.prog 130 msstrings_Trim Fstrings_Trim := by
  refine sound_plain (by simp [msstrings_Trim]) ⟨_, Tryd.func130, by kernel_rfl, by kernel_rfl⟩ (fun w ys r outs h => ?_)
  unfold Fstrings_Trim at h
  split at h
  · rename_i s c
    simp only [Option.some.injEq, Prod.mk.injEq, Bool.and_eq_true, decide_eq_true_eq] at h
    obtain ⟨⟨h1, h2, h3⟩, rfl, rfl⟩ := h
    refine ⟨rfl, [.string s, .string c], .string (g_trim s c), rfl, rfl, ?_⟩
    exact Tryd.strings_Trim_laid s c w h1 h2 (fun j b hb => by
      have := List.all_eq_true.1 h3 b (List.mem_of_getElem? hb)
      simpa using this)
  · cases h
end Go.Proofs.YtkjeicijcecmlaaDoor.E
end
section
namespace Go.Proofs.YtkjeicijcecmlaaDoor.E
open Go
set_option maxRecDepth 100000
set_option maxHeartbeats 0
set_option linter.all false
noncomputable def Ei_keyOk : Env where
  tt := mkTI Go.Proofs.Tryd.prog
  fn := fun f => match f with
    | 129 => some (msi_in, FSem.wk msi_in Fi_in)
    | 130 => some (msstrings_Trim, FSem.wk msstrings_Trim Fstrings_Trim)
    | _ => none
  bxf := fun _ => none
  mv := []
  keep := fun _ => []
  keepB := fun _ => []
  keepX := fun _ => []
  keepXB := fun _ => []
theorem goodFi_keyOk : ∀ f ms F, Ei_keyOk.fn f = some (ms, F) → Sound Go.Proofs.Tryd.prog f ms F := fun f ms F h => by
  unfold Ei_keyOk at h
  dsimp only at h
  split at h
  · injection h with h; injection h with e1 e2; subst e1 e2; exact Sound.wk si_in
  · injection h with h; injection h with e1 e2; subst e1 e2; exact Sound.wk sstrings_Trim
  · cases h
theorem goodBi_keyOk : ∀ f ms F, Ei_keyOk.bxf f = some (ms, F) → SoundB Go.Proofs.Tryd.prog f ms F := fun f ms F h => by cases h
theorem goodi_keyOk : Good Go.Proofs.Tryd.prog Ei_keyOk := ⟨rfl, goodFi_keyOk, goodBi_keyOk⟩
noncomputable def Oi_keyOk_0 : Orc := fun _ _ => none
noncomputable def msi_keyOk : List PM := [.own]
noncomputable def lsi_keyOk : List (Nat × Code) := loopsAll 0 (Go.Proofs.Tryd.f73.body.getD .skip)

theorem ki_keyOk_0 : OrcOk Ei_keyOk Oi_keyOk_0 lsi_keyOk 0 := orcOk_none
noncomputable def g_Ai_keyOk (a0 : ByteArray) : Bool := g_Ai_in (↑(ByteArray.size a0) : Int) (2 : Int) (3 : Int) && (!g_Vi_in_0 (↑(ByteArray.size a0) : Int) (2 : Int) (3 : Int) || decide ((0 : Int) ≤ (0 : Int) ∧ (0 : Int) < (↑(ByteArray.size a0) : Int)) && (g_Ai_in (IntKind.wrap IntKind.i64 (byteAt a0 (nat_lit 0))) (97 : Int) (122 : Int) && (!g_Vi_in_0 (IntKind.wrap IntKind.i64 (byteAt a0 (nat_lit 0))) (97 : Int) (122 : Int) || decide ((0 : Int) ≤ (1 : Int) ∧ (1 : Int) ≤ (↑(ByteArray.size a0) : Int)) && (decide (ByteArray.size (ByteArray.extract a0 (nat_lit 1) (ByteArray.size a0)) ≤ nat_lit 9223372036854775807) && g_ascii (lit [(48 : Nat), (49 : Nat), (50 : Nat), (51 : Nat), (52 : Nat), (53 : Nat), (54 : Nat), (55 : Nat), (56 : Nat), (57 : Nat)]) && true))))
noncomputable def g_Vi_keyOk_0 (a0 : ByteArray) : Bool := bif g_Vi_in_0 (↑(ByteArray.size a0) : Int) (2 : Int) (3 : Int) then bif g_Vi_in_0 (IntKind.wrap IntKind.i64 (byteAt a0 (nat_lit 0))) (97 : Int) (122 : Int) then ByteArray.toList (g_trim (ByteArray.extract a0 (nat_lit 1) (ByteArray.size a0)) (lit [(48 : Nat), (49 : Nat), (50 : Nat), (51 : Nat), (52 : Nat), (53 : Nat), (54 : Nat), (55 : Nat), (56 : Nat), (57 : Nat)])) == [] else false else false
noncomputable def Fi_keyOk : FSem := fun ys => match ys with
  | [.val false [.str a0]] => some ((g_Ai_keyOk a0), .val false [.bool (g_Vi_keyOk_0 a0)], [])
  | _ => none
theorem vi_keyOk (a0 : ByteArray) : collapseH .std Ei_keyOk Oi_keyOk_0 (execFn Ei_keyOk Go.Proofs.Tryd.f73 msi_keyOk [.val false [.str a0]]) = some ((g_Ai_keyOk a0), .val false [.bool (g_Vi_keyOk_0 a0)], []) := by kernel_rfl
theorem si_keyOk : Sound Go.Proofs.Tryd.prog 73 msi_keyOk Fi_keyOk := by
  refine fn_gen goodi_keyOk (by kernel_rfl) .std (fn := Go.Proofs.Tryd.f73) (c := (Go.Proofs.Tryd.f73.body.getD .skip)) (o := Oi_keyOk_0) (k := 0) (by kernel_rfl) (by kernel_rfl) (by kernel_rfl) (by kernel_rfl) (by decide) ki_keyOk_0 ?_
  intro ys r outs h
  unfold Fi_keyOk at h
  split at h
  · exact (vi_keyOk _).trans h
  · cases h
end Go.Proofs.YtkjeicijcecmlaaDoor.E
end
section
namespace Go.Proofs.YtkjeicijcecmlaaDoor.E
open Go
set_option maxRecDepth 100000
set_option maxHeartbeats 0
set_option linter.all false
noncomputable def Ei_valOk_1 : Env where
  tt := mkTI Go.Proofs.Tryd.prog
  fn := fun f => match f with
    | 129 => some (msi_in, FSem.wk msi_in Fi_in)
    | _ => none
  bxf := fun _ => none
  mv := []
  keep := fun _ => []
  keepB := fun _ => []
  keepX := fun _ => []
  keepXB := fun _ => []
theorem goodFi_valOk_1 : ∀ f ms F, Ei_valOk_1.fn f = some (ms, F) → Sound Go.Proofs.Tryd.prog f ms F := fun f ms F h => by
  unfold Ei_valOk_1 at h
  dsimp only at h
  split at h
  · injection h with h; injection h with e1 e2; subst e1 e2; exact Sound.wk si_in
  · cases h
theorem goodBi_valOk_1 : ∀ f ms F, Ei_valOk_1.bxf f = some (ms, F) → SoundB Go.Proofs.Tryd.prog f ms F := fun f ms F h => by cases h
theorem goodi_valOk_1 : Good Go.Proofs.Tryd.prog Ei_valOk_1 := ⟨rfl, goodFi_valOk_1, goodBi_valOk_1⟩
noncomputable def Oi_valOk_1_0 : Orc := fun _ _ => none
noncomputable def msi_valOk_1 : List PM := [.own]
noncomputable def lsi_valOk_1 : List (Nat × Code) := loopsAll 0 (Go.Proofs.Tryd.f132.body.getD .skip)

theorem ki_valOk_1_0 : OrcOk Ei_valOk_1 Oi_valOk_1_0 lsi_valOk_1 0 := orcOk_none
noncomputable def g_Ai_valOk_1 (a0 : Int) : Bool := g_Ai_in a0 (0 : Int) (9999 : Int)
noncomputable def g_Vi_valOk_1_0 (a0 : Int) : Bool := !g_Vi_in_0 a0 (0 : Int) (9999 : Int)
noncomputable def Fi_valOk_1 : FSem := fun ys => match ys with
  | [.val false [.int .i64 a0]] => some ((g_Ai_valOk_1 a0), .val false [.bool (g_Vi_valOk_1_0 a0)], [])
  | _ => none
theorem vi_valOk_1 (a0 : Int) : collapseH .std Ei_valOk_1 Oi_valOk_1_0 (execFn Ei_valOk_1 Go.Proofs.Tryd.f132 msi_valOk_1 [.val false [.int .i64 a0]]) = some ((g_Ai_valOk_1 a0), .val false [.bool (g_Vi_valOk_1_0 a0)], []) := by kernel_rfl
theorem si_valOk_1 : Sound Go.Proofs.Tryd.prog 132 msi_valOk_1 Fi_valOk_1 := by
  refine fn_gen goodi_valOk_1 (by kernel_rfl) .std (fn := Go.Proofs.Tryd.f132) (c := (Go.Proofs.Tryd.f132.body.getD .skip)) (o := Oi_valOk_1_0) (k := 0) (by kernel_rfl) (by kernel_rfl) (by kernel_rfl) (by kernel_rfl) (by decide) ki_valOk_1_0 ?_
  intro ys r outs h
  unfold Fi_valOk_1 at h
  split at h
  · exact (vi_valOk_1 _).trans h
  · cases h
end Go.Proofs.YtkjeicijcecmlaaDoor.E
end
section
namespace Go.Proofs.YtkjeicijcecmlaaDoor.E
open Go
set_option maxRecDepth 100000
set_option maxHeartbeats 0
set_option linter.all false
noncomputable def Eslices_IndexFunc_int_int__i_valOk_1 : Env where
  tt := mkTI Go.Proofs.Tryd.prog
  fn := fun f => match f with
    | 132 => some (msi_valOk_1, FSem.wk msi_valOk_1 Fi_valOk_1)
    | _ => none
  bxf := fun _ => none
  mv := []
  keep := fun b => match b with
    | 0 => [(0, false), (1, false), (7, false), (8, false)]
    | _ => []
  keepB := fun b => match b with
    | 0 => []
    | _ => []
  keepX := fun b => match b with
    | 0 => [(4, false)]
    | _ => []
  keepXB := fun b => match b with
    | 0 => []
    | _ => []
theorem goodFslices_IndexFunc_int_int__i_valOk_1 : ∀ f ms F, Eslices_IndexFunc_int_int__i_valOk_1.fn f = some (ms, F) → Sound Go.Proofs.Tryd.prog f ms F := fun f ms F h => by
  unfold Eslices_IndexFunc_int_int__i_valOk_1 at h
  dsimp only at h
  split at h
  · injection h with h; injection h with e1 e2; subst e1 e2; exact Sound.wk si_valOk_1
  · cases h
theorem goodBslices_IndexFunc_int_int__i_valOk_1 : ∀ f ms F, Eslices_IndexFunc_int_int__i_valOk_1.bxf f = some (ms, F) → SoundB Go.Proofs.Tryd.prog f ms F := fun f ms F h => by cases h
theorem goodslices_IndexFunc_int_int__i_valOk_1 : Good Go.Proofs.Tryd.prog Eslices_IndexFunc_int_int__i_valOk_1 := ⟨rfl, goodFslices_IndexFunc_int_int__i_valOk_1, goodBslices_IndexFunc_int_int__i_valOk_1⟩
noncomputable def Oslices_IndexFunc_int_int__i_valOk_1_0 : Orc := fun _ _ => none
noncomputable def msslices_IndexFunc_int_int__i_valOk_1 : List PM := [.rd, .rd]
noncomputable def lsslices_IndexFunc_int_int__i_valOk_1 : List (Nat × Code) := loopsAll 0 (Go.Proofs.Tryd.f165.body.getD .skip)
noncomputable def cslices_IndexFunc_int_int__i_valOk_1_0 : Code := (loopOf 0 (Go.Proofs.Tryd.f165.body.getD .skip)).getD .skip
theorem lseqslices_IndexFunc_int_int__i_valOk_1 : lsslices_IndexFunc_int_int__i_valOk_1 = [(0, cslices_IndexFunc_int_int__i_valOk_1_0)] := by kernel_rfl
theorem mslices_IndexFunc_int_int__i_valOk_1_0 : ∀ p, p ∈ lsslices_IndexFunc_int_int__i_valOk_1 → p.1 = 0 → p.2 = cslices_IndexFunc_int_int__i_valOk_1_0 := by
  intro p hp
  rw [lseqslices_IndexFunc_int_int__i_valOk_1] at hp
  simp only [List.mem_cons, List.not_mem_nil, or_false] at hp
  subst hp; simp
theorem kslices_IndexFunc_int_int__i_valOk_1_0 : OrcOk Eslices_IndexFunc_int_int__i_valOk_1 Oslices_IndexFunc_int_int__i_valOk_1_0 lsslices_IndexFunc_int_int__i_valOk_1 0 := orcOk_none
noncomputable def hslices_IndexFunc_int_int__i_valOk_1_0 (y0 : List (Int)) (y1 : Int) (y2 : Int) : List (Pl × LV) := [(.T 0, .t (.val false [.sl .any 3 (.int .i64) y0])), (.T 1, .t (.val false [.fn 132 []])), (.T 7, .t (.val false [.int .i64 y1])), (.T 8, .t (.val false [.int .i64 y2]))]
noncomputable def g_Sslices_IndexFunc_int_int__i_valOk_1_0 (y0 : List (Int)) (y1 : Int) : ((Int)) → RT ((Int)) (((Int)) ⊕ (Unit))
  | y2 => .br (true) (.br (decide (y2 < y1)) (.br (decide ((0 : Int) ≤ y2 ∧ y2 < (↑(List.length y0) : Int))) (.br (g_Ai_valOk_1 (at_ (Ty.int IntKind.i64) y0 (Int.toNat y2))) (.br (g_Vi_valOk_1_0 (at_ (Ty.int IntKind.i64) y0 (Int.toNat y2))) (.out (.inl y2)) (.br (true) (.go (IntKind.wrap IntKind.i64 (y2 + (1 : Int)))) (.bad))) (.bad)) (.bad)) (.out (.inr (())))) (.bad)
noncomputable def g_Lslices_IndexFunc_int_int__i_valOk_1_0 (y0 : List (Int)) (y1 : Int) (x : (Int)) : Option (((Int)) ⊕ (Unit)) := loopO (g_Sslices_IndexFunc_int_int__i_valOk_1_0 y0 y1) x
noncomputable def xslices_IndexFunc_int_int__i_valOk_1_0 (y0 : List (Int)) (y1 : Int) : (((Int)) ⊕ (Unit)) → Ex × List (Pl × LV) := fun
  | .inl r => (.ret, [(.T 4, .t (.val false [.int .i64 r]))])
  | .inr (r) => (.exit 0, [(.T 4, .t (.val false [.undef]))])
noncomputable def Oslices_IndexFunc_int_int__i_valOk_1_1 : Orc := fun b h => match b, h with
  | 0, [(.T 0, .t (.val false [.sl .any 3 (.int .i64) y0])), (.T 1, .t (.val false [.fn 132 []])), (.T 7, .t (.val false [.int .i64 y1])), (.T 8, .t (.val false [.int .i64 y2]))] => some (okO (g_Lslices_IndexFunc_int_int__i_valOk_1_0 y0 y1 y2), (.br (isL (valO (g_Lslices_IndexFunc_int_int__i_valOk_1_0 y0 y1 y2))) (.leaf .ret [(.T 4, .t (.val false [.int .i64 (getL (valO (g_Lslices_IndexFunc_int_int__i_valOk_1_0 y0 y1 y2)))]))]) (.leaf (.exit 0) [(.T 4, .t (.val false [.undef]))])))
  | b, h => Oslices_IndexFunc_int_int__i_valOk_1_0 b h
theorem bslices_IndexFunc_int_int__i_valOk_1_0 (y0 : List (Int)) (y1 : Int) (y2 : Int) : Tr.bt Eslices_IndexFunc_int_int__i_valOk_1 Oslices_IndexFunc_int_int__i_valOk_1_0 (exec Eslices_IndexFunc_int_int__i_valOk_1 0 cslices_IndexFunc_int_int__i_valOk_1_0 (St.of (hslices_IndexFunc_int_int__i_valOk_1_0 y0 y1 y2)) (leafRd Eslices_IndexFunc_int_int__i_valOk_1 0)) = (g_Sslices_IndexFunc_int_int__i_valOk_1_0 y0 y1 y2).bt (fun (y2 : (Int)) => (hslices_IndexFunc_int_int__i_valOk_1_0 y0 y1 y2)) (xslices_IndexFunc_int_int__i_valOk_1_0 y0 y1) := by kernel_rfl
theorem kslices_IndexFunc_int_int__i_valOk_1_1 : OrcOk Eslices_IndexFunc_int_int__i_valOk_1 Oslices_IndexFunc_int_int__i_valOk_1_1 lsslices_IndexFunc_int_int__i_valOk_1 1 := orc_add kslices_IndexFunc_int_int__i_valOk_1_0 (fun n p hp h ex h' ho => by
  obtain ⟨b, c⟩ := p
  obtain ⟨xt, h1, h2⟩ := ho
  have h1 : Oslices_IndexFunc_int_int__i_valOk_1_1 b h = some (true, xt) := h1
  unfold Oslices_IndexFunc_int_int__i_valOk_1_1 at h1
  split at h1
  · injection h1 with h1
    injection h1 with e1 e2
    subst e2
    have hc : c = cslices_IndexFunc_int_int__i_valOk_1_0 := mslices_IndexFunc_int_int__i_valOk_1_0 _ hp rfl
    subst hc
    right
    rename_i y0 y1 y2
    have key := LT_step kslices_IndexFunc_int_int__i_valOk_1_0 hp (fun q hq => loopsAll_in _ _ _ _ hp hq) (fun (y2 : (Int)) => (hslices_IndexFunc_int_int__i_valOk_1_0 y0 y1 y2)) (xslices_IndexFunc_int_int__i_valOk_1_0 y0 y1) (g_Sslices_IndexFunc_int_int__i_valOk_1_0 y0 y1) (fun x => by first | exact bslices_IndexFunc_int_int__i_valOk_1_0 y0 y1 x) n (x := y2) (okO_some e1)
    have hx : ∀ r, XT.sel (.br (isL r) (.leaf .ret [(.T 4, .t (.val false [.int .i64 (getL r)]))]) (.leaf (.exit 0) [(.T 4, .t (.val false [.undef]))])) = xslices_IndexFunc_int_int__i_valOk_1_0 y0 y1 r := fun r => by first | rfl | (rcases r with r | r <;> rfl) | (rcases r with r | r | r <;> rfl) | (rcases r with r | r | r | r <;> rfl)
    have h3 := (hx (valO (g_Lslices_IndexFunc_int_int__i_valOk_1_0 y0 y1 y2))).symm.trans h2
    have e3 := congrArg Prod.fst h3
    have e4 := congrArg Prod.snd h3
    simp only at e3 e4
    rw [← e3, ← e4]
    exact key
  · exact .inl ⟨xt, h1, h2⟩)
noncomputable def g_Aslices_IndexFunc_int_int__i_valOk_1 (a0 : List (Int)) : Bool := okO (g_Lslices_IndexFunc_int_int__i_valOk_1_0 a0 (↑(List.length a0) : Int) (0 : Int))
noncomputable def g_Vslices_IndexFunc_int_int__i_valOk_1_0 (a0 : List (Int)) : Int := bif isL (valO (g_Lslices_IndexFunc_int_int__i_valOk_1_0 a0 (↑(List.length a0) : Int) (0 : Int))) then getL (valO (g_Lslices_IndexFunc_int_int__i_valOk_1_0 a0 (↑(List.length a0) : Int) (0 : Int))) else (-1 : Int)
noncomputable def Fslices_IndexFunc_int_int__i_valOk_1 : FSem := fun ys => match ys with
  | [.val false [.sl .any 3 (.int .i64) a0], .val false [.fn 132 []]] => some ((g_Aslices_IndexFunc_int_int__i_valOk_1 a0), .val false [.int .i64 (g_Vslices_IndexFunc_int_int__i_valOk_1_0 a0)], [])
  | _ => none
theorem vslices_IndexFunc_int_int__i_valOk_1 (a0 : List (Int)) : collapseH .std Eslices_IndexFunc_int_int__i_valOk_1 Oslices_IndexFunc_int_int__i_valOk_1_1 (execFn Eslices_IndexFunc_int_int__i_valOk_1 Go.Proofs.Tryd.f165 msslices_IndexFunc_int_int__i_valOk_1 [.val false [.sl .any 3 (.int .i64) a0], .val false [.fn 132 []]]) = some ((g_Aslices_IndexFunc_int_int__i_valOk_1 a0), .val false [.int .i64 (g_Vslices_IndexFunc_int_int__i_valOk_1_0 a0)], []) := by kernel_rfl
theorem sslices_IndexFunc_int_int__i_valOk_1 : Sound Go.Proofs.Tryd.prog 165 msslices_IndexFunc_int_int__i_valOk_1 Fslices_IndexFunc_int_int__i_valOk_1 := by
  refine fn_gen goodslices_IndexFunc_int_int__i_valOk_1 (by kernel_rfl) .std (fn := Go.Proofs.Tryd.f165) (c := (Go.Proofs.Tryd.f165.body.getD .skip)) (o := Oslices_IndexFunc_int_int__i_valOk_1_1) (k := 1) (by kernel_rfl) (by kernel_rfl) (by kernel_rfl) (by kernel_rfl) (by decide) kslices_IndexFunc_int_int__i_valOk_1_1 ?_
  intro ys r outs h
  unfold Fslices_IndexFunc_int_int__i_valOk_1 at h
  split at h
  · exact (vslices_IndexFunc_int_int__i_valOk_1 _).trans h
  · cases h
end Go.Proofs.YtkjeicijcecmlaaDoor.E
end
section
namespace Go.Proofs.YtkjeicijcecmlaaDoor.E
open Go
set_option maxRecDepth 100000
set_option maxHeartbeats 0
set_option linter.all false
noncomputable def Eslices_ContainsFunc_int_int__i_valOk_1 : Env where
  tt := mkTI Go.Proofs.Tryd.prog
  fn := fun f => match f with
    | 132 => some (msi_valOk_1, FSem.wk msi_valOk_1 Fi_valOk_1)
    | 165 => some (msslices_IndexFunc_int_int__i_valOk_1, FSem.wk msslices_IndexFunc_int_int__i_valOk_1 Fslices_IndexFunc_int_int__i_valOk_1)
    | _ => none
  bxf := fun _ => none
  mv := []
  keep := fun _ => []
  keepB := fun _ => []
  keepX := fun _ => []
  keepXB := fun _ => []
theorem goodFslices_ContainsFunc_int_int__i_valOk_1 : ∀ f ms F, Eslices_ContainsFunc_int_int__i_valOk_1.fn f = some (ms, F) → Sound Go.Proofs.Tryd.prog f ms F := fun f ms F h => by
  unfold Eslices_ContainsFunc_int_int__i_valOk_1 at h
  dsimp only at h
  split at h
  · injection h with h; injection h with e1 e2; subst e1 e2; exact Sound.wk si_valOk_1
  · injection h with h; injection h with e1 e2; subst e1 e2; exact Sound.wk sslices_IndexFunc_int_int__i_valOk_1
  · cases h
theorem goodBslices_ContainsFunc_int_int__i_valOk_1 : ∀ f ms F, Eslices_ContainsFunc_int_int__i_valOk_1.bxf f = some (ms, F) → SoundB Go.Proofs.Tryd.prog f ms F := fun f ms F h => by cases h
theorem goodslices_ContainsFunc_int_int__i_valOk_1 : Good Go.Proofs.Tryd.prog Eslices_ContainsFunc_int_int__i_valOk_1 := ⟨rfl, goodFslices_ContainsFunc_int_int__i_valOk_1, goodBslices_ContainsFunc_int_int__i_valOk_1⟩
noncomputable def Oslices_ContainsFunc_int_int__i_valOk_1_0 : Orc := fun _ _ => none
noncomputable def msslices_ContainsFunc_int_int__i_valOk_1 : List PM := [.rd, .rd]
noncomputable def lsslices_ContainsFunc_int_int__i_valOk_1 : List (Nat × Code) := loopsAll 0 (Go.Proofs.Tryd.f131.body.getD .skip)

theorem kslices_ContainsFunc_int_int__i_valOk_1_0 : OrcOk Eslices_ContainsFunc_int_int__i_valOk_1 Oslices_ContainsFunc_int_int__i_valOk_1_0 lsslices_ContainsFunc_int_int__i_valOk_1 0 := orcOk_none
noncomputable def g_Aslices_ContainsFunc_int_int__i_valOk_1 (a0 : List (Int)) : Bool := g_Aslices_IndexFunc_int_int__i_valOk_1 a0 && true
noncomputable def g_Vslices_ContainsFunc_int_int__i_valOk_1_0 (a0 : List (Int)) : Bool := decide (g_Vslices_IndexFunc_int_int__i_valOk_1_0 a0 ≥ (0 : Int))
noncomputable def Fslices_ContainsFunc_int_int__i_valOk_1 : FSem := fun ys => match ys with
  | [.val false [.sl .any 3 (.int .i64) a0], .val false [.fn 132 []]] => some ((g_Aslices_ContainsFunc_int_int__i_valOk_1 a0), .val false [.bool (g_Vslices_ContainsFunc_int_int__i_valOk_1_0 a0)], [])
  | _ => none
theorem vslices_ContainsFunc_int_int__i_valOk_1 (a0 : List (Int)) : collapseH .std Eslices_ContainsFunc_int_int__i_valOk_1 Oslices_ContainsFunc_int_int__i_valOk_1_0 (execFn Eslices_ContainsFunc_int_int__i_valOk_1 Go.Proofs.Tryd.f131 msslices_ContainsFunc_int_int__i_valOk_1 [.val false [.sl .any 3 (.int .i64) a0], .val false [.fn 132 []]]) = some ((g_Aslices_ContainsFunc_int_int__i_valOk_1 a0), .val false [.bool (g_Vslices_ContainsFunc_int_int__i_valOk_1_0 a0)], []) := by kernel_rfl
theorem sslices_ContainsFunc_int_int__i_valOk_1 : Sound Go.Proofs.Tryd.prog 131 msslices_ContainsFunc_int_int__i_valOk_1 Fslices_ContainsFunc_int_int__i_valOk_1 := by
  refine fn_gen goodslices_ContainsFunc_int_int__i_valOk_1 (by kernel_rfl) .std (fn := Go.Proofs.Tryd.f131) (c := (Go.Proofs.Tryd.f131.body.getD .skip)) (o := Oslices_ContainsFunc_int_int__i_valOk_1_0) (k := 0) (by kernel_rfl) (by kernel_rfl) (by kernel_rfl) (by kernel_rfl) (by decide) kslices_ContainsFunc_int_int__i_valOk_1_0 ?_
  intro ys r outs h
  unfold Fslices_ContainsFunc_int_int__i_valOk_1 at h
  split at h
  · exact (vslices_ContainsFunc_int_int__i_valOk_1 _).trans h
  · cases h
end Go.Proofs.YtkjeicijcecmlaaDoor.E
end
section
namespace Go.Proofs.YtkjeicijcecmlaaDoor.E
open Go
set_option maxRecDepth 100000
set_option maxHeartbeats 0
set_option linter.all false
noncomputable def Ei_valOk : Env where
  tt := mkTI Go.Proofs.Tryd.prog
  fn := fun f => match f with
    | 129 => some (msi_in, FSem.wk msi_in Fi_in)
    | 131 => some (msslices_ContainsFunc_int_int__i_valOk_1, FSem.wk msslices_ContainsFunc_int_int__i_valOk_1 Fslices_ContainsFunc_int_int__i_valOk_1)
    | _ => none
  bxf := fun _ => none
  mv := []
  keep := fun _ => []
  keepB := fun _ => []
  keepX := fun _ => []
  keepXB := fun _ => []
theorem goodFi_valOk : ∀ f ms F, Ei_valOk.fn f = some (ms, F) → Sound Go.Proofs.Tryd.prog f ms F := fun f ms F h => by
  unfold Ei_valOk at h
  dsimp only at h
  split at h
  · injection h with h; injection h with e1 e2; subst e1 e2; exact Sound.wk si_in
  · injection h with h; injection h with e1 e2; subst e1 e2; exact Sound.wk sslices_ContainsFunc_int_int__i_valOk_1
  · cases h
theorem goodBi_valOk : ∀ f ms F, Ei_valOk.bxf f = some (ms, F) → SoundB Go.Proofs.Tryd.prog f ms F := fun f ms F h => by cases h
theorem goodi_valOk : Good Go.Proofs.Tryd.prog Ei_valOk := ⟨rfl, goodFi_valOk, goodBi_valOk⟩
noncomputable def Oi_valOk_0 : Orc := fun _ _ => none
noncomputable def msi_valOk : List PM := [.rd]
noncomputable def lsi_valOk : List (Nat × Code) := loopsAll 0 (Go.Proofs.Tryd.f74.body.getD .skip)

theorem ki_valOk_0 : OrcOk Ei_valOk Oi_valOk_0 lsi_valOk 0 := orcOk_none
noncomputable def g_Ai_valOk (a0 : List (Int)) : Bool := g_Ai_in (↑(List.length a0) : Int) (1 : Int) (3 : Int) && (!g_Vi_in_0 (↑(List.length a0) : Int) (1 : Int) (3 : Int) || g_Aslices_ContainsFunc_int_int__i_valOk_1 a0)
noncomputable def g_Vi_valOk_0 (a0 : List (Int)) : Bool := bif g_Vi_in_0 (↑(List.length a0) : Int) (1 : Int) (3 : Int) then !g_Vslices_ContainsFunc_int_int__i_valOk_1_0 a0 else false
noncomputable def Fi_valOk : FSem := fun ys => match ys with
  | [.val false [.sl .any 3 (.int .i64) a0]] => some ((g_Ai_valOk a0), .val false [.bool (g_Vi_valOk_0 a0)], [])
  | _ => none
theorem vi_valOk (a0 : List (Int)) : collapseH .std Ei_valOk Oi_valOk_0 (execFn Ei_valOk Go.Proofs.Tryd.f74 msi_valOk [.val false [.sl .any 3 (.int .i64) a0]]) = some ((g_Ai_valOk a0), .val false [.bool (g_Vi_valOk_0 a0)], []) := by kernel_rfl
theorem si_valOk : Sound Go.Proofs.Tryd.prog 74 msi_valOk Fi_valOk := by
  refine fn_gen goodi_valOk (by kernel_rfl) .std (fn := Go.Proofs.Tryd.f74) (c := (Go.Proofs.Tryd.f74.body.getD .skip)) (o := Oi_valOk_0) (k := 0) (by kernel_rfl) (by kernel_rfl) (by kernel_rfl) (by kernel_rfl) (by decide) ki_valOk_0 ?_
  intro ys r outs h
  unfold Fi_valOk at h
  split at h
  · exact (vi_valOk _).trans h
  · cases h
end Go.Proofs.YtkjeicijcecmlaaDoor.E
end
section
namespace Go.Proofs.YtkjeicijcecmlaaDoor.E
open Go
set_option maxRecDepth 100000
set_option maxHeartbeats 0
set_option linter.all false
noncomputable def Ei_StoOk : Env where
  tt := mkTI Go.Proofs.Tryd.prog
  fn := fun f => match f with
    | 73 => some (msi_keyOk, FSem.wk msi_keyOk Fi_keyOk)
    | 74 => some (msi_valOk, FSem.wk msi_valOk Fi_valOk)
    | _ => none
  bxf := fun _ => none
  mv := []
  keep := fun b => match b with
    | 0 => [(1, false), (6, false), (7, false), (8, false)]
    | _ => []
  keepB := fun b => match b with
    | 0 => [(1, false)]
    | _ => []
  keepX := fun b => match b with
    | 0 => [(1, false), (2, false)]
    | _ => []
  keepXB := fun b => match b with
    | 0 => [(1, false)]
    | _ => []
theorem goodFi_StoOk : ∀ f ms F, Ei_StoOk.fn f = some (ms, F) → Sound Go.Proofs.Tryd.prog f ms F := fun f ms F h => by
  unfold Ei_StoOk at h
  dsimp only at h
  split at h
  · injection h with h; injection h with e1 e2; subst e1 e2; exact Sound.wk si_keyOk
  · injection h with h; injection h with e1 e2; subst e1 e2; exact Sound.wk si_valOk
  · cases h
theorem goodBi_StoOk : ∀ f ms F, Ei_StoOk.bxf f = some (ms, F) → SoundB Go.Proofs.Tryd.prog f ms F := fun f ms F h => by cases h
theorem goodi_StoOk : Good Go.Proofs.Tryd.prog Ei_StoOk := ⟨rfl, goodFi_StoOk, goodBi_StoOk⟩
noncomputable def Oi_StoOk_0 : Orc := fun _ _ => none
noncomputable def msi_StoOk : List PM := [.rd]
noncomputable def lsi_StoOk : List (Nat × Code) := loopsAll 0 (Go.Proofs.Tryd.f14.body.getD .skip)
noncomputable def ci_StoOk_0 : Code := (loopOf 0 (Go.Proofs.Tryd.f14.body.getD .skip)).getD .skip
theorem lseqi_StoOk : lsi_StoOk = [(0, ci_StoOk_0)] := by kernel_rfl
theorem mi_StoOk_0 : ∀ p, p ∈ lsi_StoOk → p.1 = 0 → p.2 = ci_StoOk_0 := by
  intro p hp
  rw [lseqi_StoOk] at hp
  simp only [List.mem_cons, List.not_mem_nil, or_false] at hp
  subst hp; simp
theorem ki_StoOk_0 : OrcOk Ei_StoOk Oi_StoOk_0 lsi_StoOk 0 := orcOk_none
noncomputable def hi_StoOk_0 (y0 : List ((ByteArray) × (List (Int)))) (y1 : Int) (y2 : Int) (y3 : List ((ByteArray) × (List (Int)))) : List (Pl × LV) := [(.T 1, .t (.val false [.ptr 1 0 0])), (.T 6, .t (.val false [.sl .any 43 (.pair .str (.sl 3 (.int .i64))) y0])), (.T 7, .t (.val false [.int .i64 y1])), (.T 8, .t (.val false [.int .i64 y2])), (.B 1, .b 0 false [.sl .any 43 (.pair .str (.sl 3 (.int .i64))) y3])]
noncomputable def g_Si_StoOk_0 (y0 : List ((ByteArray) × (List (Int)))) (y1 : Int) (y3 : List ((ByteArray) × (List (Int)))) : ((Int)) → RT ((Int)) (((Bool)) ⊕ (Unit))
  | y2 => .br (true) (.br (decide (y2 < y1)) (.br (decide ((0 : Int) ≤ y2 ∧ y2 < (↑(List.length y0) : Int))) (.br (g_Ai_keyOk (at_ (Ty.pair Ty.str (Ty.sl (nat_lit 3) (Ty.int IntKind.i64))) y0 (Int.toNat y2)).1) (.br (!g_Vi_keyOk_0 (at_ (Ty.pair Ty.str (Ty.sl (nat_lit 3) (Ty.int IntKind.i64))) y0 (Int.toNat y2)).1) (.out (.inl false)) (.br (g_Ai_valOk (at_ (Ty.pair Ty.str (Ty.sl (nat_lit 3) (Ty.int IntKind.i64))) y0 (Int.toNat y2)).2) (.br (!g_Vi_valOk_0 (at_ (Ty.pair Ty.str (Ty.sl (nat_lit 3) (Ty.int IntKind.i64))) y0 (Int.toNat y2)).2) (.out (.inl false)) (.br (true) (.br (decide (y2 > (0 : Int))) (.br (true) (.br (decide ((0 : Int) ≤ IntKind.wrap IntKind.i64 (y2 - (1 : Int)) ∧ IntKind.wrap IntKind.i64 (y2 - (1 : Int)) < (↑(List.length y3) : Int))) (.br (true) (.br (Op.bytesLess (ByteArray.toList (at_ (Ty.pair Ty.str (Ty.sl (nat_lit 3) (Ty.int IntKind.i64))) y0 (Int.toNat y2)).1) (ByteArray.toList (at_ (Ty.pair Ty.str (Ty.sl (nat_lit 3) (Ty.int IntKind.i64))) y3 (Int.toNat (IntKind.wrap IntKind.i64 (y2 - (1 : Int))))).1) || ByteArray.toList (at_ (Ty.pair Ty.str (Ty.sl (nat_lit 3) (Ty.int IntKind.i64))) y0 (Int.toNat y2)).1 == ByteArray.toList (at_ (Ty.pair Ty.str (Ty.sl (nat_lit 3) (Ty.int IntKind.i64))) y3 (Int.toNat (IntKind.wrap IntKind.i64 (y2 - (1 : Int))))).1) (.out (.inl false)) (.br (true) (.go (IntKind.wrap IntKind.i64 (y2 + (1 : Int)))) (.bad))) (.bad)) (.bad)) (.bad)) (.br (true) (.go (IntKind.wrap IntKind.i64 (y2 + (1 : Int)))) (.bad))) (.bad))) (.bad))) (.bad)) (.bad)) (.out (.inr (())))) (.bad)
noncomputable def g_Li_StoOk_0 (y0 : List ((ByteArray) × (List (Int)))) (y1 : Int) (y3 : List ((ByteArray) × (List (Int)))) (x : (Int)) : Option (((Bool)) ⊕ (Unit)) := loopO (g_Si_StoOk_0 y0 y1 y3) x
noncomputable def xi_StoOk_0 (y0 : List ((ByteArray) × (List (Int)))) (y1 : Int) (y3 : List ((ByteArray) × (List (Int)))) : (((Bool)) ⊕ (Unit)) → Ex × List (Pl × LV) := fun
  | .inl r => (.ret, [(.T 1, .t (.val false [.ptr 1 0 0])), (.T 2, .t (.val false [.bool r])), (.B 1, .b 0 false [.sl .any 43 (.pair .str (.sl 3 (.int .i64))) y3])])
  | .inr (r) => (.exit 0, [(.T 1, .t (.val false [.ptr 1 0 0])), (.T 2, .t (.val false [.undef])), (.B 1, .b 0 false [.sl .any 43 (.pair .str (.sl 3 (.int .i64))) y3])])
noncomputable def Oi_StoOk_1 : Orc := fun b h => match b, h with
  | 0, [(.T 1, .t (.val false [.ptr 1 0 0])), (.T 6, .t (.val false [.sl .any 43 (.pair .str (.sl 3 (.int .i64))) y0])), (.T 7, .t (.val false [.int .i64 y1])), (.T 8, .t (.val false [.int .i64 y2])), (.B 1, .b 0 false [.sl .any 43 (.pair .str (.sl 3 (.int .i64))) y3])] => some (okO (g_Li_StoOk_0 y0 y1 y3 y2), (.br (isL (valO (g_Li_StoOk_0 y0 y1 y3 y2))) (.leaf .ret [(.T 1, .t (.val false [.ptr 1 0 0])), (.T 2, .t (.val false [.bool (getL (valO (g_Li_StoOk_0 y0 y1 y3 y2)))])), (.B 1, .b 0 false [.sl .any 43 (.pair .str (.sl 3 (.int .i64))) y3])]) (.leaf (.exit 0) [(.T 1, .t (.val false [.ptr 1 0 0])), (.T 2, .t (.val false [.undef])), (.B 1, .b 0 false [.sl .any 43 (.pair .str (.sl 3 (.int .i64))) y3])])))
  | b, h => Oi_StoOk_0 b h
theorem bi_StoOk_0 (y0 : List ((ByteArray) × (List (Int)))) (y1 : Int) (y2 : Int) (y3 : List ((ByteArray) × (List (Int)))) : Tr.bt Ei_StoOk Oi_StoOk_0 (exec Ei_StoOk 0 ci_StoOk_0 (St.of (hi_StoOk_0 y0 y1 y2 y3)) (leafRd Ei_StoOk 0)) = (g_Si_StoOk_0 y0 y1 y3 y2).bt (fun (y2 : (Int)) => (hi_StoOk_0 y0 y1 y2 y3)) (xi_StoOk_0 y0 y1 y3) := by kernel_rfl
theorem ki_StoOk_1 : OrcOk Ei_StoOk Oi_StoOk_1 lsi_StoOk 1 := orc_add ki_StoOk_0 (fun n p hp h ex h' ho => by
  obtain ⟨b, c⟩ := p
  obtain ⟨xt, h1, h2⟩ := ho
  have h1 : Oi_StoOk_1 b h = some (true, xt) := h1
  unfold Oi_StoOk_1 at h1
  split at h1
  · injection h1 with h1
    injection h1 with e1 e2
    subst e2
    have hc : c = ci_StoOk_0 := mi_StoOk_0 _ hp rfl
    subst hc
    right
    rename_i y0 y1 y2 y3
    have key := LT_step ki_StoOk_0 hp (fun q hq => loopsAll_in _ _ _ _ hp hq) (fun (y2 : (Int)) => (hi_StoOk_0 y0 y1 y2 y3)) (xi_StoOk_0 y0 y1 y3) (g_Si_StoOk_0 y0 y1 y3) (fun x => by first | exact bi_StoOk_0 y0 y1 x y3) n (x := y2) (okO_some e1)
    have hx : ∀ r, XT.sel (.br (isL r) (.leaf .ret [(.T 1, .t (.val false [.ptr 1 0 0])), (.T 2, .t (.val false [.bool (getL r)])), (.B 1, .b 0 false [.sl .any 43 (.pair .str (.sl 3 (.int .i64))) y3])]) (.leaf (.exit 0) [(.T 1, .t (.val false [.ptr 1 0 0])), (.T 2, .t (.val false [.undef])), (.B 1, .b 0 false [.sl .any 43 (.pair .str (.sl 3 (.int .i64))) y3])])) = xi_StoOk_0 y0 y1 y3 r := fun r => by first | rfl | (rcases r with r | r <;> rfl) | (rcases r with r | r | r <;> rfl) | (rcases r with r | r | r | r <;> rfl)
    have h3 := (hx (valO (g_Li_StoOk_0 y0 y1 y3 y2))).symm.trans h2
    have e3 := congrArg Prod.fst h3
    have e4 := congrArg Prod.snd h3
    simp only at e3 e4
    rw [← e3, ← e4]
    exact key
  · exact .inl ⟨xt, h1, h2⟩)
noncomputable def g_Ai_StoOk (a0 : List ((ByteArray) × (List (Int)))) : Bool := okO (g_Li_StoOk_0 a0 (↑(List.length a0) : Int) a0 (0 : Int)) && (isL (valO (g_Li_StoOk_0 a0 (↑(List.length a0) : Int) a0 (0 : Int))) || true)
noncomputable def g_Vi_StoOk_0 (a0 : List ((ByteArray) × (List (Int)))) : Bool := bif isL (valO (g_Li_StoOk_0 a0 (↑(List.length a0) : Int) a0 (0 : Int))) then getL (valO (g_Li_StoOk_0 a0 (↑(List.length a0) : Int) a0 (0 : Int))) else decide ((↑(List.length a0) : Int) ≤ (40 : Int))
noncomputable def Fi_StoOk : FSem := fun ys => match ys with
  | [.val true [.sl .any 43 (.pair .str (.sl 3 (.int .i64))) a0]] => some ((g_Ai_StoOk a0), .val false [.bool (g_Vi_StoOk_0 a0)], [])
  | _ => none
theorem vi_StoOk (a0 : List ((ByteArray) × (List (Int)))) : collapseH .std Ei_StoOk Oi_StoOk_1 (execFn Ei_StoOk Go.Proofs.Tryd.f14 msi_StoOk [.val true [.sl .any 43 (.pair .str (.sl 3 (.int .i64))) a0]]) = some ((g_Ai_StoOk a0), .val false [.bool (g_Vi_StoOk_0 a0)], []) := by kernel_rfl
theorem si_StoOk : Sound Go.Proofs.Tryd.prog 14 msi_StoOk Fi_StoOk := by
  refine fn_gen goodi_StoOk (by kernel_rfl) .std (fn := Go.Proofs.Tryd.f14) (c := (Go.Proofs.Tryd.f14.body.getD .skip)) (o := Oi_StoOk_1) (k := 1) (by kernel_rfl) (by kernel_rfl) (by kernel_rfl) (by kernel_rfl) (by decide) ki_StoOk_1 ?_
  intro ys r outs h
  unfold Fi_StoOk at h
  split at h
  · exact (vi_StoOk _).trans h
  · cases h
end Go.Proofs.YtkjeicijcecmlaaDoor.E
end
section
namespace Go.Proofs.YtkjeicijcecmlaaDoor.E
open Go
set_option maxRecDepth 100000
set_option maxHeartbeats 0
set_option linter.all false
noncomputable def Es_l20Open : Env where
  tt := mkTI Go.Proofs.Tryd.prog
  fn := fun _ => none
  bxf := fun _ => none
  mv := []
  keep := fun _ => []
  keepB := fun _ => []
  keepX := fun _ => []
  keepXB := fun _ => []
theorem goodFs_l20Open : ∀ f ms F, Es_l20Open.fn f = some (ms, F) → Sound Go.Proofs.Tryd.prog f ms F := fun f ms F h => by cases h
theorem goodBs_l20Open : ∀ f ms F, Es_l20Open.bxf f = some (ms, F) → SoundB Go.Proofs.Tryd.prog f ms F := fun f ms F h => by cases h
theorem goods_l20Open : Good Go.Proofs.Tryd.prog Es_l20Open := ⟨rfl, goodFs_l20Open, goodBs_l20Open⟩
noncomputable def Os_l20Open_0 : Orc := fun _ _ => none
noncomputable def mss_l20Open : List PM := [.fz]
noncomputable def lss_l20Open : List (Nat × Code) := loopsAll 0 (Go.Proofs.Tryd.f72.body.getD .skip)

theorem ks_l20Open_0 : OrcOk Es_l20Open Os_l20Open_0 lss_l20Open 0 := orcOk_none
noncomputable def g_As_l20Open (a0 : List (Int)) : Bool := Bool.rec (!decide ((↑(List.length a0) : Int) > (2000 : Int)) && true) true (decide ((0 : Int) ≤ (2000 : Int) ∧ (2000 : Int) ≤ (↑(List.length a0) : Int)) && true)
noncomputable def g_Vs_l20Open_0 (a0 : List (Int)) : List (Int) := bif decide ((↑(List.length a0) : Int) > (2000 : Int)) then List.drop (nat_lit 0) (List.take (nat_lit 2000) a0) else a0
noncomputable def g_Vs_l20Open_1 (a0 : List (Int)) : Int := bif decide ((↑(List.length a0) : Int) > (2000 : Int)) then (0 : Int) else (0 : Int)
noncomputable def Fs_l20Open : List RV → Option (Bool × List Cell × List (List Cell)) := fun ys => match ys with
  | [.val false [.sl .any 5 (.int .u8) a0]] => some ((g_As_l20Open a0), [.sl .any 5 (.int .u8) (g_Vs_l20Open_0 a0), .int .i64 (g_Vs_l20Open_1 a0)], [])
  | _ => none
theorem vs_l20Open (a0 : List (Int)) : collapse Es_l20Open Os_l20Open_0 (execFnB Es_l20Open Go.Proofs.Tryd.f72 mss_l20Open 2 [.val false [.sl .any 5 (.int .u8) a0]]) = some ((g_As_l20Open a0), .val true [.sl .any 5 (.int .u8) (g_Vs_l20Open_0 a0), .int .i64 (g_Vs_l20Open_1 a0)], []) := by kernel_rfl
theorem ss_l20Open : SoundB Go.Proofs.Tryd.prog 72 mss_l20Open Fs_l20Open := by
  refine fn_genB goods_l20Open (by kernel_rfl) (fn := Go.Proofs.Tryd.f72) (c := (Go.Proofs.Tryd.f72.body.getD .skip)) (o := Os_l20Open_0) (k := 0) (tr := 2) (by kernel_rfl) (by kernel_rfl) (by kernel_rfl) (by kernel_rfl) (by decide) (by kernel_rfl) (by decide) ks_l20Open_0 ?_
  intro ys r outs h
  unfold Fs_l20Open at h
  split at h
  · simp only [Option.some.injEq, Prod.mk.injEq] at h
    obtain ⟨h1, h2, h3⟩ := h
    refine ⟨h3.symm, (vs_l20Open _).trans ?_⟩
    rw [h1, h2]
  · cases h
end Go.Proofs.YtkjeicijcecmlaaDoor.E
end
section
namespace Go.Proofs.YtkjeicijcecmlaaDoor.E
open Go
set_option maxRecDepth 100000
set_option maxHeartbeats 0
set_option linter.all false
noncomputable def Es_l1In : Env where
  tt := mkTI Go.Proofs.Tryd.prog
  fn := fun _ => none
  bxf := fun _ => none
  mv := []
  keep := fun _ => []
  keepB := fun _ => []
  keepX := fun _ => []
  keepXB := fun _ => []
theorem goodFs_l1In : ∀ f ms F, Es_l1In.fn f = some (ms, F) → Sound Go.Proofs.Tryd.prog f ms F := fun f ms F h => by cases h
theorem goodBs_l1In : ∀ f ms F, Es_l1In.bxf f = some (ms, F) → SoundB Go.Proofs.Tryd.prog f ms F := fun f ms F h => by cases h
theorem goods_l1In : Good Go.Proofs.Tryd.prog Es_l1In := ⟨rfl, goodFs_l1In, goodBs_l1In⟩
noncomputable def Os_l1In_0 : Orc := fun _ _ => none
noncomputable def mss_l1In : List PM := [.own, .own, .own]
noncomputable def lss_l1In : List (Nat × Code) := loopsAll 0 (Go.Proofs.Tryd.f119.body.getD .skip)

theorem ks_l1In_0 : OrcOk Es_l1In Os_l1In_0 lss_l1In 0 := orcOk_none
noncomputable def g_As_l1In (a0 : Int) (a1 : Int) (a2 : Int) : Bool := !decide (a0 ≥ a1) || true
noncomputable def g_Vs_l1In_0 (a0 : Int) (a1 : Int) (a2 : Int) : Bool := bif decide (a0 ≥ a1) then decide (a0 ≤ a2) else false
noncomputable def Fs_l1In : FSem := fun ys => match ys with
  | [.val false [.int .i64 a0], .val false [.int .i64 a1], .val false [.int .i64 a2]] => some ((g_As_l1In a0 a1 a2), .val false [.bool (g_Vs_l1In_0 a0 a1 a2)], [])
  | _ => none
theorem vs_l1In (a0 : Int) (a1 : Int) (a2 : Int) : collapseH .std Es_l1In Os_l1In_0 (execFn Es_l1In Go.Proofs.Tryd.f119 mss_l1In [.val false [.int .i64 a0], .val false [.int .i64 a1], .val false [.int .i64 a2]]) = some ((g_As_l1In a0 a1 a2), .val false [.bool (g_Vs_l1In_0 a0 a1 a2)], []) := by kernel_rfl
theorem ss_l1In : Sound Go.Proofs.Tryd.prog 119 mss_l1In Fs_l1In := by
  refine fn_gen goods_l1In (by kernel_rfl) .std (fn := Go.Proofs.Tryd.f119) (c := (Go.Proofs.Tryd.f119.body.getD .skip)) (o := Os_l1In_0) (k := 0) (by kernel_rfl) (by kernel_rfl) (by kernel_rfl) (by kernel_rfl) (by decide) ks_l1In_0 ?_
  intro ys r outs h
  unfold Fs_l1In at h
  split at h
  · exact (vs_l1In _ _ _).trans h
  · cases h
end Go.Proofs.YtkjeicijcecmlaaDoor.E
end
section
namespace Go.Proofs.YtkjeicijcecmlaaDoor.E
open Go
set_option maxRecDepth 100000
set_option maxHeartbeats 0
set_option linter.all false
noncomputable def Es_l1Key : Env where
  tt := mkTI Go.Proofs.Tryd.prog
  fn := fun f => match f with
    | 119 => some (mss_l1In, FSem.wk mss_l1In Fs_l1In)
    | _ => none
  bxf := fun _ => none
  mv := []
  keep := fun b => match b with
    | 0 => [(0, false), (3, false)]
    | _ => []
  keepB := fun b => match b with
    | 0 => []
    | _ => []
  keepX := fun b => match b with
    | 0 => [(2, false)]
    | _ => []
  keepXB := fun b => match b with
    | 0 => []
    | _ => []
theorem goodFs_l1Key : ∀ f ms F, Es_l1Key.fn f = some (ms, F) → Sound Go.Proofs.Tryd.prog f ms F := fun f ms F h => by
  unfold Es_l1Key at h
  dsimp only at h
  split at h
  · injection h with h; injection h with e1 e2; subst e1 e2; exact Sound.wk ss_l1In
  · cases h
theorem goodBs_l1Key : ∀ f ms F, Es_l1Key.bxf f = some (ms, F) → SoundB Go.Proofs.Tryd.prog f ms F := fun f ms F h => by cases h
theorem goods_l1Key : Good Go.Proofs.Tryd.prog Es_l1Key := ⟨rfl, goodFs_l1Key, goodBs_l1Key⟩
noncomputable def Os_l1Key_0 : Orc := fun _ _ => none
noncomputable def mss_l1Key : List PM := [.own]
noncomputable def lss_l1Key : List (Nat × Code) := loopsAll 0 (Go.Proofs.Tryd.f75.body.getD .skip)
noncomputable def cs_l1Key_0 : Code := (loopOf 0 (Go.Proofs.Tryd.f75.body.getD .skip)).getD .skip
theorem lseqs_l1Key : lss_l1Key = [(0, cs_l1Key_0)] := by kernel_rfl
theorem ms_l1Key_0 : ∀ p, p ∈ lss_l1Key → p.1 = 0 → p.2 = cs_l1Key_0 := by
  intro p hp
  rw [lseqs_l1Key] at hp
  simp only [List.mem_cons, List.not_mem_nil, or_false] at hp
  subst hp; simp
theorem ks_l1Key_0 : OrcOk Es_l1Key Os_l1Key_0 lss_l1Key 0 := orcOk_none
noncomputable def hs_l1Key_0 (y0 : ByteArray) (y1 : Int) : List (Pl × LV) := [(.T 0, .t (.val false [.str y0])), (.T 3, .t (.val false [.int .i64 y1]))]
noncomputable def g_Ss_l1Key_0 (y0 : ByteArray) : ((Int)) → RT ((Int)) (((Bool)) ⊕ (Unit))
  | y1 => .br (true) (.br (decide (y1 < (↑(ByteArray.size y0) : Int))) (.br (decide ((0 : Int) ≤ y1 ∧ y1 < (↑(ByteArray.size y0) : Int))) (.br (true) (.br (decide (byteAt y0 (Int.toNat y1) < (48 : Int))) (.out (.inl false)) (.br (decide ((0 : Int) ≤ y1 ∧ y1 < (↑(ByteArray.size y0) : Int))) (.br (true) (.br (decide (byteAt y0 (Int.toNat y1) > (57 : Int))) (.out (.inl false)) (.br (true) (.go (IntKind.wrap IntKind.i64 (y1 + (1 : Int)))) (.bad))) (.bad)) (.bad))) (.bad)) (.bad)) (.out (.inr (())))) (.bad)
noncomputable def g_Ls_l1Key_0 (y0 : ByteArray) (x : (Int)) : Option (((Bool)) ⊕ (Unit)) := loopO (g_Ss_l1Key_0 y0) x
noncomputable def xs_l1Key_0 (y0 : ByteArray) : (((Bool)) ⊕ (Unit)) → Ex × List (Pl × LV) := fun
  | .inl r => (.ret, [(.T 2, .t (.val false [.bool r]))])
  | .inr (r) => (.exit 0, [(.T 2, .t (.val false [.undef]))])
noncomputable def Os_l1Key_1 : Orc := fun b h => match b, h with
  | 0, [(.T 0, .t (.val false [.str y0])), (.T 3, .t (.val false [.int .i64 y1]))] => some (okO (g_Ls_l1Key_0 y0 y1), (.br (isL (valO (g_Ls_l1Key_0 y0 y1))) (.leaf .ret [(.T 2, .t (.val false [.bool (getL (valO (g_Ls_l1Key_0 y0 y1)))]))]) (.leaf (.exit 0) [(.T 2, .t (.val false [.undef]))])))
  | b, h => Os_l1Key_0 b h
theorem bs_l1Key_0 (y0 : ByteArray) (y1 : Int) : Tr.bt Es_l1Key Os_l1Key_0 (exec Es_l1Key 0 cs_l1Key_0 (St.of (hs_l1Key_0 y0 y1)) (leafRd Es_l1Key 0)) = (g_Ss_l1Key_0 y0 y1).bt (fun (y1 : (Int)) => (hs_l1Key_0 y0 y1)) (xs_l1Key_0 y0) := by kernel_rfl
theorem ks_l1Key_1 : OrcOk Es_l1Key Os_l1Key_1 lss_l1Key 1 := orc_add ks_l1Key_0 (fun n p hp h ex h' ho => by
  obtain ⟨b, c⟩ := p
  obtain ⟨xt, h1, h2⟩ := ho
  have h1 : Os_l1Key_1 b h = some (true, xt) := h1
  unfold Os_l1Key_1 at h1
  split at h1
  · injection h1 with h1
    injection h1 with e1 e2
    subst e2
    have hc : c = cs_l1Key_0 := ms_l1Key_0 _ hp rfl
    subst hc
    right
    rename_i y0 y1
    have key := LT_step ks_l1Key_0 hp (fun q hq => loopsAll_in _ _ _ _ hp hq) (fun (y1 : (Int)) => (hs_l1Key_0 y0 y1)) (xs_l1Key_0 y0) (g_Ss_l1Key_0 y0) (fun x => by first | exact bs_l1Key_0 y0 x) n (x := y1) (okO_some e1)
    have hx : ∀ r, XT.sel (.br (isL r) (.leaf .ret [(.T 2, .t (.val false [.bool (getL r)]))]) (.leaf (.exit 0) [(.T 2, .t (.val false [.undef]))])) = xs_l1Key_0 y0 r := fun r => by first | rfl | (rcases r with r | r <;> rfl) | (rcases r with r | r | r <;> rfl) | (rcases r with r | r | r | r <;> rfl)
    have h3 := (hx (valO (g_Ls_l1Key_0 y0 y1))).symm.trans h2
    have e3 := congrArg Prod.fst h3
    have e4 := congrArg Prod.snd h3
    simp only at e3 e4
    rw [← e3, ← e4]
    exact key
  · exact .inl ⟨xt, h1, h2⟩)
noncomputable def g_As_l1Key (a0 : ByteArray) : Bool := g_As_l1In (↑(ByteArray.size a0) : Int) (2 : Int) (3 : Int) && (!g_Vs_l1In_0 (↑(ByteArray.size a0) : Int) (2 : Int) (3 : Int) || decide ((0 : Int) ≤ (0 : Int) ∧ (0 : Int) < (↑(ByteArray.size a0) : Int)) && (decide (byteAt a0 (nat_lit 0) < (97 : Int)) || decide ((0 : Int) ≤ (0 : Int) ∧ (0 : Int) < (↑(ByteArray.size a0) : Int)) && (decide (byteAt a0 (nat_lit 0) > (122 : Int)) || okO (g_Ls_l1Key_0 a0 (1 : Int)))))
noncomputable def g_Vs_l1Key_0 (a0 : ByteArray) : Bool := bif !g_Vs_l1In_0 (↑(ByteArray.size a0) : Int) (2 : Int) (3 : Int) then false else bif decide (byteAt a0 (nat_lit 0) < (97 : Int)) then false else bif decide (byteAt a0 (nat_lit 0) > (122 : Int)) then false else bif isL (valO (g_Ls_l1Key_0 a0 (1 : Int))) then getL (valO (g_Ls_l1Key_0 a0 (1 : Int))) else true
noncomputable def Fs_l1Key : FSem := fun ys => match ys with
  | [.val false [.str a0]] => some ((g_As_l1Key a0), .val false [.bool (g_Vs_l1Key_0 a0)], [])
  | _ => none
theorem vs_l1Key (a0 : ByteArray) : collapseH .std Es_l1Key Os_l1Key_1 (execFn Es_l1Key Go.Proofs.Tryd.f75 mss_l1Key [.val false [.str a0]]) = some ((g_As_l1Key a0), .val false [.bool (g_Vs_l1Key_0 a0)], []) := by kernel_rfl
theorem ss_l1Key : Sound Go.Proofs.Tryd.prog 75 mss_l1Key Fs_l1Key := by
  refine fn_gen goods_l1Key (by kernel_rfl) .std (fn := Go.Proofs.Tryd.f75) (c := (Go.Proofs.Tryd.f75.body.getD .skip)) (o := Os_l1Key_1) (k := 1) (by kernel_rfl) (by kernel_rfl) (by kernel_rfl) (by kernel_rfl) (by decide) ks_l1Key_1 ?_
  intro ys r outs h
  unfold Fs_l1Key at h
  split at h
  · exact (vs_l1Key _).trans h
  · cases h
end Go.Proofs.YtkjeicijcecmlaaDoor.E
end
section
namespace Go.Proofs.YtkjeicijcecmlaaDoor.E
open Go
set_option maxRecDepth 100000
set_option maxHeartbeats 0
set_option linter.all false
noncomputable def Es_l1Val : Env where
  tt := mkTI Go.Proofs.Tryd.prog
  fn := fun f => match f with
    | 119 => some (mss_l1In, FSem.wk mss_l1In Fs_l1In)
    | _ => none
  bxf := fun _ => none
  mv := []
  keep := fun b => match b with
    | 0 => [(0, false), (3, false)]
    | _ => []
  keepB := fun b => match b with
    | 0 => []
    | _ => []
  keepX := fun b => match b with
    | 0 => [(0, false), (2, false)]
    | _ => []
  keepXB := fun b => match b with
    | 0 => []
    | _ => []
theorem goodFs_l1Val : ∀ f ms F, Es_l1Val.fn f = some (ms, F) → Sound Go.Proofs.Tryd.prog f ms F := fun f ms F h => by
  unfold Es_l1Val at h
  dsimp only at h
  split at h
  · injection h with h; injection h with e1 e2; subst e1 e2; exact Sound.wk ss_l1In
  · cases h
theorem goodBs_l1Val : ∀ f ms F, Es_l1Val.bxf f = some (ms, F) → SoundB Go.Proofs.Tryd.prog f ms F := fun f ms F h => by cases h
theorem goods_l1Val : Good Go.Proofs.Tryd.prog Es_l1Val := ⟨rfl, goodFs_l1Val, goodBs_l1Val⟩
noncomputable def Os_l1Val_0 : Orc := fun _ _ => none
noncomputable def mss_l1Val : List PM := [.rd]
noncomputable def lss_l1Val : List (Nat × Code) := loopsAll 0 (Go.Proofs.Tryd.f76.body.getD .skip)
noncomputable def cs_l1Val_0 : Code := (loopOf 0 (Go.Proofs.Tryd.f76.body.getD .skip)).getD .skip
theorem lseqs_l1Val : lss_l1Val = [(0, cs_l1Val_0)] := by kernel_rfl
theorem ms_l1Val_0 : ∀ p, p ∈ lss_l1Val → p.1 = 0 → p.2 = cs_l1Val_0 := by
  intro p hp
  rw [lseqs_l1Val] at hp
  simp only [List.mem_cons, List.not_mem_nil, or_false] at hp
  subst hp; simp
theorem ks_l1Val_0 : OrcOk Es_l1Val Os_l1Val_0 lss_l1Val 0 := orcOk_none
noncomputable def hs_l1Val_0 (y0 : List (Int)) (y1 : Int) : List (Pl × LV) := [(.T 0, .t (.val false [.sl .any 3 (.int .i64) y0])), (.T 3, .t (.val false [.int .i64 y1]))]
noncomputable def g_Ss_l1Val_0 (y0 : List (Int)) : ((Int)) → RT ((Int)) (((Bool)) ⊕ (Unit))
  | y1 => .br (true) (.br (decide (y1 < (↑(List.length y0) : Int))) (.br (decide ((0 : Int) ≤ y1 ∧ y1 < (↑(List.length y0) : Int))) (.br (g_As_l1In (at_ (Ty.int IntKind.i64) y0 (Int.toNat y1)) (0 : Int) (9999 : Int)) (.br (!g_Vs_l1In_0 (at_ (Ty.int IntKind.i64) y0 (Int.toNat y1)) (0 : Int) (9999 : Int)) (.out (.inl false)) (.br (true) (.go (IntKind.wrap IntKind.i64 (y1 + (1 : Int)))) (.bad))) (.bad)) (.bad)) (.out (.inr (())))) (.bad)
noncomputable def g_Ls_l1Val_0 (y0 : List (Int)) (x : (Int)) : Option (((Bool)) ⊕ (Unit)) := loopO (g_Ss_l1Val_0 y0) x
noncomputable def xs_l1Val_0 (y0 : List (Int)) : (((Bool)) ⊕ (Unit)) → Ex × List (Pl × LV) := fun
  | .inl r => (.ret, [(.T 0, .t (.val false [.sl .any 3 (.int .i64) y0])), (.T 2, .t (.val false [.bool r]))])
  | .inr (r) => (.exit 0, [(.T 0, .t (.val false [.sl .any 3 (.int .i64) y0])), (.T 2, .t (.val false [.undef]))])
noncomputable def Os_l1Val_1 : Orc := fun b h => match b, h with
  | 0, [(.T 0, .t (.val false [.sl .any 3 (.int .i64) y0])), (.T 3, .t (.val false [.int .i64 y1]))] => some (okO (g_Ls_l1Val_0 y0 y1), (.br (isL (valO (g_Ls_l1Val_0 y0 y1))) (.leaf .ret [(.T 0, .t (.val false [.sl .any 3 (.int .i64) y0])), (.T 2, .t (.val false [.bool (getL (valO (g_Ls_l1Val_0 y0 y1)))]))]) (.leaf (.exit 0) [(.T 0, .t (.val false [.sl .any 3 (.int .i64) y0])), (.T 2, .t (.val false [.undef]))])))
  | b, h => Os_l1Val_0 b h
theorem bs_l1Val_0 (y0 : List (Int)) (y1 : Int) : Tr.bt Es_l1Val Os_l1Val_0 (exec Es_l1Val 0 cs_l1Val_0 (St.of (hs_l1Val_0 y0 y1)) (leafRd Es_l1Val 0)) = (g_Ss_l1Val_0 y0 y1).bt (fun (y1 : (Int)) => (hs_l1Val_0 y0 y1)) (xs_l1Val_0 y0) := by kernel_rfl
theorem ks_l1Val_1 : OrcOk Es_l1Val Os_l1Val_1 lss_l1Val 1 := orc_add ks_l1Val_0 (fun n p hp h ex h' ho => by
  obtain ⟨b, c⟩ := p
  obtain ⟨xt, h1, h2⟩ := ho
  have h1 : Os_l1Val_1 b h = some (true, xt) := h1
  unfold Os_l1Val_1 at h1
  split at h1
  · injection h1 with h1
    injection h1 with e1 e2
    subst e2
    have hc : c = cs_l1Val_0 := ms_l1Val_0 _ hp rfl
    subst hc
    right
    rename_i y0 y1
    have key := LT_step ks_l1Val_0 hp (fun q hq => loopsAll_in _ _ _ _ hp hq) (fun (y1 : (Int)) => (hs_l1Val_0 y0 y1)) (xs_l1Val_0 y0) (g_Ss_l1Val_0 y0) (fun x => by first | exact bs_l1Val_0 y0 x) n (x := y1) (okO_some e1)
    have hx : ∀ r, XT.sel (.br (isL r) (.leaf .ret [(.T 0, .t (.val false [.sl .any 3 (.int .i64) y0])), (.T 2, .t (.val false [.bool (getL r)]))]) (.leaf (.exit 0) [(.T 0, .t (.val false [.sl .any 3 (.int .i64) y0])), (.T 2, .t (.val false [.undef]))])) = xs_l1Val_0 y0 r := fun r => by first | rfl | (rcases r with r | r <;> rfl) | (rcases r with r | r | r <;> rfl) | (rcases r with r | r | r | r <;> rfl)
    have h3 := (hx (valO (g_Ls_l1Val_0 y0 y1))).symm.trans h2
    have e3 := congrArg Prod.fst h3
    have e4 := congrArg Prod.snd h3
    simp only at e3 e4
    rw [← e3, ← e4]
    exact key
  · exact .inl ⟨xt, h1, h2⟩)
noncomputable def g_As_l1Val (a0 : List (Int)) : Bool := okO (g_Ls_l1Val_0 a0 (0 : Int)) && (isL (valO (g_Ls_l1Val_0 a0 (0 : Int))) || g_As_l1In (↑(List.length a0) : Int) (1 : Int) (3 : Int))
noncomputable def g_Vs_l1Val_0 (a0 : List (Int)) : Bool := bif isL (valO (g_Ls_l1Val_0 a0 (0 : Int))) then getL (valO (g_Ls_l1Val_0 a0 (0 : Int))) else g_Vs_l1In_0 (↑(List.length a0) : Int) (1 : Int) (3 : Int)
noncomputable def Fs_l1Val : FSem := fun ys => match ys with
  | [.val false [.sl .any 3 (.int .i64) a0]] => some ((g_As_l1Val a0), .val false [.bool (g_Vs_l1Val_0 a0)], [])
  | _ => none
theorem vs_l1Val (a0 : List (Int)) : collapseH .std Es_l1Val Os_l1Val_1 (execFn Es_l1Val Go.Proofs.Tryd.f76 mss_l1Val [.val false [.sl .any 3 (.int .i64) a0]]) = some ((g_As_l1Val a0), .val false [.bool (g_Vs_l1Val_0 a0)], []) := by kernel_rfl
theorem ss_l1Val : Sound Go.Proofs.Tryd.prog 76 mss_l1Val Fs_l1Val := by
  refine fn_gen goods_l1Val (by kernel_rfl) .std (fn := Go.Proofs.Tryd.f76) (c := (Go.Proofs.Tryd.f76.body.getD .skip)) (o := Os_l1Val_1) (k := 1) (by kernel_rfl) (by kernel_rfl) (by kernel_rfl) (by kernel_rfl) (by decide) ks_l1Val_1 ?_
  intro ys r outs h
  unfold Fs_l1Val at h
  split at h
  · exact (vs_l1Val _).trans h
  · cases h
end Go.Proofs.YtkjeicijcecmlaaDoor.E
end
section
namespace Go.Proofs.YtkjeicijcecmlaaDoor.E
open Go
set_option maxRecDepth 100000
set_option maxHeartbeats 0
set_option linter.all false
noncomputable def Es_StoOk : Env where
  tt := mkTI Go.Proofs.Tryd.prog
  fn := fun f => match f with
    | 75 => some (mss_l1Key, FSem.wk mss_l1Key Fs_l1Key)
    | 76 => some (mss_l1Val, FSem.wk mss_l1Val Fs_l1Val)
    | _ => none
  bxf := fun _ => none
  mv := []
  keep := fun b => match b with
    | 0 => [(1, false), (3, false)]
    | _ => []
  keepB := fun b => match b with
    | 0 => [(1, false)]
    | _ => []
  keepX := fun b => match b with
    | 0 => [(2, false)]
    | _ => []
  keepXB := fun b => match b with
    | 0 => []
    | _ => []
theorem goodFs_StoOk : ∀ f ms F, Es_StoOk.fn f = some (ms, F) → Sound Go.Proofs.Tryd.prog f ms F := fun f ms F h => by
  unfold Es_StoOk at h
  dsimp only at h
  split at h
  · injection h with h; injection h with e1 e2; subst e1 e2; exact Sound.wk ss_l1Key
  · injection h with h; injection h with e1 e2; subst e1 e2; exact Sound.wk ss_l1Val
  · cases h
theorem goodBs_StoOk : ∀ f ms F, Es_StoOk.bxf f = some (ms, F) → SoundB Go.Proofs.Tryd.prog f ms F := fun f ms F h => by cases h
theorem goods_StoOk : Good Go.Proofs.Tryd.prog Es_StoOk := ⟨rfl, goodFs_StoOk, goodBs_StoOk⟩
noncomputable def Os_StoOk_0 : Orc := fun _ _ => none
noncomputable def mss_StoOk : List PM := [.rd]
noncomputable def lss_StoOk : List (Nat × Code) := loopsAll 0 (Go.Proofs.Tryd.f15.body.getD .skip)
noncomputable def cs_StoOk_0 : Code := (loopOf 0 (Go.Proofs.Tryd.f15.body.getD .skip)).getD .skip
theorem lseqs_StoOk : lss_StoOk = [(0, cs_StoOk_0)] := by kernel_rfl
theorem ms_StoOk_0 : ∀ p, p ∈ lss_StoOk → p.1 = 0 → p.2 = cs_StoOk_0 := by
  intro p hp
  rw [lseqs_StoOk] at hp
  simp only [List.mem_cons, List.not_mem_nil, or_false] at hp
  subst hp; simp
theorem ks_StoOk_0 : OrcOk Es_StoOk Os_StoOk_0 lss_StoOk 0 := orcOk_none
noncomputable def hs_StoOk_0 (y0 : Int) (y1 : List ((ByteArray) × (List (Int)))) : List (Pl × LV) := [(.T 1, .t (.val false [.ptr 1 0 0])), (.T 3, .t (.val false [.int .i64 y0])), (.B 1, .b 0 false [.sl .any 43 (.pair .str (.sl 3 (.int .i64))) y1])]
noncomputable def g_Ss_StoOk_0 (y1 : List ((ByteArray) × (List (Int)))) : ((Int)) → RT ((Int)) (((Bool)) ⊕ (Unit))
  | y0 => .br (true) (.br (decide (y0 < (↑(List.length y1) : Int))) (.br (decide ((0 : Int) ≤ y0 ∧ y0 < (↑(List.length y1) : Int))) (.br (g_As_l1Key (at_ (Ty.pair Ty.str (Ty.sl (nat_lit 3) (Ty.int IntKind.i64))) y1 (Int.toNat y0)).1) (.br (!g_Vs_l1Key_0 (at_ (Ty.pair Ty.str (Ty.sl (nat_lit 3) (Ty.int IntKind.i64))) y1 (Int.toNat y0)).1) (.out (.inl false)) (.br (decide ((0 : Int) ≤ y0 ∧ y0 < (↑(List.length y1) : Int))) (.br (g_As_l1Val (at_ (Ty.pair Ty.str (Ty.sl (nat_lit 3) (Ty.int IntKind.i64))) y1 (Int.toNat y0)).2) (.br (!g_Vs_l1Val_0 (at_ (Ty.pair Ty.str (Ty.sl (nat_lit 3) (Ty.int IntKind.i64))) y1 (Int.toNat y0)).2) (.out (.inl false)) (.br (true) (.br (decide (y0 > (0 : Int))) (.br (true) (.br (decide ((0 : Int) ≤ IntKind.wrap IntKind.i64 (y0 - (1 : Int)) ∧ IntKind.wrap IntKind.i64 (y0 - (1 : Int)) < (↑(List.length y1) : Int))) (.br (decide ((0 : Int) ≤ y0 ∧ y0 < (↑(List.length y1) : Int))) (.br (true) (.br (!Op.bytesLess (ByteArray.toList (at_ (Ty.pair Ty.str (Ty.sl (nat_lit 3) (Ty.int IntKind.i64))) y1 (Int.toNat (IntKind.wrap IntKind.i64 (y0 - (1 : Int))))).1) (ByteArray.toList (at_ (Ty.pair Ty.str (Ty.sl (nat_lit 3) (Ty.int IntKind.i64))) y1 (Int.toNat y0)).1)) (.out (.inl false)) (.br (true) (.go (IntKind.wrap IntKind.i64 (y0 + (1 : Int)))) (.bad))) (.bad)) (.bad)) (.bad)) (.bad)) (.br (true) (.go (IntKind.wrap IntKind.i64 (y0 + (1 : Int)))) (.bad))) (.bad))) (.bad)) (.bad))) (.bad)) (.bad)) (.out (.inr (())))) (.bad)
noncomputable def g_Ls_StoOk_0 (y1 : List ((ByteArray) × (List (Int)))) (x : (Int)) : Option (((Bool)) ⊕ (Unit)) := loopO (g_Ss_StoOk_0 y1) x
noncomputable def xs_StoOk_0 (y1 : List ((ByteArray) × (List (Int)))) : (((Bool)) ⊕ (Unit)) → Ex × List (Pl × LV) := fun
  | .inl r => (.ret, [(.T 2, .t (.val false [.bool r]))])
  | .inr (r) => (.exit 0, [(.T 2, .t (.val false [.undef]))])
noncomputable def Os_StoOk_1 : Orc := fun b h => match b, h with
  | 0, [(.T 1, .t (.val false [.ptr 1 0 0])), (.T 3, .t (.val false [.int .i64 y0])), (.B 1, .b 0 false [.sl .any 43 (.pair .str (.sl 3 (.int .i64))) y1])] => some (okO (g_Ls_StoOk_0 y1 y0), (.br (isL (valO (g_Ls_StoOk_0 y1 y0))) (.leaf .ret [(.T 2, .t (.val false [.bool (getL (valO (g_Ls_StoOk_0 y1 y0)))]))]) (.leaf (.exit 0) [(.T 2, .t (.val false [.undef]))])))
  | b, h => Os_StoOk_0 b h
theorem bs_StoOk_0 (y0 : Int) (y1 : List ((ByteArray) × (List (Int)))) : Tr.bt Es_StoOk Os_StoOk_0 (exec Es_StoOk 0 cs_StoOk_0 (St.of (hs_StoOk_0 y0 y1)) (leafRd Es_StoOk 0)) = (g_Ss_StoOk_0 y1 y0).bt (fun (y0 : (Int)) => (hs_StoOk_0 y0 y1)) (xs_StoOk_0 y1) := by kernel_rfl
theorem ks_StoOk_1 : OrcOk Es_StoOk Os_StoOk_1 lss_StoOk 1 := orc_add ks_StoOk_0 (fun n p hp h ex h' ho => by
  obtain ⟨b, c⟩ := p
  obtain ⟨xt, h1, h2⟩ := ho
  have h1 : Os_StoOk_1 b h = some (true, xt) := h1
  unfold Os_StoOk_1 at h1
  split at h1
  · injection h1 with h1
    injection h1 with e1 e2
    subst e2
    have hc : c = cs_StoOk_0 := ms_StoOk_0 _ hp rfl
    subst hc
    right
    rename_i y0 y1
    have key := LT_step ks_StoOk_0 hp (fun q hq => loopsAll_in _ _ _ _ hp hq) (fun (y0 : (Int)) => (hs_StoOk_0 y0 y1)) (xs_StoOk_0 y1) (g_Ss_StoOk_0 y1) (fun x => by first | exact bs_StoOk_0 x y1) n (x := y0) (okO_some e1)
    have hx : ∀ r, XT.sel (.br (isL r) (.leaf .ret [(.T 2, .t (.val false [.bool (getL r)]))]) (.leaf (.exit 0) [(.T 2, .t (.val false [.undef]))])) = xs_StoOk_0 y1 r := fun r => by first | rfl | (rcases r with r | r <;> rfl) | (rcases r with r | r | r <;> rfl) | (rcases r with r | r | r | r <;> rfl)
    have h3 := (hx (valO (g_Ls_StoOk_0 y1 y0))).symm.trans h2
    have e3 := congrArg Prod.fst h3
    have e4 := congrArg Prod.snd h3
    simp only at e3 e4
    rw [← e3, ← e4]
    exact key
  · exact .inl ⟨xt, h1, h2⟩)
noncomputable def g_As_StoOk (a0 : List ((ByteArray) × (List (Int)))) : Bool := decide ((↑(List.length a0) : Int) > (40 : Int)) || okO (g_Ls_StoOk_0 a0 (0 : Int))
noncomputable def g_Vs_StoOk_0 (a0 : List ((ByteArray) × (List (Int)))) : Bool := bif decide ((↑(List.length a0) : Int) > (40 : Int)) then false else bif isL (valO (g_Ls_StoOk_0 a0 (0 : Int))) then getL (valO (g_Ls_StoOk_0 a0 (0 : Int))) else true
noncomputable def Fs_StoOk : FSem := fun ys => match ys with
  | [.val true [.sl .any 43 (.pair .str (.sl 3 (.int .i64))) a0]] => some ((g_As_StoOk a0), .val false [.bool (g_Vs_StoOk_0 a0)], [])
  | _ => none
theorem vs_StoOk (a0 : List ((ByteArray) × (List (Int)))) : collapseH .std Es_StoOk Os_StoOk_1 (execFn Es_StoOk Go.Proofs.Tryd.f15 mss_StoOk [.val true [.sl .any 43 (.pair .str (.sl 3 (.int .i64))) a0]]) = some ((g_As_StoOk a0), .val false [.bool (g_Vs_StoOk_0 a0)], []) := by kernel_rfl
theorem ss_StoOk : Sound Go.Proofs.Tryd.prog 15 mss_StoOk Fs_StoOk := by
  refine fn_gen goods_StoOk (by kernel_rfl) .std (fn := Go.Proofs.Tryd.f15) (c := (Go.Proofs.Tryd.f15.body.getD .skip)) (o := Os_StoOk_1) (k := 1) (by kernel_rfl) (by kernel_rfl) (by kernel_rfl) (by kernel_rfl) (by decide) ks_StoOk_1 ?_
  intro ys r outs h
  unfold Fs_StoOk at h
  split at h
  · exact (vs_StoOk _).trans h
  · cases h
end Go.Proofs.YtkjeicijcecmlaaDoor.E
end
section
namespace Go.Proofs.YtkjeicijcecmlaaDoor.E
open Go
set_option maxRecDepth 100000
set_option maxHeartbeats 0
set_option linter.all false
noncomputable def Es_WrtOk : Env where
  tt := mkTI Go.Proofs.Tryd.prog
  fn := fun f => match f with
    | 75 => some (mss_l1Key, FSem.wk mss_l1Key Fs_l1Key)
    | 76 => some (mss_l1Val, FSem.wk mss_l1Val Fs_l1Val)
    | _ => none
  bxf := fun _ => none
  mv := []
  keep := fun _ => []
  keepB := fun _ => []
  keepX := fun _ => []
  keepXB := fun _ => []
theorem goodFs_WrtOk : ∀ f ms F, Es_WrtOk.fn f = some (ms, F) → Sound Go.Proofs.Tryd.prog f ms F := fun f ms F h => by
  unfold Es_WrtOk at h
  dsimp only at h
  split at h
  · injection h with h; injection h with e1 e2; subst e1 e2; exact Sound.wk ss_l1Key
  · injection h with h; injection h with e1 e2; subst e1 e2; exact Sound.wk ss_l1Val
  · cases h
theorem goodBs_WrtOk : ∀ f ms F, Es_WrtOk.bxf f = some (ms, F) → SoundB Go.Proofs.Tryd.prog f ms F := fun f ms F h => by cases h
theorem goods_WrtOk : Good Go.Proofs.Tryd.prog Es_WrtOk := ⟨rfl, goodFs_WrtOk, goodBs_WrtOk⟩
noncomputable def Os_WrtOk_0 : Orc := fun _ _ => none
noncomputable def mss_WrtOk : List PM := [.rd]
noncomputable def lss_WrtOk : List (Nat × Code) := loopsAll 0 (Go.Proofs.Tryd.f21.body.getD .skip)

theorem ks_WrtOk_0 : OrcOk Es_WrtOk Os_WrtOk_0 lss_WrtOk 0 := orcOk_none
noncomputable def g_As_WrtOk (a0 : ByteArray) (a1 : Bool) (a2 : List (Int)) : Bool := bif a1 then g_As_l1Key a0 && (!g_Vs_l1Key_0 a0 || true) else g_As_l1Key a0 && (!g_Vs_l1Key_0 a0 || g_As_l1Val a2)
noncomputable def g_Vs_WrtOk_0 (a0 : ByteArray) (a1 : Bool) (a2 : List (Int)) : Bool := bif a1 then bif g_Vs_l1Key_0 a0 then (↑(List.length a2) : Int) == (0 : Int) else false else bif g_Vs_l1Key_0 a0 then g_Vs_l1Val_0 a2 else false
noncomputable def Fs_WrtOk : FSem := fun ys => match ys with
  | [.val true [.str a0, .bool a1, .sl .any 3 (.int .i64) a2]] => some ((g_As_WrtOk a0 a1 a2), .val false [.bool (g_Vs_WrtOk_0 a0 a1 a2)], [])
  | _ => none
theorem vs_WrtOk (a0 : ByteArray) (a1 : Bool) (a2 : List (Int)) : collapseH .std Es_WrtOk Os_WrtOk_0 (execFn Es_WrtOk Go.Proofs.Tryd.f21 mss_WrtOk [.val true [.str a0, .bool a1, .sl .any 3 (.int .i64) a2]]) = some ((g_As_WrtOk a0 a1 a2), .val false [.bool (g_Vs_WrtOk_0 a0 a1 a2)], []) := by kernel_rfl
theorem ss_WrtOk : Sound Go.Proofs.Tryd.prog 21 mss_WrtOk Fs_WrtOk := by
  refine fn_gen goods_WrtOk (by kernel_rfl) .std (fn := Go.Proofs.Tryd.f21) (c := (Go.Proofs.Tryd.f21.body.getD .skip)) (o := Os_WrtOk_0) (k := 0) (by kernel_rfl) (by kernel_rfl) (by kernel_rfl) (by kernel_rfl) (by decide) ks_WrtOk_0 ?_
  intro ys r outs h
  unfold Fs_WrtOk at h
  split at h
  · exact (vs_WrtOk _ _ _).trans h
  · cases h
end Go.Proofs.YtkjeicijcecmlaaDoor.E
end
section
namespace Go.Proofs.YtkjeicijcecmlaaDoor.E
open Go
set_option maxRecDepth 100000
set_option maxHeartbeats 0
set_option linter.all false
noncomputable def Es_l1Copy : Env where
  tt := mkTI Go.Proofs.Tryd.prog
  fn := fun _ => none
  bxf := fun _ => none
  mv := []
  keep := fun b => match b with
    | 0 => [(1, false), (2, false), (3, false), (4, false)]
    | _ => []
  keepB := fun b => match b with
    | 0 => [(1, false), (2, false), (3, false)]
    | _ => []
  keepX := fun b => match b with
    | 0 => [(2, false), (3, false)]
    | _ => []
  keepXB := fun b => match b with
    | 0 => [(2, false), (3, false)]
    | _ => []
theorem goodFs_l1Copy : ∀ f ms F, Es_l1Copy.fn f = some (ms, F) → Sound Go.Proofs.Tryd.prog f ms F := fun f ms F h => by cases h
theorem goodBs_l1Copy : ∀ f ms F, Es_l1Copy.bxf f = some (ms, F) → SoundB Go.Proofs.Tryd.prog f ms F := fun f ms F h => by cases h
theorem goods_l1Copy : Good Go.Proofs.Tryd.prog Es_l1Copy := ⟨rfl, goodFs_l1Copy, goodBs_l1Copy⟩
noncomputable def Os_l1Copy_0 : Orc := fun _ _ => none
noncomputable def mss_l1Copy : List PM := [.rd]
noncomputable def lss_l1Copy : List (Nat × Code) := loopsAll 0 (Go.Proofs.Tryd.f85.body.getD .skip)
noncomputable def cs_l1Copy_0 : Code := (loopOf 0 (Go.Proofs.Tryd.f85.body.getD .skip)).getD .skip
theorem lseqs_l1Copy : lss_l1Copy = [(0, cs_l1Copy_0)] := by kernel_rfl
theorem ms_l1Copy_0 : ∀ p, p ∈ lss_l1Copy → p.1 = 0 → p.2 = cs_l1Copy_0 := by
  intro p hp
  rw [lseqs_l1Copy] at hp
  simp only [List.mem_cons, List.not_mem_nil, or_false] at hp
  subst hp; simp
theorem ks_l1Copy_0 : OrcOk Es_l1Copy Os_l1Copy_0 lss_l1Copy 0 := orcOk_none
noncomputable def hs_l1Copy_0 (y0 : Int) (y1 : List ((ByteArray) × (List (Int)))) (y2 : List ((ByteArray) × (List (Int)))) (y3 : List ((ByteArray) × (List (Int)))) : List (Pl × LV) := [(.T 1, .t (.val false [.ptr 1 0 0])), (.T 2, .t (.val false [.ptr 2 0 0])), (.T 3, .t (.val false [.ptr 3 0 0])), (.T 4, .t (.val false [.int .i64 y0])), (.B 1, .b 0 false [.sl .any 43 (.pair .str (.sl 3 (.int .i64))) y1]), (.B 2, .b 0 false [.row 2 1 0]), (.R 2 1, .r 0 (some ⟨false, .any, true, 43, (.pair .str (.sl 3 (.int .i64))), y2⟩)), (.B 3, .b 0 false [.row 3 1 0]), (.R 3 1, .r 0 (some ⟨false, .any, true, 43, (.pair .str (.sl 3 (.int .i64))), y3⟩))]
noncomputable def g_Ss_l1Copy_0 (y1 : List ((ByteArray) × (List (Int)))) (y2 : List ((ByteArray) × (List (Int)))) : ((Int) × (List ((ByteArray) × (List (Int))))) → RT ((Int) × (List ((ByteArray) × (List (Int))))) (((List ((ByteArray) × (List (Int))))))
  | (y0, y3) => .br (true) (.br (decide (y0 < (↑(List.length y1) : Int))) (.br (decide ((0 : Int) ≤ y0 ∧ y0 < (↑(List.length y1) : Int))) (.br (decide ((0 : Int) ≤ y0 ∧ y0 < (↑(List.length y1) : Int))) (.br (decide ((nat_lit 0 + List.length (at_ (Ty.pair Ty.str (Ty.sl (nat_lit 3) (Ty.int IntKind.i64))) y1 (Int.toNat y0)).2) * nat_lit 8 ≤ nat_lit 140737488355328 ∧ nat_lit 0 + List.length (at_ (Ty.pair Ty.str (Ty.sl (nat_lit 3) (Ty.int IntKind.i64))) y1 (Int.toNat y0)).2 ≤ nat_lit 9223372036854775807)) (.br (decide ((List.length y3 + List.length [((at_ (Ty.pair Ty.str (Ty.sl (nat_lit 3) (Ty.int IntKind.i64))) y1 (Int.toNat y0)).1, [] ++ (at_ (Ty.pair Ty.str (Ty.sl (nat_lit 3) (Ty.int IntKind.i64))) y1 (Int.toNat y0)).2)]) * nat_lit 40 ≤ nat_lit 140737488355328 ∧ List.length y3 + List.length [((at_ (Ty.pair Ty.str (Ty.sl (nat_lit 3) (Ty.int IntKind.i64))) y1 (Int.toNat y0)).1, [] ++ (at_ (Ty.pair Ty.str (Ty.sl (nat_lit 3) (Ty.int IntKind.i64))) y1 (Int.toNat y0)).2)] ≤ nat_lit 9223372036854775807)) (.br (true) (.go ((IntKind.wrap IntKind.i64 (y0 + (1 : Int)), y3 ++ [((at_ (Ty.pair Ty.str (Ty.sl (nat_lit 3) (Ty.int IntKind.i64))) y1 (Int.toNat y0)).1, [] ++ (at_ (Ty.pair Ty.str (Ty.sl (nat_lit 3) (Ty.int IntKind.i64))) y1 (Int.toNat y0)).2)]))) (.bad)) (.bad)) (.bad)) (.bad)) (.bad)) (.out (y3))) (.bad)
noncomputable def g_Ls_l1Copy_0 (y1 : List ((ByteArray) × (List (Int)))) (y2 : List ((ByteArray) × (List (Int)))) (x : (Int) × (List ((ByteArray) × (List (Int))))) : Option (((List ((ByteArray) × (List (Int)))))) := loopO (g_Ss_l1Copy_0 y1 y2) x
noncomputable def xs_l1Copy_0 (y1 : List ((ByteArray) × (List (Int)))) (y2 : List ((ByteArray) × (List (Int)))) : (((List ((ByteArray) × (List (Int)))))) → Ex × List (Pl × LV) := fun r => (.exit 0, [(.T 2, .t (.val false [.ptr 2 0 0])), (.T 3, .t (.val false [.ptr 3 0 0])), (.B 2, .b 0 false [.row 2 1 0]), (.R 2 1, .r 0 (some ⟨false, .any, true, 43, (.pair .str (.sl 3 (.int .i64))), y2⟩)), (.B 3, .b 0 false [.row 3 1 0]), (.R 3 1, .r 0 (some ⟨false, .any, true, 43, (.pair .str (.sl 3 (.int .i64))), r⟩))])
noncomputable def Os_l1Copy_1 : Orc := fun b h => match b, h with
  | 0, [(.T 1, .t (.val false [.ptr 1 0 0])), (.T 2, .t (.val false [.ptr 2 0 0])), (.T 3, .t (.val false [.ptr 3 0 0])), (.T 4, .t (.val false [.int .i64 y0])), (.B 1, .b 0 false [.sl .any 43 (.pair .str (.sl 3 (.int .i64))) y1]), (.B 2, .b 0 false [.row 2 1 0]), (.R 2 1, .r 0 (some ⟨false, .any, true, 43, (.pair .str (.sl 3 (.int .i64))), y2⟩)), (.B 3, .b 0 false [.row 3 1 0]), (.R 3 1, .r 0 (some ⟨false, .any, true, 43, (.pair .str (.sl 3 (.int .i64))), y3⟩))] => some (okO (g_Ls_l1Copy_0 y1 y2 (y0, y3)), (.leaf (.exit 0) [(.T 2, .t (.val false [.ptr 2 0 0])), (.T 3, .t (.val false [.ptr 3 0 0])), (.B 2, .b 0 false [.row 2 1 0]), (.R 2 1, .r 0 (some ⟨false, .any, true, 43, (.pair .str (.sl 3 (.int .i64))), y2⟩)), (.B 3, .b 0 false [.row 3 1 0]), (.R 3 1, .r 0 (some ⟨false, .any, true, 43, (.pair .str (.sl 3 (.int .i64))), (valO (g_Ls_l1Copy_0 y1 y2 (y0, y3)))⟩))]))
  | b, h => Os_l1Copy_0 b h
theorem bs_l1Copy_0 (y0 : Int) (y1 : List ((ByteArray) × (List (Int)))) (y2 : List ((ByteArray) × (List (Int)))) (y3 : List ((ByteArray) × (List (Int)))) : Tr.bt Es_l1Copy Os_l1Copy_0 (exec Es_l1Copy 0 cs_l1Copy_0 (St.of (hs_l1Copy_0 y0 y1 y2 y3)) (leafRd Es_l1Copy 0)) = (g_Ss_l1Copy_0 y1 y2 (y0, y3)).bt (fun ((y0, y3) : (Int) × (List ((ByteArray) × (List (Int))))) => (hs_l1Copy_0 y0 y1 y2 y3)) (xs_l1Copy_0 y1 y2) := by kernel_rfl
theorem ks_l1Copy_1 : OrcOk Es_l1Copy Os_l1Copy_1 lss_l1Copy 1 := orc_add ks_l1Copy_0 (fun n p hp h ex h' ho => by
  obtain ⟨b, c⟩ := p
  obtain ⟨xt, h1, h2⟩ := ho
  have h1 : Os_l1Copy_1 b h = some (true, xt) := h1
  unfold Os_l1Copy_1 at h1
  split at h1
  · injection h1 with h1
    injection h1 with e1 e2
    subst e2
    have hc : c = cs_l1Copy_0 := ms_l1Copy_0 _ hp rfl
    subst hc
    right
    rename_i y0 y1 y2 y3
    have key := LT_step ks_l1Copy_0 hp (fun q hq => loopsAll_in _ _ _ _ hp hq) (fun ((y0, y3) : (Int) × (List ((ByteArray) × (List (Int))))) => (hs_l1Copy_0 y0 y1 y2 y3)) (xs_l1Copy_0 y1 y2) (g_Ss_l1Copy_0 y1 y2) (fun x => by first | exact bs_l1Copy_0 x.1 y1 y2 x.2) n (x := (y0, y3)) (okO_some e1)
    have hx : ∀ r, XT.sel (.leaf (.exit 0) [(.T 2, .t (.val false [.ptr 2 0 0])), (.T 3, .t (.val false [.ptr 3 0 0])), (.B 2, .b 0 false [.row 2 1 0]), (.R 2 1, .r 0 (some ⟨false, .any, true, 43, (.pair .str (.sl 3 (.int .i64))), y2⟩)), (.B 3, .b 0 false [.row 3 1 0]), (.R 3 1, .r 0 (some ⟨false, .any, true, 43, (.pair .str (.sl 3 (.int .i64))), r⟩))]) = xs_l1Copy_0 y1 y2 r := fun r => by first | rfl | (rcases r with r | r <;> rfl) | (rcases r with r | r | r <;> rfl) | (rcases r with r | r | r | r <;> rfl)
    have h3 := (hx (valO (g_Ls_l1Copy_0 y1 y2 (y0, y3)))).symm.trans h2
    have e3 := congrArg Prod.fst h3
    have e4 := congrArg Prod.snd h3
    simp only at e3 e4
    rw [← e3, ← e4]
    exact key
  · exact .inl ⟨xt, h1, h2⟩)
noncomputable def g_As_l1Copy (a0 : List ((ByteArray) × (List (Int)))) : Bool := okO (g_Ls_l1Copy_0 a0 [] ((0 : Int), []))
noncomputable def g_Vs_l1Copy_0 (a0 : List ((ByteArray) × (List (Int)))) : List ((ByteArray) × (List (Int))) := valO (g_Ls_l1Copy_0 a0 [] ((0 : Int), []))
noncomputable def Fs_l1Copy : FSem := fun ys => match ys with
  | [.val true [.sl .any 43 (.pair .str (.sl 3 (.int .i64))) a0]] => some ((g_As_l1Copy a0), .val true [.own .any true 43 (.pair .str (.sl 3 (.int .i64))) (g_Vs_l1Copy_0 a0)], [])
  | _ => none
theorem vs_l1Copy (a0 : List ((ByteArray) × (List (Int)))) : collapseH .std Es_l1Copy Os_l1Copy_1 (execFn Es_l1Copy Go.Proofs.Tryd.f85 mss_l1Copy [.val true [.sl .any 43 (.pair .str (.sl 3 (.int .i64))) a0]]) = some ((g_As_l1Copy a0), .val true [.own .any true 43 (.pair .str (.sl 3 (.int .i64))) (g_Vs_l1Copy_0 a0)], []) := by kernel_rfl
theorem ss_l1Copy : Sound Go.Proofs.Tryd.prog 85 mss_l1Copy Fs_l1Copy := by
  refine fn_gen goods_l1Copy (by kernel_rfl) .std (fn := Go.Proofs.Tryd.f85) (c := (Go.Proofs.Tryd.f85.body.getD .skip)) (o := Os_l1Copy_1) (k := 1) (by kernel_rfl) (by kernel_rfl) (by kernel_rfl) (by kernel_rfl) (by decide) ks_l1Copy_1 ?_
  intro ys r outs h
  unfold Fs_l1Copy at h
  split at h
  · exact (vs_l1Copy _).trans h
  · cases h
end Go.Proofs.YtkjeicijcecmlaaDoor.E
end
section
namespace Go.Proofs.YtkjeicijcecmlaaDoor.E
open Go
set_option maxRecDepth 100000
set_option maxHeartbeats 0
set_option linter.all false
noncomputable def Es_l1Write : Env where
  tt := mkTI Go.Proofs.Tryd.prog
  fn := fun _ => none
  bxf := fun _ => none
  mv := []
  keep := fun b => match b with
    | 0 => [(2, false), (3, false), (4, false), (5, true), (6, false), (7, false)]
    | _ => []
  keepB := fun b => match b with
    | 0 => [(2, false), (3, false), (4, false), (5, true)]
    | _ => []
  keepX := fun b => match b with
    | 0 => [(3, false), (4, false), (5, true), (6, false)]
    | _ => []
  keepXB := fun b => match b with
    | 0 => [(3, false), (4, false), (5, true)]
    | _ => []
theorem goodFs_l1Write : ∀ f ms F, Es_l1Write.fn f = some (ms, F) → Sound Go.Proofs.Tryd.prog f ms F := fun f ms F h => by cases h
theorem goodBs_l1Write : ∀ f ms F, Es_l1Write.bxf f = some (ms, F) → SoundB Go.Proofs.Tryd.prog f ms F := fun f ms F h => by cases h
theorem goods_l1Write : Good Go.Proofs.Tryd.prog Es_l1Write := ⟨rfl, goodFs_l1Write, goodBs_l1Write⟩
noncomputable def Os_l1Write_0 : Orc := fun _ _ => none
noncomputable def mss_l1Write : List PM := [.fz, .fz]
noncomputable def lss_l1Write : List (Nat × Code) := loopsAll 0 (Go.Proofs.Tryd.f86.body.getD .skip)
noncomputable def cs_l1Write_0 : Code := (loopOf 0 (Go.Proofs.Tryd.f86.body.getD .skip)).getD .skip
theorem lseqs_l1Write : lss_l1Write = [(0, cs_l1Write_0)] := by kernel_rfl
theorem ms_l1Write_0 : ∀ p, p ∈ lss_l1Write → p.1 = 0 → p.2 = cs_l1Write_0 := by
  intro p hp
  rw [lseqs_l1Write] at hp
  simp only [List.mem_cons, List.not_mem_nil, or_false] at hp
  subst hp; simp
theorem ks_l1Write_0 : OrcOk Es_l1Write Os_l1Write_0 lss_l1Write 0 := orcOk_none
noncomputable def hs_l1Write_0 (y0 : Bool) (y1 : Int) (y2 : List ((ByteArray) × (List (Int)))) (y3 : ByteArray) (y4 : Bool) (y5 : List (Int)) (y6 : List ((ByteArray) × (List (Int)))) (y7 : List ((ByteArray) × (List (Int)))) : List (Pl × LV) := [(.T 2, .t (.val false [.ptr 2 0 0])), (.T 3, .t (.val false [.ptr 3 0 0])), (.T 4, .t (.val false [.ptr 4 0 0])), (.T 5, .t (.val false [.ptr 5 0 0])), (.T 6, .t (.val false [.bool y0])), (.T 7, .t (.val false [.int .i64 y1])), (.B 2, .b 0 false [.sl .any 43 (.pair .str (.sl 3 (.int .i64))) y2]), (.B 3, .b 0 false [.str y3, .bool y4, .sl .any 3 (.int .i64) y5]), (.B 4, .b 0 false [.row 4 1 0]), (.R 4 1, .r 0 (some ⟨false, .any, true, 43, (.pair .str (.sl 3 (.int .i64))), y6⟩)), (.B 5, .b 0 false [.row 5 1 0]), (.R 5 1, .r 0 (some ⟨false, .any, false, 43, (.pair .str (.sl 3 (.int .i64))), y7⟩))]
noncomputable def g_Ss_l1Write_0 (y2 : List ((ByteArray) × (List (Int)))) (y3 : ByteArray) (y4 : Bool) (y5 : List (Int)) (y6 : List ((ByteArray) × (List (Int)))) : ((Bool) × (Int) × (List ((ByteArray) × (List (Int))))) → RT ((Bool) × (Int) × (List ((ByteArray) × (List (Int))))) (((Bool) × (List ((ByteArray) × (List (Int))))))
  | (y0, y1, y7) => .br (true) (.br (decide (y1 < (↑(List.length y2) : Int))) (.br (decide ((0 : Int) ≤ y1 ∧ y1 < (↑(List.length y2) : Int))) (.br (!y0) (.br (true) (.br (Op.bytesLess (ByteArray.toList y3) (ByteArray.toList (at_ (Ty.pair Ty.str (Ty.sl (nat_lit 3) (Ty.int IntKind.i64))) y2 (Int.toNat y1)).1)) (.br (decide ((nat_lit 0 + List.length y5) * nat_lit 8 ≤ nat_lit 140737488355328 ∧ nat_lit 0 + List.length y5 ≤ nat_lit 9223372036854775807)) (.br (decide ((List.length y7 + List.length [(y3, [] ++ y5)]) * nat_lit 40 ≤ nat_lit 140737488355328 ∧ List.length y7 + List.length [(y3, [] ++ y5)] ≤ nat_lit 9223372036854775807)) (.br (true) (.br (!ByteArray.toList (at_ (Ty.pair Ty.str (Ty.sl (nat_lit 3) (Ty.int IntKind.i64))) y2 (Int.toNat y1)).1 == ByteArray.toList y3) (.br (decide ((List.length (y7 ++ [(y3, [] ++ y5)]) + List.length [((at_ (Ty.pair Ty.str (Ty.sl (nat_lit 3) (Ty.int IntKind.i64))) y2 (Int.toNat y1)).1, (at_ (Ty.pair Ty.str (Ty.sl (nat_lit 3) (Ty.int IntKind.i64))) y2 (Int.toNat y1)).2)]) * nat_lit 40 ≤ nat_lit 140737488355328 ∧ List.length (y7 ++ [(y3, [] ++ y5)]) + List.length [((at_ (Ty.pair Ty.str (Ty.sl (nat_lit 3) (Ty.int IntKind.i64))) y2 (Int.toNat y1)).1, (at_ (Ty.pair Ty.str (Ty.sl (nat_lit 3) (Ty.int IntKind.i64))) y2 (Int.toNat y1)).2)] ≤ nat_lit 9223372036854775807)) (.br (true) (.go ((true, IntKind.wrap IntKind.i64 (y1 + (1 : Int)), y7 ++ [(y3, [] ++ y5)] ++ [((at_ (Ty.pair Ty.str (Ty.sl (nat_lit 3) (Ty.int IntKind.i64))) y2 (Int.toNat y1)).1, (at_ (Ty.pair Ty.str (Ty.sl (nat_lit 3) (Ty.int IntKind.i64))) y2 (Int.toNat y1)).2)]))) (.bad)) (.bad)) (.br (!y4) (.br (decide ((nat_lit 0 + List.length y5) * nat_lit 8 ≤ nat_lit 140737488355328 ∧ nat_lit 0 + List.length y5 ≤ nat_lit 9223372036854775807)) (.br (decide ((List.length (y7 ++ [(y3, [] ++ y5)]) + List.length [(y3, [] ++ y5)]) * nat_lit 40 ≤ nat_lit 140737488355328 ∧ List.length (y7 ++ [(y3, [] ++ y5)]) + List.length [(y3, [] ++ y5)] ≤ nat_lit 9223372036854775807)) (.br (true) (.go ((true, IntKind.wrap IntKind.i64 (y1 + (1 : Int)), y7 ++ [(y3, [] ++ y5)] ++ [(y3, [] ++ y5)]))) (.bad)) (.bad)) (.bad)) (.br (true) (.go ((true, IntKind.wrap IntKind.i64 (y1 + (1 : Int)), y7 ++ [(y3, [] ++ y5)]))) (.bad)))) (.bad)) (.bad)) (.bad)) (.br (true) (.br (!ByteArray.toList (at_ (Ty.pair Ty.str (Ty.sl (nat_lit 3) (Ty.int IntKind.i64))) y2 (Int.toNat y1)).1 == ByteArray.toList y3) (.br (decide ((List.length y7 + List.length [((at_ (Ty.pair Ty.str (Ty.sl (nat_lit 3) (Ty.int IntKind.i64))) y2 (Int.toNat y1)).1, (at_ (Ty.pair Ty.str (Ty.sl (nat_lit 3) (Ty.int IntKind.i64))) y2 (Int.toNat y1)).2)]) * nat_lit 40 ≤ nat_lit 140737488355328 ∧ List.length y7 + List.length [((at_ (Ty.pair Ty.str (Ty.sl (nat_lit 3) (Ty.int IntKind.i64))) y2 (Int.toNat y1)).1, (at_ (Ty.pair Ty.str (Ty.sl (nat_lit 3) (Ty.int IntKind.i64))) y2 (Int.toNat y1)).2)] ≤ nat_lit 9223372036854775807)) (.br (true) (.go ((y0, IntKind.wrap IntKind.i64 (y1 + (1 : Int)), y7 ++ [((at_ (Ty.pair Ty.str (Ty.sl (nat_lit 3) (Ty.int IntKind.i64))) y2 (Int.toNat y1)).1, (at_ (Ty.pair Ty.str (Ty.sl (nat_lit 3) (Ty.int IntKind.i64))) y2 (Int.toNat y1)).2)]))) (.bad)) (.bad)) (.br (!y4) (.br (decide ((nat_lit 0 + List.length y5) * nat_lit 8 ≤ nat_lit 140737488355328 ∧ nat_lit 0 + List.length y5 ≤ nat_lit 9223372036854775807)) (.br (decide ((List.length y7 + List.length [(y3, [] ++ y5)]) * nat_lit 40 ≤ nat_lit 140737488355328 ∧ List.length y7 + List.length [(y3, [] ++ y5)] ≤ nat_lit 9223372036854775807)) (.br (true) (.go ((true, IntKind.wrap IntKind.i64 (y1 + (1 : Int)), y7 ++ [(y3, [] ++ y5)]))) (.bad)) (.bad)) (.bad)) (.br (true) (.go ((y0, IntKind.wrap IntKind.i64 (y1 + (1 : Int)), y7))) (.bad)))) (.bad))) (.bad)) (.br (true) (.br (!ByteArray.toList (at_ (Ty.pair Ty.str (Ty.sl (nat_lit 3) (Ty.int IntKind.i64))) y2 (Int.toNat y1)).1 == ByteArray.toList y3) (.br (decide ((List.length y7 + List.length [((at_ (Ty.pair Ty.str (Ty.sl (nat_lit 3) (Ty.int IntKind.i64))) y2 (Int.toNat y1)).1, (at_ (Ty.pair Ty.str (Ty.sl (nat_lit 3) (Ty.int IntKind.i64))) y2 (Int.toNat y1)).2)]) * nat_lit 40 ≤ nat_lit 140737488355328 ∧ List.length y7 + List.length [((at_ (Ty.pair Ty.str (Ty.sl (nat_lit 3) (Ty.int IntKind.i64))) y2 (Int.toNat y1)).1, (at_ (Ty.pair Ty.str (Ty.sl (nat_lit 3) (Ty.int IntKind.i64))) y2 (Int.toNat y1)).2)] ≤ nat_lit 9223372036854775807)) (.br (true) (.go ((y0, IntKind.wrap IntKind.i64 (y1 + (1 : Int)), y7 ++ [((at_ (Ty.pair Ty.str (Ty.sl (nat_lit 3) (Ty.int IntKind.i64))) y2 (Int.toNat y1)).1, (at_ (Ty.pair Ty.str (Ty.sl (nat_lit 3) (Ty.int IntKind.i64))) y2 (Int.toNat y1)).2)]))) (.bad)) (.bad)) (.br (!y4) (.br (decide ((nat_lit 0 + List.length y5) * nat_lit 8 ≤ nat_lit 140737488355328 ∧ nat_lit 0 + List.length y5 ≤ nat_lit 9223372036854775807)) (.br (decide ((List.length y7 + List.length [(y3, [] ++ y5)]) * nat_lit 40 ≤ nat_lit 140737488355328 ∧ List.length y7 + List.length [(y3, [] ++ y5)] ≤ nat_lit 9223372036854775807)) (.br (true) (.go ((true, IntKind.wrap IntKind.i64 (y1 + (1 : Int)), y7 ++ [(y3, [] ++ y5)]))) (.bad)) (.bad)) (.bad)) (.br (true) (.go ((y0, IntKind.wrap IntKind.i64 (y1 + (1 : Int)), y7))) (.bad)))) (.bad))) (.bad)) (.out ((y0, y7)))) (.bad)
noncomputable def g_Ls_l1Write_0 (y2 : List ((ByteArray) × (List (Int)))) (y3 : ByteArray) (y4 : Bool) (y5 : List (Int)) (y6 : List ((ByteArray) × (List (Int)))) (x : (Bool) × (Int) × (List ((ByteArray) × (List (Int))))) : Option (((Bool) × (List ((ByteArray) × (List (Int)))))) := loopO (g_Ss_l1Write_0 y2 y3 y4 y5 y6) x
noncomputable def xs_l1Write_0 (y2 : List ((ByteArray) × (List (Int)))) (y3 : ByteArray) (y4 : Bool) (y5 : List (Int)) (y6 : List ((ByteArray) × (List (Int)))) : (((Bool) × (List ((ByteArray) × (List (Int)))))) → Ex × List (Pl × LV) := fun r => (.exit 0, [(.T 3, .t (.val false [.ptr 3 0 0])), (.T 4, .t (.val false [.ptr 4 0 0])), (.T 5, .t (.val false [.ptr 5 0 0])), (.T 6, .t (.val false [.bool r.1])), (.B 3, .b 0 false [.str y3, .bool y4, .sl .any 3 (.int .i64) y5]), (.B 4, .b 0 false [.row 4 1 0]), (.R 4 1, .r 0 (some ⟨false, .any, true, 43, (.pair .str (.sl 3 (.int .i64))), y6⟩)), (.B 5, .b 0 false [.row 5 1 0]), (.R 5 1, .r 0 (some ⟨false, .any, false, 43, (.pair .str (.sl 3 (.int .i64))), r.2⟩))])
noncomputable def Os_l1Write_1 : Orc := fun b h => match b, h with
  | 0, [(.T 2, .t (.val false [.ptr 2 0 0])), (.T 3, .t (.val false [.ptr 3 0 0])), (.T 4, .t (.val false [.ptr 4 0 0])), (.T 5, .t (.val false [.ptr 5 0 0])), (.T 6, .t (.val false [.bool y0])), (.T 7, .t (.val false [.int .i64 y1])), (.B 2, .b 0 false [.sl .any 43 (.pair .str (.sl 3 (.int .i64))) y2]), (.B 3, .b 0 false [.str y3, .bool y4, .sl .any 3 (.int .i64) y5]), (.B 4, .b 0 false [.row 4 1 0]), (.R 4 1, .r 0 (some ⟨false, .any, true, 43, (.pair .str (.sl 3 (.int .i64))), y6⟩)), (.B 5, .b 0 false [.row 5 1 0]), (.R 5 1, .r 0 (some ⟨false, .any, false, 43, (.pair .str (.sl 3 (.int .i64))), y7⟩))] => some (okO (g_Ls_l1Write_0 y2 y3 y4 y5 y6 (y0, y1, y7)), (.leaf (.exit 0) [(.T 3, .t (.val false [.ptr 3 0 0])), (.T 4, .t (.val false [.ptr 4 0 0])), (.T 5, .t (.val false [.ptr 5 0 0])), (.T 6, .t (.val false [.bool (valO (g_Ls_l1Write_0 y2 y3 y4 y5 y6 (y0, y1, y7))).1])), (.B 3, .b 0 false [.str y3, .bool y4, .sl .any 3 (.int .i64) y5]), (.B 4, .b 0 false [.row 4 1 0]), (.R 4 1, .r 0 (some ⟨false, .any, true, 43, (.pair .str (.sl 3 (.int .i64))), y6⟩)), (.B 5, .b 0 false [.row 5 1 0]), (.R 5 1, .r 0 (some ⟨false, .any, false, 43, (.pair .str (.sl 3 (.int .i64))), (valO (g_Ls_l1Write_0 y2 y3 y4 y5 y6 (y0, y1, y7))).2⟩))]))
  | b, h => Os_l1Write_0 b h
theorem bs_l1Write_0 (y0 : Bool) (y1 : Int) (y2 : List ((ByteArray) × (List (Int)))) (y3 : ByteArray) (y4 : Bool) (y5 : List (Int)) (y6 : List ((ByteArray) × (List (Int)))) (y7 : List ((ByteArray) × (List (Int)))) : Tr.bt Es_l1Write Os_l1Write_0 (exec Es_l1Write 0 cs_l1Write_0 (St.of (hs_l1Write_0 y0 y1 y2 y3 y4 y5 y6 y7)) (leafRd Es_l1Write 0)) = (g_Ss_l1Write_0 y2 y3 y4 y5 y6 (y0, y1, y7)).bt (fun ((y0, y1, y7) : (Bool) × (Int) × (List ((ByteArray) × (List (Int))))) => (hs_l1Write_0 y0 y1 y2 y3 y4 y5 y6 y7)) (xs_l1Write_0 y2 y3 y4 y5 y6) := by kernel_rfl
theorem ks_l1Write_1 : OrcOk Es_l1Write Os_l1Write_1 lss_l1Write 1 := orc_add ks_l1Write_0 (fun n p hp h ex h' ho => by
  obtain ⟨b, c⟩ := p
  obtain ⟨xt, h1, h2⟩ := ho
  have h1 : Os_l1Write_1 b h = some (true, xt) := h1
  unfold Os_l1Write_1 at h1
  split at h1
  · injection h1 with h1
    injection h1 with e1 e2
    subst e2
    have hc : c = cs_l1Write_0 := ms_l1Write_0 _ hp rfl
    subst hc
    right
    rename_i y0 y1 y2 y3 y4 y5 y6 y7
    have key := LT_step ks_l1Write_0 hp (fun q hq => loopsAll_in _ _ _ _ hp hq) (fun ((y0, y1, y7) : (Bool) × (Int) × (List ((ByteArray) × (List (Int))))) => (hs_l1Write_0 y0 y1 y2 y3 y4 y5 y6 y7)) (xs_l1Write_0 y2 y3 y4 y5 y6) (g_Ss_l1Write_0 y2 y3 y4 y5 y6) (fun x => by first | exact bs_l1Write_0 x.1 x.2.1 y2 y3 y4 y5 y6 x.2.2) n (x := (y0, y1, y7)) (okO_some e1)
    have hx : ∀ r, XT.sel (.leaf (.exit 0) [(.T 3, .t (.val false [.ptr 3 0 0])), (.T 4, .t (.val false [.ptr 4 0 0])), (.T 5, .t (.val false [.ptr 5 0 0])), (.T 6, .t (.val false [.bool r.1])), (.B 3, .b 0 false [.str y3, .bool y4, .sl .any 3 (.int .i64) y5]), (.B 4, .b 0 false [.row 4 1 0]), (.R 4 1, .r 0 (some ⟨false, .any, true, 43, (.pair .str (.sl 3 (.int .i64))), y6⟩)), (.B 5, .b 0 false [.row 5 1 0]), (.R 5 1, .r 0 (some ⟨false, .any, false, 43, (.pair .str (.sl 3 (.int .i64))), r.2⟩))]) = xs_l1Write_0 y2 y3 y4 y5 y6 r := fun r => by first | rfl | (rcases r with r | r <;> rfl) | (rcases r with r | r | r <;> rfl) | (rcases r with r | r | r | r <;> rfl)
    have h3 := (hx (valO (g_Ls_l1Write_0 y2 y3 y4 y5 y6 (y0, y1, y7)))).symm.trans h2
    have e3 := congrArg Prod.fst h3
    have e4 := congrArg Prod.snd h3
    simp only at e3 e4
    rw [← e3, ← e4]
    exact key
  · exact .inl ⟨xt, h1, h2⟩)
noncomputable def g_As_l1Write (a0 : List ((ByteArray) × (List (Int)))) (a1 : ByteArray) (a2 : Bool) (a3 : List (Int)) : Bool := okO (g_Ls_l1Write_0 a0 a1 a2 a3 [] (a2, (0 : Int), [])) && (!!(valO (g_Ls_l1Write_0 a0 a1 a2 a3 [] (a2, (0 : Int), []))).1 || decide ((nat_lit 0 + List.length a3) * nat_lit 8 ≤ nat_lit 140737488355328 ∧ nat_lit 0 + List.length a3 ≤ nat_lit 9223372036854775807) && decide ((List.length (valO (g_Ls_l1Write_0 a0 a1 a2 a3 [] (a2, (0 : Int), []))).2 + List.length [(a1, [] ++ a3)]) * nat_lit 40 ≤ nat_lit 140737488355328 ∧ List.length (valO (g_Ls_l1Write_0 a0 a1 a2 a3 [] (a2, (0 : Int), []))).2 + List.length [(a1, [] ++ a3)] ≤ nat_lit 9223372036854775807))
noncomputable def g_Vs_l1Write_0 (a0 : List ((ByteArray) × (List (Int)))) (a1 : ByteArray) (a2 : Bool) (a3 : List (Int)) : List ((ByteArray) × (List (Int))) := bif !(valO (g_Ls_l1Write_0 a0 a1 a2 a3 [] (a2, (0 : Int), []))).1 then (valO (g_Ls_l1Write_0 a0 a1 a2 a3 [] (a2, (0 : Int), []))).2 ++ [(a1, [] ++ a3)] else (valO (g_Ls_l1Write_0 a0 a1 a2 a3 [] (a2, (0 : Int), []))).2
noncomputable def Fs_l1Write : FSem := fun ys => match ys with
  | [.val true [.sl .any 43 (.pair .str (.sl 3 (.int .i64))) a0], .val true [.str a1, .bool a2, .sl .any 3 (.int .i64) a3]] => some ((g_As_l1Write a0 a1 a2 a3), .val true [.own .any false 43 (.pair .str (.sl 3 (.int .i64))) (g_Vs_l1Write_0 a0 a1 a2 a3)], [])
  | _ => none
theorem vs_l1Write (a0 : List ((ByteArray) × (List (Int)))) (a1 : ByteArray) (a2 : Bool) (a3 : List (Int)) : collapseH .std Es_l1Write Os_l1Write_1 (execFn Es_l1Write Go.Proofs.Tryd.f86 mss_l1Write [.val true [.sl .any 43 (.pair .str (.sl 3 (.int .i64))) a0], .val true [.str a1, .bool a2, .sl .any 3 (.int .i64) a3]]) = some ((g_As_l1Write a0 a1 a2 a3), .val true [.own .any false 43 (.pair .str (.sl 3 (.int .i64))) (g_Vs_l1Write_0 a0 a1 a2 a3)], []) := by kernel_rfl
theorem ss_l1Write : Sound Go.Proofs.Tryd.prog 86 mss_l1Write Fs_l1Write := by
  refine fn_gen goods_l1Write (by kernel_rfl) .std (fn := Go.Proofs.Tryd.f86) (c := (Go.Proofs.Tryd.f86.body.getD .skip)) (o := Os_l1Write_1) (k := 1) (by kernel_rfl) (by kernel_rfl) (by kernel_rfl) (by kernel_rfl) (by decide) ks_l1Write_1 ?_
  intro ys r outs h
  unfold Fs_l1Write at h
  split at h
  · exact (vs_l1Write _ _ _ _).trans h
  · cases h
end Go.Proofs.YtkjeicijcecmlaaDoor.E
end
section
namespace Go.Proofs.YtkjeicijcecmlaaDoor.E
open Go
set_option maxRecDepth 100000
set_option maxHeartbeats 0
set_option linter.all false
noncomputable def Es_StoDo : Env where
  tt := mkTI Go.Proofs.Tryd.prog
  fn := fun f => match f with
    | 15 => some (mss_StoOk, FSem.wk mss_StoOk Fs_StoOk)
    | 21 => some (mss_WrtOk, FSem.wk mss_WrtOk Fs_WrtOk)
    | 85 => some (mss_l1Copy, FSem.wk mss_l1Copy Fs_l1Copy)
    | 86 => some (mss_l1Write, FSem.wk mss_l1Write Fs_l1Write)
    | _ => none
  bxf := fun _ => none
  mv := []
  keep := fun b => match b with
    | 0 => [(1, false), (4, false), (5, true), (6, false)]
    | _ => []
  keepB := fun b => match b with
    | 0 => [(4, false), (5, true)]
    | _ => []
  keepX := fun b => match b with
    | 0 => [(4, false), (5, true)]
    | _ => []
  keepXB := fun b => match b with
    | 0 => [(4, false), (5, true)]
    | _ => []
theorem goodFs_StoDo : ∀ f ms F, Es_StoDo.fn f = some (ms, F) → Sound Go.Proofs.Tryd.prog f ms F := fun f ms F h => by
  unfold Es_StoDo at h
  dsimp only at h
  split at h
  · injection h with h; injection h with e1 e2; subst e1 e2; exact Sound.wk ss_StoOk
  · injection h with h; injection h with e1 e2; subst e1 e2; exact Sound.wk ss_WrtOk
  · injection h with h; injection h with e1 e2; subst e1 e2; exact Sound.wk ss_l1Copy
  · injection h with h; injection h with e1 e2; subst e1 e2; exact Sound.wk ss_l1Write
  · cases h
theorem goodBs_StoDo : ∀ f ms F, Es_StoDo.bxf f = some (ms, F) → SoundB Go.Proofs.Tryd.prog f ms F := fun f ms F h => by cases h
theorem goods_StoDo : Good Go.Proofs.Tryd.prog Es_StoDo := ⟨rfl, goodFs_StoDo, goodBs_StoDo⟩
noncomputable def Os_StoDo_0 : Orc := fun _ _ => none
noncomputable def mss_StoDo : List PM := [.rd, .rd]
noncomputable def lss_StoDo : List (Nat × Code) := loopsAll 0 (Go.Proofs.Tryd.f20.body.getD .skip)
noncomputable def cs_StoDo_0 : Code := (loopOf 0 (Go.Proofs.Tryd.f20.body.getD .skip)).getD .skip
theorem lseqs_StoDo : lss_StoDo = [(0, cs_StoDo_0)] := by kernel_rfl
theorem ms_StoDo_0 : ∀ p, p ∈ lss_StoDo → p.1 = 0 → p.2 = cs_StoDo_0 := by
  intro p hp
  rw [lseqs_StoDo] at hp
  simp only [List.mem_cons, List.not_mem_nil, or_false] at hp
  subst hp; simp
theorem ks_StoDo_0 : OrcOk Es_StoDo Os_StoDo_0 lss_StoDo 0 := orcOk_none
noncomputable def hs_StoDo_0 (y0 : List ((ByteArray) × ((Bool) × (List (Int))))) (y1 : Int) (y2 : List ((ByteArray) × (List (Int)))) (y3 : List ((ByteArray) × (List (Int)))) : List (Pl × LV) := [(.T 1, .t (.val false [.sl .any 38 (.pair .str (.pair .bool (.sl 3 (.int .i64)))) y0])), (.T 4, .t (.val false [.ptr 4 0 0])), (.T 5, .t (.val false [.ptr 5 0 0])), (.T 6, .t (.val false [.int .i64 y1])), (.B 4, .b 0 false [.row 4 1 0]), (.R 4 1, .r 0 (some ⟨false, .any, true, 43, (.pair .str (.sl 3 (.int .i64))), y2⟩)), (.B 5, .b 0 false [.row 5 1 0]), (.R 5 1, .r 0 (some ⟨false, .any, false, 43, (.pair .str (.sl 3 (.int .i64))), y3⟩))]
noncomputable def g_Ss_StoDo_0 (y0 : List ((ByteArray) × ((Bool) × (List (Int))))) (y2 : List ((ByteArray) × (List (Int)))) : ((Int) × (List ((ByteArray) × (List (Int))))) → RT ((Int) × (List ((ByteArray) × (List (Int))))) (((List ((ByteArray) × (List (Int)))) × (List ((ByteArray) × (List (Int))))) ⊕ ((List ((ByteArray) × (List (Int))))))
  | (y1, y3) => .br (true) (.br (decide (y1 < (↑(List.length y0) : Int))) (.br (decide ((0 : Int) ≤ y1 ∧ y1 < (↑(List.length y0) : Int))) (.br (g_As_WrtOk (at_ (Ty.pair Ty.str (Ty.pair Ty.bool (Ty.sl (nat_lit 3) (Ty.int IntKind.i64)))) y0 (Int.toNat y1)).1 (at_ (Ty.pair Ty.str (Ty.pair Ty.bool (Ty.sl (nat_lit 3) (Ty.int IntKind.i64)))) y0 (Int.toNat y1)).2.1 (at_ (Ty.pair Ty.str (Ty.pair Ty.bool (Ty.sl (nat_lit 3) (Ty.int IntKind.i64)))) y0 (Int.toNat y1)).2.2) (.br (!g_Vs_WrtOk_0 (at_ (Ty.pair Ty.str (Ty.pair Ty.bool (Ty.sl (nat_lit 3) (Ty.int IntKind.i64)))) y0 (Int.toNat y1)).1 (at_ (Ty.pair Ty.str (Ty.pair Ty.bool (Ty.sl (nat_lit 3) (Ty.int IntKind.i64)))) y0 (Int.toNat y1)).2.1 (at_ (Ty.pair Ty.str (Ty.pair Ty.bool (Ty.sl (nat_lit 3) (Ty.int IntKind.i64)))) y0 (Int.toNat y1)).2.2) (.out (.inl (([], y3)))) (.br (decide ((0 : Int) ≤ y1 ∧ y1 < (↑(List.length y0) : Int))) (.br (g_As_l1Write y3 (at_ (Ty.pair Ty.str (Ty.pair Ty.bool (Ty.sl (nat_lit 3) (Ty.int IntKind.i64)))) y0 (Int.toNat y1)).1 (at_ (Ty.pair Ty.str (Ty.pair Ty.bool (Ty.sl (nat_lit 3) (Ty.int IntKind.i64)))) y0 (Int.toNat y1)).2.1 (at_ (Ty.pair Ty.str (Ty.pair Ty.bool (Ty.sl (nat_lit 3) (Ty.int IntKind.i64)))) y0 (Int.toNat y1)).2.2) (.br (true) (.br (decide ((↑(List.length (g_Vs_l1Write_0 y3 (at_ (Ty.pair Ty.str (Ty.pair Ty.bool (Ty.sl (nat_lit 3) (Ty.int IntKind.i64)))) y0 (Int.toNat y1)).1 (at_ (Ty.pair Ty.str (Ty.pair Ty.bool (Ty.sl (nat_lit 3) (Ty.int IntKind.i64)))) y0 (Int.toNat y1)).2.1 (at_ (Ty.pair Ty.str (Ty.pair Ty.bool (Ty.sl (nat_lit 3) (Ty.int IntKind.i64)))) y0 (Int.toNat y1)).2.2)) : Int) > (40 : Int))) (.out (.inl (([], g_Vs_l1Write_0 y3 (at_ (Ty.pair Ty.str (Ty.pair Ty.bool (Ty.sl (nat_lit 3) (Ty.int IntKind.i64)))) y0 (Int.toNat y1)).1 (at_ (Ty.pair Ty.str (Ty.pair Ty.bool (Ty.sl (nat_lit 3) (Ty.int IntKind.i64)))) y0 (Int.toNat y1)).2.1 (at_ (Ty.pair Ty.str (Ty.pair Ty.bool (Ty.sl (nat_lit 3) (Ty.int IntKind.i64)))) y0 (Int.toNat y1)).2.2)))) (.br (true) (.go ((IntKind.wrap IntKind.i64 (y1 + (1 : Int)), g_Vs_l1Write_0 y3 (at_ (Ty.pair Ty.str (Ty.pair Ty.bool (Ty.sl (nat_lit 3) (Ty.int IntKind.i64)))) y0 (Int.toNat y1)).1 (at_ (Ty.pair Ty.str (Ty.pair Ty.bool (Ty.sl (nat_lit 3) (Ty.int IntKind.i64)))) y0 (Int.toNat y1)).2.1 (at_ (Ty.pair Ty.str (Ty.pair Ty.bool (Ty.sl (nat_lit 3) (Ty.int IntKind.i64)))) y0 (Int.toNat y1)).2.2))) (.bad))) (.bad)) (.bad)) (.bad))) (.bad)) (.bad)) (.out (.inr (y3)))) (.bad)
noncomputable def g_Ls_StoDo_0 (y0 : List ((ByteArray) × ((Bool) × (List (Int))))) (y2 : List ((ByteArray) × (List (Int)))) (x : (Int) × (List ((ByteArray) × (List (Int))))) : Option (((List ((ByteArray) × (List (Int)))) × (List ((ByteArray) × (List (Int))))) ⊕ ((List ((ByteArray) × (List (Int)))))) := loopO (g_Ss_StoDo_0 y0 y2) x
noncomputable def xs_StoDo_0 (y0 : List ((ByteArray) × ((Bool) × (List (Int))))) (y2 : List ((ByteArray) × (List (Int)))) : (((List ((ByteArray) × (List (Int)))) × (List ((ByteArray) × (List (Int))))) ⊕ ((List ((ByteArray) × (List (Int)))))) → Ex × List (Pl × LV) := fun
  | .inl r => (.ret, [(.T 4, .t (.val false [.ptr 4 0 0])), (.T 5, .t (.val false [.ptr 5 0 0])), (.B 4, .b 0 false [.row 4 1 0]), (.R 4 1, .r 0 (some ⟨false, .any, true, 43, (.pair .str (.sl 3 (.int .i64))), r.1⟩)), (.B 5, .b 0 false [.row 5 1 0]), (.R 5 1, .r 0 (some ⟨false, .any, false, 43, (.pair .str (.sl 3 (.int .i64))), r.2⟩))])
  | .inr (r) => (.exit 0, [(.T 4, .t (.val false [.ptr 4 0 0])), (.T 5, .t (.val false [.ptr 5 0 0])), (.B 4, .b 0 false [.row 4 1 0]), (.R 4 1, .r 0 (some ⟨false, .any, true, 43, (.pair .str (.sl 3 (.int .i64))), y2⟩)), (.B 5, .b 0 false [.row 5 1 0]), (.R 5 1, .r 0 (some ⟨false, .any, false, 43, (.pair .str (.sl 3 (.int .i64))), r⟩))])
noncomputable def Os_StoDo_1 : Orc := fun b h => match b, h with
  | 0, [(.T 1, .t (.val false [.sl .any 38 (.pair .str (.pair .bool (.sl 3 (.int .i64)))) y0])), (.T 4, .t (.val false [.ptr 4 0 0])), (.T 5, .t (.val false [.ptr 5 0 0])), (.T 6, .t (.val false [.int .i64 y1])), (.B 4, .b 0 false [.row 4 1 0]), (.R 4 1, .r 0 (some ⟨false, .any, true, 43, (.pair .str (.sl 3 (.int .i64))), y2⟩)), (.B 5, .b 0 false [.row 5 1 0]), (.R 5 1, .r 0 (some ⟨false, .any, false, 43, (.pair .str (.sl 3 (.int .i64))), y3⟩))] => some (okO (g_Ls_StoDo_0 y0 y2 (y1, y3)), (.br (isL (valO (g_Ls_StoDo_0 y0 y2 (y1, y3)))) (.leaf .ret [(.T 4, .t (.val false [.ptr 4 0 0])), (.T 5, .t (.val false [.ptr 5 0 0])), (.B 4, .b 0 false [.row 4 1 0]), (.R 4 1, .r 0 (some ⟨false, .any, true, 43, (.pair .str (.sl 3 (.int .i64))), (getL (valO (g_Ls_StoDo_0 y0 y2 (y1, y3)))).1⟩)), (.B 5, .b 0 false [.row 5 1 0]), (.R 5 1, .r 0 (some ⟨false, .any, false, 43, (.pair .str (.sl 3 (.int .i64))), (getL (valO (g_Ls_StoDo_0 y0 y2 (y1, y3)))).2⟩))]) (.leaf (.exit 0) [(.T 4, .t (.val false [.ptr 4 0 0])), (.T 5, .t (.val false [.ptr 5 0 0])), (.B 4, .b 0 false [.row 4 1 0]), (.R 4 1, .r 0 (some ⟨false, .any, true, 43, (.pair .str (.sl 3 (.int .i64))), y2⟩)), (.B 5, .b 0 false [.row 5 1 0]), (.R 5 1, .r 0 (some ⟨false, .any, false, 43, (.pair .str (.sl 3 (.int .i64))), (getR (valO (g_Ls_StoDo_0 y0 y2 (y1, y3))))⟩))])))
  | b, h => Os_StoDo_0 b h
theorem bs_StoDo_0 (y0 : List ((ByteArray) × ((Bool) × (List (Int))))) (y1 : Int) (y2 : List ((ByteArray) × (List (Int)))) (y3 : List ((ByteArray) × (List (Int)))) : Tr.bt Es_StoDo Os_StoDo_0 (exec Es_StoDo 0 cs_StoDo_0 (St.of (hs_StoDo_0 y0 y1 y2 y3)) (leafRd Es_StoDo 0)) = (g_Ss_StoDo_0 y0 y2 (y1, y3)).bt (fun ((y1, y3) : (Int) × (List ((ByteArray) × (List (Int))))) => (hs_StoDo_0 y0 y1 y2 y3)) (xs_StoDo_0 y0 y2) := by kernel_rfl
theorem ks_StoDo_1 : OrcOk Es_StoDo Os_StoDo_1 lss_StoDo 1 := orc_add ks_StoDo_0 (fun n p hp h ex h' ho => by
  obtain ⟨b, c⟩ := p
  obtain ⟨xt, h1, h2⟩ := ho
  have h1 : Os_StoDo_1 b h = some (true, xt) := h1
  unfold Os_StoDo_1 at h1
  split at h1
  · injection h1 with h1
    injection h1 with e1 e2
    subst e2
    have hc : c = cs_StoDo_0 := ms_StoDo_0 _ hp rfl
    subst hc
    right
    rename_i y0 y1 y2 y3
    have key := LT_step ks_StoDo_0 hp (fun q hq => loopsAll_in _ _ _ _ hp hq) (fun ((y1, y3) : (Int) × (List ((ByteArray) × (List (Int))))) => (hs_StoDo_0 y0 y1 y2 y3)) (xs_StoDo_0 y0 y2) (g_Ss_StoDo_0 y0 y2) (fun x => by first | exact bs_StoDo_0 y0 x.1 y2 x.2) n (x := (y1, y3)) (okO_some e1)
    have hx : ∀ r, XT.sel (.br (isL r) (.leaf .ret [(.T 4, .t (.val false [.ptr 4 0 0])), (.T 5, .t (.val false [.ptr 5 0 0])), (.B 4, .b 0 false [.row 4 1 0]), (.R 4 1, .r 0 (some ⟨false, .any, true, 43, (.pair .str (.sl 3 (.int .i64))), (getL r).1⟩)), (.B 5, .b 0 false [.row 5 1 0]), (.R 5 1, .r 0 (some ⟨false, .any, false, 43, (.pair .str (.sl 3 (.int .i64))), (getL r).2⟩))]) (.leaf (.exit 0) [(.T 4, .t (.val false [.ptr 4 0 0])), (.T 5, .t (.val false [.ptr 5 0 0])), (.B 4, .b 0 false [.row 4 1 0]), (.R 4 1, .r 0 (some ⟨false, .any, true, 43, (.pair .str (.sl 3 (.int .i64))), y2⟩)), (.B 5, .b 0 false [.row 5 1 0]), (.R 5 1, .r 0 (some ⟨false, .any, false, 43, (.pair .str (.sl 3 (.int .i64))), (getR r)⟩))])) = xs_StoDo_0 y0 y2 r := fun r => by first | rfl | (rcases r with r | r <;> rfl) | (rcases r with r | r | r <;> rfl) | (rcases r with r | r | r | r <;> rfl)
    have h3 := (hx (valO (g_Ls_StoDo_0 y0 y2 (y1, y3)))).symm.trans h2
    have e3 := congrArg Prod.fst h3
    have e4 := congrArg Prod.snd h3
    simp only at e3 e4
    rw [← e3, ← e4]
    exact key
  · exact .inl ⟨xt, h1, h2⟩)
noncomputable def g_As_StoDo (a0 : List ((ByteArray) × (List (Int)))) (a1 : List ((ByteArray) × ((Bool) × (List (Int))))) : Bool := g_As_StoOk a0 && (!g_Vs_StoOk_0 a0 || g_As_l1Copy a0 && (okO (g_Ls_StoDo_0 a1 [] ((0 : Int), g_Vs_l1Copy_0 a0)) && (isL (valO (g_Ls_StoDo_0 a1 [] ((0 : Int), g_Vs_l1Copy_0 a0))) || g_As_l1Copy (getR (valO (g_Ls_StoDo_0 a1 [] ((0 : Int), g_Vs_l1Copy_0 a0)))))))
noncomputable def g_Vs_StoDo_0 (a0 : List ((ByteArray) × (List (Int)))) (a1 : List ((ByteArray) × ((Bool) × (List (Int))))) : List ((ByteArray) × (List (Int))) := bif !g_Vs_StoOk_0 a0 then [] else bif isL (valO (g_Ls_StoDo_0 a1 [] ((0 : Int), g_Vs_l1Copy_0 a0))) then (getL (valO (g_Ls_StoDo_0 a1 [] ((0 : Int), g_Vs_l1Copy_0 a0)))).1 else g_Vs_l1Copy_0 (getR (valO (g_Ls_StoDo_0 a1 [] ((0 : Int), g_Vs_l1Copy_0 a0))))
noncomputable def Fs_StoDo : FSem := fun ys => match ys with
  | [.val true [.sl .any 43 (.pair .str (.sl 3 (.int .i64))) a0], .val false [.sl .any 38 (.pair .str (.pair .bool (.sl 3 (.int .i64)))) a1]] => some ((g_As_StoDo a0 a1), .val true [.own .any true 43 (.pair .str (.sl 3 (.int .i64))) (g_Vs_StoDo_0 a0 a1)], [])
  | _ => none
theorem vs_StoDo (a0 : List ((ByteArray) × (List (Int)))) (a1 : List ((ByteArray) × ((Bool) × (List (Int))))) : collapseH .std Es_StoDo Os_StoDo_1 (execFn Es_StoDo Go.Proofs.Tryd.f20 mss_StoDo [.val true [.sl .any 43 (.pair .str (.sl 3 (.int .i64))) a0], .val false [.sl .any 38 (.pair .str (.pair .bool (.sl 3 (.int .i64)))) a1]]) = some ((g_As_StoDo a0 a1), .val true [.own .any true 43 (.pair .str (.sl 3 (.int .i64))) (g_Vs_StoDo_0 a0 a1)], []) := by kernel_rfl
theorem ss_StoDo : Sound Go.Proofs.Tryd.prog 20 mss_StoDo Fs_StoDo := by
  refine fn_gen goods_StoDo (by kernel_rfl) .std (fn := Go.Proofs.Tryd.f20) (c := (Go.Proofs.Tryd.f20.body.getD .skip)) (o := Os_StoDo_1) (k := 1) (by kernel_rfl) (by kernel_rfl) (by kernel_rfl) (by kernel_rfl) (by decide) ks_StoDo_1 ?_
  intro ys r outs h
  unfold Fs_StoDo at h
  split at h
  · exact (vs_StoDo _ _).trans h
  · cases h
end Go.Proofs.YtkjeicijcecmlaaDoor.E
end
section
namespace Go.Proofs.YtkjeicijcecmlaaDoor.E
open Go
set_option maxRecDepth 100000
set_option maxHeartbeats 0
set_option linter.all false
noncomputable def Es_l20Rd_pick0 : Env where
  tt := mkTI Go.Proofs.Tryd.prog
  fn := fun _ => none
  bxf := fun _ => none
  mv := []
  keep := fun _ => []
  keepB := fun _ => []
  keepX := fun _ => []
  keepXB := fun _ => []
theorem goodFs_l20Rd_pick0 : ∀ f ms F, Es_l20Rd_pick0.fn f = some (ms, F) → Sound Go.Proofs.Tryd.prog f ms F := fun f ms F h => by cases h
theorem goodBs_l20Rd_pick0 : ∀ f ms F, Es_l20Rd_pick0.bxf f = some (ms, F) → SoundB Go.Proofs.Tryd.prog f ms F := fun f ms F h => by cases h
theorem goods_l20Rd_pick0 : Good Go.Proofs.Tryd.prog Es_l20Rd_pick0 := ⟨rfl, goodFs_l20Rd_pick0, goodBs_l20Rd_pick0⟩
noncomputable def Os_l20Rd_pick0_0 : Orc := fun _ _ => none
noncomputable def mss_l20Rd_pick0 : List PM := [.bx, .own]
noncomputable def lss_l20Rd_pick0 : List (Nat × Code) := loopsAll 0 (Go.Proofs.Tryd.f127.body.getD .skip)

theorem ks_l20Rd_pick0_0 : OrcOk Es_l20Rd_pick0 Os_l20Rd_pick0_0 lss_l20Rd_pick0 0 := orcOk_none
noncomputable def g_As_l20Rd_pick0 (r0 : List Int) (r1 : Int) (a2 : Int) : Bool := decide (a2 < (1 : Int)) || ((↑(List.length r0) : Int) == (0 : Int) || bif decide (IntKind.wrap IntKind.i64 (IntKind.wrap IntKind.i64 (r1 + (1 : Int)) - (1 : Int)) < (↑(List.length r0) : Int)) then decide ((0 : Int) ≤ IntKind.wrap IntKind.i64 (IntKind.wrap IntKind.i64 (r1 + (1 : Int)) - (1 : Int)) ∧ IntKind.wrap IntKind.i64 (IntKind.wrap IntKind.i64 (r1 + (1 : Int)) - (1 : Int)) < (↑(List.length r0) : Int)) && !a2 == (0 : Int) else !(↑(List.length r0) : Int) == (0 : Int) && (decide ((0 : Int) ≤ Int.tmod (IntKind.wrap IntKind.i64 (IntKind.wrap IntKind.i64 (r1 + (1 : Int)) - (1 : Int))) (↑(List.length r0) : Int) ∧ Int.tmod (IntKind.wrap IntKind.i64 (IntKind.wrap IntKind.i64 (r1 + (1 : Int)) - (1 : Int))) (↑(List.length r0) : Int) < (↑(List.length r0) : Int)) && (!(↑(List.length r0) : Int) == (0 : Int) && (decide ((0 : Int) ≤ Int.tmod (IntKind.wrap IntKind.i64 (IntKind.wrap IntKind.i64 (IntKind.wrap IntKind.i64 (IntKind.wrap IntKind.i64 (r1 + (1 : Int)) - (1 : Int)) * (7 : Int)) + (3 : Int))) (↑(List.length r0) : Int) ∧ Int.tmod (IntKind.wrap IntKind.i64 (IntKind.wrap IntKind.i64 (IntKind.wrap IntKind.i64 (IntKind.wrap IntKind.i64 (r1 + (1 : Int)) - (1 : Int)) * (7 : Int)) + (3 : Int))) (↑(List.length r0) : Int) < (↑(List.length r0) : Int)) && (!(↑(List.length r0) : Int) == (0 : Int) && !a2 == (0 : Int))))))
noncomputable def g_Vs_l20Rd_pick0_0 (r0 : List Int) (r1 : Int) (a2 : Int) : Int := bif decide (a2 < (1 : Int)) then (0 : Int) else bif (↑(List.length r0) : Int) == (0 : Int) then (0 : Int) else bif decide (IntKind.wrap IntKind.i64 (IntKind.wrap IntKind.i64 (r1 + (1 : Int)) - (1 : Int)) < (↑(List.length r0) : Int)) then Int.tmod (IntKind.wrap IntKind.i64 (at_ (Ty.int IntKind.u8) r0 (Int.toNat (IntKind.wrap IntKind.i64 (IntKind.wrap IntKind.i64 (r1 + (1 : Int)) - (1 : Int)))))) a2 else Int.tmod (IntKind.wrap IntKind.i64 (↑(BitVec.toNat (BitVec.ofInt (nat_lit 64) (IntKind.wrap IntKind.i64 (IntKind.wrap IntKind.i64 (IntKind.wrap IntKind.i64 (IntKind.wrap IntKind.i64 (IntKind.wrap IntKind.i64 (at_ (Ty.int IntKind.u8) r0 (Int.toNat (Int.tmod (IntKind.wrap IntKind.i64 (IntKind.wrap IntKind.i64 (r1 + (1 : Int)) - (1 : Int))) (↑(List.length r0) : Int)))) * (131 : Int)) + IntKind.wrap IntKind.i64 (IntKind.wrap IntKind.i64 (at_ (Ty.int IntKind.u8) r0 (Int.toNat (Int.tmod (IntKind.wrap IntKind.i64 (IntKind.wrap IntKind.i64 (IntKind.wrap IntKind.i64 (IntKind.wrap IntKind.i64 (r1 + (1 : Int)) - (1 : Int)) * (7 : Int)) + (3 : Int))) (↑(List.length r0) : Int)))) * (1117 : Int))) + IntKind.wrap IntKind.i64 (IntKind.wrap IntKind.i64 (IntKind.wrap IntKind.i64 (r1 + (1 : Int)) - (1 : Int)) * (29 : Int))) + IntKind.wrap IntKind.i64 (IntKind.wrap IntKind.i64 (Int.tdiv (IntKind.wrap IntKind.i64 (IntKind.wrap IntKind.i64 (r1 + (1 : Int)) - (1 : Int))) (↑(List.length r0) : Int)) * (53 : Int)))) ^^^ BitVec.ofInt (nat_lit 64) (IntKind.wrap IntKind.i64 (Int.tdiv (IntKind.wrap IntKind.i64 (IntKind.wrap IntKind.i64 (IntKind.wrap IntKind.i64 (IntKind.wrap IntKind.i64 (IntKind.wrap IntKind.i64 (at_ (Ty.int IntKind.u8) r0 (Int.toNat (Int.tmod (IntKind.wrap IntKind.i64 (IntKind.wrap IntKind.i64 (r1 + (1 : Int)) - (1 : Int))) (↑(List.length r0) : Int)))) * (131 : Int)) + IntKind.wrap IntKind.i64 (IntKind.wrap IntKind.i64 (at_ (Ty.int IntKind.u8) r0 (Int.toNat (Int.tmod (IntKind.wrap IntKind.i64 (IntKind.wrap IntKind.i64 (IntKind.wrap IntKind.i64 (IntKind.wrap IntKind.i64 (r1 + (1 : Int)) - (1 : Int)) * (7 : Int)) + (3 : Int))) (↑(List.length r0) : Int)))) * (1117 : Int))) + IntKind.wrap IntKind.i64 (IntKind.wrap IntKind.i64 (IntKind.wrap IntKind.i64 (r1 + (1 : Int)) - (1 : Int)) * (29 : Int))) + IntKind.wrap IntKind.i64 (IntKind.wrap IntKind.i64 (Int.tdiv (IntKind.wrap IntKind.i64 (IntKind.wrap IntKind.i64 (r1 + (1 : Int)) - (1 : Int))) (↑(List.length r0) : Int)) * (53 : Int)))) (64 : Int))))) : Int)) a2
noncomputable def g_Vs_l20Rd_pick0_1 (r0 : List Int) (r1 : Int) (a2 : Int) : List (Int) := bif decide (a2 < (1 : Int)) then r0 else bif (↑(List.length r0) : Int) == (0 : Int) then r0 else bif decide (IntKind.wrap IntKind.i64 (IntKind.wrap IntKind.i64 (r1 + (1 : Int)) - (1 : Int)) < (↑(List.length r0) : Int)) then r0 else r0
noncomputable def g_Vs_l20Rd_pick0_2 (r0 : List Int) (r1 : Int) (a2 : Int) : Int := bif decide (a2 < (1 : Int)) then IntKind.wrap IntKind.i64 (r1 + (1 : Int)) else bif (↑(List.length r0) : Int) == (0 : Int) then IntKind.wrap IntKind.i64 (r1 + (1 : Int)) else bif decide (IntKind.wrap IntKind.i64 (IntKind.wrap IntKind.i64 (r1 + (1 : Int)) - (1 : Int)) < (↑(List.length r0) : Int)) then IntKind.wrap IntKind.i64 (r1 + (1 : Int)) else IntKind.wrap IntKind.i64 (r1 + (1 : Int))
noncomputable def Fs_l20Rd_pick0 : FSem := fun ys => match ys with
  | [.val true [.sl .any 5 (.int .u8) r0, .int .i64 r1], .val false [.int .i64 a2]] => some ((g_As_l20Rd_pick0 r0 r1 a2), .val false [.int .i64 (g_Vs_l20Rd_pick0_0 r0 r1 a2)], [[.sl .any 5 (.int .u8) (g_Vs_l20Rd_pick0_1 r0 r1 a2), .int .i64 (g_Vs_l20Rd_pick0_2 r0 r1 a2)]])
  | _ => none
theorem vs_l20Rd_pick0 (r0 : List Int) (r1 : Int) (a2 : Int) : collapseH .std Es_l20Rd_pick0 Os_l20Rd_pick0_0 (execFn Es_l20Rd_pick0 Go.Proofs.Tryd.f127 mss_l20Rd_pick0 [.val true [.sl .any 5 (.int .u8) r0, .int .i64 r1], .val false [.int .i64 a2]]) = some ((g_As_l20Rd_pick0 r0 r1 a2), .val false [.int .i64 (g_Vs_l20Rd_pick0_0 r0 r1 a2)], [[.sl .any 5 (.int .u8) (g_Vs_l20Rd_pick0_1 r0 r1 a2), .int .i64 (g_Vs_l20Rd_pick0_2 r0 r1 a2)]]) := by kernel_rfl
theorem ss_l20Rd_pick0 : Sound Go.Proofs.Tryd.prog 127 mss_l20Rd_pick0 Fs_l20Rd_pick0 := by
  refine fn_gen goods_l20Rd_pick0 (by kernel_rfl) .std (fn := Go.Proofs.Tryd.f127) (c := (Go.Proofs.Tryd.f127.body.getD .skip)) (o := Os_l20Rd_pick0_0) (k := 0) (by kernel_rfl) (by kernel_rfl) (by kernel_rfl) (by kernel_rfl) (by decide) ks_l20Rd_pick0_0 ?_
  intro ys r outs h
  unfold Fs_l20Rd_pick0 at h
  split at h
  · exact (vs_l20Rd_pick0 _ _ _).trans h
  · cases h
end Go.Proofs.YtkjeicijcecmlaaDoor.E
end
section
namespace Go.Proofs.YtkjeicijcecmlaaDoor.E
open Go
set_option maxRecDepth 100000
set_option linter.all false
noncomputable def mss_l20Rd_pick : List PM := mss_l20Rd_pick0
/-- A number from 0 on, below n. -/
noncomputable def g_pick (r0 : List Int) (r1 : Int) (n : Int) : Int := g_Vs_l20Rd_pick0_0 r0 r1 n
noncomputable def g_pickA (r0 : List Int) (r1 : Int) (n : Int) : Bool := g_As_l20Rd_pick0 r0 r1 n
noncomputable def Fs_l20Rd_pick : FSem := fun ys => match ys with
  | [.val true [.sl .any 5 (.int .u8) r0, .int .i64 r1], .val false [.int .i64 a2]] => some (g_pickA r0 r1 a2, .val false [.int .i64 (g_pick r0 r1 a2)], [[.sl .any 5 (.int .u8) r0, .int .i64 (IntKind.wrap .i64 (r1 + 1))]])
  | _ => none
theorem ss_l20Rd_pick : Sound Go.Proofs.Tryd.prog 127 mss_l20Rd_pick Fs_l20Rd_pick := by
  refine ⟨ss_l20Rd_pick0.fn, fun w S ψ ys vs r outs hF hh hg => ss_l20Rd_pick0.calls w S ψ ys vs r outs (Eq.trans ?_ hF) hh hg⟩
  unfold Fs_l20Rd_pick at hF ⊢
  split at hF
  · rename_i r0 r1 a2
    have e1 : g_Vs_l20Rd_pick0_1 r0 r1 a2 = r0 := by unfold g_Vs_l20Rd_pick0_1; generalize decide (a2 < (1 : Int)) = p; generalize ((r0.length : Int) == (0 : Int)) = q; cases p <;> cases q <;> simp
    have e2 : g_Vs_l20Rd_pick0_2 r0 r1 a2 = IntKind.wrap .i64 (r1 + 1) := by unfold g_Vs_l20Rd_pick0_2; generalize decide (a2 < (1 : Int)) = p; generalize ((r0.length : Int) == (0 : Int)) = q; cases p <;> cases q <;> simp
    show some (g_As_l20Rd_pick0 r0 r1 a2, RV.val false [Cell.int .i64 (g_Vs_l20Rd_pick0_0 r0 r1 a2)], [[Cell.sl .any 5 (.int .u8) (g_Vs_l20Rd_pick0_1 r0 r1 a2), Cell.int .i64 (g_Vs_l20Rd_pick0_2 r0 r1 a2)]]) = _
    rw [e1, e2]
    rfl
  · cases hF
end Go.Proofs.YtkjeicijcecmlaaDoor.E
end
section
namespace Go.Proofs.YtkjeicijcecmlaaDoor.E
open Go
set_option maxRecDepth 100000
set_option maxHeartbeats 0
set_option linter.all false
noncomputable def Es_l20Rd_odd : Env where
  tt := mkTI Go.Proofs.Tryd.prog
  fn := fun f => match f with
    | 127 => some (mss_l20Rd_pick, FSem.wk mss_l20Rd_pick Fs_l20Rd_pick)
    | _ => none
  bxf := fun _ => none
  mv := []
  keep := fun _ => []
  keepB := fun _ => []
  keepX := fun _ => []
  keepXB := fun _ => []
theorem goodFs_l20Rd_odd : ∀ f ms F, Es_l20Rd_odd.fn f = some (ms, F) → Sound Go.Proofs.Tryd.prog f ms F := fun f ms F h => by
  unfold Es_l20Rd_odd at h
  dsimp only at h
  split at h
  · injection h with h; injection h with e1 e2; subst e1 e2; exact Sound.wk ss_l20Rd_pick
  · cases h
theorem goodBs_l20Rd_odd : ∀ f ms F, Es_l20Rd_odd.bxf f = some (ms, F) → SoundB Go.Proofs.Tryd.prog f ms F := fun f ms F h => by cases h
theorem goods_l20Rd_odd : Good Go.Proofs.Tryd.prog Es_l20Rd_odd := ⟨rfl, goodFs_l20Rd_odd, goodBs_l20Rd_odd⟩
noncomputable def Os_l20Rd_odd_0 : Orc := fun _ _ => none
noncomputable def mss_l20Rd_odd : List PM := [.bx, .own]
noncomputable def lss_l20Rd_odd : List (Nat × Code) := loopsAll 0 (Go.Proofs.Tryd.f79.body.getD .skip)

theorem ks_l20Rd_odd_0 : OrcOk Es_l20Rd_odd Os_l20Rd_odd_0 lss_l20Rd_odd 0 := orcOk_none
noncomputable def g_As_l20Rd_odd (r0 : List Int) (r1 : Int) (a2 : Int) : Bool := !decide (a2 > (0 : Int)) || g_pickA r0 r1 a2 && true
noncomputable def g_Vs_l20Rd_odd_0 (r0 : List Int) (r1 : Int) (a2 : Int) : Bool := bif decide (a2 > (0 : Int)) then g_pick r0 r1 a2 == IntKind.wrap IntKind.i64 (a2 - (1 : Int)) else false
noncomputable def g_Vs_l20Rd_odd_1 (r0 : List Int) (r1 : Int) (a2 : Int) : List (Int) := bif decide (a2 > (0 : Int)) then r0 else r0
noncomputable def g_Vs_l20Rd_odd_2 (r0 : List Int) (r1 : Int) (a2 : Int) : Int := bif decide (a2 > (0 : Int)) then IntKind.wrap IntKind.i64 (r1 + (1 : Int)) else r1
noncomputable def Fs_l20Rd_odd : FSem := fun ys => match ys with
  | [.val true [.sl .any 5 (.int .u8) r0, .int .i64 r1], .val false [.int .i64 a2]] => some ((g_As_l20Rd_odd r0 r1 a2), .val false [.bool (g_Vs_l20Rd_odd_0 r0 r1 a2)], [[.sl .any 5 (.int .u8) (g_Vs_l20Rd_odd_1 r0 r1 a2), .int .i64 (g_Vs_l20Rd_odd_2 r0 r1 a2)]])
  | _ => none
theorem vs_l20Rd_odd (r0 : List Int) (r1 : Int) (a2 : Int) : collapseH .std Es_l20Rd_odd Os_l20Rd_odd_0 (execFn Es_l20Rd_odd Go.Proofs.Tryd.f79 mss_l20Rd_odd [.val true [.sl .any 5 (.int .u8) r0, .int .i64 r1], .val false [.int .i64 a2]]) = some ((g_As_l20Rd_odd r0 r1 a2), .val false [.bool (g_Vs_l20Rd_odd_0 r0 r1 a2)], [[.sl .any 5 (.int .u8) (g_Vs_l20Rd_odd_1 r0 r1 a2), .int .i64 (g_Vs_l20Rd_odd_2 r0 r1 a2)]]) := by kernel_rfl
theorem ss_l20Rd_odd : Sound Go.Proofs.Tryd.prog 79 mss_l20Rd_odd Fs_l20Rd_odd := by
  refine fn_gen goods_l20Rd_odd (by kernel_rfl) .std (fn := Go.Proofs.Tryd.f79) (c := (Go.Proofs.Tryd.f79.body.getD .skip)) (o := Os_l20Rd_odd_0) (k := 0) (by kernel_rfl) (by kernel_rfl) (by kernel_rfl) (by kernel_rfl) (by decide) ks_l20Rd_odd_0 ?_
  intro ys r outs h
  unfold Fs_l20Rd_odd at h
  split at h
  · exact (vs_l20Rd_odd _ _ _).trans h
  · cases h
end Go.Proofs.YtkjeicijcecmlaaDoor.E
end
section
namespace Go.Proofs.YtkjeicijcecmlaaDoor.E
open Go
set_option maxRecDepth 100000
set_option linter.all false
noncomputable def mss_l20Rd_oddR : List PM := mss_l20Rd_odd
theorem sames_l20Rd_odd (r0 : List Int) (r1 : Int) (a2 : Int) : g_Vs_l20Rd_odd_1 r0 r1 a2 = r0 := by
  unfold g_Vs_l20Rd_odd_1
  simp only [Bool.cond_self]
noncomputable def Fs_l20Rd_oddR : FSem := fun ys => match ys with
  | [.val true [.sl .any 5 (.int .u8) r0, .int .i64 r1], .val false [.int .i64 a2]] => some ((g_As_l20Rd_odd r0 r1 a2), .val false [.bool (g_Vs_l20Rd_odd_0 r0 r1 a2)], [[.sl .any 5 (.int .u8) r0, .int .i64 (g_Vs_l20Rd_odd_2 r0 r1 a2)]])
  | _ => none
theorem ss_l20Rd_oddR : Sound Go.Proofs.Tryd.prog 79 mss_l20Rd_oddR Fs_l20Rd_oddR := by
  refine ⟨ss_l20Rd_odd.fn, fun w S ψ ys vs r outs hF hh hg => ss_l20Rd_odd.calls w S ψ ys vs r outs (Eq.trans ?_ hF) hh hg⟩
  unfold Fs_l20Rd_oddR at hF ⊢
  split at hF
  · rename_i  r0 r1 a2
    show (some ((g_As_l20Rd_odd r0 r1 a2), .val false [.bool (g_Vs_l20Rd_odd_0 r0 r1 a2)], [[.sl .any 5 (.int .u8) (g_Vs_l20Rd_odd_1 r0 r1 a2), .int .i64 (g_Vs_l20Rd_odd_2 r0 r1 a2)]]) : Option (Bool × RV × List (List Cell))) = _
    rw [sames_l20Rd_odd]
  · cases hF
end Go.Proofs.YtkjeicijcecmlaaDoor.E
end
section
namespace Go.Proofs.YtkjeicijcecmlaaDoor.E
open Go
set_option maxRecDepth 100000
set_option maxHeartbeats 0
set_option linter.all false
noncomputable def Es_l20Val : Env where
  tt := mkTI Go.Proofs.Tryd.prog
  fn := fun f => match f with
    | 79 => some (mss_l20Rd_oddR, FSem.wk mss_l20Rd_oddR Fs_l20Rd_oddR)
    | 127 => some (mss_l20Rd_pick, FSem.wk mss_l20Rd_pick Fs_l20Rd_pick)
    | _ => none
  bxf := fun _ => none
  mv := []
  keep := fun b => match b with
    | 0 => [(0, false), (1, false), (5, false), (6, false)]
    | _ => []
  keepB := fun b => match b with
    | 0 => [(0, false)]
    | _ => []
  keepX := fun b => match b with
    | 0 => [(0, false), (1, false), (5, false)]
    | _ => []
  keepXB := fun b => match b with
    | 0 => [(0, false)]
    | _ => []
theorem goodFs_l20Val : ∀ f ms F, Es_l20Val.fn f = some (ms, F) → Sound Go.Proofs.Tryd.prog f ms F := fun f ms F h => by
  unfold Es_l20Val at h
  dsimp only at h
  split at h
  · injection h with h; injection h with e1 e2; subst e1 e2; exact Sound.wk ss_l20Rd_oddR
  · injection h with h; injection h with e1 e2; subst e1 e2; exact Sound.wk ss_l20Rd_pick
  · cases h
theorem goodBs_l20Val : ∀ f ms F, Es_l20Val.bxf f = some (ms, F) → SoundB Go.Proofs.Tryd.prog f ms F := fun f ms F h => by cases h
theorem goods_l20Val : Good Go.Proofs.Tryd.prog Es_l20Val := ⟨rfl, goodFs_l20Val, goodBs_l20Val⟩
noncomputable def Os_l20Val_0 : Orc := fun _ _ => none
noncomputable def mss_l20Val : List PM := [.bx, .own]
noncomputable def lss_l20Val : List (Nat × Code) := loopsAll 0 (Go.Proofs.Tryd.f128.body.getD .skip)
noncomputable def cs_l20Val_0 : Code := (loopOf 0 (Go.Proofs.Tryd.f128.body.getD .skip)).getD .skip
theorem lseqs_l20Val : lss_l20Val = [(0, cs_l20Val_0)] := by kernel_rfl
theorem ms_l20Val_0 : ∀ p, p ∈ lss_l20Val → p.1 = 0 → p.2 = cs_l20Val_0 := by
  intro p hp
  rw [lseqs_l20Val] at hp
  simp only [List.mem_cons, List.not_mem_nil, or_false] at hp
  subst hp; simp
theorem ks_l20Val_0 : OrcOk Es_l20Val Os_l20Val_0 lss_l20Val 0 := orcOk_none
noncomputable def hs_l20Val_0 (y0 : Int) (y1 : List (Int)) (y2 : Int) (y3 : List (Int)) (y4 : Int) : List (Pl × LV) := [(.T 0, .t (.val false [.ptr 0 0 0])), (.T 1, .t (.val false [.int .i64 y0])), (.T 5, .t (.val false [.row 5 0 0])), (.R 5 0, .r 0 (some ⟨false, .non, true, 3, (.int .i64), y1⟩)), (.T 6, .t (.val false [.int .i64 y2])), (.B 0, .b 0 false [.sl .any 5 (.int .u8) y3, .int .i64 y4])]
noncomputable def g_Ss_l20Val_0 (y0 : Int) (y3 : List (Int)) : ((List (Int)) × (Int) × (Int)) → RT ((List (Int)) × (Int) × (Int)) (((List (Int)) × (Int)))
  | (y1, y2, y4) => .br (true) (.br (decide (y2 > (0 : Int))) (.br (g_pickA y3 y4 (12 : Int)) (.br (decide ((List.length y1 + List.length [g_pick y3 y4 (12 : Int)]) * nat_lit 8 ≤ nat_lit 140737488355328 ∧ List.length y1 + List.length [g_pick y3 y4 (12 : Int)] ≤ nat_lit 9223372036854775807)) (.br (true) (.go ((y1 ++ [g_pick y3 y4 (12 : Int)], IntKind.wrap IntKind.i64 (y2 - (1 : Int)), IntKind.wrap IntKind.i64 (y4 + (1 : Int))))) (.bad)) (.bad)) (.bad)) (.out ((y1, y4)))) (.bad)
noncomputable def g_Ls_l20Val_0 (y0 : Int) (y3 : List (Int)) (x : (List (Int)) × (Int) × (Int)) : Option (((List (Int)) × (Int))) := loopO (g_Ss_l20Val_0 y0 y3) x
noncomputable def xs_l20Val_0 (y0 : Int) (y3 : List (Int)) : (((List (Int)) × (Int))) → Ex × List (Pl × LV) := fun r => (.exit 0, [(.T 0, .t (.val false [.ptr 0 0 0])), (.T 1, .t (.val false [.int .i64 y0])), (.T 5, .t (.val false [.row 5 0 0])), (.R 5 0, .r 0 (some ⟨false, .non, true, 3, (.int .i64), r.1⟩)), (.B 0, .b 0 false [.sl .any 5 (.int .u8) y3, .int .i64 r.2])])
noncomputable def Os_l20Val_1 : Orc := fun b h => match b, h with
  | 0, [(.T 0, .t (.val false [.ptr 0 0 0])), (.T 1, .t (.val false [.int .i64 y0])), (.T 5, .t (.val false [.row 5 0 0])), (.R 5 0, .r 0 (some ⟨false, .non, true, 3, (.int .i64), y1⟩)), (.T 6, .t (.val false [.int .i64 y2])), (.B 0, .b 0 false [.sl .any 5 (.int .u8) y3, .int .i64 y4])] => some (okO (g_Ls_l20Val_0 y0 y3 (y1, y2, y4)), (.leaf (.exit 0) [(.T 0, .t (.val false [.ptr 0 0 0])), (.T 1, .t (.val false [.int .i64 y0])), (.T 5, .t (.val false [.row 5 0 0])), (.R 5 0, .r 0 (some ⟨false, .non, true, 3, (.int .i64), (valO (g_Ls_l20Val_0 y0 y3 (y1, y2, y4))).1⟩)), (.B 0, .b 0 false [.sl .any 5 (.int .u8) y3, .int .i64 (valO (g_Ls_l20Val_0 y0 y3 (y1, y2, y4))).2])]))
  | b, h => Os_l20Val_0 b h
theorem bs_l20Val_0 (y0 : Int) (y1 : List (Int)) (y2 : Int) (y3 : List (Int)) (y4 : Int) : Tr.bt Es_l20Val Os_l20Val_0 (exec Es_l20Val 0 cs_l20Val_0 (St.of (hs_l20Val_0 y0 y1 y2 y3 y4)) (leafRd Es_l20Val 0)) = (g_Ss_l20Val_0 y0 y3 (y1, y2, y4)).bt (fun ((y1, y2, y4) : (List (Int)) × (Int) × (Int)) => (hs_l20Val_0 y0 y1 y2 y3 y4)) (xs_l20Val_0 y0 y3) := by kernel_rfl
theorem ks_l20Val_1 : OrcOk Es_l20Val Os_l20Val_1 lss_l20Val 1 := orc_add ks_l20Val_0 (fun n p hp h ex h' ho => by
  obtain ⟨b, c⟩ := p
  obtain ⟨xt, h1, h2⟩ := ho
  have h1 : Os_l20Val_1 b h = some (true, xt) := h1
  unfold Os_l20Val_1 at h1
  split at h1
  · injection h1 with h1
    injection h1 with e1 e2
    subst e2
    have hc : c = cs_l20Val_0 := ms_l20Val_0 _ hp rfl
    subst hc
    right
    rename_i y0 y1 y2 y3 y4
    have key := LT_step ks_l20Val_0 hp (fun q hq => loopsAll_in _ _ _ _ hp hq) (fun ((y1, y2, y4) : (List (Int)) × (Int) × (Int)) => (hs_l20Val_0 y0 y1 y2 y3 y4)) (xs_l20Val_0 y0 y3) (g_Ss_l20Val_0 y0 y3) (fun x => by first | exact bs_l20Val_0 y0 x.1 x.2.1 y3 x.2.2) n (x := (y1, y2, y4)) (okO_some e1)
    have hx : ∀ r, XT.sel (.leaf (.exit 0) [(.T 0, .t (.val false [.ptr 0 0 0])), (.T 1, .t (.val false [.int .i64 y0])), (.T 5, .t (.val false [.row 5 0 0])), (.R 5 0, .r 0 (some ⟨false, .non, true, 3, (.int .i64), r.1⟩)), (.B 0, .b 0 false [.sl .any 5 (.int .u8) y3, .int .i64 r.2])]) = xs_l20Val_0 y0 y3 r := fun r => by first | rfl | (rcases r with r | r <;> rfl) | (rcases r with r | r | r <;> rfl) | (rcases r with r | r | r | r <;> rfl)
    have h3 := (hx (valO (g_Ls_l20Val_0 y0 y3 (y1, y2, y4)))).symm.trans h2
    have e3 := congrArg Prod.fst h3
    have e4 := congrArg Prod.snd h3
    simp only at e3 e4
    rw [← e3, ← e4]
    exact key
  · exact .inl ⟨xt, h1, h2⟩)
noncomputable def g_As_l20Val (r0 : List Int) (r1 : Int) (a2 : Int) : Bool := g_pickA r0 r1 (4 : Int) && (g_pickA r0 (IntKind.wrap IntKind.i64 (r1 + (1 : Int))) (3 : Int) && (okO (g_Ls_l20Val_0 a2 r0 ([g_pick r0 r1 (4 : Int)], g_pick r0 (IntKind.wrap IntKind.i64 (r1 + (1 : Int))) (3 : Int), IntKind.wrap IntKind.i64 (IntKind.wrap IntKind.i64 (r1 + (1 : Int)) + (1 : Int)))) && (g_As_l20Rd_odd r0 (valO (g_Ls_l20Val_0 a2 r0 ([g_pick r0 r1 (4 : Int)], g_pick r0 (IntKind.wrap IntKind.i64 (r1 + (1 : Int))) (3 : Int), IntKind.wrap IntKind.i64 (IntKind.wrap IntKind.i64 (r1 + (1 : Int)) + (1 : Int))))).2 a2 && (!g_Vs_l20Rd_odd_0 r0 (valO (g_Ls_l20Val_0 a2 r0 ([g_pick r0 r1 (4 : Int)], g_pick r0 (IntKind.wrap IntKind.i64 (r1 + (1 : Int))) (3 : Int), IntKind.wrap IntKind.i64 (IntKind.wrap IntKind.i64 (r1 + (1 : Int)) + (1 : Int))))).2 a2 || g_pickA r0 (g_Vs_l20Rd_odd_2 r0 (valO (g_Ls_l20Val_0 a2 r0 ([g_pick r0 r1 (4 : Int)], g_pick r0 (IntKind.wrap IntKind.i64 (r1 + (1 : Int))) (3 : Int), IntKind.wrap IntKind.i64 (IntKind.wrap IntKind.i64 (r1 + (1 : Int)) + (1 : Int))))).2 a2) (4 : Int) && (decide ((0 : Int) ≤ g_pick r0 (g_Vs_l20Rd_odd_2 r0 (valO (g_Ls_l20Val_0 a2 r0 ([g_pick r0 r1 (4 : Int)], g_pick r0 (IntKind.wrap IntKind.i64 (r1 + (1 : Int))) (3 : Int), IntKind.wrap IntKind.i64 (IntKind.wrap IntKind.i64 (r1 + (1 : Int)) + (1 : Int))))).2 a2) (4 : Int) ∧ g_pick r0 (g_Vs_l20Rd_odd_2 r0 (valO (g_Ls_l20Val_0 a2 r0 ([g_pick r0 r1 (4 : Int)], g_pick r0 (IntKind.wrap IntKind.i64 (r1 + (1 : Int))) (3 : Int), IntKind.wrap IntKind.i64 (IntKind.wrap IntKind.i64 (r1 + (1 : Int)) + (1 : Int))))).2 a2) (4 : Int) < (4 : Int)) && decide (Int.toNat (g_pick r0 (g_Vs_l20Rd_odd_2 r0 (valO (g_Ls_l20Val_0 a2 r0 ([g_pick r0 r1 (4 : Int)], g_pick r0 (IntKind.wrap IntKind.i64 (r1 + (1 : Int))) (3 : Int), IntKind.wrap IntKind.i64 (IntKind.wrap IntKind.i64 (r1 + (1 : Int)) + (1 : Int))))).2 a2) (4 : Int)) < nat_lit 4))))))
noncomputable def g_Vs_l20Val_0 (r0 : List Int) (r1 : Int) (a2 : Int) : List (Int) := bif g_Vs_l20Rd_odd_0 r0 (valO (g_Ls_l20Val_0 a2 r0 ([g_pick r0 r1 (4 : Int)], g_pick r0 (IntKind.wrap IntKind.i64 (r1 + (1 : Int))) (3 : Int), IntKind.wrap IntKind.i64 (IntKind.wrap IntKind.i64 (r1 + (1 : Int)) + (1 : Int))))).2 a2 then at_ (Ty.sl (nat_lit 3) (Ty.int IntKind.i64)) [[], [(-1 : Int)], [(10000 : Int)], [(1 : Int), (2 : Int), (3 : Int), (4 : Int)]] (Int.toNat (g_pick r0 (g_Vs_l20Rd_odd_2 r0 (valO (g_Ls_l20Val_0 a2 r0 ([g_pick r0 r1 (4 : Int)], g_pick r0 (IntKind.wrap IntKind.i64 (r1 + (1 : Int))) (3 : Int), IntKind.wrap IntKind.i64 (IntKind.wrap IntKind.i64 (r1 + (1 : Int)) + (1 : Int))))).2 a2) (4 : Int))) else (valO (g_Ls_l20Val_0 a2 r0 ([g_pick r0 r1 (4 : Int)], g_pick r0 (IntKind.wrap IntKind.i64 (r1 + (1 : Int))) (3 : Int), IntKind.wrap IntKind.i64 (IntKind.wrap IntKind.i64 (r1 + (1 : Int)) + (1 : Int))))).1
noncomputable def g_Vs_l20Val_1 (r0 : List Int) (r1 : Int) (a2 : Int) : List (Int) := bif g_Vs_l20Rd_odd_0 r0 (valO (g_Ls_l20Val_0 a2 r0 ([g_pick r0 r1 (4 : Int)], g_pick r0 (IntKind.wrap IntKind.i64 (r1 + (1 : Int))) (3 : Int), IntKind.wrap IntKind.i64 (IntKind.wrap IntKind.i64 (r1 + (1 : Int)) + (1 : Int))))).2 a2 then r0 else r0
noncomputable def g_Vs_l20Val_2 (r0 : List Int) (r1 : Int) (a2 : Int) : Int := bif g_Vs_l20Rd_odd_0 r0 (valO (g_Ls_l20Val_0 a2 r0 ([g_pick r0 r1 (4 : Int)], g_pick r0 (IntKind.wrap IntKind.i64 (r1 + (1 : Int))) (3 : Int), IntKind.wrap IntKind.i64 (IntKind.wrap IntKind.i64 (r1 + (1 : Int)) + (1 : Int))))).2 a2 then IntKind.wrap IntKind.i64 (g_Vs_l20Rd_odd_2 r0 (valO (g_Ls_l20Val_0 a2 r0 ([g_pick r0 r1 (4 : Int)], g_pick r0 (IntKind.wrap IntKind.i64 (r1 + (1 : Int))) (3 : Int), IntKind.wrap IntKind.i64 (IntKind.wrap IntKind.i64 (r1 + (1 : Int)) + (1 : Int))))).2 a2 + (1 : Int)) else g_Vs_l20Rd_odd_2 r0 (valO (g_Ls_l20Val_0 a2 r0 ([g_pick r0 r1 (4 : Int)], g_pick r0 (IntKind.wrap IntKind.i64 (r1 + (1 : Int))) (3 : Int), IntKind.wrap IntKind.i64 (IntKind.wrap IntKind.i64 (r1 + (1 : Int)) + (1 : Int))))).2 a2
noncomputable def Fs_l20Val : FSem := fun ys => match ys with
  | [.val true [.sl .any 5 (.int .u8) r0, .int .i64 r1], .val false [.int .i64 a2]] => some ((g_As_l20Val r0 r1 a2), .val false [.sl .any 3 (.int .i64) (g_Vs_l20Val_0 r0 r1 a2)], [[.sl .any 5 (.int .u8) (g_Vs_l20Val_1 r0 r1 a2), .int .i64 (g_Vs_l20Val_2 r0 r1 a2)]])
  | _ => none
theorem vs_l20Val (r0 : List Int) (r1 : Int) (a2 : Int) : collapseH .fr Es_l20Val Os_l20Val_1 (execFn Es_l20Val Go.Proofs.Tryd.f128 mss_l20Val [.val true [.sl .any 5 (.int .u8) r0, .int .i64 r1], .val false [.int .i64 a2]]) = some ((g_As_l20Val r0 r1 a2), .val false [.sl .any 3 (.int .i64) (g_Vs_l20Val_0 r0 r1 a2)], [[.sl .any 5 (.int .u8) (g_Vs_l20Val_1 r0 r1 a2), .int .i64 (g_Vs_l20Val_2 r0 r1 a2)]]) := by kernel_rfl
theorem ss_l20Val : Sound Go.Proofs.Tryd.prog 128 mss_l20Val Fs_l20Val := by
  refine fn_gen goods_l20Val (by kernel_rfl) .fr (fn := Go.Proofs.Tryd.f128) (c := (Go.Proofs.Tryd.f128.body.getD .skip)) (o := Os_l20Val_1) (k := 1) (by kernel_rfl) (by kernel_rfl) (by kernel_rfl) (by kernel_rfl) (by decide) ks_l20Val_1 ?_
  intro ys r outs h
  unfold Fs_l20Val at h
  split at h
  · exact (vs_l20Val _ _ _).trans h
  · cases h
end Go.Proofs.YtkjeicijcecmlaaDoor.E
end
section
namespace Go.Proofs.YtkjeicijcecmlaaDoor.E
open Go
set_option maxRecDepth 100000
set_option linter.all false
noncomputable def mss_l20ValR : List PM := mss_l20Val
theorem sames_l20Val (r0 : List Int) (r1 : Int) (a2 : Int) : g_Vs_l20Val_1 r0 r1 a2 = r0 := by
  unfold g_Vs_l20Val_1
  simp only [Bool.cond_self]
noncomputable def Fs_l20ValR : FSem := fun ys => match ys with
  | [.val true [.sl .any 5 (.int .u8) r0, .int .i64 r1], .val false [.int .i64 a2]] => some ((g_As_l20Val r0 r1 a2), .val false [.sl .any 3 (.int .i64) (g_Vs_l20Val_0 r0 r1 a2)], [[.sl .any 5 (.int .u8) r0, .int .i64 (g_Vs_l20Val_2 r0 r1 a2)]])
  | _ => none
theorem ss_l20ValR : Sound Go.Proofs.Tryd.prog 128 mss_l20ValR Fs_l20ValR := by
  refine ⟨ss_l20Val.fn, fun w S ψ ys vs r outs hF hh hg => ss_l20Val.calls w S ψ ys vs r outs (Eq.trans ?_ hF) hh hg⟩
  unfold Fs_l20ValR at hF ⊢
  split at hF
  · rename_i  r0 r1 a2
    show (some ((g_As_l20Val r0 r1 a2), .val false [.sl .any 3 (.int .i64) (g_Vs_l20Val_0 r0 r1 a2)], [[.sl .any 5 (.int .u8) (g_Vs_l20Val_1 r0 r1 a2), .int .i64 (g_Vs_l20Val_2 r0 r1 a2)]]) : Option (Bool × RV × List (List Cell))) = _
    rw [sames_l20Val]
  · cases hF
end Go.Proofs.YtkjeicijcecmlaaDoor.E
end
section
namespace Go.Proofs.YtkjeicijcecmlaaDoor.E
open Go
set_option maxRecDepth 100000
set_option maxHeartbeats 0
set_option linter.all false
noncomputable def Es_l3Digit : Env where
  tt := mkTI Go.Proofs.Tryd.prog
  fn := fun _ => none
  bxf := fun _ => none
  mv := []
  keep := fun _ => []
  keepB := fun _ => []
  keepX := fun _ => []
  keepXB := fun _ => []
theorem goodFs_l3Digit : ∀ f ms F, Es_l3Digit.fn f = some (ms, F) → Sound Go.Proofs.Tryd.prog f ms F := fun f ms F h => by cases h
theorem goodBs_l3Digit : ∀ f ms F, Es_l3Digit.bxf f = some (ms, F) → SoundB Go.Proofs.Tryd.prog f ms F := fun f ms F h => by cases h
theorem goods_l3Digit : Good Go.Proofs.Tryd.prog Es_l3Digit := ⟨rfl, goodFs_l3Digit, goodBs_l3Digit⟩
noncomputable def Os_l3Digit_0 : Orc := fun _ _ => none
noncomputable def mss_l3Digit : List PM := [.own]
noncomputable def lss_l3Digit : List (Nat × Code) := loopsAll 0 (Go.Proofs.Tryd.f134.body.getD .skip)

theorem ks_l3Digit_0 : OrcOk Es_l3Digit Os_l3Digit_0 lss_l3Digit 0 := orcOk_none
noncomputable def g_Vs_l3Digit_0 (a0 : Int) : ByteArray := { data := List.toArray (List.map (fun n => UInt8.ofNat (Int.toNat n)) [IntKind.wrap IntKind.u8 (IntKind.wrap IntKind.i64 ((48 : Int) + a0))]) }
noncomputable def Fs_l3Digit : FSem := fun ys => match ys with
  | [.val false [.int .i64 a0]] => some (true, .val false [.str (g_Vs_l3Digit_0 a0)], [])
  | _ => none
theorem vs_l3Digit (a0 : Int) : collapseH .std Es_l3Digit Os_l3Digit_0 (execFn Es_l3Digit Go.Proofs.Tryd.f134 mss_l3Digit [.val false [.int .i64 a0]]) = some (true, .val false [.str (g_Vs_l3Digit_0 a0)], []) := by kernel_rfl
theorem ss_l3Digit : Sound Go.Proofs.Tryd.prog 134 mss_l3Digit Fs_l3Digit := by
  refine fn_gen goods_l3Digit (by kernel_rfl) .std (fn := Go.Proofs.Tryd.f134) (c := (Go.Proofs.Tryd.f134.body.getD .skip)) (o := Os_l3Digit_0) (k := 0) (by kernel_rfl) (by kernel_rfl) (by kernel_rfl) (by kernel_rfl) (by decide) ks_l3Digit_0 ?_
  intro ys r outs h
  unfold Fs_l3Digit at h
  split at h
  · exact (vs_l3Digit _).trans h
  · cases h
end Go.Proofs.YtkjeicijcecmlaaDoor.E
end
section
namespace Go.Proofs.YtkjeicijcecmlaaDoor.E
open Go
set_option maxRecDepth 100000
set_option maxHeartbeats 0
set_option linter.all false
noncomputable def Es_l3Plain : Env where
  tt := mkTI Go.Proofs.Tryd.prog
  fn := fun f => match f with
    | 134 => some (mss_l3Digit, FSem.wk mss_l3Digit Fs_l3Digit)
    | _ => none
  bxf := fun _ => none
  mv := []
  keep := fun b => match b with
    | 0 => [(0, false), (3, false)]
    | _ => []
  keepB := fun b => match b with
    | 0 => []
    | _ => []
  keepX := fun b => match b with
    | 0 => [(0, false), (3, false)]
    | _ => []
  keepXB := fun b => match b with
    | 0 => []
    | _ => []
theorem goodFs_l3Plain : ∀ f ms F, Es_l3Plain.fn f = some (ms, F) → Sound Go.Proofs.Tryd.prog f ms F := fun f ms F h => by
  unfold Es_l3Plain at h
  dsimp only at h
  split at h
  · injection h with h; injection h with e1 e2; subst e1 e2; exact Sound.wk ss_l3Digit
  · cases h
theorem goodBs_l3Plain : ∀ f ms F, Es_l3Plain.bxf f = some (ms, F) → SoundB Go.Proofs.Tryd.prog f ms F := fun f ms F h => by cases h
theorem goods_l3Plain : Good Go.Proofs.Tryd.prog Es_l3Plain := ⟨rfl, goodFs_l3Plain, goodBs_l3Plain⟩
noncomputable def Os_l3Plain_0 : Orc := fun _ _ => none
noncomputable def mss_l3Plain : List PM := [.own]
noncomputable def lss_l3Plain : List (Nat × Code) := loopsAll 0 (Go.Proofs.Tryd.f80.body.getD .skip)
noncomputable def cs_l3Plain_0 : Code := (loopOf 0 (Go.Proofs.Tryd.f80.body.getD .skip)).getD .skip
theorem lseqs_l3Plain : lss_l3Plain = [(0, cs_l3Plain_0)] := by kernel_rfl
theorem ms_l3Plain_0 : ∀ p, p ∈ lss_l3Plain → p.1 = 0 → p.2 = cs_l3Plain_0 := by
  intro p hp
  rw [lseqs_l3Plain] at hp
  simp only [List.mem_cons, List.not_mem_nil, or_false] at hp
  subst hp; simp
theorem ks_l3Plain_0 : OrcOk Es_l3Plain Os_l3Plain_0 lss_l3Plain 0 := orcOk_none
noncomputable def hs_l3Plain_0 (y0 : Int) (y1 : ByteArray) : List (Pl × LV) := [(.T 0, .t (.val false [.int .i64 y0])), (.T 3, .t (.val false [.str y1]))]
noncomputable def g_Ss_l3Plain_0 : ((Int) × (ByteArray)) → RT ((Int) × (ByteArray)) (((Int) × (ByteArray)))
  | (y0, y1) => .br (true) (.br (decide (y0 > (9 : Int))) (.br (true) (.br (true) (.br (decide (ByteArray.size (g_Vs_l3Digit_0 (Int.tmod y0 (10 : Int))) + ByteArray.size y1 ≤ nat_lit 9223372036854775807)) (.br (true) (.go ((IntKind.wrap IntKind.i64 (Int.tdiv y0 (10 : Int)), g_Vs_l3Digit_0 (Int.tmod y0 (10 : Int)) ++ y1))) (.bad)) (.bad)) (.bad)) (.bad)) (.out ((y0, y1)))) (.bad)
noncomputable def g_Ls_l3Plain_0 (x : (Int) × (ByteArray)) : Option (((Int) × (ByteArray))) := loopO (g_Ss_l3Plain_0) x
noncomputable def xs_l3Plain_0 : (((Int) × (ByteArray))) → Ex × List (Pl × LV) := fun r => (.exit 0, [(.T 0, .t (.val false [.int .i64 r.1])), (.T 3, .t (.val false [.str r.2]))])
noncomputable def Os_l3Plain_1 : Orc := fun b h => match b, h with
  | 0, [(.T 0, .t (.val false [.int .i64 y0])), (.T 3, .t (.val false [.str y1]))] => some (okO (g_Ls_l3Plain_0 (y0, y1)), (.leaf (.exit 0) [(.T 0, .t (.val false [.int .i64 (valO (g_Ls_l3Plain_0 (y0, y1))).1])), (.T 3, .t (.val false [.str (valO (g_Ls_l3Plain_0 (y0, y1))).2]))]))
  | b, h => Os_l3Plain_0 b h
theorem bs_l3Plain_0 (y0 : Int) (y1 : ByteArray) : Tr.bt Es_l3Plain Os_l3Plain_0 (exec Es_l3Plain 0 cs_l3Plain_0 (St.of (hs_l3Plain_0 y0 y1)) (leafRd Es_l3Plain 0)) = (g_Ss_l3Plain_0 (y0, y1)).bt (fun ((y0, y1) : (Int) × (ByteArray)) => (hs_l3Plain_0 y0 y1)) (xs_l3Plain_0) := by kernel_rfl
theorem ks_l3Plain_1 : OrcOk Es_l3Plain Os_l3Plain_1 lss_l3Plain 1 := orc_add ks_l3Plain_0 (fun n p hp h ex h' ho => by
  obtain ⟨b, c⟩ := p
  obtain ⟨xt, h1, h2⟩ := ho
  have h1 : Os_l3Plain_1 b h = some (true, xt) := h1
  unfold Os_l3Plain_1 at h1
  split at h1
  · injection h1 with h1
    injection h1 with e1 e2
    subst e2
    have hc : c = cs_l3Plain_0 := ms_l3Plain_0 _ hp rfl
    subst hc
    right
    rename_i y0 y1
    have key := LT_step ks_l3Plain_0 hp (fun q hq => loopsAll_in _ _ _ _ hp hq) (fun ((y0, y1) : (Int) × (ByteArray)) => (hs_l3Plain_0 y0 y1)) (xs_l3Plain_0) (g_Ss_l3Plain_0) (fun x => by first | exact bs_l3Plain_0 x.1 x.2) n (x := (y0, y1)) (okO_some e1)
    have hx : ∀ r, XT.sel (.leaf (.exit 0) [(.T 0, .t (.val false [.int .i64 r.1])), (.T 3, .t (.val false [.str r.2]))]) = xs_l3Plain_0 r := fun r => by first | rfl | (rcases r with r | r <;> rfl) | (rcases r with r | r | r <;> rfl) | (rcases r with r | r | r | r <;> rfl)
    have h3 := (hx (valO (g_Ls_l3Plain_0 (y0, y1)))).symm.trans h2
    have e3 := congrArg Prod.fst h3
    have e4 := congrArg Prod.snd h3
    simp only at e3 e4
    rw [← e3, ← e4]
    exact key
  · exact .inl ⟨xt, h1, h2⟩)
noncomputable def g_As_l3Plain (a0 : Int) : Bool := okO (g_Ls_l3Plain_0 (a0, lit [])) && decide (ByteArray.size (g_Vs_l3Digit_0 (valO (g_Ls_l3Plain_0 (a0, lit []))).1) + ByteArray.size (valO (g_Ls_l3Plain_0 (a0, lit []))).2 ≤ nat_lit 9223372036854775807)
noncomputable def g_Vs_l3Plain_0 (a0 : Int) : ByteArray := g_Vs_l3Digit_0 (valO (g_Ls_l3Plain_0 (a0, lit []))).1 ++ (valO (g_Ls_l3Plain_0 (a0, lit []))).2
noncomputable def Fs_l3Plain : FSem := fun ys => match ys with
  | [.val false [.int .i64 a0]] => some ((g_As_l3Plain a0), .val false [.str (g_Vs_l3Plain_0 a0)], [])
  | _ => none
theorem vs_l3Plain (a0 : Int) : collapseH .std Es_l3Plain Os_l3Plain_1 (execFn Es_l3Plain Go.Proofs.Tryd.f80 mss_l3Plain [.val false [.int .i64 a0]]) = some ((g_As_l3Plain a0), .val false [.str (g_Vs_l3Plain_0 a0)], []) := by kernel_rfl
theorem ss_l3Plain : Sound Go.Proofs.Tryd.prog 80 mss_l3Plain Fs_l3Plain := by
  refine fn_gen goods_l3Plain (by kernel_rfl) .std (fn := Go.Proofs.Tryd.f80) (c := (Go.Proofs.Tryd.f80.body.getD .skip)) (o := Os_l3Plain_1) (k := 1) (by kernel_rfl) (by kernel_rfl) (by kernel_rfl) (by kernel_rfl) (by decide) ks_l3Plain_1 ?_
  intro ys r outs h
  unfold Fs_l3Plain at h
  split at h
  · exact (vs_l3Plain _).trans h
  · cases h
end Go.Proofs.YtkjeicijcecmlaaDoor.E
end
section
namespace Go.Proofs.YtkjeicijcecmlaaDoor.E
open Go
set_option maxRecDepth 100000
set_option maxHeartbeats 0
set_option linter.all false
noncomputable def Es_l20Key : Env where
  tt := mkTI Go.Proofs.Tryd.prog
  fn := fun f => match f with
    | 79 => some (mss_l20Rd_oddR, FSem.wk mss_l20Rd_oddR Fs_l20Rd_oddR)
    | 80 => some (mss_l3Plain, FSem.wk mss_l3Plain Fs_l3Plain)
    | 127 => some (mss_l20Rd_pick, FSem.wk mss_l20Rd_pick Fs_l20Rd_pick)
    | _ => none
  bxf := fun _ => none
  mv := []
  keep := fun _ => []
  keepB := fun _ => []
  keepX := fun _ => []
  keepXB := fun _ => []
theorem goodFs_l20Key : ∀ f ms F, Es_l20Key.fn f = some (ms, F) → Sound Go.Proofs.Tryd.prog f ms F := fun f ms F h => by
  unfold Es_l20Key at h
  dsimp only at h
  split at h
  · injection h with h; injection h with e1 e2; subst e1 e2; exact Sound.wk ss_l20Rd_oddR
  · injection h with h; injection h with e1 e2; subst e1 e2; exact Sound.wk ss_l3Plain
  · injection h with h; injection h with e1 e2; subst e1 e2; exact Sound.wk ss_l20Rd_pick
  · cases h
theorem goodBs_l20Key : ∀ f ms F, Es_l20Key.bxf f = some (ms, F) → SoundB Go.Proofs.Tryd.prog f ms F := fun f ms F h => by cases h
theorem goods_l20Key : Good Go.Proofs.Tryd.prog Es_l20Key := ⟨rfl, goodFs_l20Key, goodBs_l20Key⟩
noncomputable def Os_l20Key_0 : Orc := fun _ _ => none
noncomputable def mss_l20Key : List PM := [.bx, .own]
noncomputable def lss_l20Key : List (Nat × Code) := loopsAll 0 (Go.Proofs.Tryd.f166.body.getD .skip)

theorem ks_l20Key_0 : OrcOk Es_l20Key Os_l20Key_0 lss_l20Key 0 := orcOk_none
noncomputable def g_As_l20Key (r0 : List Int) (r1 : Int) (a2 : Int) : Bool := g_pickA r0 r1 (5 : Int) && (decide ((0 : Int) ≤ g_pick r0 r1 (5 : Int) ∧ g_pick r0 r1 (5 : Int) < (5 : Int)) && (decide (Int.toNat (g_pick r0 r1 (5 : Int)) < nat_lit 5) && (g_pickA r0 (IntKind.wrap IntKind.i64 (r1 + (1 : Int))) (4 : Int) && (g_pickA r0 (IntKind.wrap IntKind.i64 (IntKind.wrap IntKind.i64 (r1 + (1 : Int)) + (1 : Int))) (30 : Int) && (g_pickA r0 (IntKind.wrap IntKind.i64 (IntKind.wrap IntKind.i64 (IntKind.wrap IntKind.i64 (r1 + (1 : Int)) + (1 : Int)) + (1 : Int))) (2 : Int) && (decide ((0 : Int) ≤ g_pick r0 (IntKind.wrap IntKind.i64 (IntKind.wrap IntKind.i64 (IntKind.wrap IntKind.i64 (r1 + (1 : Int)) + (1 : Int)) + (1 : Int))) (2 : Int) ∧ g_pick r0 (IntKind.wrap IntKind.i64 (IntKind.wrap IntKind.i64 (IntKind.wrap IntKind.i64 (r1 + (1 : Int)) + (1 : Int)) + (1 : Int))) (2 : Int) < (↑(List.length [g_pick r0 (IntKind.wrap IntKind.i64 (r1 + (1 : Int))) (4 : Int), g_pick r0 (IntKind.wrap IntKind.i64 (IntKind.wrap IntKind.i64 (r1 + (1 : Int)) + (1 : Int))) (30 : Int)]) : Int)) && (decide (Int.toNat (g_pick r0 (IntKind.wrap IntKind.i64 (IntKind.wrap IntKind.i64 (IntKind.wrap IntKind.i64 (r1 + (1 : Int)) + (1 : Int)) + (1 : Int))) (2 : Int)) < List.length [g_pick r0 (IntKind.wrap IntKind.i64 (r1 + (1 : Int))) (4 : Int), g_pick r0 (IntKind.wrap IntKind.i64 (IntKind.wrap IntKind.i64 (r1 + (1 : Int)) + (1 : Int))) (30 : Int)]) && (g_As_l3Plain (at_ (Ty.int IntKind.i64) [g_pick r0 (IntKind.wrap IntKind.i64 (r1 + (1 : Int))) (4 : Int), g_pick r0 (IntKind.wrap IntKind.i64 (IntKind.wrap IntKind.i64 (r1 + (1 : Int)) + (1 : Int))) (30 : Int)] (Int.toNat (g_pick r0 (IntKind.wrap IntKind.i64 (IntKind.wrap IntKind.i64 (IntKind.wrap IntKind.i64 (r1 + (1 : Int)) + (1 : Int)) + (1 : Int))) (2 : Int)))) && (decide (ByteArray.size (at_ Ty.str [lit [(115 : Nat)], lit [(99 : Nat)], lit [(102 : Nat)], lit [(117 : Nat)], lit [(97 : Nat)]] (Int.toNat (g_pick r0 r1 (5 : Int)))) + ByteArray.size (g_Vs_l3Plain_0 (at_ (Ty.int IntKind.i64) [g_pick r0 (IntKind.wrap IntKind.i64 (r1 + (1 : Int))) (4 : Int), g_pick r0 (IntKind.wrap IntKind.i64 (IntKind.wrap IntKind.i64 (r1 + (1 : Int)) + (1 : Int))) (30 : Int)] (Int.toNat (g_pick r0 (IntKind.wrap IntKind.i64 (IntKind.wrap IntKind.i64 (IntKind.wrap IntKind.i64 (r1 + (1 : Int)) + (1 : Int)) + (1 : Int))) (2 : Int))))) ≤ nat_lit 9223372036854775807) && (g_As_l20Rd_odd r0 (IntKind.wrap IntKind.i64 (IntKind.wrap IntKind.i64 (IntKind.wrap IntKind.i64 (IntKind.wrap IntKind.i64 (r1 + (1 : Int)) + (1 : Int)) + (1 : Int)) + (1 : Int))) a2 && (!g_Vs_l20Rd_odd_0 r0 (IntKind.wrap IntKind.i64 (IntKind.wrap IntKind.i64 (IntKind.wrap IntKind.i64 (IntKind.wrap IntKind.i64 (r1 + (1 : Int)) + (1 : Int)) + (1 : Int)) + (1 : Int))) a2 || g_pickA r0 (g_Vs_l20Rd_odd_2 r0 (IntKind.wrap IntKind.i64 (IntKind.wrap IntKind.i64 (IntKind.wrap IntKind.i64 (IntKind.wrap IntKind.i64 (r1 + (1 : Int)) + (1 : Int)) + (1 : Int)) + (1 : Int))) a2) (6 : Int) && (decide ((0 : Int) ≤ g_pick r0 (g_Vs_l20Rd_odd_2 r0 (IntKind.wrap IntKind.i64 (IntKind.wrap IntKind.i64 (IntKind.wrap IntKind.i64 (IntKind.wrap IntKind.i64 (r1 + (1 : Int)) + (1 : Int)) + (1 : Int)) + (1 : Int))) a2) (6 : Int) ∧ g_pick r0 (g_Vs_l20Rd_odd_2 r0 (IntKind.wrap IntKind.i64 (IntKind.wrap IntKind.i64 (IntKind.wrap IntKind.i64 (IntKind.wrap IntKind.i64 (r1 + (1 : Int)) + (1 : Int)) + (1 : Int)) + (1 : Int))) a2) (6 : Int) < (6 : Int)) && decide (Int.toNat (g_pick r0 (g_Vs_l20Rd_odd_2 r0 (IntKind.wrap IntKind.i64 (IntKind.wrap IntKind.i64 (IntKind.wrap IntKind.i64 (IntKind.wrap IntKind.i64 (r1 + (1 : Int)) + (1 : Int)) + (1 : Int)) + (1 : Int))) a2) (6 : Int)) < nat_lit 6)))))))))))))
noncomputable def g_Vs_l20Key_0 (r0 : List Int) (r1 : Int) (a2 : Int) : ByteArray := bif g_Vs_l20Rd_odd_0 r0 (IntKind.wrap IntKind.i64 (IntKind.wrap IntKind.i64 (IntKind.wrap IntKind.i64 (IntKind.wrap IntKind.i64 (r1 + (1 : Int)) + (1 : Int)) + (1 : Int)) + (1 : Int))) a2 then at_ Ty.str [lit [], lit [(115 : Nat)], lit [(83 : Nat), (49 : Nat)], lit [(115 : Nat), (49 : Nat), (50 : Nat), (51 : Nat)], lit [(49 : Nat), (115 : Nat)], lit [(115 : Nat), (97 : Nat)]] (Int.toNat (g_pick r0 (g_Vs_l20Rd_odd_2 r0 (IntKind.wrap IntKind.i64 (IntKind.wrap IntKind.i64 (IntKind.wrap IntKind.i64 (IntKind.wrap IntKind.i64 (r1 + (1 : Int)) + (1 : Int)) + (1 : Int)) + (1 : Int))) a2) (6 : Int))) else at_ Ty.str [lit [(115 : Nat)], lit [(99 : Nat)], lit [(102 : Nat)], lit [(117 : Nat)], lit [(97 : Nat)]] (Int.toNat (g_pick r0 r1 (5 : Int))) ++ g_Vs_l3Plain_0 (at_ (Ty.int IntKind.i64) [g_pick r0 (IntKind.wrap IntKind.i64 (r1 + (1 : Int))) (4 : Int), g_pick r0 (IntKind.wrap IntKind.i64 (IntKind.wrap IntKind.i64 (r1 + (1 : Int)) + (1 : Int))) (30 : Int)] (Int.toNat (g_pick r0 (IntKind.wrap IntKind.i64 (IntKind.wrap IntKind.i64 (IntKind.wrap IntKind.i64 (r1 + (1 : Int)) + (1 : Int)) + (1 : Int))) (2 : Int))))
noncomputable def g_Vs_l20Key_1 (r0 : List Int) (r1 : Int) (a2 : Int) : List (Int) := bif g_Vs_l20Rd_odd_0 r0 (IntKind.wrap IntKind.i64 (IntKind.wrap IntKind.i64 (IntKind.wrap IntKind.i64 (IntKind.wrap IntKind.i64 (r1 + (1 : Int)) + (1 : Int)) + (1 : Int)) + (1 : Int))) a2 then r0 else r0
noncomputable def g_Vs_l20Key_2 (r0 : List Int) (r1 : Int) (a2 : Int) : Int := bif g_Vs_l20Rd_odd_0 r0 (IntKind.wrap IntKind.i64 (IntKind.wrap IntKind.i64 (IntKind.wrap IntKind.i64 (IntKind.wrap IntKind.i64 (r1 + (1 : Int)) + (1 : Int)) + (1 : Int)) + (1 : Int))) a2 then IntKind.wrap IntKind.i64 (g_Vs_l20Rd_odd_2 r0 (IntKind.wrap IntKind.i64 (IntKind.wrap IntKind.i64 (IntKind.wrap IntKind.i64 (IntKind.wrap IntKind.i64 (r1 + (1 : Int)) + (1 : Int)) + (1 : Int)) + (1 : Int))) a2 + (1 : Int)) else g_Vs_l20Rd_odd_2 r0 (IntKind.wrap IntKind.i64 (IntKind.wrap IntKind.i64 (IntKind.wrap IntKind.i64 (IntKind.wrap IntKind.i64 (r1 + (1 : Int)) + (1 : Int)) + (1 : Int)) + (1 : Int))) a2
noncomputable def Fs_l20Key : FSem := fun ys => match ys with
  | [.val true [.sl .any 5 (.int .u8) r0, .int .i64 r1], .val false [.int .i64 a2]] => some ((g_As_l20Key r0 r1 a2), .val false [.str (g_Vs_l20Key_0 r0 r1 a2)], [[.sl .any 5 (.int .u8) (g_Vs_l20Key_1 r0 r1 a2), .int .i64 (g_Vs_l20Key_2 r0 r1 a2)]])
  | _ => none
theorem vs_l20Key (r0 : List Int) (r1 : Int) (a2 : Int) : collapseH .std Es_l20Key Os_l20Key_0 (execFn Es_l20Key Go.Proofs.Tryd.f166 mss_l20Key [.val true [.sl .any 5 (.int .u8) r0, .int .i64 r1], .val false [.int .i64 a2]]) = some ((g_As_l20Key r0 r1 a2), .val false [.str (g_Vs_l20Key_0 r0 r1 a2)], [[.sl .any 5 (.int .u8) (g_Vs_l20Key_1 r0 r1 a2), .int .i64 (g_Vs_l20Key_2 r0 r1 a2)]]) := by kernel_rfl
theorem ss_l20Key : Sound Go.Proofs.Tryd.prog 166 mss_l20Key Fs_l20Key := by
  refine fn_gen goods_l20Key (by kernel_rfl) .std (fn := Go.Proofs.Tryd.f166) (c := (Go.Proofs.Tryd.f166.body.getD .skip)) (o := Os_l20Key_0) (k := 0) (by kernel_rfl) (by kernel_rfl) (by kernel_rfl) (by kernel_rfl) (by decide) ks_l20Key_0 ?_
  intro ys r outs h
  unfold Fs_l20Key at h
  split at h
  · exact (vs_l20Key _ _ _).trans h
  · cases h
end Go.Proofs.YtkjeicijcecmlaaDoor.E
end
section
namespace Go.Proofs.YtkjeicijcecmlaaDoor.E
open Go
set_option maxRecDepth 100000
set_option linter.all false
noncomputable def mss_l20KeyR : List PM := mss_l20Key
theorem sames_l20Key (r0 : List Int) (r1 : Int) (a2 : Int) : g_Vs_l20Key_1 r0 r1 a2 = r0 := by
  unfold g_Vs_l20Key_1
  simp only [Bool.cond_self]
noncomputable def Fs_l20KeyR : FSem := fun ys => match ys with
  | [.val true [.sl .any 5 (.int .u8) r0, .int .i64 r1], .val false [.int .i64 a2]] => some ((g_As_l20Key r0 r1 a2), .val false [.str (g_Vs_l20Key_0 r0 r1 a2)], [[.sl .any 5 (.int .u8) r0, .int .i64 (g_Vs_l20Key_2 r0 r1 a2)]])
  | _ => none
theorem ss_l20KeyR : Sound Go.Proofs.Tryd.prog 166 mss_l20KeyR Fs_l20KeyR := by
  refine ⟨ss_l20Key.fn, fun w S ψ ys vs r outs hF hh hg => ss_l20Key.calls w S ψ ys vs r outs (Eq.trans ?_ hF) hh hg⟩
  unfold Fs_l20KeyR at hF ⊢
  split at hF
  · rename_i  r0 r1 a2
    show (some ((g_As_l20Key r0 r1 a2), .val false [.str (g_Vs_l20Key_0 r0 r1 a2)], [[.sl .any 5 (.int .u8) (g_Vs_l20Key_1 r0 r1 a2), .int .i64 (g_Vs_l20Key_2 r0 r1 a2)]]) : Option (Bool × RV × List (List Cell))) = _
    rw [sames_l20Key]
  · cases hF
end Go.Proofs.YtkjeicijcecmlaaDoor.E
end
section
namespace Go.Proofs.YtkjeicijcecmlaaDoor.E
open Go
set_option maxRecDepth 100000
set_option maxHeartbeats 0
set_option linter.all false
noncomputable def Es_l20Write : Env where
  tt := mkTI Go.Proofs.Tryd.prog
  fn := fun f => match f with
    | 79 => some (mss_l20Rd_oddR, FSem.wk mss_l20Rd_oddR Fs_l20Rd_oddR)
    | 127 => some (mss_l20Rd_pick, FSem.wk mss_l20Rd_pick Fs_l20Rd_pick)
    | 128 => some (mss_l20ValR, FSem.wk mss_l20ValR Fs_l20ValR)
    | 166 => some (mss_l20KeyR, FSem.wk mss_l20KeyR Fs_l20KeyR)
    | _ => none
  bxf := fun _ => none
  mv := []
  keep := fun _ => []
  keepB := fun _ => []
  keepX := fun _ => []
  keepXB := fun _ => []
theorem goodFs_l20Write : ∀ f ms F, Es_l20Write.fn f = some (ms, F) → Sound Go.Proofs.Tryd.prog f ms F := fun f ms F h => by
  unfold Es_l20Write at h
  dsimp only at h
  split at h
  · injection h with h; injection h with e1 e2; subst e1 e2; exact Sound.wk ss_l20Rd_oddR
  · injection h with h; injection h with e1 e2; subst e1 e2; exact Sound.wk ss_l20Rd_pick
  · injection h with h; injection h with e1 e2; subst e1 e2; exact Sound.wk ss_l20ValR
  · injection h with h; injection h with e1 e2; subst e1 e2; exact Sound.wk ss_l20KeyR
  · cases h
theorem goodBs_l20Write : ∀ f ms F, Es_l20Write.bxf f = some (ms, F) → SoundB Go.Proofs.Tryd.prog f ms F := fun f ms F h => by cases h
theorem goods_l20Write : Good Go.Proofs.Tryd.prog Es_l20Write := ⟨rfl, goodFs_l20Write, goodBs_l20Write⟩
noncomputable def Os_l20Write_0 : Orc := fun _ _ => none
noncomputable def mss_l20Write : List PM := [.bx, .own]
noncomputable def lss_l20Write : List (Nat × Code) := loopsAll 0 (Go.Proofs.Tryd.f133.body.getD .skip)

theorem ks_l20Write_0 : OrcOk Es_l20Write Os_l20Write_0 lss_l20Write 0 := orcOk_none
noncomputable def g_As_l20Write (r0 : List Int) (r1 : Int) (a2 : Int) : Bool := g_As_l20Key r0 r1 a2 && (g_pickA r0 (g_Vs_l20Key_2 r0 r1 a2) (3 : Int) && bif g_pick r0 (g_Vs_l20Key_2 r0 r1 a2) (3 : Int) == (0 : Int) then g_As_l20Rd_odd r0 (IntKind.wrap IntKind.i64 (g_Vs_l20Key_2 r0 r1 a2 + (1 : Int))) a2 else g_As_l20Val r0 (IntKind.wrap IntKind.i64 (g_Vs_l20Key_2 r0 r1 a2 + (1 : Int))) a2)
noncomputable def g_Vs_l20Write_0 (r0 : List Int) (r1 : Int) (a2 : Int) : ByteArray := bif g_pick r0 (g_Vs_l20Key_2 r0 r1 a2) (3 : Int) == (0 : Int) then bif g_Vs_l20Rd_odd_0 r0 (IntKind.wrap IntKind.i64 (g_Vs_l20Key_2 r0 r1 a2 + (1 : Int))) a2 then g_Vs_l20Key_0 r0 r1 a2 else g_Vs_l20Key_0 r0 r1 a2 else g_Vs_l20Key_0 r0 r1 a2
noncomputable def g_Vs_l20Write_1 (r0 : List Int) (r1 : Int) (a2 : Int) : Bool := bif g_pick r0 (g_Vs_l20Key_2 r0 r1 a2) (3 : Int) == (0 : Int) then bif g_Vs_l20Rd_odd_0 r0 (IntKind.wrap IntKind.i64 (g_Vs_l20Key_2 r0 r1 a2 + (1 : Int))) a2 then true else true else false
noncomputable def g_Vs_l20Write_2 (r0 : List Int) (r1 : Int) (a2 : Int) : List (Int) := bif g_pick r0 (g_Vs_l20Key_2 r0 r1 a2) (3 : Int) == (0 : Int) then bif g_Vs_l20Rd_odd_0 r0 (IntKind.wrap IntKind.i64 (g_Vs_l20Key_2 r0 r1 a2 + (1 : Int))) a2 then [(1 : Int)] else [] else g_Vs_l20Val_0 r0 (IntKind.wrap IntKind.i64 (g_Vs_l20Key_2 r0 r1 a2 + (1 : Int))) a2
noncomputable def g_Vs_l20Write_3 (r0 : List Int) (r1 : Int) (a2 : Int) : List (Int) := bif g_pick r0 (g_Vs_l20Key_2 r0 r1 a2) (3 : Int) == (0 : Int) then bif g_Vs_l20Rd_odd_0 r0 (IntKind.wrap IntKind.i64 (g_Vs_l20Key_2 r0 r1 a2 + (1 : Int))) a2 then r0 else r0 else r0
noncomputable def g_Vs_l20Write_4 (r0 : List Int) (r1 : Int) (a2 : Int) : Int := bif g_pick r0 (g_Vs_l20Key_2 r0 r1 a2) (3 : Int) == (0 : Int) then bif g_Vs_l20Rd_odd_0 r0 (IntKind.wrap IntKind.i64 (g_Vs_l20Key_2 r0 r1 a2 + (1 : Int))) a2 then g_Vs_l20Rd_odd_2 r0 (IntKind.wrap IntKind.i64 (g_Vs_l20Key_2 r0 r1 a2 + (1 : Int))) a2 else g_Vs_l20Rd_odd_2 r0 (IntKind.wrap IntKind.i64 (g_Vs_l20Key_2 r0 r1 a2 + (1 : Int))) a2 else g_Vs_l20Val_2 r0 (IntKind.wrap IntKind.i64 (g_Vs_l20Key_2 r0 r1 a2 + (1 : Int))) a2
noncomputable def Fs_l20Write : FSem := fun ys => match ys with
  | [.val true [.sl .any 5 (.int .u8) r0, .int .i64 r1], .val false [.int .i64 a2]] => some ((g_As_l20Write r0 r1 a2), .val true [.str (g_Vs_l20Write_0 r0 r1 a2), .bool (g_Vs_l20Write_1 r0 r1 a2), .sl .any 3 (.int .i64) (g_Vs_l20Write_2 r0 r1 a2)], [[.sl .any 5 (.int .u8) (g_Vs_l20Write_3 r0 r1 a2), .int .i64 (g_Vs_l20Write_4 r0 r1 a2)]])
  | _ => none
theorem vs_l20Write (r0 : List Int) (r1 : Int) (a2 : Int) : collapseH .fr Es_l20Write Os_l20Write_0 (execFn Es_l20Write Go.Proofs.Tryd.f133 mss_l20Write [.val true [.sl .any 5 (.int .u8) r0, .int .i64 r1], .val false [.int .i64 a2]]) = some ((g_As_l20Write r0 r1 a2), .val true [.str (g_Vs_l20Write_0 r0 r1 a2), .bool (g_Vs_l20Write_1 r0 r1 a2), .sl .any 3 (.int .i64) (g_Vs_l20Write_2 r0 r1 a2)], [[.sl .any 5 (.int .u8) (g_Vs_l20Write_3 r0 r1 a2), .int .i64 (g_Vs_l20Write_4 r0 r1 a2)]]) := by kernel_rfl
theorem ss_l20Write : Sound Go.Proofs.Tryd.prog 133 mss_l20Write Fs_l20Write := by
  refine fn_gen goods_l20Write (by kernel_rfl) .fr (fn := Go.Proofs.Tryd.f133) (c := (Go.Proofs.Tryd.f133.body.getD .skip)) (o := Os_l20Write_0) (k := 0) (by kernel_rfl) (by kernel_rfl) (by kernel_rfl) (by kernel_rfl) (by decide) ks_l20Write_0 ?_
  intro ys r outs h
  unfold Fs_l20Write at h
  split at h
  · exact (vs_l20Write _ _ _).trans h
  · cases h
end Go.Proofs.YtkjeicijcecmlaaDoor.E
end
section
namespace Go.Proofs.YtkjeicijcecmlaaDoor.E
open Go
set_option maxRecDepth 100000
set_option linter.all false
noncomputable def mss_l20WriteR : List PM := mss_l20Write
theorem sames_l20Write (r0 : List Int) (r1 : Int) (a2 : Int) : g_Vs_l20Write_3 r0 r1 a2 = r0 := by
  unfold g_Vs_l20Write_3
  simp only [Bool.cond_self]
noncomputable def Fs_l20WriteR : FSem := fun ys => match ys with
  | [.val true [.sl .any 5 (.int .u8) r0, .int .i64 r1], .val false [.int .i64 a2]] => some ((g_As_l20Write r0 r1 a2), .val true [.str (g_Vs_l20Write_0 r0 r1 a2), .bool (g_Vs_l20Write_1 r0 r1 a2), .sl .any 3 (.int .i64) (g_Vs_l20Write_2 r0 r1 a2)], [[.sl .any 5 (.int .u8) r0, .int .i64 (g_Vs_l20Write_4 r0 r1 a2)]])
  | _ => none
theorem ss_l20WriteR : Sound Go.Proofs.Tryd.prog 133 mss_l20WriteR Fs_l20WriteR := by
  refine ⟨ss_l20Write.fn, fun w S ψ ys vs r outs hF hh hg => ss_l20Write.calls w S ψ ys vs r outs (Eq.trans ?_ hF) hh hg⟩
  unfold Fs_l20WriteR at hF ⊢
  split at hF
  · rename_i  r0 r1 a2
    show (some ((g_As_l20Write r0 r1 a2), .val true [.str (g_Vs_l20Write_0 r0 r1 a2), .bool (g_Vs_l20Write_1 r0 r1 a2), .sl .any 3 (.int .i64) (g_Vs_l20Write_2 r0 r1 a2)], [[.sl .any 5 (.int .u8) (g_Vs_l20Write_3 r0 r1 a2), .int .i64 (g_Vs_l20Write_4 r0 r1 a2)]]) : Option (Bool × RV × List (List Cell))) = _
    rw [sames_l20Write]
  · cases hF
end Go.Proofs.YtkjeicijcecmlaaDoor.E
end
section
namespace Go.Proofs.YtkjeicijcecmlaaDoor.E
open Go
set_option maxRecDepth 100000
set_option maxHeartbeats 0
set_option linter.all false
noncomputable def Es_l20Writes : Env where
  tt := mkTI Go.Proofs.Tryd.prog
  fn := fun f => match f with
    | 79 => some (mss_l20Rd_oddR, FSem.wk mss_l20Rd_oddR Fs_l20Rd_oddR)
    | 127 => some (mss_l20Rd_pick, FSem.wk mss_l20Rd_pick Fs_l20Rd_pick)
    | 133 => some (mss_l20WriteR, FSem.wk mss_l20WriteR Fs_l20WriteR)
    | _ => none
  bxf := fun _ => none
  mv := []
  keep := fun b => match b with
    | 0 => [(0, false), (1, false), (5, true), (6, false)]
    | _ => []
  keepB := fun b => match b with
    | 0 => [(0, false)]
    | _ => []
  keepX := fun b => match b with
    | 0 => [(0, false), (1, false), (5, true)]
    | _ => []
  keepXB := fun b => match b with
    | 0 => [(0, false)]
    | _ => []
theorem goodFs_l20Writes : ∀ f ms F, Es_l20Writes.fn f = some (ms, F) → Sound Go.Proofs.Tryd.prog f ms F := fun f ms F h => by
  unfold Es_l20Writes at h
  dsimp only at h
  split at h
  · injection h with h; injection h with e1 e2; subst e1 e2; exact Sound.wk ss_l20Rd_oddR
  · injection h with h; injection h with e1 e2; subst e1 e2; exact Sound.wk ss_l20Rd_pick
  · injection h with h; injection h with e1 e2; subst e1 e2; exact Sound.wk ss_l20WriteR
  · cases h
theorem goodBs_l20Writes : ∀ f ms F, Es_l20Writes.bxf f = some (ms, F) → SoundB Go.Proofs.Tryd.prog f ms F := fun f ms F h => by cases h
theorem goods_l20Writes : Good Go.Proofs.Tryd.prog Es_l20Writes := ⟨rfl, goodFs_l20Writes, goodBs_l20Writes⟩
noncomputable def Os_l20Writes_0 : Orc := fun _ _ => none
noncomputable def mss_l20Writes : List PM := [.bx, .own]
noncomputable def lss_l20Writes : List (Nat × Code) := loopsAll 0 (Go.Proofs.Tryd.f78.body.getD .skip)
noncomputable def cs_l20Writes_0 : Code := (loopOf 0 (Go.Proofs.Tryd.f78.body.getD .skip)).getD .skip
theorem lseqs_l20Writes : lss_l20Writes = [(0, cs_l20Writes_0)] := by kernel_rfl
theorem ms_l20Writes_0 : ∀ p, p ∈ lss_l20Writes → p.1 = 0 → p.2 = cs_l20Writes_0 := by
  intro p hp
  rw [lseqs_l20Writes] at hp
  simp only [List.mem_cons, List.not_mem_nil, or_false] at hp
  subst hp; simp
theorem ks_l20Writes_0 : OrcOk Es_l20Writes Os_l20Writes_0 lss_l20Writes 0 := orcOk_none
noncomputable def hs_l20Writes_0 (y0 : Int) (y1 : List ((ByteArray) × ((Bool) × (List (Int))))) (y2 : Int) (y3 : List (Int)) (y4 : Int) : List (Pl × LV) := [(.T 0, .t (.val false [.ptr 0 0 0])), (.T 1, .t (.val false [.int .i64 y0])), (.T 5, .t (.val false [.row 5 0 0])), (.R 5 0, .r 0 (some ⟨false, .non, false, 38, (.pair .str (.pair .bool (.sl 3 (.int .i64)))), y1⟩)), (.T 6, .t (.val false [.int .i64 y2])), (.B 0, .b 0 false [.sl .any 5 (.int .u8) y3, .int .i64 y4])]
noncomputable def g_Ss_l20Writes_0 (y0 : Int) (y3 : List (Int)) : ((List ((ByteArray) × ((Bool) × (List (Int))))) × (Int) × (Int)) → RT ((List ((ByteArray) × ((Bool) × (List (Int))))) × (Int) × (Int)) (((List ((ByteArray) × ((Bool) × (List (Int))))) × (Int)))
  | (y1, y2, y4) => .br (true) (.br (decide (y2 > (0 : Int))) (.br (g_As_l20Write y3 y4 (0 : Int)) (.br (decide ((List.length y1 + List.length [(g_Vs_l20Write_0 y3 y4 (0 : Int), g_Vs_l20Write_1 y3 y4 (0 : Int), g_Vs_l20Write_2 y3 y4 (0 : Int))]) * nat_lit 48 ≤ nat_lit 140737488355328 ∧ List.length y1 + List.length [(g_Vs_l20Write_0 y3 y4 (0 : Int), g_Vs_l20Write_1 y3 y4 (0 : Int), g_Vs_l20Write_2 y3 y4 (0 : Int))] ≤ nat_lit 9223372036854775807)) (.br (true) (.go ((y1 ++ [(g_Vs_l20Write_0 y3 y4 (0 : Int), g_Vs_l20Write_1 y3 y4 (0 : Int), g_Vs_l20Write_2 y3 y4 (0 : Int))], IntKind.wrap IntKind.i64 (y2 - (1 : Int)), g_Vs_l20Write_4 y3 y4 (0 : Int)))) (.bad)) (.bad)) (.bad)) (.out ((y1, y4)))) (.bad)
noncomputable def g_Ls_l20Writes_0 (y0 : Int) (y3 : List (Int)) (x : (List ((ByteArray) × ((Bool) × (List (Int))))) × (Int) × (Int)) : Option (((List ((ByteArray) × ((Bool) × (List (Int))))) × (Int))) := loopO (g_Ss_l20Writes_0 y0 y3) x
noncomputable def xs_l20Writes_0 (y0 : Int) (y3 : List (Int)) : (((List ((ByteArray) × ((Bool) × (List (Int))))) × (Int))) → Ex × List (Pl × LV) := fun r => (.exit 0, [(.T 0, .t (.val false [.ptr 0 0 0])), (.T 1, .t (.val false [.int .i64 y0])), (.T 5, .t (.val false [.row 5 0 0])), (.R 5 0, .r 0 (some ⟨false, .non, false, 38, (.pair .str (.pair .bool (.sl 3 (.int .i64)))), r.1⟩)), (.B 0, .b 0 false [.sl .any 5 (.int .u8) y3, .int .i64 r.2])])
noncomputable def Os_l20Writes_1 : Orc := fun b h => match b, h with
  | 0, [(.T 0, .t (.val false [.ptr 0 0 0])), (.T 1, .t (.val false [.int .i64 y0])), (.T 5, .t (.val false [.row 5 0 0])), (.R 5 0, .r 0 (some ⟨false, .non, false, 38, (.pair .str (.pair .bool (.sl 3 (.int .i64)))), y1⟩)), (.T 6, .t (.val false [.int .i64 y2])), (.B 0, .b 0 false [.sl .any 5 (.int .u8) y3, .int .i64 y4])] => some (okO (g_Ls_l20Writes_0 y0 y3 (y1, y2, y4)), (.leaf (.exit 0) [(.T 0, .t (.val false [.ptr 0 0 0])), (.T 1, .t (.val false [.int .i64 y0])), (.T 5, .t (.val false [.row 5 0 0])), (.R 5 0, .r 0 (some ⟨false, .non, false, 38, (.pair .str (.pair .bool (.sl 3 (.int .i64)))), (valO (g_Ls_l20Writes_0 y0 y3 (y1, y2, y4))).1⟩)), (.B 0, .b 0 false [.sl .any 5 (.int .u8) y3, .int .i64 (valO (g_Ls_l20Writes_0 y0 y3 (y1, y2, y4))).2])]))
  | b, h => Os_l20Writes_0 b h
theorem bs_l20Writes_0 (y0 : Int) (y1 : List ((ByteArray) × ((Bool) × (List (Int))))) (y2 : Int) (y3 : List (Int)) (y4 : Int) : Tr.bt Es_l20Writes Os_l20Writes_0 (exec Es_l20Writes 0 cs_l20Writes_0 (St.of (hs_l20Writes_0 y0 y1 y2 y3 y4)) (leafRd Es_l20Writes 0)) = (g_Ss_l20Writes_0 y0 y3 (y1, y2, y4)).bt (fun ((y1, y2, y4) : (List ((ByteArray) × ((Bool) × (List (Int))))) × (Int) × (Int)) => (hs_l20Writes_0 y0 y1 y2 y3 y4)) (xs_l20Writes_0 y0 y3) := by kernel_rfl
theorem ks_l20Writes_1 : OrcOk Es_l20Writes Os_l20Writes_1 lss_l20Writes 1 := orc_add ks_l20Writes_0 (fun n p hp h ex h' ho => by
  obtain ⟨b, c⟩ := p
  obtain ⟨xt, h1, h2⟩ := ho
  have h1 : Os_l20Writes_1 b h = some (true, xt) := h1
  unfold Os_l20Writes_1 at h1
  split at h1
  · injection h1 with h1
    injection h1 with e1 e2
    subst e2
    have hc : c = cs_l20Writes_0 := ms_l20Writes_0 _ hp rfl
    subst hc
    right
    rename_i y0 y1 y2 y3 y4
    have key := LT_step ks_l20Writes_0 hp (fun q hq => loopsAll_in _ _ _ _ hp hq) (fun ((y1, y2, y4) : (List ((ByteArray) × ((Bool) × (List (Int))))) × (Int) × (Int)) => (hs_l20Writes_0 y0 y1 y2 y3 y4)) (xs_l20Writes_0 y0 y3) (g_Ss_l20Writes_0 y0 y3) (fun x => by first | exact bs_l20Writes_0 y0 x.1 x.2.1 y3 x.2.2) n (x := (y1, y2, y4)) (okO_some e1)
    have hx : ∀ r, XT.sel (.leaf (.exit 0) [(.T 0, .t (.val false [.ptr 0 0 0])), (.T 1, .t (.val false [.int .i64 y0])), (.T 5, .t (.val false [.row 5 0 0])), (.R 5 0, .r 0 (some ⟨false, .non, false, 38, (.pair .str (.pair .bool (.sl 3 (.int .i64)))), r.1⟩)), (.B 0, .b 0 false [.sl .any 5 (.int .u8) y3, .int .i64 r.2])]) = xs_l20Writes_0 y0 y3 r := fun r => by first | rfl | (rcases r with r | r <;> rfl) | (rcases r with r | r | r <;> rfl) | (rcases r with r | r | r | r <;> rfl)
    have h3 := (hx (valO (g_Ls_l20Writes_0 y0 y3 (y1, y2, y4)))).symm.trans h2
    have e3 := congrArg Prod.fst h3
    have e4 := congrArg Prod.snd h3
    simp only at e3 e4
    rw [← e3, ← e4]
    exact key
  · exact .inl ⟨xt, h1, h2⟩)
noncomputable def g_As_l20Writes (r0 : List Int) (r1 : Int) (a2 : Int) : Bool := g_pickA r0 r1 (6 : Int) && (okO (g_Ls_l20Writes_0 a2 r0 ([], g_pick r0 r1 (6 : Int), IntKind.wrap IntKind.i64 (r1 + (1 : Int)))) && (g_As_l20Rd_odd r0 (valO (g_Ls_l20Writes_0 a2 r0 ([], g_pick r0 r1 (6 : Int), IntKind.wrap IntKind.i64 (r1 + (1 : Int))))).2 a2 && (!g_Vs_l20Rd_odd_0 r0 (valO (g_Ls_l20Writes_0 a2 r0 ([], g_pick r0 r1 (6 : Int), IntKind.wrap IntKind.i64 (r1 + (1 : Int))))).2 a2 || g_As_l20Write r0 (g_Vs_l20Rd_odd_2 r0 (valO (g_Ls_l20Writes_0 a2 r0 ([], g_pick r0 r1 (6 : Int), IntKind.wrap IntKind.i64 (r1 + (1 : Int))))).2 a2) (2 : Int) && decide ((List.length (valO (g_Ls_l20Writes_0 a2 r0 ([], g_pick r0 r1 (6 : Int), IntKind.wrap IntKind.i64 (r1 + (1 : Int))))).1 + List.length [(g_Vs_l20Write_0 r0 (g_Vs_l20Rd_odd_2 r0 (valO (g_Ls_l20Writes_0 a2 r0 ([], g_pick r0 r1 (6 : Int), IntKind.wrap IntKind.i64 (r1 + (1 : Int))))).2 a2) (2 : Int), g_Vs_l20Write_1 r0 (g_Vs_l20Rd_odd_2 r0 (valO (g_Ls_l20Writes_0 a2 r0 ([], g_pick r0 r1 (6 : Int), IntKind.wrap IntKind.i64 (r1 + (1 : Int))))).2 a2) (2 : Int), g_Vs_l20Write_2 r0 (g_Vs_l20Rd_odd_2 r0 (valO (g_Ls_l20Writes_0 a2 r0 ([], g_pick r0 r1 (6 : Int), IntKind.wrap IntKind.i64 (r1 + (1 : Int))))).2 a2) (2 : Int))]) * nat_lit 48 ≤ nat_lit 140737488355328 ∧ List.length (valO (g_Ls_l20Writes_0 a2 r0 ([], g_pick r0 r1 (6 : Int), IntKind.wrap IntKind.i64 (r1 + (1 : Int))))).1 + List.length [(g_Vs_l20Write_0 r0 (g_Vs_l20Rd_odd_2 r0 (valO (g_Ls_l20Writes_0 a2 r0 ([], g_pick r0 r1 (6 : Int), IntKind.wrap IntKind.i64 (r1 + (1 : Int))))).2 a2) (2 : Int), g_Vs_l20Write_1 r0 (g_Vs_l20Rd_odd_2 r0 (valO (g_Ls_l20Writes_0 a2 r0 ([], g_pick r0 r1 (6 : Int), IntKind.wrap IntKind.i64 (r1 + (1 : Int))))).2 a2) (2 : Int), g_Vs_l20Write_2 r0 (g_Vs_l20Rd_odd_2 r0 (valO (g_Ls_l20Writes_0 a2 r0 ([], g_pick r0 r1 (6 : Int), IntKind.wrap IntKind.i64 (r1 + (1 : Int))))).2 a2) (2 : Int))] ≤ nat_lit 9223372036854775807))))
noncomputable def g_Vs_l20Writes_0 (r0 : List Int) (r1 : Int) (a2 : Int) : List ((ByteArray) × ((Bool) × (List (Int)))) := bif g_Vs_l20Rd_odd_0 r0 (valO (g_Ls_l20Writes_0 a2 r0 ([], g_pick r0 r1 (6 : Int), IntKind.wrap IntKind.i64 (r1 + (1 : Int))))).2 a2 then (valO (g_Ls_l20Writes_0 a2 r0 ([], g_pick r0 r1 (6 : Int), IntKind.wrap IntKind.i64 (r1 + (1 : Int))))).1 ++ [(g_Vs_l20Write_0 r0 (g_Vs_l20Rd_odd_2 r0 (valO (g_Ls_l20Writes_0 a2 r0 ([], g_pick r0 r1 (6 : Int), IntKind.wrap IntKind.i64 (r1 + (1 : Int))))).2 a2) (2 : Int), g_Vs_l20Write_1 r0 (g_Vs_l20Rd_odd_2 r0 (valO (g_Ls_l20Writes_0 a2 r0 ([], g_pick r0 r1 (6 : Int), IntKind.wrap IntKind.i64 (r1 + (1 : Int))))).2 a2) (2 : Int), g_Vs_l20Write_2 r0 (g_Vs_l20Rd_odd_2 r0 (valO (g_Ls_l20Writes_0 a2 r0 ([], g_pick r0 r1 (6 : Int), IntKind.wrap IntKind.i64 (r1 + (1 : Int))))).2 a2) (2 : Int))] else (valO (g_Ls_l20Writes_0 a2 r0 ([], g_pick r0 r1 (6 : Int), IntKind.wrap IntKind.i64 (r1 + (1 : Int))))).1
noncomputable def g_Vs_l20Writes_1 (r0 : List Int) (r1 : Int) (a2 : Int) : List (Int) := bif g_Vs_l20Rd_odd_0 r0 (valO (g_Ls_l20Writes_0 a2 r0 ([], g_pick r0 r1 (6 : Int), IntKind.wrap IntKind.i64 (r1 + (1 : Int))))).2 a2 then r0 else r0
noncomputable def g_Vs_l20Writes_2 (r0 : List Int) (r1 : Int) (a2 : Int) : Int := bif g_Vs_l20Rd_odd_0 r0 (valO (g_Ls_l20Writes_0 a2 r0 ([], g_pick r0 r1 (6 : Int), IntKind.wrap IntKind.i64 (r1 + (1 : Int))))).2 a2 then g_Vs_l20Write_4 r0 (g_Vs_l20Rd_odd_2 r0 (valO (g_Ls_l20Writes_0 a2 r0 ([], g_pick r0 r1 (6 : Int), IntKind.wrap IntKind.i64 (r1 + (1 : Int))))).2 a2) (2 : Int) else g_Vs_l20Rd_odd_2 r0 (valO (g_Ls_l20Writes_0 a2 r0 ([], g_pick r0 r1 (6 : Int), IntKind.wrap IntKind.i64 (r1 + (1 : Int))))).2 a2
noncomputable def Fs_l20Writes : FSem := fun ys => match ys with
  | [.val true [.sl .any 5 (.int .u8) r0, .int .i64 r1], .val false [.int .i64 a2]] => some ((g_As_l20Writes r0 r1 a2), .val false [.own .any false 38 (.pair .str (.pair .bool (.sl 3 (.int .i64)))) (g_Vs_l20Writes_0 r0 r1 a2)], [[.sl .any 5 (.int .u8) (g_Vs_l20Writes_1 r0 r1 a2), .int .i64 (g_Vs_l20Writes_2 r0 r1 a2)]])
  | _ => none
theorem vs_l20Writes (r0 : List Int) (r1 : Int) (a2 : Int) : collapseH .std Es_l20Writes Os_l20Writes_1 (execFn Es_l20Writes Go.Proofs.Tryd.f78 mss_l20Writes [.val true [.sl .any 5 (.int .u8) r0, .int .i64 r1], .val false [.int .i64 a2]]) = some ((g_As_l20Writes r0 r1 a2), .val false [.own .any false 38 (.pair .str (.pair .bool (.sl 3 (.int .i64)))) (g_Vs_l20Writes_0 r0 r1 a2)], [[.sl .any 5 (.int .u8) (g_Vs_l20Writes_1 r0 r1 a2), .int .i64 (g_Vs_l20Writes_2 r0 r1 a2)]]) := by kernel_rfl
theorem ss_l20Writes : Sound Go.Proofs.Tryd.prog 78 mss_l20Writes Fs_l20Writes := by
  refine fn_gen goods_l20Writes (by kernel_rfl) .std (fn := Go.Proofs.Tryd.f78) (c := (Go.Proofs.Tryd.f78.body.getD .skip)) (o := Os_l20Writes_1) (k := 1) (by kernel_rfl) (by kernel_rfl) (by kernel_rfl) (by kernel_rfl) (by decide) ks_l20Writes_1 ?_
  intro ys r outs h
  unfold Fs_l20Writes at h
  split at h
  · exact (vs_l20Writes _ _ _).trans h
  · cases h
end Go.Proofs.YtkjeicijcecmlaaDoor.E
end
section
namespace Go.Proofs.YtkjeicijcecmlaaDoor.E
open Go
set_option maxRecDepth 100000
set_option linter.all false
noncomputable def mss_l20WritesR : List PM := mss_l20Writes
theorem sames_l20Writes (r0 : List Int) (r1 : Int) (a2 : Int) : g_Vs_l20Writes_1 r0 r1 a2 = r0 := by
  unfold g_Vs_l20Writes_1
  simp only [Bool.cond_self]
noncomputable def Fs_l20WritesR : FSem := fun ys => match ys with
  | [.val true [.sl .any 5 (.int .u8) r0, .int .i64 r1], .val false [.int .i64 a2]] => some ((g_As_l20Writes r0 r1 a2), .val false [.own .any false 38 (.pair .str (.pair .bool (.sl 3 (.int .i64)))) (g_Vs_l20Writes_0 r0 r1 a2)], [[.sl .any 5 (.int .u8) r0, .int .i64 (g_Vs_l20Writes_2 r0 r1 a2)]])
  | _ => none
theorem ss_l20WritesR : Sound Go.Proofs.Tryd.prog 78 mss_l20WritesR Fs_l20WritesR := by
  refine ⟨ss_l20Writes.fn, fun w S ψ ys vs r outs hF hh hg => ss_l20Writes.calls w S ψ ys vs r outs (Eq.trans ?_ hF) hh hg⟩
  unfold Fs_l20WritesR at hF ⊢
  split at hF
  · rename_i  r0 r1 a2
    show (some ((g_As_l20Writes r0 r1 a2), .val false [.own .any false 38 (.pair .str (.pair .bool (.sl 3 (.int .i64)))) (g_Vs_l20Writes_0 r0 r1 a2)], [[.sl .any 5 (.int .u8) (g_Vs_l20Writes_1 r0 r1 a2), .int .i64 (g_Vs_l20Writes_2 r0 r1 a2)]]) : Option (Bool × RV × List (List Cell))) = _
    rw [sames_l20Writes]
  · cases hF
end Go.Proofs.YtkjeicijcecmlaaDoor.E
end
section
namespace Go.Proofs.YtkjeicijcecmlaaDoor.E
open Go
set_option maxRecDepth 100000
set_option maxHeartbeats 0
set_option linter.all false
noncomputable def Es_l20Sto : Env where
  tt := mkTI Go.Proofs.Tryd.prog
  fn := fun f => match f with
    | 20 => some (mss_StoDo, FSem.wk mss_StoDo Fs_StoDo)
    | 78 => some (mss_l20WritesR, FSem.wk mss_l20WritesR Fs_l20WritesR)
    | 79 => some (mss_l20Rd_oddR, FSem.wk mss_l20Rd_oddR Fs_l20Rd_oddR)
    | 127 => some (mss_l20Rd_pick, FSem.wk mss_l20Rd_pick Fs_l20Rd_pick)
    | 128 => some (mss_l20ValR, FSem.wk mss_l20ValR Fs_l20ValR)
    | _ => none
  bxf := fun _ => none
  mv := []
  keep := fun b => match b with
    | 1 => [(0, false), (4, false), (5, false)]
    | _ => []
  keepB := fun b => match b with
    | 1 => [(4, false), (5, false), (0, false)]
    | _ => []
  keepX := fun b => match b with
    | 1 => [(0, false), (4, false), (5, false)]
    | _ => []
  keepXB := fun b => match b with
    | 1 => [(4, false), (5, false), (0, false)]
    | _ => []
theorem goodFs_l20Sto : ∀ f ms F, Es_l20Sto.fn f = some (ms, F) → Sound Go.Proofs.Tryd.prog f ms F := fun f ms F h => by
  unfold Es_l20Sto at h
  dsimp only at h
  split at h
  · injection h with h; injection h with e1 e2; subst e1 e2; exact Sound.wk ss_StoDo
  · injection h with h; injection h with e1 e2; subst e1 e2; exact Sound.wk ss_l20WritesR
  · injection h with h; injection h with e1 e2; subst e1 e2; exact Sound.wk ss_l20Rd_oddR
  · injection h with h; injection h with e1 e2; subst e1 e2; exact Sound.wk ss_l20Rd_pick
  · injection h with h; injection h with e1 e2; subst e1 e2; exact Sound.wk ss_l20ValR
  · cases h
theorem goodBs_l20Sto : ∀ f ms F, Es_l20Sto.bxf f = some (ms, F) → SoundB Go.Proofs.Tryd.prog f ms F := fun f ms F h => by cases h
theorem goods_l20Sto : Good Go.Proofs.Tryd.prog Es_l20Sto := ⟨rfl, goodFs_l20Sto, goodBs_l20Sto⟩
noncomputable def Os_l20Sto_0 : Orc := fun _ _ => none
noncomputable def mss_l20Sto : List PM := [.bx, .own]
noncomputable def lss_l20Sto : List (Nat × Code) := loopsAll 0 (Go.Proofs.Tryd.f71.body.getD .skip)
noncomputable def cs_l20Sto_1 : Code := (loopOf 1 (Go.Proofs.Tryd.f71.body.getD .skip)).getD .skip
theorem lseqs_l20Sto : lss_l20Sto = [(1, cs_l20Sto_1)] := by kernel_rfl
theorem ms_l20Sto_1 : ∀ p, p ∈ lss_l20Sto → p.1 = 1 → p.2 = cs_l20Sto_1 := by
  intro p hp
  rw [lseqs_l20Sto] at hp
  simp only [List.mem_cons, List.not_mem_nil, or_false] at hp
  subst hp; simp
theorem ks_l20Sto_0 : OrcOk Es_l20Sto Os_l20Sto_0 lss_l20Sto 0 := orcOk_none
noncomputable def hs_l20Sto_1 (y0 : List ((ByteArray) × (List (Int)))) (y1 : List ((ByteArray) × (List (Int)))) (y2 : List (Int)) (y3 : Int) : List (Pl × LV) := [(.T 0, .t (.val false [.ptr 0 0 0])), (.T 4, .t (.val false [.ptr 4 0 0])), (.T 5, .t (.val false [.ptr 5 0 0])), (.B 4, .b 0 false [.row 4 1 0]), (.R 4 1, .r 0 (some ⟨false, .any, true, 43, (.pair .str (.sl 3 (.int .i64))), y0⟩)), (.B 5, .b 0 false [.row 5 1 0]), (.R 5 1, .r 0 (some ⟨false, .any, true, 43, (.pair .str (.sl 3 (.int .i64))), y1⟩)), (.B 0, .b 0 false [.sl .any 5 (.int .u8) y2, .int .i64 y3])]
noncomputable def g_Ss_l20Sto_1 (y0 : List ((ByteArray) × (List (Int)))) (y2 : List (Int)) (y3 : Int) : ((List ((ByteArray) × (List (Int))))) → RT ((List ((ByteArray) × (List (Int))))) (((List ((ByteArray) × (List (Int))))))
  | y1 => .br (true) (.br (decide ((↑(List.length y1) : Int) ≤ (40 : Int))) (.br (decide ((List.length y1 + nat_lit 1) * nat_lit 40 ≤ nat_lit 140737488355328 ∧ List.length y1 + nat_lit 1 ≤ nat_lit 9223372036854775807)) (.go (y1 ++ [(lit [(122 : Nat), (57 : Nat)], [(1 : Int)])])) (.bad)) (.out (y1))) (.bad)
noncomputable def g_Ls_l20Sto_1 (y0 : List ((ByteArray) × (List (Int)))) (y2 : List (Int)) (y3 : Int) (x : (List ((ByteArray) × (List (Int))))) : Option (((List ((ByteArray) × (List (Int)))))) := loopO (g_Ss_l20Sto_1 y0 y2 y3) x
noncomputable def xs_l20Sto_1 (y0 : List ((ByteArray) × (List (Int)))) (y2 : List (Int)) (y3 : Int) : (((List ((ByteArray) × (List (Int)))))) → Ex × List (Pl × LV) := fun r => (.exit 1, [(.T 0, .t (.val false [.ptr 0 0 0])), (.T 4, .t (.val false [.ptr 4 0 0])), (.T 5, .t (.val false [.ptr 5 0 0])), (.B 4, .b 0 false [.row 4 1 0]), (.R 4 1, .r 0 (some ⟨false, .any, true, 43, (.pair .str (.sl 3 (.int .i64))), y0⟩)), (.B 5, .b 0 false [.row 5 1 0]), (.R 5 1, .r 0 (some ⟨false, .any, true, 43, (.pair .str (.sl 3 (.int .i64))), r⟩)), (.B 0, .b 0 false [.sl .any 5 (.int .u8) y2, .int .i64 y3])])
noncomputable def Os_l20Sto_1 : Orc := fun b h => match b, h with
  | 1, [(.T 0, .t (.val false [.ptr 0 0 0])), (.T 4, .t (.val false [.ptr 4 0 0])), (.T 5, .t (.val false [.ptr 5 0 0])), (.B 4, .b 0 false [.row 4 1 0]), (.R 4 1, .r 0 (some ⟨false, .any, true, 43, (.pair .str (.sl 3 (.int .i64))), y0⟩)), (.B 5, .b 0 false [.row 5 1 0]), (.R 5 1, .r 0 (some ⟨false, .any, true, 43, (.pair .str (.sl 3 (.int .i64))), y1⟩)), (.B 0, .b 0 false [.sl .any 5 (.int .u8) y2, .int .i64 y3])] => some (okO (g_Ls_l20Sto_1 y0 y2 y3 y1), (.leaf (.exit 1) [(.T 0, .t (.val false [.ptr 0 0 0])), (.T 4, .t (.val false [.ptr 4 0 0])), (.T 5, .t (.val false [.ptr 5 0 0])), (.B 4, .b 0 false [.row 4 1 0]), (.R 4 1, .r 0 (some ⟨false, .any, true, 43, (.pair .str (.sl 3 (.int .i64))), y0⟩)), (.B 5, .b 0 false [.row 5 1 0]), (.R 5 1, .r 0 (some ⟨false, .any, true, 43, (.pair .str (.sl 3 (.int .i64))), (valO (g_Ls_l20Sto_1 y0 y2 y3 y1))⟩)), (.B 0, .b 0 false [.sl .any 5 (.int .u8) y2, .int .i64 y3])]))
  | b, h => Os_l20Sto_0 b h
theorem bs_l20Sto_1 (y0 : List ((ByteArray) × (List (Int)))) (y1 : List ((ByteArray) × (List (Int)))) (y2 : List (Int)) (y3 : Int) : Tr.bt Es_l20Sto Os_l20Sto_0 (exec Es_l20Sto 1 cs_l20Sto_1 (St.of (hs_l20Sto_1 y0 y1 y2 y3)) (leafRd Es_l20Sto 1)) = (g_Ss_l20Sto_1 y0 y2 y3 y1).bt (fun (y1 : (List ((ByteArray) × (List (Int))))) => (hs_l20Sto_1 y0 y1 y2 y3)) (xs_l20Sto_1 y0 y2 y3) := by kernel_rfl
theorem ks_l20Sto_1 : OrcOk Es_l20Sto Os_l20Sto_1 lss_l20Sto 1 := orc_add ks_l20Sto_0 (fun n p hp h ex h' ho => by
  obtain ⟨b, c⟩ := p
  obtain ⟨xt, h1, h2⟩ := ho
  have h1 : Os_l20Sto_1 b h = some (true, xt) := h1
  unfold Os_l20Sto_1 at h1
  split at h1
  · injection h1 with h1
    injection h1 with e1 e2
    subst e2
    have hc : c = cs_l20Sto_1 := ms_l20Sto_1 _ hp rfl
    subst hc
    right
    rename_i y0 y1 y2 y3
    have key := LT_step ks_l20Sto_0 hp (fun q hq => loopsAll_in _ _ _ _ hp hq) (fun (y1 : (List ((ByteArray) × (List (Int))))) => (hs_l20Sto_1 y0 y1 y2 y3)) (xs_l20Sto_1 y0 y2 y3) (g_Ss_l20Sto_1 y0 y2 y3) (fun x => by first | exact bs_l20Sto_1 y0 x y2 y3) n (x := y1) (okO_some e1)
    have hx : ∀ r, XT.sel (.leaf (.exit 1) [(.T 0, .t (.val false [.ptr 0 0 0])), (.T 4, .t (.val false [.ptr 4 0 0])), (.T 5, .t (.val false [.ptr 5 0 0])), (.B 4, .b 0 false [.row 4 1 0]), (.R 4 1, .r 0 (some ⟨false, .any, true, 43, (.pair .str (.sl 3 (.int .i64))), y0⟩)), (.B 5, .b 0 false [.row 5 1 0]), (.R 5 1, .r 0 (some ⟨false, .any, true, 43, (.pair .str (.sl 3 (.int .i64))), r⟩)), (.B 0, .b 0 false [.sl .any 5 (.int .u8) y2, .int .i64 y3])]) = xs_l20Sto_1 y0 y2 y3 r := fun r => by first | rfl | (rcases r with r | r <;> rfl) | (rcases r with r | r | r <;> rfl) | (rcases r with r | r | r | r <;> rfl)
    have h3 := (hx (valO (g_Ls_l20Sto_1 y0 y2 y3 y1))).symm.trans h2
    have e3 := congrArg Prod.fst h3
    have e4 := congrArg Prod.snd h3
    simp only at e3 e4
    rw [← e3, ← e4]
    exact key
  · exact .inl ⟨xt, h1, h2⟩)
noncomputable def g_As_l20Sto (r0 : List Int) (r1 : Int) (a2 : Int) : Bool := g_As_l20Writes r0 r1 (0 : Int) && (g_As_l20Writes r0 (g_Vs_l20Writes_2 r0 r1 (0 : Int)) (0 : Int) && (decide ((List.length (g_Vs_l20Writes_0 r0 r1 (0 : Int)) + List.length (g_Vs_l20Writes_0 r0 (g_Vs_l20Writes_2 r0 r1 (0 : Int)) (0 : Int))) * nat_lit 48 ≤ nat_lit 140737488355328 ∧ List.length (g_Vs_l20Writes_0 r0 r1 (0 : Int)) + List.length (g_Vs_l20Writes_0 r0 (g_Vs_l20Writes_2 r0 r1 (0 : Int)) (0 : Int)) ≤ nat_lit 9223372036854775807) && (g_As_StoDo [] (g_Vs_l20Writes_0 r0 r1 (0 : Int) ++ g_Vs_l20Writes_0 r0 (g_Vs_l20Writes_2 r0 r1 (0 : Int)) (0 : Int)) && (g_As_l20Rd_odd r0 (g_Vs_l20Writes_2 r0 (g_Vs_l20Writes_2 r0 r1 (0 : Int)) (0 : Int)) a2 && (!g_Vs_l20Rd_odd_0 r0 (g_Vs_l20Writes_2 r0 (g_Vs_l20Writes_2 r0 r1 (0 : Int)) (0 : Int)) a2 || g_pickA r0 (g_Vs_l20Rd_odd_2 r0 (g_Vs_l20Writes_2 r0 (g_Vs_l20Writes_2 r0 r1 (0 : Int)) (0 : Int)) a2) (3 : Int) && bif g_pick r0 (g_Vs_l20Rd_odd_2 r0 (g_Vs_l20Writes_2 r0 (g_Vs_l20Writes_2 r0 r1 (0 : Int)) (0 : Int)) a2) (3 : Int) == (0 : Int) then decide ((List.length (g_Vs_StoDo_0 [] (g_Vs_l20Writes_0 r0 r1 (0 : Int) ++ g_Vs_l20Writes_0 r0 (g_Vs_l20Writes_2 r0 r1 (0 : Int)) (0 : Int))) + nat_lit 1) * nat_lit 40 ≤ nat_lit 140737488355328 ∧ List.length (g_Vs_StoDo_0 [] (g_Vs_l20Writes_0 r0 r1 (0 : Int) ++ g_Vs_l20Writes_0 r0 (g_Vs_l20Writes_2 r0 r1 (0 : Int)) (0 : Int))) + nat_lit 1 ≤ nat_lit 9223372036854775807) else bif g_pick r0 (g_Vs_l20Rd_odd_2 r0 (g_Vs_l20Writes_2 r0 (g_Vs_l20Writes_2 r0 r1 (0 : Int)) (0 : Int)) a2) (3 : Int) == (1 : Int) then g_As_l20Val r0 (IntKind.wrap IntKind.i64 (g_Vs_l20Rd_odd_2 r0 (g_Vs_l20Writes_2 r0 (g_Vs_l20Writes_2 r0 r1 (0 : Int)) (0 : Int)) a2 + (1 : Int))) (1 : Int) && decide ((List.length (g_Vs_StoDo_0 [] (g_Vs_l20Writes_0 r0 r1 (0 : Int) ++ g_Vs_l20Writes_0 r0 (g_Vs_l20Writes_2 r0 r1 (0 : Int)) (0 : Int))) + List.length [(lit [(122 : Nat), (57 : Nat)], g_Vs_l20Val_0 r0 (IntKind.wrap IntKind.i64 (g_Vs_l20Rd_odd_2 r0 (g_Vs_l20Writes_2 r0 (g_Vs_l20Writes_2 r0 r1 (0 : Int)) (0 : Int)) a2 + (1 : Int))) (1 : Int))]) * nat_lit 40 ≤ nat_lit 140737488355328 ∧ List.length (g_Vs_StoDo_0 [] (g_Vs_l20Writes_0 r0 r1 (0 : Int) ++ g_Vs_l20Writes_0 r0 (g_Vs_l20Writes_2 r0 r1 (0 : Int)) (0 : Int))) + List.length [(lit [(122 : Nat), (57 : Nat)], g_Vs_l20Val_0 r0 (IntKind.wrap IntKind.i64 (g_Vs_l20Rd_odd_2 r0 (g_Vs_l20Writes_2 r0 (g_Vs_l20Writes_2 r0 r1 (0 : Int)) (0 : Int)) a2 + (1 : Int))) (1 : Int))] ≤ nat_lit 9223372036854775807) else okO (g_Ls_l20Sto_1 [] r0 (IntKind.wrap IntKind.i64 (g_Vs_l20Rd_odd_2 r0 (g_Vs_l20Writes_2 r0 (g_Vs_l20Writes_2 r0 r1 (0 : Int)) (0 : Int)) a2 + (1 : Int))) (g_Vs_StoDo_0 [] (g_Vs_l20Writes_0 r0 r1 (0 : Int) ++ g_Vs_l20Writes_0 r0 (g_Vs_l20Writes_2 r0 r1 (0 : Int)) (0 : Int)))))))))
noncomputable def g_Vs_l20Sto_0 (r0 : List Int) (r1 : Int) (a2 : Int) : List ((ByteArray) × (List (Int))) := bif g_Vs_l20Rd_odd_0 r0 (g_Vs_l20Writes_2 r0 (g_Vs_l20Writes_2 r0 r1 (0 : Int)) (0 : Int)) a2 then bif g_pick r0 (g_Vs_l20Rd_odd_2 r0 (g_Vs_l20Writes_2 r0 (g_Vs_l20Writes_2 r0 r1 (0 : Int)) (0 : Int)) a2) (3 : Int) == (0 : Int) then g_Vs_StoDo_0 [] (g_Vs_l20Writes_0 r0 r1 (0 : Int) ++ g_Vs_l20Writes_0 r0 (g_Vs_l20Writes_2 r0 r1 (0 : Int)) (0 : Int)) ++ [(lit [(97 : Nat), (48 : Nat)], [(1 : Int)])] else bif g_pick r0 (g_Vs_l20Rd_odd_2 r0 (g_Vs_l20Writes_2 r0 (g_Vs_l20Writes_2 r0 r1 (0 : Int)) (0 : Int)) a2) (3 : Int) == (1 : Int) then g_Vs_StoDo_0 [] (g_Vs_l20Writes_0 r0 r1 (0 : Int) ++ g_Vs_l20Writes_0 r0 (g_Vs_l20Writes_2 r0 r1 (0 : Int)) (0 : Int)) ++ [(lit [(122 : Nat), (57 : Nat)], g_Vs_l20Val_0 r0 (IntKind.wrap IntKind.i64 (g_Vs_l20Rd_odd_2 r0 (g_Vs_l20Writes_2 r0 (g_Vs_l20Writes_2 r0 r1 (0 : Int)) (0 : Int)) a2 + (1 : Int))) (1 : Int))] else valO (g_Ls_l20Sto_1 [] r0 (IntKind.wrap IntKind.i64 (g_Vs_l20Rd_odd_2 r0 (g_Vs_l20Writes_2 r0 (g_Vs_l20Writes_2 r0 r1 (0 : Int)) (0 : Int)) a2 + (1 : Int))) (g_Vs_StoDo_0 [] (g_Vs_l20Writes_0 r0 r1 (0 : Int) ++ g_Vs_l20Writes_0 r0 (g_Vs_l20Writes_2 r0 r1 (0 : Int)) (0 : Int)))) else g_Vs_StoDo_0 [] (g_Vs_l20Writes_0 r0 r1 (0 : Int) ++ g_Vs_l20Writes_0 r0 (g_Vs_l20Writes_2 r0 r1 (0 : Int)) (0 : Int))
noncomputable def g_Vs_l20Sto_1 (r0 : List Int) (r1 : Int) (a2 : Int) : List (Int) := bif g_Vs_l20Rd_odd_0 r0 (g_Vs_l20Writes_2 r0 (g_Vs_l20Writes_2 r0 r1 (0 : Int)) (0 : Int)) a2 then bif g_pick r0 (g_Vs_l20Rd_odd_2 r0 (g_Vs_l20Writes_2 r0 (g_Vs_l20Writes_2 r0 r1 (0 : Int)) (0 : Int)) a2) (3 : Int) == (0 : Int) then r0 else bif g_pick r0 (g_Vs_l20Rd_odd_2 r0 (g_Vs_l20Writes_2 r0 (g_Vs_l20Writes_2 r0 r1 (0 : Int)) (0 : Int)) a2) (3 : Int) == (1 : Int) then r0 else r0 else r0
noncomputable def g_Vs_l20Sto_2 (r0 : List Int) (r1 : Int) (a2 : Int) : Int := bif g_Vs_l20Rd_odd_0 r0 (g_Vs_l20Writes_2 r0 (g_Vs_l20Writes_2 r0 r1 (0 : Int)) (0 : Int)) a2 then bif g_pick r0 (g_Vs_l20Rd_odd_2 r0 (g_Vs_l20Writes_2 r0 (g_Vs_l20Writes_2 r0 r1 (0 : Int)) (0 : Int)) a2) (3 : Int) == (0 : Int) then IntKind.wrap IntKind.i64 (g_Vs_l20Rd_odd_2 r0 (g_Vs_l20Writes_2 r0 (g_Vs_l20Writes_2 r0 r1 (0 : Int)) (0 : Int)) a2 + (1 : Int)) else bif g_pick r0 (g_Vs_l20Rd_odd_2 r0 (g_Vs_l20Writes_2 r0 (g_Vs_l20Writes_2 r0 r1 (0 : Int)) (0 : Int)) a2) (3 : Int) == (1 : Int) then g_Vs_l20Val_2 r0 (IntKind.wrap IntKind.i64 (g_Vs_l20Rd_odd_2 r0 (g_Vs_l20Writes_2 r0 (g_Vs_l20Writes_2 r0 r1 (0 : Int)) (0 : Int)) a2 + (1 : Int))) (1 : Int) else IntKind.wrap IntKind.i64 (g_Vs_l20Rd_odd_2 r0 (g_Vs_l20Writes_2 r0 (g_Vs_l20Writes_2 r0 r1 (0 : Int)) (0 : Int)) a2 + (1 : Int)) else g_Vs_l20Rd_odd_2 r0 (g_Vs_l20Writes_2 r0 (g_Vs_l20Writes_2 r0 r1 (0 : Int)) (0 : Int)) a2
noncomputable def Fs_l20Sto : FSem := fun ys => match ys with
  | [.val true [.sl .any 5 (.int .u8) r0, .int .i64 r1], .val false [.int .i64 a2]] => some ((g_As_l20Sto r0 r1 a2), .val true [.sl .any 43 (.pair .str (.sl 3 (.int .i64))) (g_Vs_l20Sto_0 r0 r1 a2)], [[.sl .any 5 (.int .u8) (g_Vs_l20Sto_1 r0 r1 a2), .int .i64 (g_Vs_l20Sto_2 r0 r1 a2)]])
  | _ => none
theorem vs_l20Sto (r0 : List Int) (r1 : Int) (a2 : Int) : collapseH .fr Es_l20Sto Os_l20Sto_1 (execFn Es_l20Sto Go.Proofs.Tryd.f71 mss_l20Sto [.val true [.sl .any 5 (.int .u8) r0, .int .i64 r1], .val false [.int .i64 a2]]) = some ((g_As_l20Sto r0 r1 a2), .val true [.sl .any 43 (.pair .str (.sl 3 (.int .i64))) (g_Vs_l20Sto_0 r0 r1 a2)], [[.sl .any 5 (.int .u8) (g_Vs_l20Sto_1 r0 r1 a2), .int .i64 (g_Vs_l20Sto_2 r0 r1 a2)]]) := by kernel_rfl
theorem ss_l20Sto : Sound Go.Proofs.Tryd.prog 71 mss_l20Sto Fs_l20Sto := by
  refine fn_gen goods_l20Sto (by kernel_rfl) .fr (fn := Go.Proofs.Tryd.f71) (c := (Go.Proofs.Tryd.f71.body.getD .skip)) (o := Os_l20Sto_1) (k := 1) (by kernel_rfl) (by kernel_rfl) (by kernel_rfl) (by kernel_rfl) (by decide) ks_l20Sto_1 ?_
  intro ys r outs h
  unfold Fs_l20Sto at h
  split at h
  · exact (vs_l20Sto _ _ _).trans h
  · cases h
end Go.Proofs.YtkjeicijcecmlaaDoor.E
end
section
namespace Go.Proofs.YtkjeicijcecmlaaDoor.E
open Go
set_option maxRecDepth 100000
set_option linter.all false
noncomputable def mss_l20StoR : List PM := mss_l20Sto
theorem sames_l20Sto (r0 : List Int) (r1 : Int) (a2 : Int) : g_Vs_l20Sto_1 r0 r1 a2 = r0 := by
  unfold g_Vs_l20Sto_1
  simp only [Bool.cond_self]
noncomputable def Fs_l20StoR : FSem := fun ys => match ys with
  | [.val true [.sl .any 5 (.int .u8) r0, .int .i64 r1], .val false [.int .i64 a2]] => some ((g_As_l20Sto r0 r1 a2), .val true [.sl .any 43 (.pair .str (.sl 3 (.int .i64))) (g_Vs_l20Sto_0 r0 r1 a2)], [[.sl .any 5 (.int .u8) r0, .int .i64 (g_Vs_l20Sto_2 r0 r1 a2)]])
  | _ => none
theorem ss_l20StoR : Sound Go.Proofs.Tryd.prog 71 mss_l20StoR Fs_l20StoR := by
  refine ⟨ss_l20Sto.fn, fun w S ψ ys vs r outs hF hh hg => ss_l20Sto.calls w S ψ ys vs r outs (Eq.trans ?_ hF) hh hg⟩
  unfold Fs_l20StoR at hF ⊢
  split at hF
  · rename_i  r0 r1 a2
    show (some ((g_As_l20Sto r0 r1 a2), .val true [.sl .any 43 (.pair .str (.sl 3 (.int .i64))) (g_Vs_l20Sto_0 r0 r1 a2)], [[.sl .any 5 (.int .u8) (g_Vs_l20Sto_1 r0 r1 a2), .int .i64 (g_Vs_l20Sto_2 r0 r1 a2)]]) : Option (Bool × RV × List (List Cell))) = _
    rw [sames_l20Sto]
  · cases hF
end Go.Proofs.YtkjeicijcecmlaaDoor.E
end
section
namespace Go.Proofs.YtkjeicijcecmlaaDoor.E
open Go
set_option maxRecDepth 100000
set_option maxHeartbeats 0
set_option linter.all false
noncomputable def Es_DrawStoOk : Env where
  tt := mkTI Go.Proofs.Tryd.prog
  fn := fun f => match f with
    | 71 => some (mss_l20StoR, FSem.wk mss_l20StoR Fs_l20StoR)
    | _ => none
  bxf := fun f => match f with
    | 72 => some (mss_l20Open, Fs_l20Open)
    | _ => none
  mv := []
  keep := fun _ => []
  keepB := fun _ => []
  keepX := fun _ => []
  keepXB := fun _ => []
theorem goodFs_DrawStoOk : ∀ f ms F, Es_DrawStoOk.fn f = some (ms, F) → Sound Go.Proofs.Tryd.prog f ms F := fun f ms F h => by
  unfold Es_DrawStoOk at h
  dsimp only at h
  split at h
  · injection h with h; injection h with e1 e2; subst e1 e2; exact Sound.wk ss_l20StoR
  · cases h
theorem goodBs_DrawStoOk : ∀ f ms F, Es_DrawStoOk.bxf f = some (ms, F) → SoundB Go.Proofs.Tryd.prog f ms F := fun f ms F h => by
  unfold Es_DrawStoOk at h
  dsimp only at h
  split at h
  · injection h with h; injection h with e1 e2; subst e1 e2; exact ss_l20Open
  · cases h
theorem goods_DrawStoOk : Good Go.Proofs.Tryd.prog Es_DrawStoOk := ⟨rfl, goodFs_DrawStoOk, goodBs_DrawStoOk⟩
noncomputable def Os_DrawStoOk_0 : Orc := fun _ _ => none
noncomputable def mss_DrawStoOk : List PM := [.fz]
noncomputable def lss_DrawStoOk : List (Nat × Code) := loopsAll 0 (Go.Proofs.Tryd.f13.body.getD .skip)

theorem ks_DrawStoOk_0 : OrcOk Es_DrawStoOk Os_DrawStoOk_0 lss_DrawStoOk 0 := orcOk_none
noncomputable def g_As_DrawStoOk (a0 : List (Int)) : Bool := g_As_l20Open a0 && g_As_l20Sto (g_Vs_l20Open_0 a0) (g_Vs_l20Open_1 a0) (2 : Int)
noncomputable def g_Vs_DrawStoOk_0 (a0 : List (Int)) : List ((ByteArray) × (List (Int))) := g_Vs_l20Sto_0 (g_Vs_l20Open_0 a0) (g_Vs_l20Open_1 a0) (2 : Int)
noncomputable def Fs_DrawStoOk : FSem := fun ys => match ys with
  | [.val false [.sl .any 5 (.int .u8) a0]] => some ((g_As_DrawStoOk a0), .val true [.sl .any 43 (.pair .str (.sl 3 (.int .i64))) (g_Vs_DrawStoOk_0 a0)], [])
  | _ => none
theorem vs_DrawStoOk (a0 : List (Int)) : collapseH .std Es_DrawStoOk Os_DrawStoOk_0 (execFn Es_DrawStoOk Go.Proofs.Tryd.f13 mss_DrawStoOk [.val false [.sl .any 5 (.int .u8) a0]]) = some ((g_As_DrawStoOk a0), .val true [.sl .any 43 (.pair .str (.sl 3 (.int .i64))) (g_Vs_DrawStoOk_0 a0)], []) := by kernel_rfl
theorem ss_DrawStoOk : Sound Go.Proofs.Tryd.prog 13 mss_DrawStoOk Fs_DrawStoOk := by
  refine fn_gen goods_DrawStoOk (by kernel_rfl) .std (fn := Go.Proofs.Tryd.f13) (c := (Go.Proofs.Tryd.f13.body.getD .skip)) (o := Os_DrawStoOk_0) (k := 0) (by kernel_rfl) (by kernel_rfl) (by kernel_rfl) (by kernel_rfl) (by decide) ks_DrawStoOk_0 ?_
  intro ys r outs h
  unfold Fs_DrawStoOk at h
  split at h
  · exact (vs_DrawStoOk _).trans h
  · cases h
end Go.Proofs.YtkjeicijcecmlaaDoor.E
end
section
namespace Go.Proofs.YtkjeicijcecmlaaDoor.E
open Go
set_option maxRecDepth 100000
set_option maxHeartbeats 0
set_option linter.all false
noncomputable def Ei_WrtOk : Env where
  tt := mkTI Go.Proofs.Tryd.prog
  fn := fun f => match f with
    | 73 => some (msi_keyOk, FSem.wk msi_keyOk Fi_keyOk)
    | 74 => some (msi_valOk, FSem.wk msi_valOk Fi_valOk)
    | _ => none
  bxf := fun _ => none
  mv := []
  keep := fun _ => []
  keepB := fun _ => []
  keepX := fun _ => []
  keepXB := fun _ => []
theorem goodFi_WrtOk : ∀ f ms F, Ei_WrtOk.fn f = some (ms, F) → Sound Go.Proofs.Tryd.prog f ms F := fun f ms F h => by
  unfold Ei_WrtOk at h
  dsimp only at h
  split at h
  · injection h with h; injection h with e1 e2; subst e1 e2; exact Sound.wk si_keyOk
  · injection h with h; injection h with e1 e2; subst e1 e2; exact Sound.wk si_valOk
  · cases h
theorem goodBi_WrtOk : ∀ f ms F, Ei_WrtOk.bxf f = some (ms, F) → SoundB Go.Proofs.Tryd.prog f ms F := fun f ms F h => by cases h
theorem goodi_WrtOk : Good Go.Proofs.Tryd.prog Ei_WrtOk := ⟨rfl, goodFi_WrtOk, goodBi_WrtOk⟩
noncomputable def Oi_WrtOk_0 : Orc := fun _ _ => none
noncomputable def msi_WrtOk : List PM := [.rd]
noncomputable def lsi_WrtOk : List (Nat × Code) := loopsAll 0 (Go.Proofs.Tryd.f77.body.getD .skip)

theorem ki_WrtOk_0 : OrcOk Ei_WrtOk Oi_WrtOk_0 lsi_WrtOk 0 := orcOk_none
noncomputable def g_Ai_WrtOk (a0 : ByteArray) (a1 : Bool) (a2 : List (Int)) : Bool := bif a1 then g_Ai_keyOk a0 && (!g_Vi_keyOk_0 a0 || true) else g_Ai_keyOk a0 && (!g_Vi_keyOk_0 a0 || g_Ai_valOk a2)
noncomputable def g_Vi_WrtOk_0 (a0 : ByteArray) (a1 : Bool) (a2 : List (Int)) : Bool := bif a1 then bif g_Vi_keyOk_0 a0 then (↑(List.length a2) : Int) == (0 : Int) else false else bif g_Vi_keyOk_0 a0 then g_Vi_valOk_0 a2 else false
noncomputable def Fi_WrtOk : FSem := fun ys => match ys with
  | [.val true [.str a0, .bool a1, .sl .any 3 (.int .i64) a2]] => some ((g_Ai_WrtOk a0 a1 a2), .val false [.bool (g_Vi_WrtOk_0 a0 a1 a2)], [])
  | _ => none
theorem vi_WrtOk (a0 : ByteArray) (a1 : Bool) (a2 : List (Int)) : collapseH .std Ei_WrtOk Oi_WrtOk_0 (execFn Ei_WrtOk Go.Proofs.Tryd.f77 msi_WrtOk [.val true [.str a0, .bool a1, .sl .any 3 (.int .i64) a2]]) = some ((g_Ai_WrtOk a0 a1 a2), .val false [.bool (g_Vi_WrtOk_0 a0 a1 a2)], []) := by kernel_rfl
theorem si_WrtOk : Sound Go.Proofs.Tryd.prog 77 msi_WrtOk Fi_WrtOk := by
  refine fn_gen goodi_WrtOk (by kernel_rfl) .std (fn := Go.Proofs.Tryd.f77) (c := (Go.Proofs.Tryd.f77.body.getD .skip)) (o := Oi_WrtOk_0) (k := 0) (by kernel_rfl) (by kernel_rfl) (by kernel_rfl) (by kernel_rfl) (by decide) ki_WrtOk_0 ?_
  intro ys r outs h
  unfold Fi_WrtOk at h
  split at h
  · exact (vi_WrtOk _ _ _).trans h
  · cases h
end Go.Proofs.YtkjeicijcecmlaaDoor.E
end
section
namespace Go.Proofs.YtkjeicijcecmlaaDoor.E
open Go
set_option maxRecDepth 100000
set_option maxHeartbeats 0
set_option linter.all false
noncomputable def Ew_jaOk : Env where
  tt := mkTI Go.Proofs.Tryd.prog
  fn := fun f => match f with
    | 77 => some (msi_WrtOk, FSem.wk msi_WrtOk Fi_WrtOk)
    | _ => none
  bxf := fun _ => none
  mv := []
  keep := fun _ => []
  keepB := fun _ => []
  keepX := fun _ => []
  keepXB := fun _ => []
theorem goodFw_jaOk : ∀ f ms F, Ew_jaOk.fn f = some (ms, F) → Sound Go.Proofs.Tryd.prog f ms F := fun f ms F h => by
  unfold Ew_jaOk at h
  dsimp only at h
  split at h
  · injection h with h; injection h with e1 e2; subst e1 e2; exact Sound.wk si_WrtOk
  · cases h
theorem goodBw_jaOk : ∀ f ms F, Ew_jaOk.bxf f = some (ms, F) → SoundB Go.Proofs.Tryd.prog f ms F := fun f ms F h => by cases h
theorem goodw_jaOk : Good Go.Proofs.Tryd.prog Ew_jaOk := ⟨rfl, goodFw_jaOk, goodBw_jaOk⟩
noncomputable def Ow_jaOk_0 : Orc := fun _ _ => none
noncomputable def msw_jaOk : List PM := []
noncomputable def lsw_jaOk : List (Nat × Code) := loopsAll 0 (Go.Proofs.Tryd.f16.body.getD .skip)

theorem kw_jaOk_0 : OrcOk Ew_jaOk Ow_jaOk_0 lsw_jaOk 0 := orcOk_none
noncomputable def g_Aw_jaOk : Bool := g_Ai_WrtOk (lit [(97 : Nat), (49 : Nat)]) false [(1 : Int)]
noncomputable def g_Vw_jaOk_0 : Bool := g_Vi_WrtOk_0 (lit [(97 : Nat), (49 : Nat)]) false [(1 : Int)]
noncomputable def Fw_jaOk : FSem := fun ys => match ys with
  | [] => some (g_Aw_jaOk, .val false [.bool g_Vw_jaOk_0], [])
  | _ => none
theorem vw_jaOk : collapseH .std Ew_jaOk Ow_jaOk_0 (execFn Ew_jaOk Go.Proofs.Tryd.f16 msw_jaOk []) = some (g_Aw_jaOk, .val false [.bool g_Vw_jaOk_0], []) := by kernel_rfl
theorem sw_jaOk : Sound Go.Proofs.Tryd.prog 16 msw_jaOk Fw_jaOk := by
  refine fn_gen goodw_jaOk (by kernel_rfl) .std (fn := Go.Proofs.Tryd.f16) (c := (Go.Proofs.Tryd.f16.body.getD .skip)) (o := Ow_jaOk_0) (k := 0) (by kernel_rfl) (by kernel_rfl) (by kernel_rfl) (by kernel_rfl) (by decide) kw_jaOk_0 ?_
  intro ys r outs h
  unfold Fw_jaOk at h
  split at h
  · exact (vw_jaOk).trans h
  · cases h
end Go.Proofs.YtkjeicijcecmlaaDoor.E
end
section
namespace Go.Proofs.YtkjeicijcecmlaaDoor.E
open Go
set_option maxRecDepth 100000
set_option maxHeartbeats 0
set_option linter.all false
noncomputable def Ew_FnStoOk : Env where
  tt := mkTI Go.Proofs.Tryd.prog
  fn := fun f => match f with
    | 13 => some (mss_DrawStoOk, FSem.wk mss_DrawStoOk Fs_DrawStoOk)
    | 14 => some (msi_StoOk, FSem.wk msi_StoOk Fi_StoOk)
    | 15 => some (mss_StoOk, FSem.wk mss_StoOk Fs_StoOk)
    | 16 => some (msw_jaOk, FSem.wk msw_jaOk Fw_jaOk)
    | _ => none
  bxf := fun _ => none
  mv := []
  keep := fun b => match b with
    | 0 => [(3, false), (5, false)]
    | _ => []
  keepB := fun b => match b with
    | 0 => [(3, false)]
    | _ => []
  keepX := fun b => match b with
    | 0 => [(2, false)]
    | _ => []
  keepXB := fun b => match b with
    | 0 => []
    | _ => []
theorem goodFw_FnStoOk : ∀ f ms F, Ew_FnStoOk.fn f = some (ms, F) → Sound Go.Proofs.Tryd.prog f ms F := fun f ms F h => by
  unfold Ew_FnStoOk at h
  dsimp only at h
  split at h
  · injection h with h; injection h with e1 e2; subst e1 e2; exact Sound.wk ss_DrawStoOk
  · injection h with h; injection h with e1 e2; subst e1 e2; exact Sound.wk si_StoOk
  · injection h with h; injection h with e1 e2; subst e1 e2; exact Sound.wk ss_StoOk
  · injection h with h; injection h with e1 e2; subst e1 e2; exact Sound.wk sw_jaOk
  · cases h
theorem goodBw_FnStoOk : ∀ f ms F, Ew_FnStoOk.bxf f = some (ms, F) → SoundB Go.Proofs.Tryd.prog f ms F := fun f ms F h => by cases h
theorem goodw_FnStoOk : Good Go.Proofs.Tryd.prog Ew_FnStoOk := ⟨rfl, goodFw_FnStoOk, goodBw_FnStoOk⟩
noncomputable def Ow_FnStoOk_0 : Orc := fun _ _ => none
noncomputable def msw_FnStoOk : List PM := [.rd]
noncomputable def lsw_FnStoOk : List (Nat × Code) := loopsAll 0 (Go.Proofs.Tryd.f3.body.getD .skip)
noncomputable def cw_FnStoOk_0 : Code := (loopOf 0 (Go.Proofs.Tryd.f3.body.getD .skip)).getD .skip
theorem lseqw_FnStoOk : lsw_FnStoOk = [(0, cw_FnStoOk_0)] := by kernel_rfl
theorem mw_FnStoOk_0 : ∀ p, p ∈ lsw_FnStoOk → p.1 = 0 → p.2 = cw_FnStoOk_0 := by
  intro p hp
  rw [lseqw_FnStoOk] at hp
  simp only [List.mem_cons, List.not_mem_nil, or_false] at hp
  subst hp; simp
theorem kw_FnStoOk_0 : OrcOk Ew_FnStoOk Ow_FnStoOk_0 lsw_FnStoOk 0 := orcOk_none
noncomputable def hw_FnStoOk_0 (y0 : Int) (y1 : List ((ByteArray) × (List (Int)))) : List (Pl × LV) := [(.T 3, .t (.val false [.ptr 3 0 0])), (.T 5, .t (.val false [.int .i64 y0])), (.B 3, .b 0 false [.sl .any 43 (.pair .str (.sl 3 (.int .i64))) y1])]
noncomputable def g_Sw_FnStoOk_0 (y1 : List ((ByteArray) × (List (Int)))) : ((Int)) → RT ((Int)) (((Bool)) ⊕ (Unit))
  | y0 => .br (true) (.br (decide (y0 < (↑(List.length y1) : Int))) (.br (decide ((0 : Int) ≤ y0 ∧ y0 ≤ (↑(List.length y1) : Int))) (.br (decide ((nat_lit 0 + List.length (List.drop (nat_lit 0) (List.take (Int.toNat y0) y1))) * nat_lit 40 ≤ nat_lit 140737488355328 ∧ nat_lit 0 + List.length (List.drop (nat_lit 0) (List.take (Int.toNat y0) y1)) ≤ nat_lit 9223372036854775807)) (.br (true) (.br (decide ((0 : Int) ≤ IntKind.wrap IntKind.i64 (y0 + (1 : Int)) ∧ IntKind.wrap IntKind.i64 (y0 + (1 : Int)) ≤ (↑(List.length y1) : Int))) (.br (decide ((List.length ([] ++ List.drop (nat_lit 0) (List.take (Int.toNat y0) y1)) + List.length (List.drop (Int.toNat (IntKind.wrap IntKind.i64 (y0 + (1 : Int)))) (List.take (List.length y1) y1))) * nat_lit 40 ≤ nat_lit 140737488355328 ∧ List.length ([] ++ List.drop (nat_lit 0) (List.take (Int.toNat y0) y1)) + List.length (List.drop (Int.toNat (IntKind.wrap IntKind.i64 (y0 + (1 : Int)))) (List.take (List.length y1) y1)) ≤ nat_lit 9223372036854775807)) (.br (true) (.br (decide ((0 : Int) ≤ IntKind.wrap IntKind.i64 (y0 + (1 : Int)) ∧ IntKind.wrap IntKind.i64 (y0 + (1 : Int)) ≤ (↑(List.length y1) : Int))) (.br (decide ((nat_lit 0 + List.length (List.drop (nat_lit 0) (List.take (Int.toNat (IntKind.wrap IntKind.i64 (y0 + (1 : Int)))) y1))) * nat_lit 40 ≤ nat_lit 140737488355328 ∧ nat_lit 0 + List.length (List.drop (nat_lit 0) (List.take (Int.toNat (IntKind.wrap IntKind.i64 (y0 + (1 : Int)))) y1)) ≤ nat_lit 9223372036854775807)) (.br (decide ((0 : Int) ≤ y0 ∧ y0 ≤ (↑(List.length y1) : Int))) (.br (decide ((List.length ([] ++ List.drop (nat_lit 0) (List.take (Int.toNat (IntKind.wrap IntKind.i64 (y0 + (1 : Int)))) y1)) + List.length (List.drop (Int.toNat y0) (List.take (List.length y1) y1))) * nat_lit 40 ≤ nat_lit 140737488355328 ∧ List.length ([] ++ List.drop (nat_lit 0) (List.take (Int.toNat (IntKind.wrap IntKind.i64 (y0 + (1 : Int)))) y1)) + List.length (List.drop (Int.toNat y0) (List.take (List.length y1) y1)) ≤ nat_lit 9223372036854775807)) (.br (g_Ai_StoOk ([] ++ List.drop (nat_lit 0) (List.take (Int.toNat y0) y1) ++ List.drop (Int.toNat (IntKind.wrap IntKind.i64 (y0 + (1 : Int)))) (List.take (List.length y1) y1))) (.br (!g_Vi_StoOk_0 ([] ++ List.drop (nat_lit 0) (List.take (Int.toNat y0) y1) ++ List.drop (Int.toNat (IntKind.wrap IntKind.i64 (y0 + (1 : Int)))) (List.take (List.length y1) y1))) (.out (.inl false)) (.br (g_Ai_StoOk ([] ++ List.drop (nat_lit 0) (List.take (Int.toNat (IntKind.wrap IntKind.i64 (y0 + (1 : Int)))) y1) ++ List.drop (Int.toNat y0) (List.take (List.length y1) y1))) (.br (g_Vi_StoOk_0 ([] ++ List.drop (nat_lit 0) (List.take (Int.toNat (IntKind.wrap IntKind.i64 (y0 + (1 : Int)))) y1) ++ List.drop (Int.toNat y0) (List.take (List.length y1) y1))) (.out (.inl false)) (.br (true) (.go (IntKind.wrap IntKind.i64 (y0 + (1 : Int)))) (.bad))) (.bad))) (.bad)) (.bad)) (.bad)) (.bad)) (.bad)) (.bad)) (.bad)) (.bad)) (.bad)) (.bad)) (.bad)) (.out (.inr (())))) (.bad)
noncomputable def g_Lw_FnStoOk_0 (y1 : List ((ByteArray) × (List (Int)))) (x : (Int)) : Option (((Bool)) ⊕ (Unit)) := loopO (g_Sw_FnStoOk_0 y1) x
noncomputable def xw_FnStoOk_0 (y1 : List ((ByteArray) × (List (Int)))) : (((Bool)) ⊕ (Unit)) → Ex × List (Pl × LV) := fun
  | .inl r => (.ret, [(.T 2, .t (.val false [.bool r]))])
  | .inr (r) => (.exit 0, [(.T 2, .t (.val false [.undef]))])
noncomputable def Ow_FnStoOk_1 : Orc := fun b h => match b, h with
  | 0, [(.T 3, .t (.val false [.ptr 3 0 0])), (.T 5, .t (.val false [.int .i64 y0])), (.B 3, .b 0 false [.sl .any 43 (.pair .str (.sl 3 (.int .i64))) y1])] => some (okO (g_Lw_FnStoOk_0 y1 y0), (.br (isL (valO (g_Lw_FnStoOk_0 y1 y0))) (.leaf .ret [(.T 2, .t (.val false [.bool (getL (valO (g_Lw_FnStoOk_0 y1 y0)))]))]) (.leaf (.exit 0) [(.T 2, .t (.val false [.undef]))])))
  | b, h => Ow_FnStoOk_0 b h
theorem bw_FnStoOk_0 (y0 : Int) (y1 : List ((ByteArray) × (List (Int)))) : Tr.bt Ew_FnStoOk Ow_FnStoOk_0 (exec Ew_FnStoOk 0 cw_FnStoOk_0 (St.of (hw_FnStoOk_0 y0 y1)) (leafRd Ew_FnStoOk 0)) = (g_Sw_FnStoOk_0 y1 y0).bt (fun (y0 : (Int)) => (hw_FnStoOk_0 y0 y1)) (xw_FnStoOk_0 y1) := by kernel_rfl
theorem kw_FnStoOk_1 : OrcOk Ew_FnStoOk Ow_FnStoOk_1 lsw_FnStoOk 1 := orc_add kw_FnStoOk_0 (fun n p hp h ex h' ho => by
  obtain ⟨b, c⟩ := p
  obtain ⟨xt, h1, h2⟩ := ho
  have h1 : Ow_FnStoOk_1 b h = some (true, xt) := h1
  unfold Ow_FnStoOk_1 at h1
  split at h1
  · injection h1 with h1
    injection h1 with e1 e2
    subst e2
    have hc : c = cw_FnStoOk_0 := mw_FnStoOk_0 _ hp rfl
    subst hc
    right
    rename_i y0 y1
    have key := LT_step kw_FnStoOk_0 hp (fun q hq => loopsAll_in _ _ _ _ hp hq) (fun (y0 : (Int)) => (hw_FnStoOk_0 y0 y1)) (xw_FnStoOk_0 y1) (g_Sw_FnStoOk_0 y1) (fun x => by first | exact bw_FnStoOk_0 x y1) n (x := y0) (okO_some e1)
    have hx : ∀ r, XT.sel (.br (isL r) (.leaf .ret [(.T 2, .t (.val false [.bool (getL r)]))]) (.leaf (.exit 0) [(.T 2, .t (.val false [.undef]))])) = xw_FnStoOk_0 y1 r := fun r => by first | rfl | (rcases r with r | r <;> rfl) | (rcases r with r | r | r <;> rfl) | (rcases r with r | r | r | r <;> rfl)
    have h3 := (hx (valO (g_Lw_FnStoOk_0 y1 y0))).symm.trans h2
    have e3 := congrArg Prod.fst h3
    have e4 := congrArg Prod.snd h3
    simp only at e3 e4
    rw [← e3, ← e4]
    exact key
  · exact .inl ⟨xt, h1, h2⟩)
noncomputable def g_Aw_FnStoOk (a0 : List (Int)) : Bool := decide ((↑(List.length a0) : Int) > (1048576 : Int)) || g_As_DrawStoOk a0 && (g_Ai_StoOk (g_Vs_DrawStoOk_0 a0) && (g_As_StoOk (g_Vs_DrawStoOk_0 a0) && (!g_Vi_StoOk_0 (g_Vs_DrawStoOk_0 a0) == g_Vs_StoOk_0 (g_Vs_DrawStoOk_0 a0) || g_Ai_StoOk [] && (!g_Vi_StoOk_0 [] || bif !g_Vi_StoOk_0 (g_Vs_DrawStoOk_0 a0) then g_Aw_jaOk else okO (g_Lw_FnStoOk_0 (g_Vs_DrawStoOk_0 a0) (0 : Int))))))
noncomputable def g_Vw_FnStoOk_0 (a0 : List (Int)) : Bool := bif decide ((↑(List.length a0) : Int) > (1048576 : Int)) then true else bif !g_Vi_StoOk_0 (g_Vs_DrawStoOk_0 a0) == g_Vs_StoOk_0 (g_Vs_DrawStoOk_0 a0) then false else bif !g_Vi_StoOk_0 [] then false else bif !g_Vi_StoOk_0 (g_Vs_DrawStoOk_0 a0) then g_Vw_jaOk_0 else bif isL (valO (g_Lw_FnStoOk_0 (g_Vs_DrawStoOk_0 a0) (0 : Int))) then getL (valO (g_Lw_FnStoOk_0 (g_Vs_DrawStoOk_0 a0) (0 : Int))) else true
noncomputable def Fw_FnStoOk : FSem := fun ys => match ys with
  | [.val false [.sl .any 5 (.int .u8) a0]] => some ((g_Aw_FnStoOk a0), .val false [.bool (g_Vw_FnStoOk_0 a0)], [])
  | _ => none
theorem vw_FnStoOk (a0 : List (Int)) : collapseH .std Ew_FnStoOk Ow_FnStoOk_1 (execFn Ew_FnStoOk Go.Proofs.Tryd.f3 msw_FnStoOk [.val false [.sl .any 5 (.int .u8) a0]]) = some ((g_Aw_FnStoOk a0), .val false [.bool (g_Vw_FnStoOk_0 a0)], []) := by kernel_rfl
theorem sw_FnStoOk : Sound Go.Proofs.Tryd.prog 3 msw_FnStoOk Fw_FnStoOk := by
  refine fn_gen goodw_FnStoOk (by kernel_rfl) .std (fn := Go.Proofs.Tryd.f3) (c := (Go.Proofs.Tryd.f3.body.getD .skip)) (o := Ow_FnStoOk_1) (k := 1) (by kernel_rfl) (by kernel_rfl) (by kernel_rfl) (by kernel_rfl) (by decide) kw_FnStoOk_1 ?_
  intro ys r outs h
  unfold Fw_FnStoOk at h
  split at h
  · exact (vw_FnStoOk _).trans h
  · cases h
end Go.Proofs.YtkjeicijcecmlaaDoor.E
end
