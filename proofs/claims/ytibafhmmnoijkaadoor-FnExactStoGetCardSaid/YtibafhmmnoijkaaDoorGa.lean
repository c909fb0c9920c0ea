/- What the functions that are reached do, by the engine: for the proof (laws.FnExactStoGet): part 1. No conditions. -/
import Derived.Test.YtibafhmmnoijkaaDoorEc
import Derived.Test.YtibafhmmnoijkaaDoorProg
import Derived.Test.YtibafhmmnoijkaaDoorShelf
set_option linter.all false
section
namespace Go.Proofs.YtibafhmmnoijkaaDoor.E
open Go
set_option maxRecDepth 100000
set_option maxHeartbeats 0
set_option linter.all false
noncomputable def Ei_in : Env where
  tt := mkTI Go.Proofs.Tryd.prog
  fn := fun _ => none
  bxf := fun _ => none
  mv := []
  keep := fun _ => []
  keepB := fun _ => []
  keepX := fun _ => []
  keepXB := fun _ => []
theorem goodFi_in : ∀ f ms F, Ei_in.fn f = some (ms, F) → Sound Go.Proofs.Tryd.prog f ms F := fun f ms F h => by cases h
theorem goodBi_in : ∀ f ms F, Ei_in.bxf f = some (ms, F) → SoundB Go.Proofs.Tryd.prog f ms F := fun f ms F h => by cases h
theorem goodi_in : Good Go.Proofs.Tryd.prog Ei_in := ⟨rfl, goodFi_in, goodBi_in⟩
noncomputable def Oi_in_0 : Orc := fun _ _ => none
noncomputable def msi_in : List PM := [.own, .own, .own]
noncomputable def lsi_in : List (Nat × Code) := loopsAll 0 (Go.Proofs.Tryd.f68.body.getD .skip)

theorem ki_in_0 : OrcOk Ei_in Oi_in_0 lsi_in 0 := orcOk_none
noncomputable def g_Ai_in (a0 : Int) (a1 : Int) (a2 : Int) : Bool := !decide (a0 ≥ a1) || true
noncomputable def g_Vi_in_0 (a0 : Int) (a1 : Int) (a2 : Int) : Bool := bif decide (a0 ≥ a1) then decide (a0 ≤ a2) else false
noncomputable def Fi_in : FSem := fun ys => match ys with
  | [.val false [.int .i64 a0], .val false [.int .i64 a1], .val false [.int .i64 a2]] => some ((g_Ai_in a0 a1 a2), .val false [.bool (g_Vi_in_0 a0 a1 a2)], [])
  | _ => none
theorem vi_in (a0 : Int) (a1 : Int) (a2 : Int) : collapseH .std Ei_in Oi_in_0 (execFn Ei_in Go.Proofs.Tryd.f68 msi_in [.val false [.int .i64 a0], .val false [.int .i64 a1], .val false [.int .i64 a2]]) = some ((g_Ai_in a0 a1 a2), .val false [.bool (g_Vi_in_0 a0 a1 a2)], []) := by kernel_rfl
theorem si_in : Sound Go.Proofs.Tryd.prog 68 msi_in Fi_in := by
  refine fn_gen goodi_in (by kernel_rfl) .std (fn := Go.Proofs.Tryd.f68) (c := (Go.Proofs.Tryd.f68.body.getD .skip)) (o := Oi_in_0) (k := 0) (by kernel_rfl) (by kernel_rfl) (by kernel_rfl) (by kernel_rfl) (by decide) ki_in_0 ?_
  intro ys r outs h
  unfold Fi_in at h
  split at h
  · exact (vi_in _ _ _).trans h
  · cases h
end Go.Proofs.YtibafhmmnoijkaaDoor.E
end
section
namespace Go.Proofs.YtibafhmmnoijkaaDoor.E
open Go
set_option maxRecDepth 100000
set_option linter.all false
def msstrings_Trim : List PM := [.own, .own]
def g_trim (s c : ByteArray) : ByteArray := ⟨(Lib.trimS s.data.toList c.data.toList).toArray⟩
def g_ascii (c : ByteArray) : Bool := c.data.toList.all fun b => decide (b.toNat < 128)
def Fstrings_Trim : FSem := fun ys => match ys with
  | [.val false [.str s], .val false [.str c]] => some (decide (s.size ≤ 9223372036854775807) && (decide (c.size < 4294967281) && g_ascii c), .val false [.str (g_trim s c)], [])
  | _ => none
theorem sstrings_Trim : Sound Go.Proofs.Tryd.prog 143 msstrings_Trim Fstrings_Trim := by
  refine sound_plain (by simp [msstrings_Trim]) ⟨_, Tryd.func143, by kernel_rfl, by kernel_rfl⟩ (fun w ys r outs h => ?_)
  unfold Fstrings_Trim at h
  split at h
  · rename_i s c
    simp only [Option.some.injEq, Prod.mk.injEq, Bool.and_eq_true, decide_eq_true_eq] at h
    obtain ⟨⟨h1, h2, h3⟩, rfl, rfl⟩ := h
    refine ⟨rfl, [.string s, .string c], .string (g_trim s c), rfl, rfl, ?_⟩
    exact Tryd.strings_Trim_laid s c w h1 h2 (fun j b hb => by
      have := List.all_eq_true.1 h3 b (List.mem_of_getElem? hb)
      simpa using this)
  · cases h
end Go.Proofs.YtibafhmmnoijkaaDoor.E
end
section
namespace Go.Proofs.YtibafhmmnoijkaaDoor.E
open Go
set_option maxRecDepth 100000
set_option maxHeartbeats 0
set_option linter.all false
noncomputable def Ei_keyOk : Env where
  tt := mkTI Go.Proofs.Tryd.prog
  fn := fun f => match f with
    | 68 => some (msi_in, FSem.wk msi_in Fi_in)
    | 143 => some (msstrings_Trim, FSem.wk msstrings_Trim Fstrings_Trim)
    | _ => none
  bxf := fun _ => none
  mv := []
  keep := fun _ => []
  keepB := fun _ => []
  keepX := fun _ => []
  keepXB := fun _ => []
theorem goodFi_keyOk : ∀ f ms F, Ei_keyOk.fn f = some (ms, F) → Sound Go.Proofs.Tryd.prog f ms F := fun f ms F h => by
  unfold Ei_keyOk at h
  dsimp only at h
  split at h
  · injection h with h; injection h with e1 e2; subst e1 e2; exact Sound.wk si_in
  · injection h with h; injection h with e1 e2; subst e1 e2; exact Sound.wk sstrings_Trim
  · cases h
theorem goodBi_keyOk : ∀ f ms F, Ei_keyOk.bxf f = some (ms, F) → SoundB Go.Proofs.Tryd.prog f ms F := fun f ms F h => by cases h
theorem goodi_keyOk : Good Go.Proofs.Tryd.prog Ei_keyOk := ⟨rfl, goodFi_keyOk, goodBi_keyOk⟩
noncomputable def Oi_keyOk_0 : Orc := fun _ _ => none
noncomputable def msi_keyOk : List PM := [.own]
noncomputable def lsi_keyOk : List (Nat × Code) := loopsAll 0 (Go.Proofs.Tryd.f109.body.getD .skip)

theorem ki_keyOk_0 : OrcOk Ei_keyOk Oi_keyOk_0 lsi_keyOk 0 := orcOk_none
noncomputable def g_Ai_keyOk (a0 : ByteArray) : Bool := g_Ai_in (↑(ByteArray.size a0) : Int) (2 : Int) (3 : Int) && (!g_Vi_in_0 (↑(ByteArray.size a0) : Int) (2 : Int) (3 : Int) || decide ((0 : Int) ≤ (0 : Int) ∧ (0 : Int) < (↑(ByteArray.size a0) : Int)) && (g_Ai_in (IntKind.wrap IntKind.i64 (byteAt a0 (nat_lit 0))) (97 : Int) (122 : Int) && (!g_Vi_in_0 (IntKind.wrap IntKind.i64 (byteAt a0 (nat_lit 0))) (97 : Int) (122 : Int) || decide ((0 : Int) ≤ (1 : Int) ∧ (1 : Int) ≤ (↑(ByteArray.size a0) : Int)) && (decide (ByteArray.size (ByteArray.extract a0 (nat_lit 1) (ByteArray.size a0)) ≤ nat_lit 9223372036854775807) && g_ascii (lit [(48 : Nat), (49 : Nat), (50 : Nat), (51 : Nat), (52 : Nat), (53 : Nat), (54 : Nat), (55 : Nat), (56 : Nat), (57 : Nat)]) && true))))
noncomputable def g_Vi_keyOk_0 (a0 : ByteArray) : Bool := bif g_Vi_in_0 (↑(ByteArray.size a0) : Int) (2 : Int) (3 : Int) then bif g_Vi_in_0 (IntKind.wrap IntKind.i64 (byteAt a0 (nat_lit 0))) (97 : Int) (122 : Int) then ByteArray.toList (g_trim (ByteArray.extract a0 (nat_lit 1) (ByteArray.size a0)) (lit [(48 : Nat), (49 : Nat), (50 : Nat), (51 : Nat), (52 : Nat), (53 : Nat), (54 : Nat), (55 : Nat), (56 : Nat), (57 : Nat)])) == [] else false else false
noncomputable def Fi_keyOk : FSem := fun ys => match ys with
  | [.val false [.str a0]] => some ((g_Ai_keyOk a0), .val false [.bool (g_Vi_keyOk_0 a0)], [])
  | _ => none
theorem vi_keyOk (a0 : ByteArray) : collapseH .std Ei_keyOk Oi_keyOk_0 (execFn Ei_keyOk Go.Proofs.Tryd.f109 msi_keyOk [.val false [.str a0]]) = some ((g_Ai_keyOk a0), .val false [.bool (g_Vi_keyOk_0 a0)], []) := by kernel_rfl
theorem si_keyOk : Sound Go.Proofs.Tryd.prog 109 msi_keyOk Fi_keyOk := by
  refine fn_gen goodi_keyOk (by kernel_rfl) .std (fn := Go.Proofs.Tryd.f109) (c := (Go.Proofs.Tryd.f109.body.getD .skip)) (o := Oi_keyOk_0) (k := 0) (by kernel_rfl) (by kernel_rfl) (by kernel_rfl) (by kernel_rfl) (by decide) ki_keyOk_0 ?_
  intro ys r outs h
  unfold Fi_keyOk at h
  split at h
  · exact (vi_keyOk _).trans h
  · cases h
end Go.Proofs.YtibafhmmnoijkaaDoor.E
end
section
namespace Go.Proofs.YtibafhmmnoijkaaDoor.E
open Go
set_option maxRecDepth 100000
set_option maxHeartbeats 0
set_option linter.all false
noncomputable def Ei_valOk_1 : Env where
  tt := mkTI Go.Proofs.Tryd.prog
  fn := fun f => match f with
    | 68 => some (msi_in, FSem.wk msi_in Fi_in)
    | _ => none
  bxf := fun _ => none
  mv := []
  keep := fun _ => []
  keepB := fun _ => []
  keepX := fun _ => []
  keepXB := fun _ => []
theorem goodFi_valOk_1 : ∀ f ms F, Ei_valOk_1.fn f = some (ms, F) → Sound Go.Proofs.Tryd.prog f ms F := fun f ms F h => by
  unfold Ei_valOk_1 at h
  dsimp only at h
  split at h
  · injection h with h; injection h with e1 e2; subst e1 e2; exact Sound.wk si_in
  · cases h
theorem goodBi_valOk_1 : ∀ f ms F, Ei_valOk_1.bxf f = some (ms, F) → SoundB Go.Proofs.Tryd.prog f ms F := fun f ms F h => by cases h
theorem goodi_valOk_1 : Good Go.Proofs.Tryd.prog Ei_valOk_1 := ⟨rfl, goodFi_valOk_1, goodBi_valOk_1⟩
noncomputable def Oi_valOk_1_0 : Orc := fun _ _ => none
noncomputable def msi_valOk_1 : List PM := [.own]
noncomputable def lsi_valOk_1 : List (Nat × Code) := loopsAll 0 (Go.Proofs.Tryd.f145.body.getD .skip)

theorem ki_valOk_1_0 : OrcOk Ei_valOk_1 Oi_valOk_1_0 lsi_valOk_1 0 := orcOk_none
noncomputable def g_Ai_valOk_1 (a0 : Int) : Bool := g_Ai_in a0 (0 : Int) (9999 : Int)
noncomputable def g_Vi_valOk_1_0 (a0 : Int) : Bool := !g_Vi_in_0 a0 (0 : Int) (9999 : Int)
noncomputable def Fi_valOk_1 : FSem := fun ys => match ys with
  | [.val false [.int .i64 a0]] => some ((g_Ai_valOk_1 a0), .val false [.bool (g_Vi_valOk_1_0 a0)], [])
  | _ => none
theorem vi_valOk_1 (a0 : Int) : collapseH .std Ei_valOk_1 Oi_valOk_1_0 (execFn Ei_valOk_1 Go.Proofs.Tryd.f145 msi_valOk_1 [.val false [.int .i64 a0]]) = some ((g_Ai_valOk_1 a0), .val false [.bool (g_Vi_valOk_1_0 a0)], []) := by kernel_rfl
theorem si_valOk_1 : Sound Go.Proofs.Tryd.prog 145 msi_valOk_1 Fi_valOk_1 := by
  refine fn_gen goodi_valOk_1 (by kernel_rfl) .std (fn := Go.Proofs.Tryd.f145) (c := (Go.Proofs.Tryd.f145.body.getD .skip)) (o := Oi_valOk_1_0) (k := 0) (by kernel_rfl) (by kernel_rfl) (by kernel_rfl) (by kernel_rfl) (by decide) ki_valOk_1_0 ?_
  intro ys r outs h
  unfold Fi_valOk_1 at h
  split at h
  · exact (vi_valOk_1 _).trans h
  · cases h
end Go.Proofs.YtibafhmmnoijkaaDoor.E
end
section
namespace Go.Proofs.YtibafhmmnoijkaaDoor.E
open Go
set_option maxRecDepth 100000
set_option maxHeartbeats 0
set_option linter.all false
noncomputable def Eslices_IndexFunc_int_int__i_valOk_1 : Env where
  tt := mkTI Go.Proofs.Tryd.prog
  fn := fun f => match f with
    | 145 => some (msi_valOk_1, FSem.wk msi_valOk_1 Fi_valOk_1)
    | _ => none
  bxf := fun _ => none
  mv := []
  keep := fun b => match b with
    | 0 => [(0, false), (1, false), (7, false), (8, false)]
    | _ => []
  keepB := fun b => match b with
    | 0 => []
    | _ => []
  keepX := fun b => match b with
    | 0 => [(4, false)]
    | _ => []
  keepXB := fun b => match b with
    | 0 => []
    | _ => []
theorem goodFslices_IndexFunc_int_int__i_valOk_1 : ∀ f ms F, Eslices_IndexFunc_int_int__i_valOk_1.fn f = some (ms, F) → Sound Go.Proofs.Tryd.prog f ms F := fun f ms F h => by
  unfold Eslices_IndexFunc_int_int__i_valOk_1 at h
  dsimp only at h
  split at h
  · injection h with h; injection h with e1 e2; subst e1 e2; exact Sound.wk si_valOk_1
  · cases h
theorem goodBslices_IndexFunc_int_int__i_valOk_1 : ∀ f ms F, Eslices_IndexFunc_int_int__i_valOk_1.bxf f = some (ms, F) → SoundB Go.Proofs.Tryd.prog f ms F := fun f ms F h => by cases h
theorem goodslices_IndexFunc_int_int__i_valOk_1 : Good Go.Proofs.Tryd.prog Eslices_IndexFunc_int_int__i_valOk_1 := ⟨rfl, goodFslices_IndexFunc_int_int__i_valOk_1, goodBslices_IndexFunc_int_int__i_valOk_1⟩
noncomputable def Oslices_IndexFunc_int_int__i_valOk_1_0 : Orc := fun _ _ => none
noncomputable def msslices_IndexFunc_int_int__i_valOk_1 : List PM := [.rd, .rd]
noncomputable def lsslices_IndexFunc_int_int__i_valOk_1 : List (Nat × Code) := loopsAll 0 (Go.Proofs.Tryd.f174.body.getD .skip)
noncomputable def cslices_IndexFunc_int_int__i_valOk_1_0 : Code := (loopOf 0 (Go.Proofs.Tryd.f174.body.getD .skip)).getD .skip
theorem lseqslices_IndexFunc_int_int__i_valOk_1 : lsslices_IndexFunc_int_int__i_valOk_1 = [(0, cslices_IndexFunc_int_int__i_valOk_1_0)] := by kernel_rfl
theorem mslices_IndexFunc_int_int__i_valOk_1_0 : ∀ p, p ∈ lsslices_IndexFunc_int_int__i_valOk_1 → p.1 = 0 → p.2 = cslices_IndexFunc_int_int__i_valOk_1_0 := by
  intro p hp
  rw [lseqslices_IndexFunc_int_int__i_valOk_1] at hp
  simp only [List.mem_cons, List.not_mem_nil, or_false] at hp
  subst hp; simp
theorem kslices_IndexFunc_int_int__i_valOk_1_0 : OrcOk Eslices_IndexFunc_int_int__i_valOk_1 Oslices_IndexFunc_int_int__i_valOk_1_0 lsslices_IndexFunc_int_int__i_valOk_1 0 := orcOk_none
noncomputable def hslices_IndexFunc_int_int__i_valOk_1_0 (y0 : List (Int)) (y1 : Int) (y2 : Int) : List (Pl × LV) := [(.T 0, .t (.val false [.sl .any 3 (.int .i64) y0])), (.T 1, .t (.val false [.fn 145 []])), (.T 7, .t (.val false [.int .i64 y1])), (.T 8, .t (.val false [.int .i64 y2]))]
noncomputable def g_Sslices_IndexFunc_int_int__i_valOk_1_0 (y0 : List (Int)) (y1 : Int) : ((Int)) → RT ((Int)) (((Int)) ⊕ (Unit))
  | y2 => .br (true) (.br (decide (y2 < y1)) (.br (decide ((0 : Int) ≤ y2 ∧ y2 < (↑(List.length y0) : Int))) (.br (g_Ai_valOk_1 (at_ (Ty.int IntKind.i64) y0 (Int.toNat y2))) (.br (g_Vi_valOk_1_0 (at_ (Ty.int IntKind.i64) y0 (Int.toNat y2))) (.out (.inl y2)) (.br (true) (.go (IntKind.wrap IntKind.i64 (y2 + (1 : Int)))) (.bad))) (.bad)) (.bad)) (.out (.inr (())))) (.bad)
noncomputable def g_Lslices_IndexFunc_int_int__i_valOk_1_0 (y0 : List (Int)) (y1 : Int) (x : (Int)) : Option (((Int)) ⊕ (Unit)) := loopO (g_Sslices_IndexFunc_int_int__i_valOk_1_0 y0 y1) x
noncomputable def xslices_IndexFunc_int_int__i_valOk_1_0 (y0 : List (Int)) (y1 : Int) : (((Int)) ⊕ (Unit)) → Ex × List (Pl × LV) := fun
  | .inl r => (.ret, [(.T 4, .t (.val false [.int .i64 r]))])
  | .inr (r) => (.exit 0, [(.T 4, .t (.val false [.undef]))])
noncomputable def Oslices_IndexFunc_int_int__i_valOk_1_1 : Orc := fun b h => match b, h with
  | 0, [(.T 0, .t (.val false [.sl .any 3 (.int .i64) y0])), (.T 1, .t (.val false [.fn 145 []])), (.T 7, .t (.val false [.int .i64 y1])), (.T 8, .t (.val false [.int .i64 y2]))] => some (okO (g_Lslices_IndexFunc_int_int__i_valOk_1_0 y0 y1 y2), (.br (isL (valO (g_Lslices_IndexFunc_int_int__i_valOk_1_0 y0 y1 y2))) (.leaf .ret [(.T 4, .t (.val false [.int .i64 (getL (valO (g_Lslices_IndexFunc_int_int__i_valOk_1_0 y0 y1 y2)))]))]) (.leaf (.exit 0) [(.T 4, .t (.val false [.undef]))])))
  | b, h => Oslices_IndexFunc_int_int__i_valOk_1_0 b h
theorem bslices_IndexFunc_int_int__i_valOk_1_0 (y0 : List (Int)) (y1 : Int) (y2 : Int) : Tr.bt Eslices_IndexFunc_int_int__i_valOk_1 Oslices_IndexFunc_int_int__i_valOk_1_0 (exec Eslices_IndexFunc_int_int__i_valOk_1 0 cslices_IndexFunc_int_int__i_valOk_1_0 (St.of (hslices_IndexFunc_int_int__i_valOk_1_0 y0 y1 y2)) (leafRd Eslices_IndexFunc_int_int__i_valOk_1 0)) = (g_Sslices_IndexFunc_int_int__i_valOk_1_0 y0 y1 y2).bt (fun (y2 : (Int)) => (hslices_IndexFunc_int_int__i_valOk_1_0 y0 y1 y2)) (xslices_IndexFunc_int_int__i_valOk_1_0 y0 y1) := by kernel_rfl
theorem kslices_IndexFunc_int_int__i_valOk_1_1 : OrcOk Eslices_IndexFunc_int_int__i_valOk_1 Oslices_IndexFunc_int_int__i_valOk_1_1 lsslices_IndexFunc_int_int__i_valOk_1 1 := orc_add kslices_IndexFunc_int_int__i_valOk_1_0 (fun n p hp h ex h' ho => by
  obtain ⟨b, c⟩ := p
  obtain ⟨xt, h1, h2⟩ := ho
  have h1 : Oslices_IndexFunc_int_int__i_valOk_1_1 b h = some (true, xt) := h1
  unfold Oslices_IndexFunc_int_int__i_valOk_1_1 at h1
  split at h1
  · injection h1 with h1
    injection h1 with e1 e2
    subst e2
    have hc : c = cslices_IndexFunc_int_int__i_valOk_1_0 := mslices_IndexFunc_int_int__i_valOk_1_0 _ hp rfl
    subst hc
    right
    rename_i y0 y1 y2
    have key := LT_step kslices_IndexFunc_int_int__i_valOk_1_0 hp (fun q hq => loopsAll_in _ _ _ _ hp hq) (fun (y2 : (Int)) => (hslices_IndexFunc_int_int__i_valOk_1_0 y0 y1 y2)) (xslices_IndexFunc_int_int__i_valOk_1_0 y0 y1) (g_Sslices_IndexFunc_int_int__i_valOk_1_0 y0 y1) (fun x => by first | exact bslices_IndexFunc_int_int__i_valOk_1_0 y0 y1 x) n (x := y2) (okO_some e1)
    have hx : ∀ r, XT.sel (.br (isL r) (.leaf .ret [(.T 4, .t (.val false [.int .i64 (getL r)]))]) (.leaf (.exit 0) [(.T 4, .t (.val false [.undef]))])) = xslices_IndexFunc_int_int__i_valOk_1_0 y0 y1 r := fun r => by first | rfl | (rcases r with r | r <;> rfl) | (rcases r with r | r | r <;> rfl) | (rcases r with r | r | r | r <;> rfl)
    have h3 := (hx (valO (g_Lslices_IndexFunc_int_int__i_valOk_1_0 y0 y1 y2))).symm.trans h2
    have e3 := congrArg Prod.fst h3
    have e4 := congrArg Prod.snd h3
    simp only at e3 e4
    rw [← e3, ← e4]
    exact key
  · exact .inl ⟨xt, h1, h2⟩)
noncomputable def g_Aslices_IndexFunc_int_int__i_valOk_1 (a0 : List (Int)) : Bool := okO (g_Lslices_IndexFunc_int_int__i_valOk_1_0 a0 (↑(List.length a0) : Int) (0 : Int))
noncomputable def g_Vslices_IndexFunc_int_int__i_valOk_1_0 (a0 : List (Int)) : Int := bif isL (valO (g_Lslices_IndexFunc_int_int__i_valOk_1_0 a0 (↑(List.length a0) : Int) (0 : Int))) then getL (valO (g_Lslices_IndexFunc_int_int__i_valOk_1_0 a0 (↑(List.length a0) : Int) (0 : Int))) else (-1 : Int)
noncomputable def Fslices_IndexFunc_int_int__i_valOk_1 : FSem := fun ys => match ys with
  | [.val false [.sl .any 3 (.int .i64) a0], .val false [.fn 145 []]] => some ((g_Aslices_IndexFunc_int_int__i_valOk_1 a0), .val false [.int .i64 (g_Vslices_IndexFunc_int_int__i_valOk_1_0 a0)], [])
  | _ => none
theorem vslices_IndexFunc_int_int__i_valOk_1 (a0 : List (Int)) : collapseH .std Eslices_IndexFunc_int_int__i_valOk_1 Oslices_IndexFunc_int_int__i_valOk_1_1 (execFn Eslices_IndexFunc_int_int__i_valOk_1 Go.Proofs.Tryd.f174 msslices_IndexFunc_int_int__i_valOk_1 [.val false [.sl .any 3 (.int .i64) a0], .val false [.fn 145 []]]) = some ((g_Aslices_IndexFunc_int_int__i_valOk_1 a0), .val false [.int .i64 (g_Vslices_IndexFunc_int_int__i_valOk_1_0 a0)], []) := by kernel_rfl
theorem sslices_IndexFunc_int_int__i_valOk_1 : Sound Go.Proofs.Tryd.prog 174 msslices_IndexFunc_int_int__i_valOk_1 Fslices_IndexFunc_int_int__i_valOk_1 := by
  refine fn_gen goodslices_IndexFunc_int_int__i_valOk_1 (by kernel_rfl) .std (fn := Go.Proofs.Tryd.f174) (c := (Go.Proofs.Tryd.f174.body.getD .skip)) (o := Oslices_IndexFunc_int_int__i_valOk_1_1) (k := 1) (by kernel_rfl) (by kernel_rfl) (by kernel_rfl) (by kernel_rfl) (by decide) kslices_IndexFunc_int_int__i_valOk_1_1 ?_
  intro ys r outs h
  unfold Fslices_IndexFunc_int_int__i_valOk_1 at h
  split at h
  · exact (vslices_IndexFunc_int_int__i_valOk_1 _).trans h
  · cases h
end Go.Proofs.YtibafhmmnoijkaaDoor.E
end
section
namespace Go.Proofs.YtibafhmmnoijkaaDoor.E
open Go
set_option maxRecDepth 100000
set_option maxHeartbeats 0
set_option linter.all false
noncomputable def Eslices_ContainsFunc_int_int__i_valOk_1 : Env where
  tt := mkTI Go.Proofs.Tryd.prog
  fn := fun f => match f with
    | 145 => some (msi_valOk_1, FSem.wk msi_valOk_1 Fi_valOk_1)
    | 174 => some (msslices_IndexFunc_int_int__i_valOk_1, FSem.wk msslices_IndexFunc_int_int__i_valOk_1 Fslices_IndexFunc_int_int__i_valOk_1)
    | _ => none
  bxf := fun _ => none
  mv := []
  keep := fun _ => []
  keepB := fun _ => []
  keepX := fun _ => []
  keepXB := fun _ => []
theorem goodFslices_ContainsFunc_int_int__i_valOk_1 : ∀ f ms F, Eslices_ContainsFunc_int_int__i_valOk_1.fn f = some (ms, F) → Sound Go.Proofs.Tryd.prog f ms F := fun f ms F h => by
  unfold Eslices_ContainsFunc_int_int__i_valOk_1 at h
  dsimp only at h
  split at h
  · injection h with h; injection h with e1 e2; subst e1 e2; exact Sound.wk si_valOk_1
  · injection h with h; injection h with e1 e2; subst e1 e2; exact Sound.wk sslices_IndexFunc_int_int__i_valOk_1
  · cases h
theorem goodBslices_ContainsFunc_int_int__i_valOk_1 : ∀ f ms F, Eslices_ContainsFunc_int_int__i_valOk_1.bxf f = some (ms, F) → SoundB Go.Proofs.Tryd.prog f ms F := fun f ms F h => by cases h
theorem goodslices_ContainsFunc_int_int__i_valOk_1 : Good Go.Proofs.Tryd.prog Eslices_ContainsFunc_int_int__i_valOk_1 := ⟨rfl, goodFslices_ContainsFunc_int_int__i_valOk_1, goodBslices_ContainsFunc_int_int__i_valOk_1⟩
noncomputable def Oslices_ContainsFunc_int_int__i_valOk_1_0 : Orc := fun _ _ => none
noncomputable def msslices_ContainsFunc_int_int__i_valOk_1 : List PM := [.rd, .rd]
noncomputable def lsslices_ContainsFunc_int_int__i_valOk_1 : List (Nat × Code) := loopsAll 0 (Go.Proofs.Tryd.f144.body.getD .skip)

theorem kslices_ContainsFunc_int_int__i_valOk_1_0 : OrcOk Eslices_ContainsFunc_int_int__i_valOk_1 Oslices_ContainsFunc_int_int__i_valOk_1_0 lsslices_ContainsFunc_int_int__i_valOk_1 0 := orcOk_none
noncomputable def g_Aslices_ContainsFunc_int_int__i_valOk_1 (a0 : List (Int)) : Bool := g_Aslices_IndexFunc_int_int__i_valOk_1 a0 && true
noncomputable def g_Vslices_ContainsFunc_int_int__i_valOk_1_0 (a0 : List (Int)) : Bool := decide (g_Vslices_IndexFunc_int_int__i_valOk_1_0 a0 ≥ (0 : Int))
noncomputable def Fslices_ContainsFunc_int_int__i_valOk_1 : FSem := fun ys => match ys with
  | [.val false [.sl .any 3 (.int .i64) a0], .val false [.fn 145 []]] => some ((g_Aslices_ContainsFunc_int_int__i_valOk_1 a0), .val false [.bool (g_Vslices_ContainsFunc_int_int__i_valOk_1_0 a0)], [])
  | _ => none
theorem vslices_ContainsFunc_int_int__i_valOk_1 (a0 : List (Int)) : collapseH .std Eslices_ContainsFunc_int_int__i_valOk_1 Oslices_ContainsFunc_int_int__i_valOk_1_0 (execFn Eslices_ContainsFunc_int_int__i_valOk_1 Go.Proofs.Tryd.f144 msslices_ContainsFunc_int_int__i_valOk_1 [.val false [.sl .any 3 (.int .i64) a0], .val false [.fn 145 []]]) = some ((g_Aslices_ContainsFunc_int_int__i_valOk_1 a0), .val false [.bool (g_Vslices_ContainsFunc_int_int__i_valOk_1_0 a0)], []) := by kernel_rfl
theorem sslices_ContainsFunc_int_int__i_valOk_1 : Sound Go.Proofs.Tryd.prog 144 msslices_ContainsFunc_int_int__i_valOk_1 Fslices_ContainsFunc_int_int__i_valOk_1 := by
  refine fn_gen goodslices_ContainsFunc_int_int__i_valOk_1 (by kernel_rfl) .std (fn := Go.Proofs.Tryd.f144) (c := (Go.Proofs.Tryd.f144.body.getD .skip)) (o := Oslices_ContainsFunc_int_int__i_valOk_1_0) (k := 0) (by kernel_rfl) (by kernel_rfl) (by kernel_rfl) (by kernel_rfl) (by decide) kslices_ContainsFunc_int_int__i_valOk_1_0 ?_
  intro ys r outs h
  unfold Fslices_ContainsFunc_int_int__i_valOk_1 at h
  split at h
  · exact (vslices_ContainsFunc_int_int__i_valOk_1 _).trans h
  · cases h
end Go.Proofs.YtibafhmmnoijkaaDoor.E
end
section
namespace Go.Proofs.YtibafhmmnoijkaaDoor.E
open Go
set_option maxRecDepth 100000
set_option maxHeartbeats 0
set_option linter.all false
noncomputable def Ei_valOk : Env where
  tt := mkTI Go.Proofs.Tryd.prog
  fn := fun f => match f with
    | 68 => some (msi_in, FSem.wk msi_in Fi_in)
    | 144 => some (msslices_ContainsFunc_int_int__i_valOk_1, FSem.wk msslices_ContainsFunc_int_int__i_valOk_1 Fslices_ContainsFunc_int_int__i_valOk_1)
    | _ => none
  bxf := fun _ => none
  mv := []
  keep := fun _ => []
  keepB := fun _ => []
  keepX := fun _ => []
  keepXB := fun _ => []
theorem goodFi_valOk : ∀ f ms F, Ei_valOk.fn f = some (ms, F) → Sound Go.Proofs.Tryd.prog f ms F := fun f ms F h => by
  unfold Ei_valOk at h
  dsimp only at h
  split at h
  · injection h with h; injection h with e1 e2; subst e1 e2; exact Sound.wk si_in
  · injection h with h; injection h with e1 e2; subst e1 e2; exact Sound.wk sslices_ContainsFunc_int_int__i_valOk_1
  · cases h
theorem goodBi_valOk : ∀ f ms F, Ei_valOk.bxf f = some (ms, F) → SoundB Go.Proofs.Tryd.prog f ms F := fun f ms F h => by cases h
theorem goodi_valOk : Good Go.Proofs.Tryd.prog Ei_valOk := ⟨rfl, goodFi_valOk, goodBi_valOk⟩
noncomputable def Oi_valOk_0 : Orc := fun _ _ => none
noncomputable def msi_valOk : List PM := [.rd]
noncomputable def lsi_valOk : List (Nat × Code) := loopsAll 0 (Go.Proofs.Tryd.f110.body.getD .skip)

theorem ki_valOk_0 : OrcOk Ei_valOk Oi_valOk_0 lsi_valOk 0 := orcOk_none
noncomputable def g_Ai_valOk (a0 : List (Int)) : Bool := g_Ai_in (↑(List.length a0) : Int) (1 : Int) (3 : Int) && (!g_Vi_in_0 (↑(List.length a0) : Int) (1 : Int) (3 : Int) || g_Aslices_ContainsFunc_int_int__i_valOk_1 a0)
noncomputable def g_Vi_valOk_0 (a0 : List (Int)) : Bool := bif g_Vi_in_0 (↑(List.length a0) : Int) (1 : Int) (3 : Int) then !g_Vslices_ContainsFunc_int_int__i_valOk_1_0 a0 else false
noncomputable def Fi_valOk : FSem := fun ys => match ys with
  | [.val false [.sl .any 3 (.int .i64) a0]] => some ((g_Ai_valOk a0), .val false [.bool (g_Vi_valOk_0 a0)], [])
  | _ => none
theorem vi_valOk (a0 : List (Int)) : collapseH .std Ei_valOk Oi_valOk_0 (execFn Ei_valOk Go.Proofs.Tryd.f110 msi_valOk [.val false [.sl .any 3 (.int .i64) a0]]) = some ((g_Ai_valOk a0), .val false [.bool (g_Vi_valOk_0 a0)], []) := by kernel_rfl
theorem si_valOk : Sound Go.Proofs.Tryd.prog 110 msi_valOk Fi_valOk := by
  refine fn_gen goodi_valOk (by kernel_rfl) .std (fn := Go.Proofs.Tryd.f110) (c := (Go.Proofs.Tryd.f110.body.getD .skip)) (o := Oi_valOk_0) (k := 0) (by kernel_rfl) (by kernel_rfl) (by kernel_rfl) (by kernel_rfl) (by decide) ki_valOk_0 ?_
  intro ys r outs h
  unfold Fi_valOk at h
  split at h
  · exact (vi_valOk _).trans h
  · cases h
end Go.Proofs.YtibafhmmnoijkaaDoor.E
end
section
namespace Go.Proofs.YtibafhmmnoijkaaDoor.E
open Go
set_option maxRecDepth 100000
set_option maxHeartbeats 0
set_option linter.all false
noncomputable def Ei_StoOk : Env where
  tt := mkTI Go.Proofs.Tryd.prog
  fn := fun f => match f with
    | 109 => some (msi_keyOk, FSem.wk msi_keyOk Fi_keyOk)
    | 110 => some (msi_valOk, FSem.wk msi_valOk Fi_valOk)
    | _ => none
  bxf := fun _ => none
  mv := []
  keep := fun b => match b with
    | 0 => [(1, false), (6, false), (7, false), (8, false)]
    | _ => []
  keepB := fun b => match b with
    | 0 => [(1, false)]
    | _ => []
  keepX := fun b => match b with
    | 0 => [(1, false), (2, false)]
    | _ => []
  keepXB := fun b => match b with
    | 0 => [(1, false)]
    | _ => []
theorem goodFi_StoOk : ∀ f ms F, Ei_StoOk.fn f = some (ms, F) → Sound Go.Proofs.Tryd.prog f ms F := fun f ms F h => by
  unfold Ei_StoOk at h
  dsimp only at h
  split at h
  · injection h with h; injection h with e1 e2; subst e1 e2; exact Sound.wk si_keyOk
  · injection h with h; injection h with e1 e2; subst e1 e2; exact Sound.wk si_valOk
  · cases h
theorem goodBi_StoOk : ∀ f ms F, Ei_StoOk.bxf f = some (ms, F) → SoundB Go.Proofs.Tryd.prog f ms F := fun f ms F h => by cases h
theorem goodi_StoOk : Good Go.Proofs.Tryd.prog Ei_StoOk := ⟨rfl, goodFi_StoOk, goodBi_StoOk⟩
noncomputable def Oi_StoOk_0 : Orc := fun _ _ => none
noncomputable def msi_StoOk : List PM := [.rd]
noncomputable def lsi_StoOk : List (Nat × Code) := loopsAll 0 (Go.Proofs.Tryd.f58.body.getD .skip)
noncomputable def ci_StoOk_0 : Code := (loopOf 0 (Go.Proofs.Tryd.f58.body.getD .skip)).getD .skip
theorem lseqi_StoOk : lsi_StoOk = [(0, ci_StoOk_0)] := by kernel_rfl
theorem mi_StoOk_0 : ∀ p, p ∈ lsi_StoOk → p.1 = 0 → p.2 = ci_StoOk_0 := by
  intro p hp
  rw [lseqi_StoOk] at hp
  simp only [List.mem_cons, List.not_mem_nil, or_false] at hp
  subst hp; simp
theorem ki_StoOk_0 : OrcOk Ei_StoOk Oi_StoOk_0 lsi_StoOk 0 := orcOk_none
noncomputable def hi_StoOk_0 (y0 : List ((ByteArray) × (List (Int)))) (y1 : Int) (y2 : Int) (y3 : List ((ByteArray) × (List (Int)))) : List (Pl × LV) := [(.T 1, .t (.val false [.ptr 1 0 0])), (.T 6, .t (.val false [.sl .any 85 (.pair .str (.sl 3 (.int .i64))) y0])), (.T 7, .t (.val false [.int .i64 y1])), (.T 8, .t (.val false [.int .i64 y2])), (.B 1, .b 0 false [.sl .any 85 (.pair .str (.sl 3 (.int .i64))) y3])]
noncomputable def g_Si_StoOk_0 (y0 : List ((ByteArray) × (List (Int)))) (y1 : Int) (y3 : List ((ByteArray) × (List (Int)))) : ((Int)) → RT ((Int)) (((Bool)) ⊕ (Unit))
  | y2 => .br (true) (.br (decide (y2 < y1)) (.br (decide ((0 : Int) ≤ y2 ∧ y2 < (↑(List.length y0) : Int))) (.br (g_Ai_keyOk (at_ (Ty.pair Ty.str (Ty.sl (nat_lit 3) (Ty.int IntKind.i64))) y0 (Int.toNat y2)).1) (.br (!g_Vi_keyOk_0 (at_ (Ty.pair Ty.str (Ty.sl (nat_lit 3) (Ty.int IntKind.i64))) y0 (Int.toNat y2)).1) (.out (.inl false)) (.br (g_Ai_valOk (at_ (Ty.pair Ty.str (Ty.sl (nat_lit 3) (Ty.int IntKind.i64))) y0 (Int.toNat y2)).2) (.br (!g_Vi_valOk_0 (at_ (Ty.pair Ty.str (Ty.sl (nat_lit 3) (Ty.int IntKind.i64))) y0 (Int.toNat y2)).2) (.out (.inl false)) (.br (true) (.br (decide (y2 > (0 : Int))) (.br (true) (.br (decide ((0 : Int) ≤ IntKind.wrap IntKind.i64 (y2 - (1 : Int)) ∧ IntKind.wrap IntKind.i64 (y2 - (1 : Int)) < (↑(List.length y3) : Int))) (.br (true) (.br (Op.bytesLess (ByteArray.toList (at_ (Ty.pair Ty.str (Ty.sl (nat_lit 3) (Ty.int IntKind.i64))) y0 (Int.toNat y2)).1) (ByteArray.toList (at_ (Ty.pair Ty.str (Ty.sl (nat_lit 3) (Ty.int IntKind.i64))) y3 (Int.toNat (IntKind.wrap IntKind.i64 (y2 - (1 : Int))))).1) || ByteArray.toList (at_ (Ty.pair Ty.str (Ty.sl (nat_lit 3) (Ty.int IntKind.i64))) y0 (Int.toNat y2)).1 == ByteArray.toList (at_ (Ty.pair Ty.str (Ty.sl (nat_lit 3) (Ty.int IntKind.i64))) y3 (Int.toNat (IntKind.wrap IntKind.i64 (y2 - (1 : Int))))).1) (.out (.inl false)) (.br (true) (.go (IntKind.wrap IntKind.i64 (y2 + (1 : Int)))) (.bad))) (.bad)) (.bad)) (.bad)) (.br (true) (.go (IntKind.wrap IntKind.i64 (y2 + (1 : Int)))) (.bad))) (.bad))) (.bad))) (.bad)) (.bad)) (.out (.inr (())))) (.bad)
noncomputable def g_Li_StoOk_0 (y0 : List ((ByteArray) × (List (Int)))) (y1 : Int) (y3 : List ((ByteArray) × (List (Int)))) (x : (Int)) : Option (((Bool)) ⊕ (Unit)) := loopO (g_Si_StoOk_0 y0 y1 y3) x
noncomputable def xi_StoOk_0 (y0 : List ((ByteArray) × (List (Int)))) (y1 : Int) (y3 : List ((ByteArray) × (List (Int)))) : (((Bool)) ⊕ (Unit)) → Ex × List (Pl × LV) := fun
  | .inl r => (.ret, [(.T 1, .t (.val false [.ptr 1 0 0])), (.T 2, .t (.val false [.bool r])), (.B 1, .b 0 false [.sl .any 85 (.pair .str (.sl 3 (.int .i64))) y3])])
  | .inr (r) => (.exit 0, [(.T 1, .t (.val false [.ptr 1 0 0])), (.T 2, .t (.val false [.undef])), (.B 1, .b 0 false [.sl .any 85 (.pair .str (.sl 3 (.int .i64))) y3])])
noncomputable def Oi_StoOk_1 : Orc := fun b h => match b, h with
  | 0, [(.T 1, .t (.val false [.ptr 1 0 0])), (.T 6, .t (.val false [.sl .any 85 (.pair .str (.sl 3 (.int .i64))) y0])), (.T 7, .t (.val false [.int .i64 y1])), (.T 8, .t (.val false [.int .i64 y2])), (.B 1, .b 0 false [.sl .any 85 (.pair .str (.sl 3 (.int .i64))) y3])] => some (okO (g_Li_StoOk_0 y0 y1 y3 y2), (.br (isL (valO (g_Li_StoOk_0 y0 y1 y3 y2))) (.leaf .ret [(.T 1, .t (.val false [.ptr 1 0 0])), (.T 2, .t (.val false [.bool (getL (valO (g_Li_StoOk_0 y0 y1 y3 y2)))])), (.B 1, .b 0 false [.sl .any 85 (.pair .str (.sl 3 (.int .i64))) y3])]) (.leaf (.exit 0) [(.T 1, .t (.val false [.ptr 1 0 0])), (.T 2, .t (.val false [.undef])), (.B 1, .b 0 false [.sl .any 85 (.pair .str (.sl 3 (.int .i64))) y3])])))
  | b, h => Oi_StoOk_0 b h
theorem bi_StoOk_0 (y0 : List ((ByteArray) × (List (Int)))) (y1 : Int) (y2 : Int) (y3 : List ((ByteArray) × (List (Int)))) : Tr.bt Ei_StoOk Oi_StoOk_0 (exec Ei_StoOk 0 ci_StoOk_0 (St.of (hi_StoOk_0 y0 y1 y2 y3)) (leafRd Ei_StoOk 0)) = (g_Si_StoOk_0 y0 y1 y3 y2).bt (fun (y2 : (Int)) => (hi_StoOk_0 y0 y1 y2 y3)) (xi_StoOk_0 y0 y1 y3) := by kernel_rfl
theorem ki_StoOk_1 : OrcOk Ei_StoOk Oi_StoOk_1 lsi_StoOk 1 := orc_add ki_StoOk_0 (fun n p hp h ex h' ho => by
  obtain ⟨b, c⟩ := p
  obtain ⟨xt, h1, h2⟩ := ho
  have h1 : Oi_StoOk_1 b h = some (true, xt) := h1
  unfold Oi_StoOk_1 at h1
  split at h1
  · injection h1 with h1
    injection h1 with e1 e2
    subst e2
    have hc : c = ci_StoOk_0 := mi_StoOk_0 _ hp rfl
    subst hc
    right
    rename_i y0 y1 y2 y3
    have key := LT_step ki_StoOk_0 hp (fun q hq => loopsAll_in _ _ _ _ hp hq) (fun (y2 : (Int)) => (hi_StoOk_0 y0 y1 y2 y3)) (xi_StoOk_0 y0 y1 y3) (g_Si_StoOk_0 y0 y1 y3) (fun x => by first | exact bi_StoOk_0 y0 y1 x y3) n (x := y2) (okO_some e1)
    have hx : ∀ r, XT.sel (.br (isL r) (.leaf .ret [(.T 1, .t (.val false [.ptr 1 0 0])), (.T 2, .t (.val false [.bool (getL r)])), (.B 1, .b 0 false [.sl .any 85 (.pair .str (.sl 3 (.int .i64))) y3])]) (.leaf (.exit 0) [(.T 1, .t (.val false [.ptr 1 0 0])), (.T 2, .t (.val false [.undef])), (.B 1, .b 0 false [.sl .any 85 (.pair .str (.sl 3 (.int .i64))) y3])])) = xi_StoOk_0 y0 y1 y3 r := fun r => by first | rfl | (rcases r with r | r <;> rfl) | (rcases r with r | r | r <;> rfl) | (rcases r with r | r | r | r <;> rfl)
    have h3 := (hx (valO (g_Li_StoOk_0 y0 y1 y3 y2))).symm.trans h2
    have e3 := congrArg Prod.fst h3
    have e4 := congrArg Prod.snd h3
    simp only at e3 e4
    rw [← e3, ← e4]
    exact key
  · exact .inl ⟨xt, h1, h2⟩)
noncomputable def g_Ai_StoOk (a0 : List ((ByteArray) × (List (Int)))) : Bool := okO (g_Li_StoOk_0 a0 (↑(List.length a0) : Int) a0 (0 : Int)) && (isL (valO (g_Li_StoOk_0 a0 (↑(List.length a0) : Int) a0 (0 : Int))) || true)
noncomputable def g_Vi_StoOk_0 (a0 : List ((ByteArray) × (List (Int)))) : Bool := bif isL (valO (g_Li_StoOk_0 a0 (↑(List.length a0) : Int) a0 (0 : Int))) then getL (valO (g_Li_StoOk_0 a0 (↑(List.length a0) : Int) a0 (0 : Int))) else decide ((↑(List.length a0) : Int) ≤ (40 : Int))
noncomputable def Fi_StoOk : FSem := fun ys => match ys with
  | [.val true [.sl .any 85 (.pair .str (.sl 3 (.int .i64))) a0]] => some ((g_Ai_StoOk a0), .val false [.bool (g_Vi_StoOk_0 a0)], [])
  | _ => none
theorem vi_StoOk (a0 : List ((ByteArray) × (List (Int)))) : collapseH .std Ei_StoOk Oi_StoOk_1 (execFn Ei_StoOk Go.Proofs.Tryd.f58 msi_StoOk [.val true [.sl .any 85 (.pair .str (.sl 3 (.int .i64))) a0]]) = some ((g_Ai_StoOk a0), .val false [.bool (g_Vi_StoOk_0 a0)], []) := by kernel_rfl
theorem si_StoOk : Sound Go.Proofs.Tryd.prog 58 msi_StoOk Fi_StoOk := by
  refine fn_gen goodi_StoOk (by kernel_rfl) .std (fn := Go.Proofs.Tryd.f58) (c := (Go.Proofs.Tryd.f58.body.getD .skip)) (o := Oi_StoOk_1) (k := 1) (by kernel_rfl) (by kernel_rfl) (by kernel_rfl) (by kernel_rfl) (by decide) ki_StoOk_1 ?_
  intro ys r outs h
  unfold Fi_StoOk at h
  split at h
  · exact (vi_StoOk _).trans h
  · cases h
end Go.Proofs.YtibafhmmnoijkaaDoor.E
end
section
namespace Go.Proofs.YtibafhmmnoijkaaDoor.E
open Go
set_option maxRecDepth 100000
set_option linter.all false
def msstrings_Compare : List PM := [.own, .own]
def g_compare (a b : ByteArray) : Int := Lib.compareBytes a.data.toList b.data.toList
def Fstrings_Compare : FSem := fun ys => match ys with
  | [.val false [.str a], .val false [.str b]] => some (true, .val false [.int .i64 (g_compare a b)], [])
  | _ => none
theorem sstrings_Compare : Sound Go.Proofs.Tryd.prog 148 msstrings_Compare Fstrings_Compare := by
  refine sound_plain (by simp [msstrings_Compare]) ⟨_, Tryd.func148, by kernel_rfl, by kernel_rfl⟩ (fun w ys r outs h => ?_)
  unfold Fstrings_Compare at h
  split at h
  · rename_i a b
    simp only [Option.some.injEq, Prod.mk.injEq, true_and] at h
    obtain ⟨rfl, rfl⟩ := h
    refine ⟨rfl, [.string a, .string b], .int .i64 (g_compare a b), rfl, rfl, ?_⟩
    exact Calls.mono (Tryd.strings_Compare a b w) (fun e w' h => ⟨h.1, by rw [h.2]; exact RowKit.Below.refl _ _⟩)
  · cases h
end Go.Proofs.YtibafhmmnoijkaaDoor.E
end
section
namespace Go.Proofs.YtibafhmmnoijkaaDoor.E
open Go
set_option maxRecDepth 100000
set_option maxHeartbeats 0
set_option linter.all false
noncomputable def Ei_StoStore_find_1 : Env where
  tt := mkTI Go.Proofs.Tryd.prog
  fn := fun f => match f with
    | 148 => some (msstrings_Compare, FSem.wk msstrings_Compare Fstrings_Compare)
    | _ => none
  bxf := fun _ => none
  mv := []
  keep := fun _ => []
  keepB := fun _ => []
  keepX := fun _ => []
  keepXB := fun _ => []
theorem goodFi_StoStore_find_1 : ∀ f ms F, Ei_StoStore_find_1.fn f = some (ms, F) → Sound Go.Proofs.Tryd.prog f ms F := fun f ms F h => by
  unfold Ei_StoStore_find_1 at h
  dsimp only at h
  split at h
  · injection h with h; injection h with e1 e2; subst e1 e2; exact Sound.wk sstrings_Compare
  · cases h
theorem goodBi_StoStore_find_1 : ∀ f ms F, Ei_StoStore_find_1.bxf f = some (ms, F) → SoundB Go.Proofs.Tryd.prog f ms F := fun f ms F h => by cases h
theorem goodi_StoStore_find_1 : Good Go.Proofs.Tryd.prog Ei_StoStore_find_1 := ⟨rfl, goodFi_StoStore_find_1, goodBi_StoStore_find_1⟩
noncomputable def Oi_StoStore_find_1_0 : Orc := fun _ _ => none
noncomputable def msi_StoStore_find_1 : List PM := [.rd, .own]
noncomputable def lsi_StoStore_find_1 : List (Nat × Code) := loopsAll 0 (Go.Proofs.Tryd.f147.body.getD .skip)

theorem ki_StoStore_find_1_0 : OrcOk Ei_StoStore_find_1 Oi_StoStore_find_1_0 lsi_StoStore_find_1 0 := orcOk_none
noncomputable def Fi_StoStore_find_1 : FSem := fun ys => match ys with
  | [.val true [.str a0, .sl .any 3 (.int .i64) a1], .val false [.str a2]] => some (true, .val false [.int .i64 (g_compare a0 a2)], [])
  | _ => none
theorem vi_StoStore_find_1 (a0 : ByteArray) (a1 : List (Int)) (a2 : ByteArray) : collapseH .std Ei_StoStore_find_1 Oi_StoStore_find_1_0 (execFn Ei_StoStore_find_1 Go.Proofs.Tryd.f147 msi_StoStore_find_1 [.val true [.str a0, .sl .any 3 (.int .i64) a1], .val false [.str a2]]) = some (true, .val false [.int .i64 (g_compare a0 a2)], []) := by kernel_rfl
theorem si_StoStore_find_1 : Sound Go.Proofs.Tryd.prog 147 msi_StoStore_find_1 Fi_StoStore_find_1 := by
  refine fn_gen goodi_StoStore_find_1 (by kernel_rfl) .std (fn := Go.Proofs.Tryd.f147) (c := (Go.Proofs.Tryd.f147.body.getD .skip)) (o := Oi_StoStore_find_1_0) (k := 0) (by kernel_rfl) (by kernel_rfl) (by kernel_rfl) (by kernel_rfl) (by decide) ki_StoStore_find_1_0 ?_
  intro ys r outs h
  unfold Fi_StoStore_find_1 at h
  split at h
  · exact (vi_StoStore_find_1 _ _ _).trans h
  · cases h
end Go.Proofs.YtibafhmmnoijkaaDoor.E
end
section
namespace Go.Proofs.YtibafhmmnoijkaaDoor.E
open Go
set_option maxRecDepth 100000
set_option maxHeartbeats 0
set_option linter.all false
noncomputable def Eslices_BinarySearchFunc_i_StoItem_i_StoItem_string__i_StoStore_find_1 : Env where
  tt := mkTI Go.Proofs.Tryd.prog
  fn := fun f => match f with
    | 147 => some (msi_StoStore_find_1, FSem.wk msi_StoStore_find_1 Fi_StoStore_find_1)
    | _ => none
  bxf := fun _ => none
  mv := []
  keep := fun b => match b with
    | 0 => [(0, false), (1, false), (2, false), (8, false), (9, false), (10, false)]
    | _ => []
  keepB := fun b => match b with
    | 0 => []
    | _ => []
  keepX := fun b => match b with
    | 0 => [(0, false), (1, false), (2, false), (8, false), (9, false)]
    | _ => []
  keepXB := fun b => match b with
    | 0 => []
    | _ => []
theorem goodFslices_BinarySearchFunc_i_StoItem_i_StoItem_string__i_StoStore_find_1 : ∀ f ms F, Eslices_BinarySearchFunc_i_StoItem_i_StoItem_string__i_StoStore_find_1.fn f = some (ms, F) → Sound Go.Proofs.Tryd.prog f ms F := fun f ms F h => by
  unfold Eslices_BinarySearchFunc_i_StoItem_i_StoItem_string__i_StoStore_find_1 at h
  dsimp only at h
  split at h
  · injection h with h; injection h with e1 e2; subst e1 e2; exact Sound.wk si_StoStore_find_1
  · cases h
theorem goodBslices_BinarySearchFunc_i_StoItem_i_StoItem_string__i_StoStore_find_1 : ∀ f ms F, Eslices_BinarySearchFunc_i_StoItem_i_StoItem_string__i_StoStore_find_1.bxf f = some (ms, F) → SoundB Go.Proofs.Tryd.prog f ms F := fun f ms F h => by cases h
theorem goodslices_BinarySearchFunc_i_StoItem_i_StoItem_string__i_StoStore_find_1 : Good Go.Proofs.Tryd.prog Eslices_BinarySearchFunc_i_StoItem_i_StoItem_string__i_StoStore_find_1 := ⟨rfl, goodFslices_BinarySearchFunc_i_StoItem_i_StoItem_string__i_StoStore_find_1, goodBslices_BinarySearchFunc_i_StoItem_i_StoItem_string__i_StoStore_find_1⟩
noncomputable def Oslices_BinarySearchFunc_i_StoItem_i_StoItem_string__i_StoStore_find_1_0 : Orc := fun _ _ => none
noncomputable def msslices_BinarySearchFunc_i_StoItem_i_StoItem_string__i_StoStore_find_1 : List PM := [.rd, .own, .rd]
noncomputable def lsslices_BinarySearchFunc_i_StoItem_i_StoItem_string__i_StoStore_find_1 : List (Nat × Code) := loopsAll 0 (Go.Proofs.Tryd.f146.body.getD .skip)
noncomputable def cslices_BinarySearchFunc_i_StoItem_i_StoItem_string__i_StoStore_find_1_0 : Code := (loopOf 0 (Go.Proofs.Tryd.f146.body.getD .skip)).getD .skip
theorem lseqslices_BinarySearchFunc_i_StoItem_i_StoItem_string__i_StoStore_find_1 : lsslices_BinarySearchFunc_i_StoItem_i_StoItem_string__i_StoStore_find_1 = [(0, cslices_BinarySearchFunc_i_StoItem_i_StoItem_string__i_StoStore_find_1_0)] := by kernel_rfl
theorem mslices_BinarySearchFunc_i_StoItem_i_StoItem_string__i_StoStore_find_1_0 : ∀ p, p ∈ lsslices_BinarySearchFunc_i_StoItem_i_StoItem_string__i_StoStore_find_1 → p.1 = 0 → p.2 = cslices_BinarySearchFunc_i_StoItem_i_StoItem_string__i_StoStore_find_1_0 := by
  intro p hp
  rw [lseqslices_BinarySearchFunc_i_StoItem_i_StoItem_string__i_StoStore_find_1] at hp
  simp only [List.mem_cons, List.not_mem_nil, or_false] at hp
  subst hp; simp
theorem kslices_BinarySearchFunc_i_StoItem_i_StoItem_string__i_StoStore_find_1_0 : OrcOk Eslices_BinarySearchFunc_i_StoItem_i_StoItem_string__i_StoStore_find_1 Oslices_BinarySearchFunc_i_StoItem_i_StoItem_string__i_StoStore_find_1_0 lsslices_BinarySearchFunc_i_StoItem_i_StoItem_string__i_StoStore_find_1 0 := orcOk_none
noncomputable def hslices_BinarySearchFunc_i_StoItem_i_StoItem_string__i_StoStore_find_1_0 (y0 : List ((ByteArray) × (List (Int)))) (y1 : ByteArray) (y2 : Int) (y3 : Int) (y4 : Int) : List (Pl × LV) := [(.T 0, .t (.val false [.sl .any 85 (.pair .str (.sl 3 (.int .i64))) y0])), (.T 1, .t (.val false [.str y1])), (.T 2, .t (.val false [.fn 147 []])), (.T 8, .t (.val false [.int .i64 y2])), (.T 9, .t (.val false [.int .i64 y3])), (.T 10, .t (.val false [.int .i64 y4]))]
noncomputable def g_Sslices_BinarySearchFunc_i_StoItem_i_StoItem_string__i_StoStore_find_1_0 (y0 : List ((ByteArray) × (List (Int)))) (y1 : ByteArray) (y2 : Int) : ((Int) × (Int)) → RT ((Int) × (Int)) (((Int)))
  | (y3, y4) => .br (true) (.br (decide (y3 < y4)) (.br (true) (.br (true) (.br (decide ((0 : Int) ≤ IntKind.wrap IntKind.i64 (Int.fdiv (IntKind.wrap IntKind.u64 (IntKind.wrap IntKind.i64 (y3 + y4))) (2 : Int)) ∧ IntKind.wrap IntKind.i64 (Int.fdiv (IntKind.wrap IntKind.u64 (IntKind.wrap IntKind.i64 (y3 + y4))) (2 : Int)) < (↑(List.length y0) : Int))) (.br (true) (.br (true) (.br (decide (g_compare (at_ (Ty.pair Ty.str (Ty.sl (nat_lit 3) (Ty.int IntKind.i64))) y0 (Int.toNat (IntKind.wrap IntKind.i64 (Int.fdiv (IntKind.wrap IntKind.u64 (IntKind.wrap IntKind.i64 (y3 + y4))) (2 : Int))))).1 y1 < (0 : Int))) (.br (true) (.go ((IntKind.wrap IntKind.i64 (IntKind.wrap IntKind.i64 (Int.fdiv (IntKind.wrap IntKind.u64 (IntKind.wrap IntKind.i64 (y3 + y4))) (2 : Int)) + (1 : Int)), y4))) (.bad)) (.go ((y3, IntKind.wrap IntKind.i64 (Int.fdiv (IntKind.wrap IntKind.u64 (IntKind.wrap IntKind.i64 (y3 + y4))) (2 : Int)))))) (.bad)) (.bad)) (.bad)) (.bad)) (.bad)) (.out (y3))) (.bad)
noncomputable def g_Lslices_BinarySearchFunc_i_StoItem_i_StoItem_string__i_StoStore_find_1_0 (y0 : List ((ByteArray) × (List (Int)))) (y1 : ByteArray) (y2 : Int) (x : (Int) × (Int)) : Option (((Int))) := loopO (g_Sslices_BinarySearchFunc_i_StoItem_i_StoItem_string__i_StoStore_find_1_0 y0 y1 y2) x
noncomputable def xslices_BinarySearchFunc_i_StoItem_i_StoItem_string__i_StoStore_find_1_0 (y0 : List ((ByteArray) × (List (Int)))) (y1 : ByteArray) (y2 : Int) : (((Int))) → Ex × List (Pl × LV) := fun r => (.exit 0, [(.T 0, .t (.val false [.sl .any 85 (.pair .str (.sl 3 (.int .i64))) y0])), (.T 1, .t (.val false [.str y1])), (.T 2, .t (.val false [.fn 147 []])), (.T 8, .t (.val false [.int .i64 y2])), (.T 9, .t (.val false [.int .i64 r]))])
noncomputable def Oslices_BinarySearchFunc_i_StoItem_i_StoItem_string__i_StoStore_find_1_1 : Orc := fun b h => match b, h with
  | 0, [(.T 0, .t (.val false [.sl .any 85 (.pair .str (.sl 3 (.int .i64))) y0])), (.T 1, .t (.val false [.str y1])), (.T 2, .t (.val false [.fn 147 []])), (.T 8, .t (.val false [.int .i64 y2])), (.T 9, .t (.val false [.int .i64 y3])), (.T 10, .t (.val false [.int .i64 y4]))] => some (okO (g_Lslices_BinarySearchFunc_i_StoItem_i_StoItem_string__i_StoStore_find_1_0 y0 y1 y2 (y3, y4)), (.leaf (.exit 0) [(.T 0, .t (.val false [.sl .any 85 (.pair .str (.sl 3 (.int .i64))) y0])), (.T 1, .t (.val false [.str y1])), (.T 2, .t (.val false [.fn 147 []])), (.T 8, .t (.val false [.int .i64 y2])), (.T 9, .t (.val false [.int .i64 (valO (g_Lslices_BinarySearchFunc_i_StoItem_i_StoItem_string__i_StoStore_find_1_0 y0 y1 y2 (y3, y4)))]))]))
  | b, h => Oslices_BinarySearchFunc_i_StoItem_i_StoItem_string__i_StoStore_find_1_0 b h
theorem bslices_BinarySearchFunc_i_StoItem_i_StoItem_string__i_StoStore_find_1_0 (y0 : List ((ByteArray) × (List (Int)))) (y1 : ByteArray) (y2 : Int) (y3 : Int) (y4 : Int) : Tr.bt Eslices_BinarySearchFunc_i_StoItem_i_StoItem_string__i_StoStore_find_1 Oslices_BinarySearchFunc_i_StoItem_i_StoItem_string__i_StoStore_find_1_0 (exec Eslices_BinarySearchFunc_i_StoItem_i_StoItem_string__i_StoStore_find_1 0 cslices_BinarySearchFunc_i_StoItem_i_StoItem_string__i_StoStore_find_1_0 (St.of (hslices_BinarySearchFunc_i_StoItem_i_StoItem_string__i_StoStore_find_1_0 y0 y1 y2 y3 y4)) (leafRd Eslices_BinarySearchFunc_i_StoItem_i_StoItem_string__i_StoStore_find_1 0)) = (g_Sslices_BinarySearchFunc_i_StoItem_i_StoItem_string__i_StoStore_find_1_0 y0 y1 y2 (y3, y4)).bt (fun ((y3, y4) : (Int) × (Int)) => (hslices_BinarySearchFunc_i_StoItem_i_StoItem_string__i_StoStore_find_1_0 y0 y1 y2 y3 y4)) (xslices_BinarySearchFunc_i_StoItem_i_StoItem_string__i_StoStore_find_1_0 y0 y1 y2) := by kernel_rfl
theorem kslices_BinarySearchFunc_i_StoItem_i_StoItem_string__i_StoStore_find_1_1 : OrcOk Eslices_BinarySearchFunc_i_StoItem_i_StoItem_string__i_StoStore_find_1 Oslices_BinarySearchFunc_i_StoItem_i_StoItem_string__i_StoStore_find_1_1 lsslices_BinarySearchFunc_i_StoItem_i_StoItem_string__i_StoStore_find_1 1 := orc_add kslices_BinarySearchFunc_i_StoItem_i_StoItem_string__i_StoStore_find_1_0 (fun n p hp h ex h' ho => by
  obtain ⟨b, c⟩ := p
  obtain ⟨xt, h1, h2⟩ := ho
  have h1 : Oslices_BinarySearchFunc_i_StoItem_i_StoItem_string__i_StoStore_find_1_1 b h = some (true, xt) := h1
  unfold Oslices_BinarySearchFunc_i_StoItem_i_StoItem_string__i_StoStore_find_1_1 at h1
  split at h1
  · injection h1 with h1
    injection h1 with e1 e2
    subst e2
    have hc : c = cslices_BinarySearchFunc_i_StoItem_i_StoItem_string__i_StoStore_find_1_0 := mslices_BinarySearchFunc_i_StoItem_i_StoItem_string__i_StoStore_find_1_0 _ hp rfl
    subst hc
    right
    rename_i y0 y1 y2 y3 y4
    have key := LT_step kslices_BinarySearchFunc_i_StoItem_i_StoItem_string__i_StoStore_find_1_0 hp (fun q hq => loopsAll_in _ _ _ _ hp hq) (fun ((y3, y4) : (Int) × (Int)) => (hslices_BinarySearchFunc_i_StoItem_i_StoItem_string__i_StoStore_find_1_0 y0 y1 y2 y3 y4)) (xslices_BinarySearchFunc_i_StoItem_i_StoItem_string__i_StoStore_find_1_0 y0 y1 y2) (g_Sslices_BinarySearchFunc_i_StoItem_i_StoItem_string__i_StoStore_find_1_0 y0 y1 y2) (fun x => by first | exact bslices_BinarySearchFunc_i_StoItem_i_StoItem_string__i_StoStore_find_1_0 y0 y1 y2 x.1 x.2) n (x := (y3, y4)) (okO_some e1)
    have hx : ∀ r, XT.sel (.leaf (.exit 0) [(.T 0, .t (.val false [.sl .any 85 (.pair .str (.sl 3 (.int .i64))) y0])), (.T 1, .t (.val false [.str y1])), (.T 2, .t (.val false [.fn 147 []])), (.T 8, .t (.val false [.int .i64 y2])), (.T 9, .t (.val false [.int .i64 r]))]) = xslices_BinarySearchFunc_i_StoItem_i_StoItem_string__i_StoStore_find_1_0 y0 y1 y2 r := fun r => by first | rfl | (rcases r with r | r <;> rfl) | (rcases r with r | r | r <;> rfl) | (rcases r with r | r | r | r <;> rfl)
    have h3 := (hx (valO (g_Lslices_BinarySearchFunc_i_StoItem_i_StoItem_string__i_StoStore_find_1_0 y0 y1 y2 (y3, y4)))).symm.trans h2
    have e3 := congrArg Prod.fst h3
    have e4 := congrArg Prod.snd h3
    simp only at e3 e4
    rw [← e3, ← e4]
    exact key
  · exact .inl ⟨xt, h1, h2⟩)
noncomputable def g_Aslices_BinarySearchFunc_i_StoItem_i_StoItem_string__i_StoStore_find_1 (a0 : List ((ByteArray) × (List (Int)))) (a1 : ByteArray) : Bool := okO (g_Lslices_BinarySearchFunc_i_StoItem_i_StoItem_string__i_StoStore_find_1_0 a0 a1 (↑(List.length a0) : Int) ((0 : Int), (↑(List.length a0) : Int))) && (!decide (valO (g_Lslices_BinarySearchFunc_i_StoItem_i_StoItem_string__i_StoStore_find_1_0 a0 a1 (↑(List.length a0) : Int) ((0 : Int), (↑(List.length a0) : Int))) < (↑(List.length a0) : Int)) || decide ((0 : Int) ≤ valO (g_Lslices_BinarySearchFunc_i_StoItem_i_StoItem_string__i_StoStore_find_1_0 a0 a1 (↑(List.length a0) : Int) ((0 : Int), (↑(List.length a0) : Int))) ∧ valO (g_Lslices_BinarySearchFunc_i_StoItem_i_StoItem_string__i_StoStore_find_1_0 a0 a1 (↑(List.length a0) : Int) ((0 : Int), (↑(List.length a0) : Int))) < (↑(List.length a0) : Int)) && true)
noncomputable def g_Vslices_BinarySearchFunc_i_StoItem_i_StoItem_string__i_StoStore_find_1_0 (a0 : List ((ByteArray) × (List (Int)))) (a1 : ByteArray) : Int := bif decide (valO (g_Lslices_BinarySearchFunc_i_StoItem_i_StoItem_string__i_StoStore_find_1_0 a0 a1 (↑(List.length a0) : Int) ((0 : Int), (↑(List.length a0) : Int))) < (↑(List.length a0) : Int)) then valO (g_Lslices_BinarySearchFunc_i_StoItem_i_StoItem_string__i_StoStore_find_1_0 a0 a1 (↑(List.length a0) : Int) ((0 : Int), (↑(List.length a0) : Int))) else valO (g_Lslices_BinarySearchFunc_i_StoItem_i_StoItem_string__i_StoStore_find_1_0 a0 a1 (↑(List.length a0) : Int) ((0 : Int), (↑(List.length a0) : Int)))
noncomputable def g_Vslices_BinarySearchFunc_i_StoItem_i_StoItem_string__i_StoStore_find_1_1 (a0 : List ((ByteArray) × (List (Int)))) (a1 : ByteArray) : Bool := bif decide (valO (g_Lslices_BinarySearchFunc_i_StoItem_i_StoItem_string__i_StoStore_find_1_0 a0 a1 (↑(List.length a0) : Int) ((0 : Int), (↑(List.length a0) : Int))) < (↑(List.length a0) : Int)) then g_compare (at_ (Ty.pair Ty.str (Ty.sl (nat_lit 3) (Ty.int IntKind.i64))) a0 (Int.toNat (valO (g_Lslices_BinarySearchFunc_i_StoItem_i_StoItem_string__i_StoStore_find_1_0 a0 a1 (↑(List.length a0) : Int) ((0 : Int), (↑(List.length a0) : Int)))))).1 a1 == (0 : Int) else false
noncomputable def Fslices_BinarySearchFunc_i_StoItem_i_StoItem_string__i_StoStore_find_1 : FSem := fun ys => match ys with
  | [.val false [.sl .any 85 (.pair .str (.sl 3 (.int .i64))) a0], .val false [.str a1], .val false [.fn 147 []]] => some ((g_Aslices_BinarySearchFunc_i_StoItem_i_StoItem_string__i_StoStore_find_1 a0 a1), .tup [(false, [.int .i64 (g_Vslices_BinarySearchFunc_i_StoItem_i_StoItem_string__i_StoStore_find_1_0 a0 a1)]), (false, [.bool (g_Vslices_BinarySearchFunc_i_StoItem_i_StoItem_string__i_StoStore_find_1_1 a0 a1)])], [])
  | _ => none
theorem vslices_BinarySearchFunc_i_StoItem_i_StoItem_string__i_StoStore_find_1 (a0 : List ((ByteArray) × (List (Int)))) (a1 : ByteArray) : collapseH .std Eslices_BinarySearchFunc_i_StoItem_i_StoItem_string__i_StoStore_find_1 Oslices_BinarySearchFunc_i_StoItem_i_StoItem_string__i_StoStore_find_1_1 (execFn Eslices_BinarySearchFunc_i_StoItem_i_StoItem_string__i_StoStore_find_1 Go.Proofs.Tryd.f146 msslices_BinarySearchFunc_i_StoItem_i_StoItem_string__i_StoStore_find_1 [.val false [.sl .any 85 (.pair .str (.sl 3 (.int .i64))) a0], .val false [.str a1], .val false [.fn 147 []]]) = some ((g_Aslices_BinarySearchFunc_i_StoItem_i_StoItem_string__i_StoStore_find_1 a0 a1), .tup [(false, [.int .i64 (g_Vslices_BinarySearchFunc_i_StoItem_i_StoItem_string__i_StoStore_find_1_0 a0 a1)]), (false, [.bool (g_Vslices_BinarySearchFunc_i_StoItem_i_StoItem_string__i_StoStore_find_1_1 a0 a1)])], []) := by kernel_rfl
theorem sslices_BinarySearchFunc_i_StoItem_i_StoItem_string__i_StoStore_find_1 : Sound Go.Proofs.Tryd.prog 146 msslices_BinarySearchFunc_i_StoItem_i_StoItem_string__i_StoStore_find_1 Fslices_BinarySearchFunc_i_StoItem_i_StoItem_string__i_StoStore_find_1 := by
  refine fn_gen goodslices_BinarySearchFunc_i_StoItem_i_StoItem_string__i_StoStore_find_1 (by kernel_rfl) .std (fn := Go.Proofs.Tryd.f146) (c := (Go.Proofs.Tryd.f146.body.getD .skip)) (o := Oslices_BinarySearchFunc_i_StoItem_i_StoItem_string__i_StoStore_find_1_1) (k := 1) (by kernel_rfl) (by kernel_rfl) (by kernel_rfl) (by kernel_rfl) (by decide) kslices_BinarySearchFunc_i_StoItem_i_StoItem_string__i_StoStore_find_1_1 ?_
  intro ys r outs h
  unfold Fslices_BinarySearchFunc_i_StoItem_i_StoItem_string__i_StoStore_find_1 at h
  split at h
  · exact (vslices_BinarySearchFunc_i_StoItem_i_StoItem_string__i_StoStore_find_1 _ _).trans h
  · cases h
end Go.Proofs.YtibafhmmnoijkaaDoor.E
end
section
namespace Go.Proofs.YtibafhmmnoijkaaDoor.E
open Go
set_option maxRecDepth 100000
set_option maxHeartbeats 0
set_option linter.all false
noncomputable def Ei_StoStore_find : Env where
  tt := mkTI Go.Proofs.Tryd.prog
  fn := fun f => match f with
    | 146 => some (msslices_BinarySearchFunc_i_StoItem_i_StoItem_string__i_StoStore_find_1, FSem.wk msslices_BinarySearchFunc_i_StoItem_i_StoItem_string__i_StoStore_find_1 Fslices_BinarySearchFunc_i_StoItem_i_StoItem_string__i_StoStore_find_1)
    | _ => none
  bxf := fun _ => none
  mv := []
  keep := fun _ => []
  keepB := fun _ => []
  keepX := fun _ => []
  keepXB := fun _ => []
theorem goodFi_StoStore_find : ∀ f ms F, Ei_StoStore_find.fn f = some (ms, F) → Sound Go.Proofs.Tryd.prog f ms F := fun f ms F h => by
  unfold Ei_StoStore_find at h
  dsimp only at h
  split at h
  · injection h with h; injection h with e1 e2; subst e1 e2; exact Sound.wk sslices_BinarySearchFunc_i_StoItem_i_StoItem_string__i_StoStore_find_1
  · cases h
theorem goodBi_StoStore_find : ∀ f ms F, Ei_StoStore_find.bxf f = some (ms, F) → SoundB Go.Proofs.Tryd.prog f ms F := fun f ms F h => by cases h
theorem goodi_StoStore_find : Good Go.Proofs.Tryd.prog Ei_StoStore_find := ⟨rfl, goodFi_StoStore_find, goodBi_StoStore_find⟩
noncomputable def Oi_StoStore_find_0 : Orc := fun _ _ => none
noncomputable def msi_StoStore_find : List PM := [.rd, .own]
noncomputable def lsi_StoStore_find : List (Nat × Code) := loopsAll 0 (Go.Proofs.Tryd.f111.body.getD .skip)

theorem ki_StoStore_find_0 : OrcOk Ei_StoStore_find Oi_StoStore_find_0 lsi_StoStore_find 0 := orcOk_none
noncomputable def g_Ai_StoStore_find (a0 : List ((ByteArray) × (List (Int)))) (a1 : ByteArray) : Bool := g_Aslices_BinarySearchFunc_i_StoItem_i_StoItem_string__i_StoStore_find_1 a0 a1
noncomputable def Fi_StoStore_find : FSem := fun ys => match ys with
  | [.val true [.sl .any 85 (.pair .str (.sl 3 (.int .i64))) a0], .val false [.str a1]] => some ((g_Ai_StoStore_find a0 a1), .tup [(false, [.int .i64 (g_Vslices_BinarySearchFunc_i_StoItem_i_StoItem_string__i_StoStore_find_1_0 a0 a1)]), (false, [.bool (g_Vslices_BinarySearchFunc_i_StoItem_i_StoItem_string__i_StoStore_find_1_1 a0 a1)])], [])
  | _ => none
theorem vi_StoStore_find (a0 : List ((ByteArray) × (List (Int)))) (a1 : ByteArray) : collapseH .std Ei_StoStore_find Oi_StoStore_find_0 (execFn Ei_StoStore_find Go.Proofs.Tryd.f111 msi_StoStore_find [.val true [.sl .any 85 (.pair .str (.sl 3 (.int .i64))) a0], .val false [.str a1]]) = some ((g_Ai_StoStore_find a0 a1), .tup [(false, [.int .i64 (g_Vslices_BinarySearchFunc_i_StoItem_i_StoItem_string__i_StoStore_find_1_0 a0 a1)]), (false, [.bool (g_Vslices_BinarySearchFunc_i_StoItem_i_StoItem_string__i_StoStore_find_1_1 a0 a1)])], []) := by kernel_rfl
theorem si_StoStore_find : Sound Go.Proofs.Tryd.prog 111 msi_StoStore_find Fi_StoStore_find := by
  refine fn_gen goodi_StoStore_find (by kernel_rfl) .std (fn := Go.Proofs.Tryd.f111) (c := (Go.Proofs.Tryd.f111.body.getD .skip)) (o := Oi_StoStore_find_0) (k := 0) (by kernel_rfl) (by kernel_rfl) (by kernel_rfl) (by kernel_rfl) (by decide) ki_StoStore_find_0 ?_
  intro ys r outs h
  unfold Fi_StoStore_find at h
  split at h
  · exact (vi_StoStore_find _ _).trans h
  · cases h
end Go.Proofs.YtibafhmmnoijkaaDoor.E
end
section
namespace Go.Proofs.YtibafhmmnoijkaaDoor.E
open Go
set_option maxRecDepth 100000
set_option maxHeartbeats 0
set_option linter.all false
noncomputable def Eslices_Clone_int_int_nz : Env where
  tt := mkTI Go.Proofs.Tryd.prog
  fn := fun _ => none
  bxf := fun _ => none
  mv := []
  keep := fun _ => []
  keepB := fun _ => []
  keepX := fun _ => []
  keepXB := fun _ => []
theorem goodFslices_Clone_int_int_nz : ∀ f ms F, Eslices_Clone_int_int_nz.fn f = some (ms, F) → Sound Go.Proofs.Tryd.prog f ms F := fun f ms F h => by cases h
theorem goodBslices_Clone_int_int_nz : ∀ f ms F, Eslices_Clone_int_int_nz.bxf f = some (ms, F) → SoundB Go.Proofs.Tryd.prog f ms F := fun f ms F h => by cases h
theorem goodslices_Clone_int_int_nz : Good Go.Proofs.Tryd.prog Eslices_Clone_int_int_nz := ⟨rfl, goodFslices_Clone_int_int_nz, goodBslices_Clone_int_int_nz⟩
noncomputable def Oslices_Clone_int_int_nz_0 : Orc := fun _ _ => none
noncomputable def msslices_Clone_int_int_nz : List PM := [.rd]
noncomputable def lsslices_Clone_int_int_nz : List (Nat × Code) := loopsAll 0 (Go.Proofs.Tryd.f112.body.getD .skip)

theorem kslices_Clone_int_int_nz_0 : OrcOk Eslices_Clone_int_int_nz Oslices_Clone_int_int_nz_0 lsslices_Clone_int_int_nz 0 := orcOk_none
noncomputable def g_Aslices_Clone_int_int_nz (a0 : List (Int)) : Bool := decide (nat_lit 0 < List.length a0) && decide ((nat_lit 0 + List.length a0) * nat_lit 8 ≤ nat_lit 140737488355328 ∧ nat_lit 0 + List.length a0 ≤ nat_lit 9223372036854775807)
noncomputable def g_Vslices_Clone_int_int_nz_0 (a0 : List (Int)) : List (Int) := [] ++ a0
noncomputable def Fslices_Clone_int_int_nz : FSem := fun ys => match ys with
  | [.val false [.sl .any 3 (.int .i64) a0]] => some ((g_Aslices_Clone_int_int_nz a0), .val false [.own (.may false) true 3 (.int .i64) (g_Vslices_Clone_int_int_nz_0 a0)], [])
  | _ => none
theorem vslices_Clone_int_int_nz (a0 : List (Int)) : collapseH .nz Eslices_Clone_int_int_nz Oslices_Clone_int_int_nz_0 (execFn Eslices_Clone_int_int_nz Go.Proofs.Tryd.f112 msslices_Clone_int_int_nz [.val false [.sl .any 3 (.int .i64) a0]]) = some ((g_Aslices_Clone_int_int_nz a0), .val false [.own (.may false) true 3 (.int .i64) (g_Vslices_Clone_int_int_nz_0 a0)], []) := by kernel_rfl
theorem sslices_Clone_int_int_nz : Sound Go.Proofs.Tryd.prog 112 msslices_Clone_int_int_nz Fslices_Clone_int_int_nz := by
  refine fn_gen goodslices_Clone_int_int_nz (by kernel_rfl) .nz (fn := Go.Proofs.Tryd.f112) (c := (Go.Proofs.Tryd.f112.body.getD .skip)) (o := Oslices_Clone_int_int_nz_0) (k := 0) (by kernel_rfl) (by kernel_rfl) (by kernel_rfl) (by kernel_rfl) (by decide) kslices_Clone_int_int_nz_0 ?_
  intro ys r outs h
  unfold Fslices_Clone_int_int_nz at h
  split at h
  · exact (vslices_Clone_int_int_nz _).trans h
  · cases h
end Go.Proofs.YtibafhmmnoijkaaDoor.E
end
section
namespace Go.Proofs.YtibafhmmnoijkaaDoor.E
open Go
set_option maxRecDepth 100000
set_option maxHeartbeats 0
set_option linter.all false
noncomputable def Ei_StoStore_get : Env where
  tt := mkTI Go.Proofs.Tryd.prog
  fn := fun f => match f with
    | 111 => some (msi_StoStore_find, FSem.wk msi_StoStore_find Fi_StoStore_find)
    | 112 => some (msslices_Clone_int_int_nz, FSem.wk msslices_Clone_int_int_nz Fslices_Clone_int_int_nz)
    | _ => none
  bxf := fun _ => none
  mv := []
  keep := fun _ => []
  keepB := fun _ => []
  keepX := fun _ => []
  keepXB := fun _ => []
theorem goodFi_StoStore_get : ∀ f ms F, Ei_StoStore_get.fn f = some (ms, F) → Sound Go.Proofs.Tryd.prog f ms F := fun f ms F h => by
  unfold Ei_StoStore_get at h
  dsimp only at h
  split at h
  · injection h with h; injection h with e1 e2; subst e1 e2; exact Sound.wk si_StoStore_find
  · injection h with h; injection h with e1 e2; subst e1 e2; exact Sound.wk sslices_Clone_int_int_nz
  · cases h
theorem goodBi_StoStore_get : ∀ f ms F, Ei_StoStore_get.bxf f = some (ms, F) → SoundB Go.Proofs.Tryd.prog f ms F := fun f ms F h => by cases h
theorem goodi_StoStore_get : Good Go.Proofs.Tryd.prog Ei_StoStore_get := ⟨rfl, goodFi_StoStore_get, goodBi_StoStore_get⟩
noncomputable def Oi_StoStore_get_0 : Orc := fun _ _ => none
noncomputable def msi_StoStore_get : List PM := [.rd, .own]
noncomputable def lsi_StoStore_get : List (Nat × Code) := loopsAll 0 (Go.Proofs.Tryd.f59.body.getD .skip)

theorem ki_StoStore_get_0 : OrcOk Ei_StoStore_get Oi_StoStore_get_0 lsi_StoStore_get 0 := orcOk_none
noncomputable def g_Ai_StoStore_get (a0 : List ((ByteArray) × (List (Int)))) (a1 : ByteArray) : Bool := g_Ai_StoStore_find a0 a1 && (!g_Vslices_BinarySearchFunc_i_StoItem_i_StoItem_string__i_StoStore_find_1_1 a0 a1 || decide ((0 : Int) ≤ g_Vslices_BinarySearchFunc_i_StoItem_i_StoItem_string__i_StoStore_find_1_0 a0 a1 ∧ g_Vslices_BinarySearchFunc_i_StoItem_i_StoItem_string__i_StoStore_find_1_0 a0 a1 < (↑(List.length a0) : Int)) && g_Aslices_Clone_int_int_nz (at_ (Ty.pair Ty.str (Ty.sl (nat_lit 3) (Ty.int IntKind.i64))) a0 (Int.toNat (g_Vslices_BinarySearchFunc_i_StoItem_i_StoItem_string__i_StoStore_find_1_0 a0 a1))).2)
noncomputable def g_Vi_StoStore_get_0 (a0 : List ((ByteArray) × (List (Int)))) (a1 : ByteArray) : Bool := bif !g_Vslices_BinarySearchFunc_i_StoItem_i_StoItem_string__i_StoStore_find_1_1 a0 a1 then true else false
noncomputable def g_Vi_StoStore_get_1 (a0 : List ((ByteArray) × (List (Int)))) (a1 : ByteArray) : List (Int) := bif !g_Vslices_BinarySearchFunc_i_StoItem_i_StoItem_string__i_StoStore_find_1_1 a0 a1 then [] else g_Vslices_Clone_int_int_nz_0 (at_ (Ty.pair Ty.str (Ty.sl (nat_lit 3) (Ty.int IntKind.i64))) a0 (Int.toNat (g_Vslices_BinarySearchFunc_i_StoItem_i_StoItem_string__i_StoStore_find_1_0 a0 a1))).2
noncomputable def Fi_StoStore_get : FSem := fun ys => match ys with
  | [.val true [.sl .any 85 (.pair .str (.sl 3 (.int .i64))) a0], .val false [.str a1]] => some ((g_Ai_StoStore_get a0 a1), .val false [.own (.may (g_Vi_StoStore_get_0 a0 a1)) true 3 (.int .i64) (g_Vi_StoStore_get_1 a0 a1)], [])
  | _ => none
theorem vi_StoStore_get (a0 : List ((ByteArray) × (List (Int)))) (a1 : ByteArray) : collapseH .nz Ei_StoStore_get Oi_StoStore_get_0 (execFn Ei_StoStore_get Go.Proofs.Tryd.f59 msi_StoStore_get [.val true [.sl .any 85 (.pair .str (.sl 3 (.int .i64))) a0], .val false [.str a1]]) = some ((g_Ai_StoStore_get a0 a1), .val false [.own (.may (g_Vi_StoStore_get_0 a0 a1)) true 3 (.int .i64) (g_Vi_StoStore_get_1 a0 a1)], []) := by kernel_rfl
theorem si_StoStore_get : Sound Go.Proofs.Tryd.prog 59 msi_StoStore_get Fi_StoStore_get := by
  refine fn_gen goodi_StoStore_get (by kernel_rfl) .nz (fn := Go.Proofs.Tryd.f59) (c := (Go.Proofs.Tryd.f59.body.getD .skip)) (o := Oi_StoStore_get_0) (k := 0) (by kernel_rfl) (by kernel_rfl) (by kernel_rfl) (by kernel_rfl) (by decide) ki_StoStore_get_0 ?_
  intro ys r outs h
  unfold Fi_StoStore_get at h
  split at h
  · exact (vi_StoStore_get _ _).trans h
  · cases h
end Go.Proofs.YtibafhmmnoijkaaDoor.E
end
section
namespace Go.Proofs.YtibafhmmnoijkaaDoor.E
open Go
set_option maxRecDepth 100000
set_option maxHeartbeats 0
set_option linter.all false
noncomputable def Ei_StoGet : Env where
  tt := mkTI Go.Proofs.Tryd.prog
  fn := fun f => match f with
    | 58 => some (msi_StoOk, FSem.wk msi_StoOk Fi_StoOk)
    | 59 => some (msi_StoStore_get, FSem.wk msi_StoStore_get Fi_StoStore_get)
    | _ => none
  bxf := fun _ => none
  mv := []
  keep := fun _ => []
  keepB := fun _ => []
  keepX := fun _ => []
  keepXB := fun _ => []
theorem goodFi_StoGet : ∀ f ms F, Ei_StoGet.fn f = some (ms, F) → Sound Go.Proofs.Tryd.prog f ms F := fun f ms F h => by
  unfold Ei_StoGet at h
  dsimp only at h
  split at h
  · injection h with h; injection h with e1 e2; subst e1 e2; exact Sound.wk si_StoOk
  · injection h with h; injection h with e1 e2; subst e1 e2; exact Sound.wk si_StoStore_get
  · cases h
theorem goodBi_StoGet : ∀ f ms F, Ei_StoGet.bxf f = some (ms, F) → SoundB Go.Proofs.Tryd.prog f ms F := fun f ms F h => by cases h
theorem goodi_StoGet : Good Go.Proofs.Tryd.prog Ei_StoGet := ⟨rfl, goodFi_StoGet, goodBi_StoGet⟩
noncomputable def Oi_StoGet_0 : Orc := fun _ _ => none
noncomputable def msi_StoGet : List PM := [.rd, .own]
noncomputable def lsi_StoGet : List (Nat × Code) := loopsAll 0 (Go.Proofs.Tryd.f17.body.getD .skip)

theorem ki_StoGet_0 : OrcOk Ei_StoGet Oi_StoGet_0 lsi_StoGet 0 := orcOk_none
noncomputable def g_Ai_StoGet (a0 : List ((ByteArray) × (List (Int)))) (a1 : ByteArray) : Bool := g_Ai_StoOk a0 && (!g_Vi_StoOk_0 a0 || g_Ai_StoStore_get a0 a1)
noncomputable def g_Vi_StoGet_0 (a0 : List ((ByteArray) × (List (Int)))) (a1 : ByteArray) : List (Int) := bif !g_Vi_StoOk_0 a0 then [] else g_Vi_StoStore_get_1 a0 a1
noncomputable def g_Vi_StoGet_1 (a0 : List ((ByteArray) × (List (Int)))) (a1 : ByteArray) : Bool := bif !g_Vi_StoOk_0 a0 then false else !g_Vi_StoStore_get_0 a0 a1
noncomputable def Fi_StoGet : FSem := fun ys => match ys with
  | [.val true [.sl .any 85 (.pair .str (.sl 3 (.int .i64))) a0], .val false [.str a1]] => some ((g_Ai_StoGet a0 a1), .tup [(false, [.own .any true 3 (.int .i64) (g_Vi_StoGet_0 a0 a1)]), (false, [.bool (g_Vi_StoGet_1 a0 a1)])], [])
  | _ => none
theorem vi_StoGet (a0 : List ((ByteArray) × (List (Int)))) (a1 : ByteArray) : collapseH .std Ei_StoGet Oi_StoGet_0 (execFn Ei_StoGet Go.Proofs.Tryd.f17 msi_StoGet [.val true [.sl .any 85 (.pair .str (.sl 3 (.int .i64))) a0], .val false [.str a1]]) = some ((g_Ai_StoGet a0 a1), .tup [(false, [.own .any true 3 (.int .i64) (g_Vi_StoGet_0 a0 a1)]), (false, [.bool (g_Vi_StoGet_1 a0 a1)])], []) := by kernel_rfl
theorem si_StoGet : Sound Go.Proofs.Tryd.prog 17 msi_StoGet Fi_StoGet := by
  refine fn_gen goodi_StoGet (by kernel_rfl) .std (fn := Go.Proofs.Tryd.f17) (c := (Go.Proofs.Tryd.f17.body.getD .skip)) (o := Oi_StoGet_0) (k := 0) (by kernel_rfl) (by kernel_rfl) (by kernel_rfl) (by kernel_rfl) (by decide) ki_StoGet_0 ?_
  intro ys r outs h
  unfold Fi_StoGet at h
  split at h
  · exact (vi_StoGet _ _).trans h
  · cases h
end Go.Proofs.YtibafhmmnoijkaaDoor.E
end
section
namespace Go.Proofs.YtibafhmmnoijkaaDoor.E
open Go
set_option maxRecDepth 100000
set_option maxHeartbeats 0
set_option linter.all false
noncomputable def Es_l1In : Env where
  tt := mkTI Go.Proofs.Tryd.prog
  fn := fun _ => none
  bxf := fun _ => none
  mv := []
  keep := fun _ => []
  keepB := fun _ => []
  keepX := fun _ => []
  keepXB := fun _ => []
theorem goodFs_l1In : ∀ f ms F, Es_l1In.fn f = some (ms, F) → Sound Go.Proofs.Tryd.prog f ms F := fun f ms F h => by cases h
theorem goodBs_l1In : ∀ f ms F, Es_l1In.bxf f = some (ms, F) → SoundB Go.Proofs.Tryd.prog f ms F := fun f ms F h => by cases h
theorem goods_l1In : Good Go.Proofs.Tryd.prog Es_l1In := ⟨rfl, goodFs_l1In, goodBs_l1In⟩
noncomputable def Os_l1In_0 : Orc := fun _ _ => none
noncomputable def mss_l1In : List PM := [.own, .own, .own]
noncomputable def lss_l1In : List (Nat × Code) := loopsAll 0 (Go.Proofs.Tryd.f63.body.getD .skip)

theorem ks_l1In_0 : OrcOk Es_l1In Os_l1In_0 lss_l1In 0 := orcOk_none
noncomputable def g_As_l1In (a0 : Int) (a1 : Int) (a2 : Int) : Bool := !decide (a0 ≥ a1) || true
noncomputable def g_Vs_l1In_0 (a0 : Int) (a1 : Int) (a2 : Int) : Bool := bif decide (a0 ≥ a1) then decide (a0 ≤ a2) else false
noncomputable def Fs_l1In : FSem := fun ys => match ys with
  | [.val false [.int .i64 a0], .val false [.int .i64 a1], .val false [.int .i64 a2]] => some ((g_As_l1In a0 a1 a2), .val false [.bool (g_Vs_l1In_0 a0 a1 a2)], [])
  | _ => none
theorem vs_l1In (a0 : Int) (a1 : Int) (a2 : Int) : collapseH .std Es_l1In Os_l1In_0 (execFn Es_l1In Go.Proofs.Tryd.f63 mss_l1In [.val false [.int .i64 a0], .val false [.int .i64 a1], .val false [.int .i64 a2]]) = some ((g_As_l1In a0 a1 a2), .val false [.bool (g_Vs_l1In_0 a0 a1 a2)], []) := by kernel_rfl
theorem ss_l1In : Sound Go.Proofs.Tryd.prog 63 mss_l1In Fs_l1In := by
  refine fn_gen goods_l1In (by kernel_rfl) .std (fn := Go.Proofs.Tryd.f63) (c := (Go.Proofs.Tryd.f63.body.getD .skip)) (o := Os_l1In_0) (k := 0) (by kernel_rfl) (by kernel_rfl) (by kernel_rfl) (by kernel_rfl) (by decide) ks_l1In_0 ?_
  intro ys r outs h
  unfold Fs_l1In at h
  split at h
  · exact (vs_l1In _ _ _).trans h
  · cases h
end Go.Proofs.YtibafhmmnoijkaaDoor.E
end
section
namespace Go.Proofs.YtibafhmmnoijkaaDoor.E
open Go
set_option maxRecDepth 100000
set_option maxHeartbeats 0
set_option linter.all false
noncomputable def Es_l1Key : Env where
  tt := mkTI Go.Proofs.Tryd.prog
  fn := fun f => match f with
    | 63 => some (mss_l1In, FSem.wk mss_l1In Fs_l1In)
    | _ => none
  bxf := fun _ => none
  mv := []
  keep := fun b => match b with
    | 0 => [(0, false), (3, false)]
    | _ => []
  keepB := fun b => match b with
    | 0 => []
    | _ => []
  keepX := fun b => match b with
    | 0 => [(2, false)]
    | _ => []
  keepXB := fun b => match b with
    | 0 => []
    | _ => []
theorem goodFs_l1Key : ∀ f ms F, Es_l1Key.fn f = some (ms, F) → Sound Go.Proofs.Tryd.prog f ms F := fun f ms F h => by
  unfold Es_l1Key at h
  dsimp only at h
  split at h
  · injection h with h; injection h with e1 e2; subst e1 e2; exact Sound.wk ss_l1In
  · cases h
theorem goodBs_l1Key : ∀ f ms F, Es_l1Key.bxf f = some (ms, F) → SoundB Go.Proofs.Tryd.prog f ms F := fun f ms F h => by cases h
theorem goods_l1Key : Good Go.Proofs.Tryd.prog Es_l1Key := ⟨rfl, goodFs_l1Key, goodBs_l1Key⟩
noncomputable def Os_l1Key_0 : Orc := fun _ _ => none
noncomputable def mss_l1Key : List PM := [.own]
noncomputable def lss_l1Key : List (Nat × Code) := loopsAll 0 (Go.Proofs.Tryd.f84.body.getD .skip)
noncomputable def cs_l1Key_0 : Code := (loopOf 0 (Go.Proofs.Tryd.f84.body.getD .skip)).getD .skip
theorem lseqs_l1Key : lss_l1Key = [(0, cs_l1Key_0)] := by kernel_rfl
theorem ms_l1Key_0 : ∀ p, p ∈ lss_l1Key → p.1 = 0 → p.2 = cs_l1Key_0 := by
  intro p hp
  rw [lseqs_l1Key] at hp
  simp only [List.mem_cons, List.not_mem_nil, or_false] at hp
  subst hp; simp
theorem ks_l1Key_0 : OrcOk Es_l1Key Os_l1Key_0 lss_l1Key 0 := orcOk_none
noncomputable def hs_l1Key_0 (y0 : ByteArray) (y1 : Int) : List (Pl × LV) := [(.T 0, .t (.val false [.str y0])), (.T 3, .t (.val false [.int .i64 y1]))]
noncomputable def g_Ss_l1Key_0 (y0 : ByteArray) : ((Int)) → RT ((Int)) (((Bool)) ⊕ (Unit))
  | y1 => .br (true) (.br (decide (y1 < (↑(ByteArray.size y0) : Int))) (.br (decide ((0 : Int) ≤ y1 ∧ y1 < (↑(ByteArray.size y0) : Int))) (.br (true) (.br (decide (byteAt y0 (Int.toNat y1) < (48 : Int))) (.out (.inl false)) (.br (decide ((0 : Int) ≤ y1 ∧ y1 < (↑(ByteArray.size y0) : Int))) (.br (true) (.br (decide (byteAt y0 (Int.toNat y1) > (57 : Int))) (.out (.inl false)) (.br (true) (.go (IntKind.wrap IntKind.i64 (y1 + (1 : Int)))) (.bad))) (.bad)) (.bad))) (.bad)) (.bad)) (.out (.inr (())))) (.bad)
noncomputable def g_Ls_l1Key_0 (y0 : ByteArray) (x : (Int)) : Option (((Bool)) ⊕ (Unit)) := loopO (g_Ss_l1Key_0 y0) x
noncomputable def xs_l1Key_0 (y0 : ByteArray) : (((Bool)) ⊕ (Unit)) → Ex × List (Pl × LV) := fun
  | .inl r => (.ret, [(.T 2, .t (.val false [.bool r]))])
  | .inr (r) => (.exit 0, [(.T 2, .t (.val false [.undef]))])
noncomputable def Os_l1Key_1 : Orc := fun b h => match b, h with
  | 0, [(.T 0, .t (.val false [.str y0])), (.T 3, .t (.val false [.int .i64 y1]))] => some (okO (g_Ls_l1Key_0 y0 y1), (.br (isL (valO (g_Ls_l1Key_0 y0 y1))) (.leaf .ret [(.T 2, .t (.val false [.bool (getL (valO (g_Ls_l1Key_0 y0 y1)))]))]) (.leaf (.exit 0) [(.T 2, .t (.val false [.undef]))])))
  | b, h => Os_l1Key_0 b h
theorem bs_l1Key_0 (y0 : ByteArray) (y1 : Int) : Tr.bt Es_l1Key Os_l1Key_0 (exec Es_l1Key 0 cs_l1Key_0 (St.of (hs_l1Key_0 y0 y1)) (leafRd Es_l1Key 0)) = (g_Ss_l1Key_0 y0 y1).bt (fun (y1 : (Int)) => (hs_l1Key_0 y0 y1)) (xs_l1Key_0 y0) := by kernel_rfl
theorem ks_l1Key_1 : OrcOk Es_l1Key Os_l1Key_1 lss_l1Key 1 := orc_add ks_l1Key_0 (fun n p hp h ex h' ho => by
  obtain ⟨b, c⟩ := p
  obtain ⟨xt, h1, h2⟩ := ho
  have h1 : Os_l1Key_1 b h = some (true, xt) := h1
  unfold Os_l1Key_1 at h1
  split at h1
  · injection h1 with h1
    injection h1 with e1 e2
    subst e2
    have hc : c = cs_l1Key_0 := ms_l1Key_0 _ hp rfl
    subst hc
    right
    rename_i y0 y1
    have key := LT_step ks_l1Key_0 hp (fun q hq => loopsAll_in _ _ _ _ hp hq) (fun (y1 : (Int)) => (hs_l1Key_0 y0 y1)) (xs_l1Key_0 y0) (g_Ss_l1Key_0 y0) (fun x => by first | exact bs_l1Key_0 y0 x) n (x := y1) (okO_some e1)
    have hx : ∀ r, XT.sel (.br (isL r) (.leaf .ret [(.T 2, .t (.val false [.bool (getL r)]))]) (.leaf (.exit 0) [(.T 2, .t (.val false [.undef]))])) = xs_l1Key_0 y0 r := fun r => by first | rfl | (rcases r with r | r <;> rfl) | (rcases r with r | r | r <;> rfl) | (rcases r with r | r | r | r <;> rfl)
    have h3 := (hx (valO (g_Ls_l1Key_0 y0 y1))).symm.trans h2
    have e3 := congrArg Prod.fst h3
    have e4 := congrArg Prod.snd h3
    simp only at e3 e4
    rw [← e3, ← e4]
    exact key
  · exact .inl ⟨xt, h1, h2⟩)
noncomputable def g_As_l1Key (a0 : ByteArray) : Bool := g_As_l1In (↑(ByteArray.size a0) : Int) (2 : Int) (3 : Int) && (!g_Vs_l1In_0 (↑(ByteArray.size a0) : Int) (2 : Int) (3 : Int) || decide ((0 : Int) ≤ (0 : Int) ∧ (0 : Int) < (↑(ByteArray.size a0) : Int)) && (decide (byteAt a0 (nat_lit 0) < (97 : Int)) || decide ((0 : Int) ≤ (0 : Int) ∧ (0 : Int) < (↑(ByteArray.size a0) : Int)) && (decide (byteAt a0 (nat_lit 0) > (122 : Int)) || okO (g_Ls_l1Key_0 a0 (1 : Int)))))
noncomputable def g_Vs_l1Key_0 (a0 : ByteArray) : Bool := bif !g_Vs_l1In_0 (↑(ByteArray.size a0) : Int) (2 : Int) (3 : Int) then false else bif decide (byteAt a0 (nat_lit 0) < (97 : Int)) then false else bif decide (byteAt a0 (nat_lit 0) > (122 : Int)) then false else bif isL (valO (g_Ls_l1Key_0 a0 (1 : Int))) then getL (valO (g_Ls_l1Key_0 a0 (1 : Int))) else true
noncomputable def Fs_l1Key : FSem := fun ys => match ys with
  | [.val false [.str a0]] => some ((g_As_l1Key a0), .val false [.bool (g_Vs_l1Key_0 a0)], [])
  | _ => none
theorem vs_l1Key (a0 : ByteArray) : collapseH .std Es_l1Key Os_l1Key_1 (execFn Es_l1Key Go.Proofs.Tryd.f84 mss_l1Key [.val false [.str a0]]) = some ((g_As_l1Key a0), .val false [.bool (g_Vs_l1Key_0 a0)], []) := by kernel_rfl
theorem ss_l1Key : Sound Go.Proofs.Tryd.prog 84 mss_l1Key Fs_l1Key := by
  refine fn_gen goods_l1Key (by kernel_rfl) .std (fn := Go.Proofs.Tryd.f84) (c := (Go.Proofs.Tryd.f84.body.getD .skip)) (o := Os_l1Key_1) (k := 1) (by kernel_rfl) (by kernel_rfl) (by kernel_rfl) (by kernel_rfl) (by decide) ks_l1Key_1 ?_
  intro ys r outs h
  unfold Fs_l1Key at h
  split at h
  · exact (vs_l1Key _).trans h
  · cases h
end Go.Proofs.YtibafhmmnoijkaaDoor.E
end
section
namespace Go.Proofs.YtibafhmmnoijkaaDoor.E
open Go
set_option maxRecDepth 100000
set_option maxHeartbeats 0
set_option linter.all false
noncomputable def Es_l1Val : Env where
  tt := mkTI Go.Proofs.Tryd.prog
  fn := fun f => match f with
    | 63 => some (mss_l1In, FSem.wk mss_l1In Fs_l1In)
    | _ => none
  bxf := fun _ => none
  mv := []
  keep := fun b => match b with
    | 0 => [(0, false), (3, false)]
    | _ => []
  keepB := fun b => match b with
    | 0 => []
    | _ => []
  keepX := fun b => match b with
    | 0 => [(0, false), (2, false)]
    | _ => []
  keepXB := fun b => match b with
    | 0 => []
    | _ => []
theorem goodFs_l1Val : ∀ f ms F, Es_l1Val.fn f = some (ms, F) → Sound Go.Proofs.Tryd.prog f ms F := fun f ms F h => by
  unfold Es_l1Val at h
  dsimp only at h
  split at h
  · injection h with h; injection h with e1 e2; subst e1 e2; exact Sound.wk ss_l1In
  · cases h
theorem goodBs_l1Val : ∀ f ms F, Es_l1Val.bxf f = some (ms, F) → SoundB Go.Proofs.Tryd.prog f ms F := fun f ms F h => by cases h
theorem goods_l1Val : Good Go.Proofs.Tryd.prog Es_l1Val := ⟨rfl, goodFs_l1Val, goodBs_l1Val⟩
noncomputable def Os_l1Val_0 : Orc := fun _ _ => none
noncomputable def mss_l1Val : List PM := [.rd]
noncomputable def lss_l1Val : List (Nat × Code) := loopsAll 0 (Go.Proofs.Tryd.f101.body.getD .skip)
noncomputable def cs_l1Val_0 : Code := (loopOf 0 (Go.Proofs.Tryd.f101.body.getD .skip)).getD .skip
theorem lseqs_l1Val : lss_l1Val = [(0, cs_l1Val_0)] := by kernel_rfl
theorem ms_l1Val_0 : ∀ p, p ∈ lss_l1Val → p.1 = 0 → p.2 = cs_l1Val_0 := by
  intro p hp
  rw [lseqs_l1Val] at hp
  simp only [List.mem_cons, List.not_mem_nil, or_false] at hp
  subst hp; simp
theorem ks_l1Val_0 : OrcOk Es_l1Val Os_l1Val_0 lss_l1Val 0 := orcOk_none
noncomputable def hs_l1Val_0 (y0 : List (Int)) (y1 : Int) : List (Pl × LV) := [(.T 0, .t (.val false [.sl .any 3 (.int .i64) y0])), (.T 3, .t (.val false [.int .i64 y1]))]
noncomputable def g_Ss_l1Val_0 (y0 : List (Int)) : ((Int)) → RT ((Int)) (((Bool)) ⊕ (Unit))
  | y1 => .br (true) (.br (decide (y1 < (↑(List.length y0) : Int))) (.br (decide ((0 : Int) ≤ y1 ∧ y1 < (↑(List.length y0) : Int))) (.br (g_As_l1In (at_ (Ty.int IntKind.i64) y0 (Int.toNat y1)) (0 : Int) (9999 : Int)) (.br (!g_Vs_l1In_0 (at_ (Ty.int IntKind.i64) y0 (Int.toNat y1)) (0 : Int) (9999 : Int)) (.out (.inl false)) (.br (true) (.go (IntKind.wrap IntKind.i64 (y1 + (1 : Int)))) (.bad))) (.bad)) (.bad)) (.out (.inr (())))) (.bad)
noncomputable def g_Ls_l1Val_0 (y0 : List (Int)) (x : (Int)) : Option (((Bool)) ⊕ (Unit)) := loopO (g_Ss_l1Val_0 y0) x
noncomputable def xs_l1Val_0 (y0 : List (Int)) : (((Bool)) ⊕ (Unit)) → Ex × List (Pl × LV) := fun
  | .inl r => (.ret, [(.T 0, .t (.val false [.sl .any 3 (.int .i64) y0])), (.T 2, .t (.val false [.bool r]))])
  | .inr (r) => (.exit 0, [(.T 0, .t (.val false [.sl .any 3 (.int .i64) y0])), (.T 2, .t (.val false [.undef]))])
noncomputable def Os_l1Val_1 : Orc := fun b h => match b, h with
  | 0, [(.T 0, .t (.val false [.sl .any 3 (.int .i64) y0])), (.T 3, .t (.val false [.int .i64 y1]))] => some (okO (g_Ls_l1Val_0 y0 y1), (.br (isL (valO (g_Ls_l1Val_0 y0 y1))) (.leaf .ret [(.T 0, .t (.val false [.sl .any 3 (.int .i64) y0])), (.T 2, .t (.val false [.bool (getL (valO (g_Ls_l1Val_0 y0 y1)))]))]) (.leaf (.exit 0) [(.T 0, .t (.val false [.sl .any 3 (.int .i64) y0])), (.T 2, .t (.val false [.undef]))])))
  | b, h => Os_l1Val_0 b h
theorem bs_l1Val_0 (y0 : List (Int)) (y1 : Int) : Tr.bt Es_l1Val Os_l1Val_0 (exec Es_l1Val 0 cs_l1Val_0 (St.of (hs_l1Val_0 y0 y1)) (leafRd Es_l1Val 0)) = (g_Ss_l1Val_0 y0 y1).bt (fun (y1 : (Int)) => (hs_l1Val_0 y0 y1)) (xs_l1Val_0 y0) := by kernel_rfl
theorem ks_l1Val_1 : OrcOk Es_l1Val Os_l1Val_1 lss_l1Val 1 := orc_add ks_l1Val_0 (fun n p hp h ex h' ho => by
  obtain ⟨b, c⟩ := p
  obtain ⟨xt, h1, h2⟩ := ho
  have h1 : Os_l1Val_1 b h = some (true, xt) := h1
  unfold Os_l1Val_1 at h1
  split at h1
  · injection h1 with h1
    injection h1 with e1 e2
    subst e2
    have hc : c = cs_l1Val_0 := ms_l1Val_0 _ hp rfl
    subst hc
    right
    rename_i y0 y1
    have key := LT_step ks_l1Val_0 hp (fun q hq => loopsAll_in _ _ _ _ hp hq) (fun (y1 : (Int)) => (hs_l1Val_0 y0 y1)) (xs_l1Val_0 y0) (g_Ss_l1Val_0 y0) (fun x => by first | exact bs_l1Val_0 y0 x) n (x := y1) (okO_some e1)
    have hx : ∀ r, XT.sel (.br (isL r) (.leaf .ret [(.T 0, .t (.val false [.sl .any 3 (.int .i64) y0])), (.T 2, .t (.val false [.bool (getL r)]))]) (.leaf (.exit 0) [(.T 0, .t (.val false [.sl .any 3 (.int .i64) y0])), (.T 2, .t (.val false [.undef]))])) = xs_l1Val_0 y0 r := fun r => by first | rfl | (rcases r with r | r <;> rfl) | (rcases r with r | r | r <;> rfl) | (rcases r with r | r | r | r <;> rfl)
    have h3 := (hx (valO (g_Ls_l1Val_0 y0 y1))).symm.trans h2
    have e3 := congrArg Prod.fst h3
    have e4 := congrArg Prod.snd h3
    simp only at e3 e4
    rw [← e3, ← e4]
    exact key
  · exact .inl ⟨xt, h1, h2⟩)
noncomputable def g_As_l1Val (a0 : List (Int)) : Bool := okO (g_Ls_l1Val_0 a0 (0 : Int)) && (isL (valO (g_Ls_l1Val_0 a0 (0 : Int))) || g_As_l1In (↑(List.length a0) : Int) (1 : Int) (3 : Int))
noncomputable def g_Vs_l1Val_0 (a0 : List (Int)) : Bool := bif isL (valO (g_Ls_l1Val_0 a0 (0 : Int))) then getL (valO (g_Ls_l1Val_0 a0 (0 : Int))) else g_Vs_l1In_0 (↑(List.length a0) : Int) (1 : Int) (3 : Int)
noncomputable def Fs_l1Val : FSem := fun ys => match ys with
  | [.val false [.sl .any 3 (.int .i64) a0]] => some ((g_As_l1Val a0), .val false [.bool (g_Vs_l1Val_0 a0)], [])
  | _ => none
theorem vs_l1Val (a0 : List (Int)) : collapseH .std Es_l1Val Os_l1Val_1 (execFn Es_l1Val Go.Proofs.Tryd.f101 mss_l1Val [.val false [.sl .any 3 (.int .i64) a0]]) = some ((g_As_l1Val a0), .val false [.bool (g_Vs_l1Val_0 a0)], []) := by kernel_rfl
theorem ss_l1Val : Sound Go.Proofs.Tryd.prog 101 mss_l1Val Fs_l1Val := by
  refine fn_gen goods_l1Val (by kernel_rfl) .std (fn := Go.Proofs.Tryd.f101) (c := (Go.Proofs.Tryd.f101.body.getD .skip)) (o := Os_l1Val_1) (k := 1) (by kernel_rfl) (by kernel_rfl) (by kernel_rfl) (by kernel_rfl) (by decide) ks_l1Val_1 ?_
  intro ys r outs h
  unfold Fs_l1Val at h
  split at h
  · exact (vs_l1Val _).trans h
  · cases h
end Go.Proofs.YtibafhmmnoijkaaDoor.E
end
section
namespace Go.Proofs.YtibafhmmnoijkaaDoor.E
open Go
set_option maxRecDepth 100000
set_option maxHeartbeats 0
set_option linter.all false
noncomputable def Es_StoOk : Env where
  tt := mkTI Go.Proofs.Tryd.prog
  fn := fun f => match f with
    | 84 => some (mss_l1Key, FSem.wk mss_l1Key Fs_l1Key)
    | 101 => some (mss_l1Val, FSem.wk mss_l1Val Fs_l1Val)
    | _ => none
  bxf := fun _ => none
  mv := []
  keep := fun b => match b with
    | 0 => [(1, false), (3, false)]
    | _ => []
  keepB := fun b => match b with
    | 0 => [(1, false)]
    | _ => []
  keepX := fun b => match b with
    | 0 => [(2, false)]
    | _ => []
  keepXB := fun b => match b with
    | 0 => []
    | _ => []
theorem goodFs_StoOk : ∀ f ms F, Es_StoOk.fn f = some (ms, F) → Sound Go.Proofs.Tryd.prog f ms F := fun f ms F h => by
  unfold Es_StoOk at h
  dsimp only at h
  split at h
  · injection h with h; injection h with e1 e2; subst e1 e2; exact Sound.wk ss_l1Key
  · injection h with h; injection h with e1 e2; subst e1 e2; exact Sound.wk ss_l1Val
  · cases h
theorem goodBs_StoOk : ∀ f ms F, Es_StoOk.bxf f = some (ms, F) → SoundB Go.Proofs.Tryd.prog f ms F := fun f ms F h => by cases h
theorem goods_StoOk : Good Go.Proofs.Tryd.prog Es_StoOk := ⟨rfl, goodFs_StoOk, goodBs_StoOk⟩
noncomputable def Os_StoOk_0 : Orc := fun _ _ => none
noncomputable def mss_StoOk : List PM := [.rd]
noncomputable def lss_StoOk : List (Nat × Code) := loopsAll 0 (Go.Proofs.Tryd.f50.body.getD .skip)
noncomputable def cs_StoOk_0 : Code := (loopOf 0 (Go.Proofs.Tryd.f50.body.getD .skip)).getD .skip
theorem lseqs_StoOk : lss_StoOk = [(0, cs_StoOk_0)] := by kernel_rfl
theorem ms_StoOk_0 : ∀ p, p ∈ lss_StoOk → p.1 = 0 → p.2 = cs_StoOk_0 := by
  intro p hp
  rw [lseqs_StoOk] at hp
  simp only [List.mem_cons, List.not_mem_nil, or_false] at hp
  subst hp; simp
theorem ks_StoOk_0 : OrcOk Es_StoOk Os_StoOk_0 lss_StoOk 0 := orcOk_none
noncomputable def hs_StoOk_0 (y0 : Int) (y1 : List ((ByteArray) × (List (Int)))) : List (Pl × LV) := [(.T 1, .t (.val false [.ptr 1 0 0])), (.T 3, .t (.val false [.int .i64 y0])), (.B 1, .b 0 false [.sl .any 85 (.pair .str (.sl 3 (.int .i64))) y1])]
noncomputable def g_Ss_StoOk_0 (y1 : List ((ByteArray) × (List (Int)))) : ((Int)) → RT ((Int)) (((Bool)) ⊕ (Unit))
  | y0 => .br (true) (.br (decide (y0 < (↑(List.length y1) : Int))) (.br (decide ((0 : Int) ≤ y0 ∧ y0 < (↑(List.length y1) : Int))) (.br (g_As_l1Key (at_ (Ty.pair Ty.str (Ty.sl (nat_lit 3) (Ty.int IntKind.i64))) y1 (Int.toNat y0)).1) (.br (!g_Vs_l1Key_0 (at_ (Ty.pair Ty.str (Ty.sl (nat_lit 3) (Ty.int IntKind.i64))) y1 (Int.toNat y0)).1) (.out (.inl false)) (.br (decide ((0 : Int) ≤ y0 ∧ y0 < (↑(List.length y1) : Int))) (.br (g_As_l1Val (at_ (Ty.pair Ty.str (Ty.sl (nat_lit 3) (Ty.int IntKind.i64))) y1 (Int.toNat y0)).2) (.br (!g_Vs_l1Val_0 (at_ (Ty.pair Ty.str (Ty.sl (nat_lit 3) (Ty.int IntKind.i64))) y1 (Int.toNat y0)).2) (.out (.inl false)) (.br (true) (.br (decide (y0 > (0 : Int))) (.br (true) (.br (decide ((0 : Int) ≤ IntKind.wrap IntKind.i64 (y0 - (1 : Int)) ∧ IntKind.wrap IntKind.i64 (y0 - (1 : Int)) < (↑(List.length y1) : Int))) (.br (decide ((0 : Int) ≤ y0 ∧ y0 < (↑(List.length y1) : Int))) (.br (true) (.br (!Op.bytesLess (ByteArray.toList (at_ (Ty.pair Ty.str (Ty.sl (nat_lit 3) (Ty.int IntKind.i64))) y1 (Int.toNat (IntKind.wrap IntKind.i64 (y0 - (1 : Int))))).1) (ByteArray.toList (at_ (Ty.pair Ty.str (Ty.sl (nat_lit 3) (Ty.int IntKind.i64))) y1 (Int.toNat y0)).1)) (.out (.inl false)) (.br (true) (.go (IntKind.wrap IntKind.i64 (y0 + (1 : Int)))) (.bad))) (.bad)) (.bad)) (.bad)) (.bad)) (.br (true) (.go (IntKind.wrap IntKind.i64 (y0 + (1 : Int)))) (.bad))) (.bad))) (.bad)) (.bad))) (.bad)) (.bad)) (.out (.inr (())))) (.bad)
noncomputable def g_Ls_StoOk_0 (y1 : List ((ByteArray) × (List (Int)))) (x : (Int)) : Option (((Bool)) ⊕ (Unit)) := loopO (g_Ss_StoOk_0 y1) x
noncomputable def xs_StoOk_0 (y1 : List ((ByteArray) × (List (Int)))) : (((Bool)) ⊕ (Unit)) → Ex × List (Pl × LV) := fun
  | .inl r => (.ret, [(.T 2, .t (.val false [.bool r]))])
  | .inr (r) => (.exit 0, [(.T 2, .t (.val false [.undef]))])
noncomputable def Os_StoOk_1 : Orc := fun b h => match b, h with
  | 0, [(.T 1, .t (.val false [.ptr 1 0 0])), (.T 3, .t (.val false [.int .i64 y0])), (.B 1, .b 0 false [.sl .any 85 (.pair .str (.sl 3 (.int .i64))) y1])] => some (okO (g_Ls_StoOk_0 y1 y0), (.br (isL (valO (g_Ls_StoOk_0 y1 y0))) (.leaf .ret [(.T 2, .t (.val false [.bool (getL (valO (g_Ls_StoOk_0 y1 y0)))]))]) (.leaf (.exit 0) [(.T 2, .t (.val false [.undef]))])))
  | b, h => Os_StoOk_0 b h
theorem bs_StoOk_0 (y0 : Int) (y1 : List ((ByteArray) × (List (Int)))) : Tr.bt Es_StoOk Os_StoOk_0 (exec Es_StoOk 0 cs_StoOk_0 (St.of (hs_StoOk_0 y0 y1)) (leafRd Es_StoOk 0)) = (g_Ss_StoOk_0 y1 y0).bt (fun (y0 : (Int)) => (hs_StoOk_0 y0 y1)) (xs_StoOk_0 y1) := by kernel_rfl
theorem ks_StoOk_1 : OrcOk Es_StoOk Os_StoOk_1 lss_StoOk 1 := orc_add ks_StoOk_0 (fun n p hp h ex h' ho => by
  obtain ⟨b, c⟩ := p
  obtain ⟨xt, h1, h2⟩ := ho
  have h1 : Os_StoOk_1 b h = some (true, xt) := h1
  unfold Os_StoOk_1 at h1
  split at h1
  · injection h1 with h1
    injection h1 with e1 e2
    subst e2
    have hc : c = cs_StoOk_0 := ms_StoOk_0 _ hp rfl
    subst hc
    right
    rename_i y0 y1
    have key := LT_step ks_StoOk_0 hp (fun q hq => loopsAll_in _ _ _ _ hp hq) (fun (y0 : (Int)) => (hs_StoOk_0 y0 y1)) (xs_StoOk_0 y1) (g_Ss_StoOk_0 y1) (fun x => by first | exact bs_StoOk_0 x y1) n (x := y0) (okO_some e1)
    have hx : ∀ r, XT.sel (.br (isL r) (.leaf .ret [(.T 2, .t (.val false [.bool (getL r)]))]) (.leaf (.exit 0) [(.T 2, .t (.val false [.undef]))])) = xs_StoOk_0 y1 r := fun r => by first | rfl | (rcases r with r | r <;> rfl) | (rcases r with r | r | r <;> rfl) | (rcases r with r | r | r | r <;> rfl)
    have h3 := (hx (valO (g_Ls_StoOk_0 y1 y0))).symm.trans h2
    have e3 := congrArg Prod.fst h3
    have e4 := congrArg Prod.snd h3
    simp only at e3 e4
    rw [← e3, ← e4]
    exact key
  · exact .inl ⟨xt, h1, h2⟩)
noncomputable def g_As_StoOk (a0 : List ((ByteArray) × (List (Int)))) : Bool := decide ((↑(List.length a0) : Int) > (40 : Int)) || okO (g_Ls_StoOk_0 a0 (0 : Int))
noncomputable def g_Vs_StoOk_0 (a0 : List ((ByteArray) × (List (Int)))) : Bool := bif decide ((↑(List.length a0) : Int) > (40 : Int)) then false else bif isL (valO (g_Ls_StoOk_0 a0 (0 : Int))) then getL (valO (g_Ls_StoOk_0 a0 (0 : Int))) else true
noncomputable def Fs_StoOk : FSem := fun ys => match ys with
  | [.val true [.sl .any 85 (.pair .str (.sl 3 (.int .i64))) a0]] => some ((g_As_StoOk a0), .val false [.bool (g_Vs_StoOk_0 a0)], [])
  | _ => none
theorem vs_StoOk (a0 : List ((ByteArray) × (List (Int)))) : collapseH .std Es_StoOk Os_StoOk_1 (execFn Es_StoOk Go.Proofs.Tryd.f50 mss_StoOk [.val true [.sl .any 85 (.pair .str (.sl 3 (.int .i64))) a0]]) = some ((g_As_StoOk a0), .val false [.bool (g_Vs_StoOk_0 a0)], []) := by kernel_rfl
theorem ss_StoOk : Sound Go.Proofs.Tryd.prog 50 mss_StoOk Fs_StoOk := by
  refine fn_gen goods_StoOk (by kernel_rfl) .std (fn := Go.Proofs.Tryd.f50) (c := (Go.Proofs.Tryd.f50.body.getD .skip)) (o := Os_StoOk_1) (k := 1) (by kernel_rfl) (by kernel_rfl) (by kernel_rfl) (by kernel_rfl) (by decide) ks_StoOk_1 ?_
  intro ys r outs h
  unfold Fs_StoOk at h
  split at h
  · exact (vs_StoOk _).trans h
  · cases h
end Go.Proofs.YtibafhmmnoijkaaDoor.E
end
section
namespace Go.Proofs.YtibafhmmnoijkaaDoor.E
open Go
set_option maxRecDepth 100000
set_option maxHeartbeats 0
set_option linter.all false
noncomputable def Es_l1Get : Env where
  tt := mkTI Go.Proofs.Tryd.prog
  fn := fun _ => none
  bxf := fun _ => none
  mv := []
  keep := fun b => match b with
    | 0 => [(1, false), (2, false), (6, false)]
    | _ => []
  keepB := fun b => match b with
    | 0 => [(2, false)]
    | _ => []
  keepX := fun b => match b with
    | 0 => [(4, false), (5, false)]
    | _ => []
  keepXB := fun b => match b with
    | 0 => []
    | _ => []
theorem goodFs_l1Get : ∀ f ms F, Es_l1Get.fn f = some (ms, F) → Sound Go.Proofs.Tryd.prog f ms F := fun f ms F h => by cases h
theorem goodBs_l1Get : ∀ f ms F, Es_l1Get.bxf f = some (ms, F) → SoundB Go.Proofs.Tryd.prog f ms F := fun f ms F h => by cases h
theorem goods_l1Get : Good Go.Proofs.Tryd.prog Es_l1Get := ⟨rfl, goodFs_l1Get, goodBs_l1Get⟩
noncomputable def Os_l1Get_0 : Orc := fun _ _ => none
noncomputable def mss_l1Get : List PM := [.rd, .own]
noncomputable def lss_l1Get : List (Nat × Code) := loopsAll 0 (Go.Proofs.Tryd.f56.body.getD .skip)
noncomputable def cs_l1Get_0 : Code := (loopOf 0 (Go.Proofs.Tryd.f56.body.getD .skip)).getD .skip
theorem lseqs_l1Get : lss_l1Get = [(0, cs_l1Get_0)] := by kernel_rfl
theorem ms_l1Get_0 : ∀ p, p ∈ lss_l1Get → p.1 = 0 → p.2 = cs_l1Get_0 := by
  intro p hp
  rw [lseqs_l1Get] at hp
  simp only [List.mem_cons, List.not_mem_nil, or_false] at hp
  subst hp; simp
theorem ks_l1Get_0 : OrcOk Es_l1Get Os_l1Get_0 lss_l1Get 0 := orcOk_none
noncomputable def hs_l1Get_0 (y0 : ByteArray) (y1 : Int) (y2 : List ((ByteArray) × (List (Int)))) : List (Pl × LV) := [(.T 1, .t (.val false [.str y0])), (.T 2, .t (.val false [.ptr 2 0 0])), (.T 6, .t (.val false [.int .i64 y1])), (.B 2, .b 0 false [.sl .any 85 (.pair .str (.sl 3 (.int .i64))) y2])]
noncomputable def g_Ss_l1Get_0 (y0 : ByteArray) (y2 : List ((ByteArray) × (List (Int)))) : ((Int)) → RT ((Int)) (((List (Int)) × (Bool)) ⊕ (Unit))
  | y1 => .br (true) (.br (decide (y1 < (↑(List.length y2) : Int))) (.br (decide ((0 : Int) ≤ y1 ∧ y1 < (↑(List.length y2) : Int))) (.br (true) (.br (ByteArray.toList (at_ (Ty.pair Ty.str (Ty.sl (nat_lit 3) (Ty.int IntKind.i64))) y2 (Int.toNat y1)).1 == ByteArray.toList y0) (.br (decide ((0 : Int) ≤ y1 ∧ y1 < (↑(List.length y2) : Int))) (.br (decide ((nat_lit 0 + List.length (at_ (Ty.pair Ty.str (Ty.sl (nat_lit 3) (Ty.int IntKind.i64))) y2 (Int.toNat y1)).2) * nat_lit 8 ≤ nat_lit 140737488355328 ∧ nat_lit 0 + List.length (at_ (Ty.pair Ty.str (Ty.sl (nat_lit 3) (Ty.int IntKind.i64))) y2 (Int.toNat y1)).2 ≤ nat_lit 9223372036854775807)) (.out (.inl (([] ++ (at_ (Ty.pair Ty.str (Ty.sl (nat_lit 3) (Ty.int IntKind.i64))) y2 (Int.toNat y1)).2, true)))) (.bad)) (.bad)) (.br (true) (.go (IntKind.wrap IntKind.i64 (y1 + (1 : Int)))) (.bad))) (.bad)) (.bad)) (.out (.inr (())))) (.bad)
noncomputable def g_Ls_l1Get_0 (y0 : ByteArray) (y2 : List ((ByteArray) × (List (Int)))) (x : (Int)) : Option (((List (Int)) × (Bool)) ⊕ (Unit)) := loopO (g_Ss_l1Get_0 y0 y2) x
noncomputable def xs_l1Get_0 (y0 : ByteArray) (y2 : List ((ByteArray) × (List (Int)))) : (((List (Int)) × (Bool)) ⊕ (Unit)) → Ex × List (Pl × LV) := fun
  | .inl r => (.ret, [(.T 4, .t (.val false [.row 4 0 0])), (.R 4 0, .r 0 (some ⟨false, .non, true, 3, (.int .i64), r.1⟩)), (.T 5, .t (.val false [.bool r.2]))])
  | .inr (r) => (.exit 0, [(.T 4, .t (.val false [.undef])), (.T 5, .t (.val false [.undef]))])
noncomputable def Os_l1Get_1 : Orc := fun b h => match b, h with
  | 0, [(.T 1, .t (.val false [.str y0])), (.T 2, .t (.val false [.ptr 2 0 0])), (.T 6, .t (.val false [.int .i64 y1])), (.B 2, .b 0 false [.sl .any 85 (.pair .str (.sl 3 (.int .i64))) y2])] => some (okO (g_Ls_l1Get_0 y0 y2 y1), (.br (isL (valO (g_Ls_l1Get_0 y0 y2 y1))) (.leaf .ret [(.T 4, .t (.val false [.row 4 0 0])), (.R 4 0, .r 0 (some ⟨false, .non, true, 3, (.int .i64), (getL (valO (g_Ls_l1Get_0 y0 y2 y1))).1⟩)), (.T 5, .t (.val false [.bool (getL (valO (g_Ls_l1Get_0 y0 y2 y1))).2]))]) (.leaf (.exit 0) [(.T 4, .t (.val false [.undef])), (.T 5, .t (.val false [.undef]))])))
  | b, h => Os_l1Get_0 b h
theorem bs_l1Get_0 (y0 : ByteArray) (y1 : Int) (y2 : List ((ByteArray) × (List (Int)))) : Tr.bt Es_l1Get Os_l1Get_0 (exec Es_l1Get 0 cs_l1Get_0 (St.of (hs_l1Get_0 y0 y1 y2)) (leafRd Es_l1Get 0)) = (g_Ss_l1Get_0 y0 y2 y1).bt (fun (y1 : (Int)) => (hs_l1Get_0 y0 y1 y2)) (xs_l1Get_0 y0 y2) := by kernel_rfl
theorem ks_l1Get_1 : OrcOk Es_l1Get Os_l1Get_1 lss_l1Get 1 := orc_add ks_l1Get_0 (fun n p hp h ex h' ho => by
  obtain ⟨b, c⟩ := p
  obtain ⟨xt, h1, h2⟩ := ho
  have h1 : Os_l1Get_1 b h = some (true, xt) := h1
  unfold Os_l1Get_1 at h1
  split at h1
  · injection h1 with h1
    injection h1 with e1 e2
    subst e2
    have hc : c = cs_l1Get_0 := ms_l1Get_0 _ hp rfl
    subst hc
    right
    rename_i y0 y1 y2
    have key := LT_step ks_l1Get_0 hp (fun q hq => loopsAll_in _ _ _ _ hp hq) (fun (y1 : (Int)) => (hs_l1Get_0 y0 y1 y2)) (xs_l1Get_0 y0 y2) (g_Ss_l1Get_0 y0 y2) (fun x => by first | exact bs_l1Get_0 y0 x y2) n (x := y1) (okO_some e1)
    have hx : ∀ r, XT.sel (.br (isL r) (.leaf .ret [(.T 4, .t (.val false [.row 4 0 0])), (.R 4 0, .r 0 (some ⟨false, .non, true, 3, (.int .i64), (getL r).1⟩)), (.T 5, .t (.val false [.bool (getL r).2]))]) (.leaf (.exit 0) [(.T 4, .t (.val false [.undef])), (.T 5, .t (.val false [.undef]))])) = xs_l1Get_0 y0 y2 r := fun r => by first | rfl | (rcases r with r | r <;> rfl) | (rcases r with r | r | r <;> rfl) | (rcases r with r | r | r | r <;> rfl)
    have h3 := (hx (valO (g_Ls_l1Get_0 y0 y2 y1))).symm.trans h2
    have e3 := congrArg Prod.fst h3
    have e4 := congrArg Prod.snd h3
    simp only at e3 e4
    rw [← e3, ← e4]
    exact key
  · exact .inl ⟨xt, h1, h2⟩)
noncomputable def g_As_l1Get (a0 : List ((ByteArray) × (List (Int)))) (a1 : ByteArray) : Bool := okO (g_Ls_l1Get_0 a1 a0 (0 : Int))
noncomputable def g_Vs_l1Get_0 (a0 : List ((ByteArray) × (List (Int)))) (a1 : ByteArray) : List (Int) := bif isL (valO (g_Ls_l1Get_0 a1 a0 (0 : Int))) then (getL (valO (g_Ls_l1Get_0 a1 a0 (0 : Int)))).1 else []
noncomputable def g_Vs_l1Get_1 (a0 : List ((ByteArray) × (List (Int)))) (a1 : ByteArray) : Bool := bif isL (valO (g_Ls_l1Get_0 a1 a0 (0 : Int))) then (getL (valO (g_Ls_l1Get_0 a1 a0 (0 : Int)))).2 else false
noncomputable def Fs_l1Get : FSem := fun ys => match ys with
  | [.val true [.sl .any 85 (.pair .str (.sl 3 (.int .i64))) a0], .val false [.str a1]] => some ((g_As_l1Get a0 a1), .tup [(false, [.own .any true 3 (.int .i64) (g_Vs_l1Get_0 a0 a1)]), (false, [.bool (g_Vs_l1Get_1 a0 a1)])], [])
  | _ => none
theorem vs_l1Get (a0 : List ((ByteArray) × (List (Int)))) (a1 : ByteArray) : collapseH .std Es_l1Get Os_l1Get_1 (execFn Es_l1Get Go.Proofs.Tryd.f56 mss_l1Get [.val true [.sl .any 85 (.pair .str (.sl 3 (.int .i64))) a0], .val false [.str a1]]) = some ((g_As_l1Get a0 a1), .tup [(false, [.own .any true 3 (.int .i64) (g_Vs_l1Get_0 a0 a1)]), (false, [.bool (g_Vs_l1Get_1 a0 a1)])], []) := by kernel_rfl
theorem ss_l1Get : Sound Go.Proofs.Tryd.prog 56 mss_l1Get Fs_l1Get := by
  refine fn_gen goods_l1Get (by kernel_rfl) .std (fn := Go.Proofs.Tryd.f56) (c := (Go.Proofs.Tryd.f56.body.getD .skip)) (o := Os_l1Get_1) (k := 1) (by kernel_rfl) (by kernel_rfl) (by kernel_rfl) (by kernel_rfl) (by decide) ks_l1Get_1 ?_
  intro ys r outs h
  unfold Fs_l1Get at h
  split at h
  · exact (vs_l1Get _ _).trans h
  · cases h
end Go.Proofs.YtibafhmmnoijkaaDoor.E
end
section
namespace Go.Proofs.YtibafhmmnoijkaaDoor.E
open Go
set_option maxRecDepth 100000
set_option maxHeartbeats 0
set_option linter.all false
noncomputable def Es_StoGet : Env where
  tt := mkTI Go.Proofs.Tryd.prog
  fn := fun f => match f with
    | 50 => some (mss_StoOk, FSem.wk mss_StoOk Fs_StoOk)
    | 56 => some (mss_l1Get, FSem.wk mss_l1Get Fs_l1Get)
    | _ => none
  bxf := fun _ => none
  mv := []
  keep := fun _ => []
  keepB := fun _ => []
  keepX := fun _ => []
  keepXB := fun _ => []
theorem goodFs_StoGet : ∀ f ms F, Es_StoGet.fn f = some (ms, F) → Sound Go.Proofs.Tryd.prog f ms F := fun f ms F h => by
  unfold Es_StoGet at h
  dsimp only at h
  split at h
  · injection h with h; injection h with e1 e2; subst e1 e2; exact Sound.wk ss_StoOk
  · injection h with h; injection h with e1 e2; subst e1 e2; exact Sound.wk ss_l1Get
  · cases h
theorem goodBs_StoGet : ∀ f ms F, Es_StoGet.bxf f = some (ms, F) → SoundB Go.Proofs.Tryd.prog f ms F := fun f ms F h => by cases h
theorem goods_StoGet : Good Go.Proofs.Tryd.prog Es_StoGet := ⟨rfl, goodFs_StoGet, goodBs_StoGet⟩
noncomputable def Os_StoGet_0 : Orc := fun _ _ => none
noncomputable def mss_StoGet : List PM := [.rd, .own]
noncomputable def lss_StoGet : List (Nat × Code) := loopsAll 0 (Go.Proofs.Tryd.f15.body.getD .skip)

theorem ks_StoGet_0 : OrcOk Es_StoGet Os_StoGet_0 lss_StoGet 0 := orcOk_none
noncomputable def g_As_StoGet (a0 : List ((ByteArray) × (List (Int)))) (a1 : ByteArray) : Bool := g_As_StoOk a0 && (!g_Vs_StoOk_0 a0 || g_As_l1Get a0 a1)
noncomputable def g_Vs_StoGet_0 (a0 : List ((ByteArray) × (List (Int)))) (a1 : ByteArray) : List (Int) := bif !g_Vs_StoOk_0 a0 then [] else g_Vs_l1Get_0 a0 a1
noncomputable def g_Vs_StoGet_1 (a0 : List ((ByteArray) × (List (Int)))) (a1 : ByteArray) : Bool := bif !g_Vs_StoOk_0 a0 then false else g_Vs_l1Get_1 a0 a1
noncomputable def Fs_StoGet : FSem := fun ys => match ys with
  | [.val true [.sl .any 85 (.pair .str (.sl 3 (.int .i64))) a0], .val false [.str a1]] => some ((g_As_StoGet a0 a1), .tup [(false, [.own .any true 3 (.int .i64) (g_Vs_StoGet_0 a0 a1)]), (false, [.bool (g_Vs_StoGet_1 a0 a1)])], [])
  | _ => none
theorem vs_StoGet (a0 : List ((ByteArray) × (List (Int)))) (a1 : ByteArray) : collapseH .std Es_StoGet Os_StoGet_0 (execFn Es_StoGet Go.Proofs.Tryd.f15 mss_StoGet [.val true [.sl .any 85 (.pair .str (.sl 3 (.int .i64))) a0], .val false [.str a1]]) = some ((g_As_StoGet a0 a1), .tup [(false, [.own .any true 3 (.int .i64) (g_Vs_StoGet_0 a0 a1)]), (false, [.bool (g_Vs_StoGet_1 a0 a1)])], []) := by kernel_rfl
theorem ss_StoGet : Sound Go.Proofs.Tryd.prog 15 mss_StoGet Fs_StoGet := by
  refine fn_gen goods_StoGet (by kernel_rfl) .std (fn := Go.Proofs.Tryd.f15) (c := (Go.Proofs.Tryd.f15.body.getD .skip)) (o := Os_StoGet_0) (k := 0) (by kernel_rfl) (by kernel_rfl) (by kernel_rfl) (by kernel_rfl) (by decide) ks_StoGet_0 ?_
  intro ys r outs h
  unfold Fs_StoGet at h
  split at h
  · exact (vs_StoGet _ _).trans h
  · cases h
end Go.Proofs.YtibafhmmnoijkaaDoor.E
end
section
namespace Go.Proofs.YtibafhmmnoijkaaDoor.E
open Go
set_option maxRecDepth 100000
set_option maxHeartbeats 0
set_option linter.all false
noncomputable def Ew_eqIntS : Env where
  tt := mkTI Go.Proofs.Tryd.prog
  fn := fun _ => none
  bxf := fun _ => none
  mv := []
  keep := fun b => match b with
    | 0 => [(0, false), (1, false), (5, false)]
    | _ => []
  keepB := fun b => match b with
    | 0 => []
    | _ => []
  keepX := fun b => match b with
    | 0 => [(4, false)]
    | _ => []
  keepXB := fun b => match b with
    | 0 => []
    | _ => []
theorem goodFw_eqIntS : ∀ f ms F, Ew_eqIntS.fn f = some (ms, F) → Sound Go.Proofs.Tryd.prog f ms F := fun f ms F h => by cases h
theorem goodBw_eqIntS : ∀ f ms F, Ew_eqIntS.bxf f = some (ms, F) → SoundB Go.Proofs.Tryd.prog f ms F := fun f ms F h => by cases h
theorem goodw_eqIntS : Good Go.Proofs.Tryd.prog Ew_eqIntS := ⟨rfl, goodFw_eqIntS, goodBw_eqIntS⟩
noncomputable def Ow_eqIntS_0 : Orc := fun _ _ => none
noncomputable def msw_eqIntS : List PM := [.rd, .rd]
noncomputable def lsw_eqIntS : List (Nat × Code) := loopsAll 0 (Go.Proofs.Tryd.f18.body.getD .skip)
noncomputable def cw_eqIntS_0 : Code := (loopOf 0 (Go.Proofs.Tryd.f18.body.getD .skip)).getD .skip
theorem lseqw_eqIntS : lsw_eqIntS = [(0, cw_eqIntS_0)] := by kernel_rfl
theorem mw_eqIntS_0 : ∀ p, p ∈ lsw_eqIntS → p.1 = 0 → p.2 = cw_eqIntS_0 := by
  intro p hp
  rw [lseqw_eqIntS] at hp
  simp only [List.mem_cons, List.not_mem_nil, or_false] at hp
  subst hp; simp
theorem kw_eqIntS_0 : OrcOk Ew_eqIntS Ow_eqIntS_0 lsw_eqIntS 0 := orcOk_none
noncomputable def hw_eqIntS_0 (y0 : List (Int)) (y1 : List (Int)) (y2 : Int) : List (Pl × LV) := [(.T 0, .t (.val false [.sl .any 3 (.int .i64) y0])), (.T 1, .t (.val false [.sl .any 3 (.int .i64) y1])), (.T 5, .t (.val false [.int .i64 y2]))]
noncomputable def g_Sw_eqIntS_0 (y0 : List (Int)) (y1 : List (Int)) : ((Int)) → RT ((Int)) (((Bool)) ⊕ (Unit))
  | y2 => .br (true) (.br (decide (y2 < (↑(List.length y0) : Int))) (.br (decide ((0 : Int) ≤ y2 ∧ y2 < (↑(List.length y0) : Int))) (.br (decide ((0 : Int) ≤ y2 ∧ y2 < (↑(List.length y1) : Int))) (.br (true) (.br (at_ (Ty.int IntKind.i64) y0 (Int.toNat y2) != at_ (Ty.int IntKind.i64) y1 (Int.toNat y2)) (.out (.inl false)) (.br (true) (.go (IntKind.wrap IntKind.i64 (y2 + (1 : Int)))) (.bad))) (.bad)) (.bad)) (.bad)) (.out (.inr (())))) (.bad)
noncomputable def g_Lw_eqIntS_0 (y0 : List (Int)) (y1 : List (Int)) (x : (Int)) : Option (((Bool)) ⊕ (Unit)) := loopO (g_Sw_eqIntS_0 y0 y1) x
noncomputable def xw_eqIntS_0 (y0 : List (Int)) (y1 : List (Int)) : (((Bool)) ⊕ (Unit)) → Ex × List (Pl × LV) := fun
  | .inl r => (.ret, [(.T 4, .t (.val false [.bool r]))])
  | .inr (r) => (.exit 0, [(.T 4, .t (.val false [.undef]))])
noncomputable def Ow_eqIntS_1 : Orc := fun b h => match b, h with
  | 0, [(.T 0, .t (.val false [.sl .any 3 (.int .i64) y0])), (.T 1, .t (.val false [.sl .any 3 (.int .i64) y1])), (.T 5, .t (.val false [.int .i64 y2]))] => some (okO (g_Lw_eqIntS_0 y0 y1 y2), (.br (isL (valO (g_Lw_eqIntS_0 y0 y1 y2))) (.leaf .ret [(.T 4, .t (.val false [.bool (getL (valO (g_Lw_eqIntS_0 y0 y1 y2)))]))]) (.leaf (.exit 0) [(.T 4, .t (.val false [.undef]))])))
  | b, h => Ow_eqIntS_0 b h
theorem bw_eqIntS_0 (y0 : List (Int)) (y1 : List (Int)) (y2 : Int) : Tr.bt Ew_eqIntS Ow_eqIntS_0 (exec Ew_eqIntS 0 cw_eqIntS_0 (St.of (hw_eqIntS_0 y0 y1 y2)) (leafRd Ew_eqIntS 0)) = (g_Sw_eqIntS_0 y0 y1 y2).bt (fun (y2 : (Int)) => (hw_eqIntS_0 y0 y1 y2)) (xw_eqIntS_0 y0 y1) := by kernel_rfl
theorem kw_eqIntS_1 : OrcOk Ew_eqIntS Ow_eqIntS_1 lsw_eqIntS 1 := orc_add kw_eqIntS_0 (fun n p hp h ex h' ho => by
  obtain ⟨b, c⟩ := p
  obtain ⟨xt, h1, h2⟩ := ho
  have h1 : Ow_eqIntS_1 b h = some (true, xt) := h1
  unfold Ow_eqIntS_1 at h1
  split at h1
  · injection h1 with h1
    injection h1 with e1 e2
    subst e2
    have hc : c = cw_eqIntS_0 := mw_eqIntS_0 _ hp rfl
    subst hc
    right
    rename_i y0 y1 y2
    have key := LT_step kw_eqIntS_0 hp (fun q hq => loopsAll_in _ _ _ _ hp hq) (fun (y2 : (Int)) => (hw_eqIntS_0 y0 y1 y2)) (xw_eqIntS_0 y0 y1) (g_Sw_eqIntS_0 y0 y1) (fun x => by first | exact bw_eqIntS_0 y0 y1 x) n (x := y2) (okO_some e1)
    have hx : ∀ r, XT.sel (.br (isL r) (.leaf .ret [(.T 4, .t (.val false [.bool (getL r)]))]) (.leaf (.exit 0) [(.T 4, .t (.val false [.undef]))])) = xw_eqIntS_0 y0 y1 r := fun r => by first | rfl | (rcases r with r | r <;> rfl) | (rcases r with r | r | r <;> rfl) | (rcases r with r | r | r | r <;> rfl)
    have h3 := (hx (valO (g_Lw_eqIntS_0 y0 y1 y2))).symm.trans h2
    have e3 := congrArg Prod.fst h3
    have e4 := congrArg Prod.snd h3
    simp only at e3 e4
    rw [← e3, ← e4]
    exact key
  · exact .inl ⟨xt, h1, h2⟩)
noncomputable def g_Aw_eqIntS (a0 : List (Int)) (a1 : List (Int)) : Bool := (↑(List.length a0) : Int) != (↑(List.length a1) : Int) || okO (g_Lw_eqIntS_0 a0 a1 (0 : Int))
noncomputable def g_Vw_eqIntS_0 (a0 : List (Int)) (a1 : List (Int)) : Bool := bif (↑(List.length a0) : Int) != (↑(List.length a1) : Int) then false else bif isL (valO (g_Lw_eqIntS_0 a0 a1 (0 : Int))) then getL (valO (g_Lw_eqIntS_0 a0 a1 (0 : Int))) else true
noncomputable def Fw_eqIntS : FSem := fun ys => match ys with
  | [.val false [.sl .any 3 (.int .i64) a0], .val false [.sl .any 3 (.int .i64) a1]] => some ((g_Aw_eqIntS a0 a1), .val false [.bool (g_Vw_eqIntS_0 a0 a1)], [])
  | _ => none
theorem vw_eqIntS (a0 : List (Int)) (a1 : List (Int)) : collapseH .std Ew_eqIntS Ow_eqIntS_1 (execFn Ew_eqIntS Go.Proofs.Tryd.f18 msw_eqIntS [.val false [.sl .any 3 (.int .i64) a0], .val false [.sl .any 3 (.int .i64) a1]]) = some ((g_Aw_eqIntS a0 a1), .val false [.bool (g_Vw_eqIntS_0 a0 a1)], []) := by kernel_rfl
theorem sw_eqIntS : Sound Go.Proofs.Tryd.prog 18 msw_eqIntS Fw_eqIntS := by
  refine fn_gen goodw_eqIntS (by kernel_rfl) .std (fn := Go.Proofs.Tryd.f18) (c := (Go.Proofs.Tryd.f18.body.getD .skip)) (o := Ow_eqIntS_1) (k := 1) (by kernel_rfl) (by kernel_rfl) (by kernel_rfl) (by kernel_rfl) (by decide) kw_eqIntS_1 ?_
  intro ys r outs h
  unfold Fw_eqIntS at h
  split at h
  · exact (vw_eqIntS _ _).trans h
  · cases h
end Go.Proofs.YtibafhmmnoijkaaDoor.E
end
section
namespace Go.Proofs.YtibafhmmnoijkaaDoor.E
open Go
set_option maxRecDepth 100000
set_option maxHeartbeats 0
set_option linter.all false
noncomputable def Ew_eqStoItem : Env where
  tt := mkTI Go.Proofs.Tryd.prog
  fn := fun f => match f with
    | 18 => some (msw_eqIntS, FSem.wk msw_eqIntS Fw_eqIntS)
    | _ => none
  bxf := fun _ => none
  mv := []
  keep := fun _ => []
  keepB := fun _ => []
  keepX := fun _ => []
  keepXB := fun _ => []
theorem goodFw_eqStoItem : ∀ f ms F, Ew_eqStoItem.fn f = some (ms, F) → Sound Go.Proofs.Tryd.prog f ms F := fun f ms F h => by
  unfold Ew_eqStoItem at h
  dsimp only at h
  split at h
  · injection h with h; injection h with e1 e2; subst e1 e2; exact Sound.wk sw_eqIntS
  · cases h
theorem goodBw_eqStoItem : ∀ f ms F, Ew_eqStoItem.bxf f = some (ms, F) → SoundB Go.Proofs.Tryd.prog f ms F := fun f ms F h => by cases h
theorem goodw_eqStoItem : Good Go.Proofs.Tryd.prog Ew_eqStoItem := ⟨rfl, goodFw_eqStoItem, goodBw_eqStoItem⟩
noncomputable def Ow_eqStoItem_0 : Orc := fun _ _ => none
noncomputable def msw_eqStoItem : List PM := [.rd, .rd]
noncomputable def lsw_eqStoItem : List (Nat × Code) := loopsAll 0 (Go.Proofs.Tryd.f113.body.getD .skip)

theorem kw_eqStoItem_0 : OrcOk Ew_eqStoItem Ow_eqStoItem_0 lsw_eqStoItem 0 := orcOk_none
noncomputable def g_Aw_eqStoItem (a0 : ByteArray) (a1 : List (Int)) (a2 : ByteArray) (a3 : List (Int)) : Bool := !ByteArray.toList a0 == ByteArray.toList a2 || g_Aw_eqIntS a1 a3
noncomputable def g_Vw_eqStoItem_0 (a0 : ByteArray) (a1 : List (Int)) (a2 : ByteArray) (a3 : List (Int)) : Bool := bif !ByteArray.toList a0 == ByteArray.toList a2 then false else bif !g_Vw_eqIntS_0 a1 a3 then false else true
noncomputable def Fw_eqStoItem : FSem := fun ys => match ys with
  | [.val true [.str a0, .sl .any 3 (.int .i64) a1], .val true [.str a2, .sl .any 3 (.int .i64) a3]] => some ((g_Aw_eqStoItem a0 a1 a2 a3), .val false [.bool (g_Vw_eqStoItem_0 a0 a1 a2 a3)], [])
  | _ => none
theorem vw_eqStoItem (a0 : ByteArray) (a1 : List (Int)) (a2 : ByteArray) (a3 : List (Int)) : collapseH .std Ew_eqStoItem Ow_eqStoItem_0 (execFn Ew_eqStoItem Go.Proofs.Tryd.f113 msw_eqStoItem [.val true [.str a0, .sl .any 3 (.int .i64) a1], .val true [.str a2, .sl .any 3 (.int .i64) a3]]) = some ((g_Aw_eqStoItem a0 a1 a2 a3), .val false [.bool (g_Vw_eqStoItem_0 a0 a1 a2 a3)], []) := by kernel_rfl
theorem sw_eqStoItem : Sound Go.Proofs.Tryd.prog 113 msw_eqStoItem Fw_eqStoItem := by
  refine fn_gen goodw_eqStoItem (by kernel_rfl) .std (fn := Go.Proofs.Tryd.f113) (c := (Go.Proofs.Tryd.f113.body.getD .skip)) (o := Ow_eqStoItem_0) (k := 0) (by kernel_rfl) (by kernel_rfl) (by kernel_rfl) (by kernel_rfl) (by decide) kw_eqStoItem_0 ?_
  intro ys r outs h
  unfold Fw_eqStoItem at h
  split at h
  · exact (vw_eqStoItem _ _ _ _).trans h
  · cases h
end Go.Proofs.YtibafhmmnoijkaaDoor.E
end
section
namespace Go.Proofs.YtibafhmmnoijkaaDoor.E
open Go
set_option maxRecDepth 100000
set_option maxHeartbeats 0
set_option linter.all false
noncomputable def Ew_eqStoItemS : Env where
  tt := mkTI Go.Proofs.Tryd.prog
  fn := fun f => match f with
    | 113 => some (msw_eqStoItem, FSem.wk msw_eqStoItem Fw_eqStoItem)
    | _ => none
  bxf := fun _ => none
  mv := []
  keep := fun b => match b with
    | 0 => [(0, false), (1, false), (5, false)]
    | _ => []
  keepB := fun b => match b with
    | 0 => []
    | _ => []
  keepX := fun b => match b with
    | 0 => [(4, false)]
    | _ => []
  keepXB := fun b => match b with
    | 0 => []
    | _ => []
theorem goodFw_eqStoItemS : ∀ f ms F, Ew_eqStoItemS.fn f = some (ms, F) → Sound Go.Proofs.Tryd.prog f ms F := fun f ms F h => by
  unfold Ew_eqStoItemS at h
  dsimp only at h
  split at h
  · injection h with h; injection h with e1 e2; subst e1 e2; exact Sound.wk sw_eqStoItem
  · cases h
theorem goodBw_eqStoItemS : ∀ f ms F, Ew_eqStoItemS.bxf f = some (ms, F) → SoundB Go.Proofs.Tryd.prog f ms F := fun f ms F h => by cases h
theorem goodw_eqStoItemS : Good Go.Proofs.Tryd.prog Ew_eqStoItemS := ⟨rfl, goodFw_eqStoItemS, goodBw_eqStoItemS⟩
noncomputable def Ow_eqStoItemS_0 : Orc := fun _ _ => none
noncomputable def msw_eqStoItemS : List PM := [.rd, .rd]
noncomputable def lsw_eqStoItemS : List (Nat × Code) := loopsAll 0 (Go.Proofs.Tryd.f60.body.getD .skip)
noncomputable def cw_eqStoItemS_0 : Code := (loopOf 0 (Go.Proofs.Tryd.f60.body.getD .skip)).getD .skip
theorem lseqw_eqStoItemS : lsw_eqStoItemS = [(0, cw_eqStoItemS_0)] := by kernel_rfl
theorem mw_eqStoItemS_0 : ∀ p, p ∈ lsw_eqStoItemS → p.1 = 0 → p.2 = cw_eqStoItemS_0 := by
  intro p hp
  rw [lseqw_eqStoItemS] at hp
  simp only [List.mem_cons, List.not_mem_nil, or_false] at hp
  subst hp; simp
theorem kw_eqStoItemS_0 : OrcOk Ew_eqStoItemS Ow_eqStoItemS_0 lsw_eqStoItemS 0 := orcOk_none
noncomputable def hw_eqStoItemS_0 (y0 : List ((ByteArray) × (List (Int)))) (y1 : List ((ByteArray) × (List (Int)))) (y2 : Int) : List (Pl × LV) := [(.T 0, .t (.val false [.sl .any 85 (.pair .str (.sl 3 (.int .i64))) y0])), (.T 1, .t (.val false [.sl .any 85 (.pair .str (.sl 3 (.int .i64))) y1])), (.T 5, .t (.val false [.int .i64 y2]))]
noncomputable def g_Sw_eqStoItemS_0 (y0 : List ((ByteArray) × (List (Int)))) (y1 : List ((ByteArray) × (List (Int)))) : ((Int)) → RT ((Int)) (((Bool)) ⊕ (Unit))
  | y2 => .br (true) (.br (decide (y2 < (↑(List.length y0) : Int))) (.br (decide ((0 : Int) ≤ y2 ∧ y2 < (↑(List.length y0) : Int))) (.br (decide ((0 : Int) ≤ y2 ∧ y2 < (↑(List.length y1) : Int))) (.br (g_Aw_eqStoItem (at_ (Ty.pair Ty.str (Ty.sl (nat_lit 3) (Ty.int IntKind.i64))) y0 (Int.toNat y2)).1 (at_ (Ty.pair Ty.str (Ty.sl (nat_lit 3) (Ty.int IntKind.i64))) y0 (Int.toNat y2)).2 (at_ (Ty.pair Ty.str (Ty.sl (nat_lit 3) (Ty.int IntKind.i64))) y1 (Int.toNat y2)).1 (at_ (Ty.pair Ty.str (Ty.sl (nat_lit 3) (Ty.int IntKind.i64))) y1 (Int.toNat y2)).2) (.br (!g_Vw_eqStoItem_0 (at_ (Ty.pair Ty.str (Ty.sl (nat_lit 3) (Ty.int IntKind.i64))) y0 (Int.toNat y2)).1 (at_ (Ty.pair Ty.str (Ty.sl (nat_lit 3) (Ty.int IntKind.i64))) y0 (Int.toNat y2)).2 (at_ (Ty.pair Ty.str (Ty.sl (nat_lit 3) (Ty.int IntKind.i64))) y1 (Int.toNat y2)).1 (at_ (Ty.pair Ty.str (Ty.sl (nat_lit 3) (Ty.int IntKind.i64))) y1 (Int.toNat y2)).2) (.out (.inl false)) (.br (true) (.go (IntKind.wrap IntKind.i64 (y2 + (1 : Int)))) (.bad))) (.bad)) (.bad)) (.bad)) (.out (.inr (())))) (.bad)
noncomputable def g_Lw_eqStoItemS_0 (y0 : List ((ByteArray) × (List (Int)))) (y1 : List ((ByteArray) × (List (Int)))) (x : (Int)) : Option (((Bool)) ⊕ (Unit)) := loopO (g_Sw_eqStoItemS_0 y0 y1) x
noncomputable def xw_eqStoItemS_0 (y0 : List ((ByteArray) × (List (Int)))) (y1 : List ((ByteArray) × (List (Int)))) : (((Bool)) ⊕ (Unit)) → Ex × List (Pl × LV) := fun
  | .inl r => (.ret, [(.T 4, .t (.val false [.bool r]))])
  | .inr (r) => (.exit 0, [(.T 4, .t (.val false [.undef]))])
noncomputable def Ow_eqStoItemS_1 : Orc := fun b h => match b, h with
  | 0, [(.T 0, .t (.val false [.sl .any 85 (.pair .str (.sl 3 (.int .i64))) y0])), (.T 1, .t (.val false [.sl .any 85 (.pair .str (.sl 3 (.int .i64))) y1])), (.T 5, .t (.val false [.int .i64 y2]))] => some (okO (g_Lw_eqStoItemS_0 y0 y1 y2), (.br (isL (valO (g_Lw_eqStoItemS_0 y0 y1 y2))) (.leaf .ret [(.T 4, .t (.val false [.bool (getL (valO (g_Lw_eqStoItemS_0 y0 y1 y2)))]))]) (.leaf (.exit 0) [(.T 4, .t (.val false [.undef]))])))
  | b, h => Ow_eqStoItemS_0 b h
theorem bw_eqStoItemS_0 (y0 : List ((ByteArray) × (List (Int)))) (y1 : List ((ByteArray) × (List (Int)))) (y2 : Int) : Tr.bt Ew_eqStoItemS Ow_eqStoItemS_0 (exec Ew_eqStoItemS 0 cw_eqStoItemS_0 (St.of (hw_eqStoItemS_0 y0 y1 y2)) (leafRd Ew_eqStoItemS 0)) = (g_Sw_eqStoItemS_0 y0 y1 y2).bt (fun (y2 : (Int)) => (hw_eqStoItemS_0 y0 y1 y2)) (xw_eqStoItemS_0 y0 y1) := by kernel_rfl
theorem kw_eqStoItemS_1 : OrcOk Ew_eqStoItemS Ow_eqStoItemS_1 lsw_eqStoItemS 1 := orc_add kw_eqStoItemS_0 (fun n p hp h ex h' ho => by
  obtain ⟨b, c⟩ := p
  obtain ⟨xt, h1, h2⟩ := ho
  have h1 : Ow_eqStoItemS_1 b h = some (true, xt) := h1
  unfold Ow_eqStoItemS_1 at h1
  split at h1
  · injection h1 with h1
    injection h1 with e1 e2
    subst e2
    have hc : c = cw_eqStoItemS_0 := mw_eqStoItemS_0 _ hp rfl
    subst hc
    right
    rename_i y0 y1 y2
    have key := LT_step kw_eqStoItemS_0 hp (fun q hq => loopsAll_in _ _ _ _ hp hq) (fun (y2 : (Int)) => (hw_eqStoItemS_0 y0 y1 y2)) (xw_eqStoItemS_0 y0 y1) (g_Sw_eqStoItemS_0 y0 y1) (fun x => by first | exact bw_eqStoItemS_0 y0 y1 x) n (x := y2) (okO_some e1)
    have hx : ∀ r, XT.sel (.br (isL r) (.leaf .ret [(.T 4, .t (.val false [.bool (getL r)]))]) (.leaf (.exit 0) [(.T 4, .t (.val false [.undef]))])) = xw_eqStoItemS_0 y0 y1 r := fun r => by first | rfl | (rcases r with r | r <;> rfl) | (rcases r with r | r | r <;> rfl) | (rcases r with r | r | r | r <;> rfl)
    have h3 := (hx (valO (g_Lw_eqStoItemS_0 y0 y1 y2))).symm.trans h2
    have e3 := congrArg Prod.fst h3
    have e4 := congrArg Prod.snd h3
    simp only at e3 e4
    rw [← e3, ← e4]
    exact key
  · exact .inl ⟨xt, h1, h2⟩)
noncomputable def g_Aw_eqStoItemS (a0 : List ((ByteArray) × (List (Int)))) (a1 : List ((ByteArray) × (List (Int)))) : Bool := (↑(List.length a0) : Int) != (↑(List.length a1) : Int) || okO (g_Lw_eqStoItemS_0 a0 a1 (0 : Int))
noncomputable def g_Vw_eqStoItemS_0 (a0 : List ((ByteArray) × (List (Int)))) (a1 : List ((ByteArray) × (List (Int)))) : Bool := bif (↑(List.length a0) : Int) != (↑(List.length a1) : Int) then false else bif isL (valO (g_Lw_eqStoItemS_0 a0 a1 (0 : Int))) then getL (valO (g_Lw_eqStoItemS_0 a0 a1 (0 : Int))) else true
noncomputable def Fw_eqStoItemS : FSem := fun ys => match ys with
  | [.val false [.sl .any 85 (.pair .str (.sl 3 (.int .i64))) a0], .val false [.sl .any 85 (.pair .str (.sl 3 (.int .i64))) a1]] => some ((g_Aw_eqStoItemS a0 a1), .val false [.bool (g_Vw_eqStoItemS_0 a0 a1)], [])
  | _ => none
theorem vw_eqStoItemS (a0 : List ((ByteArray) × (List (Int)))) (a1 : List ((ByteArray) × (List (Int)))) : collapseH .std Ew_eqStoItemS Ow_eqStoItemS_1 (execFn Ew_eqStoItemS Go.Proofs.Tryd.f60 msw_eqStoItemS [.val false [.sl .any 85 (.pair .str (.sl 3 (.int .i64))) a0], .val false [.sl .any 85 (.pair .str (.sl 3 (.int .i64))) a1]]) = some ((g_Aw_eqStoItemS a0 a1), .val false [.bool (g_Vw_eqStoItemS_0 a0 a1)], []) := by kernel_rfl
theorem sw_eqStoItemS : Sound Go.Proofs.Tryd.prog 60 msw_eqStoItemS Fw_eqStoItemS := by
  refine fn_gen goodw_eqStoItemS (by kernel_rfl) .std (fn := Go.Proofs.Tryd.f60) (c := (Go.Proofs.Tryd.f60.body.getD .skip)) (o := Ow_eqStoItemS_1) (k := 1) (by kernel_rfl) (by kernel_rfl) (by kernel_rfl) (by kernel_rfl) (by decide) kw_eqStoItemS_1 ?_
  intro ys r outs h
  unfold Fw_eqStoItemS at h
  split at h
  · exact (vw_eqStoItemS _ _).trans h
  · cases h
end Go.Proofs.YtibafhmmnoijkaaDoor.E
end
section
namespace Go.Proofs.YtibafhmmnoijkaaDoor.E
open Go
set_option maxRecDepth 100000
set_option maxHeartbeats 0
set_option linter.all false
noncomputable def Ew_eqStoStore : Env where
  tt := mkTI Go.Proofs.Tryd.prog
  fn := fun f => match f with
    | 60 => some (msw_eqStoItemS, FSem.wk msw_eqStoItemS Fw_eqStoItemS)
    | _ => none
  bxf := fun _ => none
  mv := []
  keep := fun _ => []
  keepB := fun _ => []
  keepX := fun _ => []
  keepXB := fun _ => []
theorem goodFw_eqStoStore : ∀ f ms F, Ew_eqStoStore.fn f = some (ms, F) → Sound Go.Proofs.Tryd.prog f ms F := fun f ms F h => by
  unfold Ew_eqStoStore at h
  dsimp only at h
  split at h
  · injection h with h; injection h with e1 e2; subst e1 e2; exact Sound.wk sw_eqStoItemS
  · cases h
theorem goodBw_eqStoStore : ∀ f ms F, Ew_eqStoStore.bxf f = some (ms, F) → SoundB Go.Proofs.Tryd.prog f ms F := fun f ms F h => by cases h
theorem goodw_eqStoStore : Good Go.Proofs.Tryd.prog Ew_eqStoStore := ⟨rfl, goodFw_eqStoStore, goodBw_eqStoStore⟩
noncomputable def Ow_eqStoStore_0 : Orc := fun _ _ => none
noncomputable def msw_eqStoStore : List PM := [.rd, .rd]
noncomputable def lsw_eqStoStore : List (Nat × Code) := loopsAll 0 (Go.Proofs.Tryd.f19.body.getD .skip)

theorem kw_eqStoStore_0 : OrcOk Ew_eqStoStore Ow_eqStoStore_0 lsw_eqStoStore 0 := orcOk_none
noncomputable def g_Aw_eqStoStore (a0 : List ((ByteArray) × (List (Int)))) (a1 : List ((ByteArray) × (List (Int)))) : Bool := g_Aw_eqStoItemS a0 a1
noncomputable def g_Vw_eqStoStore_0 (a0 : List ((ByteArray) × (List (Int)))) (a1 : List ((ByteArray) × (List (Int)))) : Bool := bif !g_Vw_eqStoItemS_0 a0 a1 then false else true
noncomputable def Fw_eqStoStore : FSem := fun ys => match ys with
  | [.val true [.sl .any 85 (.pair .str (.sl 3 (.int .i64))) a0], .val true [.sl .any 85 (.pair .str (.sl 3 (.int .i64))) a1]] => some ((g_Aw_eqStoStore a0 a1), .val false [.bool (g_Vw_eqStoStore_0 a0 a1)], [])
  | _ => none
theorem vw_eqStoStore (a0 : List ((ByteArray) × (List (Int)))) (a1 : List ((ByteArray) × (List (Int)))) : collapseH .std Ew_eqStoStore Ow_eqStoStore_0 (execFn Ew_eqStoStore Go.Proofs.Tryd.f19 msw_eqStoStore [.val true [.sl .any 85 (.pair .str (.sl 3 (.int .i64))) a0], .val true [.sl .any 85 (.pair .str (.sl 3 (.int .i64))) a1]]) = some ((g_Aw_eqStoStore a0 a1), .val false [.bool (g_Vw_eqStoStore_0 a0 a1)], []) := by kernel_rfl
theorem sw_eqStoStore : Sound Go.Proofs.Tryd.prog 19 msw_eqStoStore Fw_eqStoStore := by
  refine fn_gen goodw_eqStoStore (by kernel_rfl) .std (fn := Go.Proofs.Tryd.f19) (c := (Go.Proofs.Tryd.f19.body.getD .skip)) (o := Ow_eqStoStore_0) (k := 0) (by kernel_rfl) (by kernel_rfl) (by kernel_rfl) (by kernel_rfl) (by decide) kw_eqStoStore_0 ?_
  intro ys r outs h
  unfold Fw_eqStoStore at h
  split at h
  · exact (vw_eqStoStore _ _).trans h
  · cases h
end Go.Proofs.YtibafhmmnoijkaaDoor.E
end
section
namespace Go.Proofs.YtibafhmmnoijkaaDoor.E
open Go
set_option maxRecDepth 100000
set_option maxHeartbeats 0
set_option linter.all false
noncomputable def Ew_heldIntS : Env where
  tt := mkTI Go.Proofs.Tryd.prog
  fn := fun _ => none
  bxf := fun _ => none
  mv := []
  keep := fun b => match b with
    | 0 => [(0, false), (1, false), (5, false)]
    | _ => []
  keepB := fun b => match b with
    | 0 => []
    | _ => []
  keepX := fun b => match b with
    | 0 => [(1, false), (4, false)]
    | _ => []
  keepXB := fun b => match b with
    | 0 => []
    | _ => []
theorem goodFw_heldIntS : ∀ f ms F, Ew_heldIntS.fn f = some (ms, F) → Sound Go.Proofs.Tryd.prog f ms F := fun f ms F h => by cases h
theorem goodBw_heldIntS : ∀ f ms F, Ew_heldIntS.bxf f = some (ms, F) → SoundB Go.Proofs.Tryd.prog f ms F := fun f ms F h => by cases h
theorem goodw_heldIntS : Good Go.Proofs.Tryd.prog Ew_heldIntS := ⟨rfl, goodFw_heldIntS, goodBw_heldIntS⟩
noncomputable def Ow_heldIntS_0 : Orc := fun _ _ => none
noncomputable def msw_heldIntS : List PM := [.rd, .own]
noncomputable def lsw_heldIntS : List (Nat × Code) := loopsAll 0 (Go.Proofs.Tryd.f22.body.getD .skip)
noncomputable def cw_heldIntS_0 : Code := (loopOf 0 (Go.Proofs.Tryd.f22.body.getD .skip)).getD .skip
theorem lseqw_heldIntS : lsw_heldIntS = [(0, cw_heldIntS_0)] := by kernel_rfl
theorem mw_heldIntS_0 : ∀ p, p ∈ lsw_heldIntS → p.1 = 0 → p.2 = cw_heldIntS_0 := by
  intro p hp
  rw [lseqw_heldIntS] at hp
  simp only [List.mem_cons, List.not_mem_nil, or_false] at hp
  subst hp; simp
theorem kw_heldIntS_0 : OrcOk Ew_heldIntS Ow_heldIntS_0 lsw_heldIntS 0 := orcOk_none
noncomputable def hw_heldIntS_0 (y0 : List (Int)) (y1 : Int) (y2 : Int) : List (Pl × LV) := [(.T 0, .t (.val false [.sl .any 3 (.int .i64) y0])), (.T 1, .t (.val false [.int .i64 y1])), (.T 5, .t (.val false [.int .i64 y2]))]
noncomputable def g_Sw_heldIntS_0 (y0 : List (Int)) : ((Int) × (Int)) → RT ((Int) × (Int)) (((Int) × (Int)) ⊕ ((Int)))
  | (y1, y2) => .br (true) (.br (decide (y2 < (↑(List.length y0) : Int))) (.br (decide ((0 : Int) ≤ y2 ∧ y2 < (↑(List.length y0) : Int))) (.br (true) (.br (at_ (Ty.int IntKind.i64) y0 (Int.toNat y2) != y1) (.out (.inl ((y1, (-1 : Int))))) (.br (true) (.br (true) (.go ((IntKind.wrap IntKind.i64 (y1 + (1 : Int)), IntKind.wrap IntKind.i64 (y2 + (1 : Int))))) (.bad)) (.bad))) (.bad)) (.bad)) (.out (.inr (y1)))) (.bad)
noncomputable def g_Lw_heldIntS_0 (y0 : List (Int)) (x : (Int) × (Int)) : Option (((Int) × (Int)) ⊕ ((Int))) := loopO (g_Sw_heldIntS_0 y0) x
noncomputable def xw_heldIntS_0 (y0 : List (Int)) : (((Int) × (Int)) ⊕ ((Int))) → Ex × List (Pl × LV) := fun
  | .inl r => (.ret, [(.T 1, .t (.val false [.int .i64 r.1])), (.T 4, .t (.val false [.int .i64 r.2]))])
  | .inr (r) => (.exit 0, [(.T 1, .t (.val false [.int .i64 r])), (.T 4, .t (.val false [.undef]))])
noncomputable def Ow_heldIntS_1 : Orc := fun b h => match b, h with
  | 0, [(.T 0, .t (.val false [.sl .any 3 (.int .i64) y0])), (.T 1, .t (.val false [.int .i64 y1])), (.T 5, .t (.val false [.int .i64 y2]))] => some (okO (g_Lw_heldIntS_0 y0 (y1, y2)), (.br (isL (valO (g_Lw_heldIntS_0 y0 (y1, y2)))) (.leaf .ret [(.T 1, .t (.val false [.int .i64 (getL (valO (g_Lw_heldIntS_0 y0 (y1, y2)))).1])), (.T 4, .t (.val false [.int .i64 (getL (valO (g_Lw_heldIntS_0 y0 (y1, y2)))).2]))]) (.leaf (.exit 0) [(.T 1, .t (.val false [.int .i64 (getR (valO (g_Lw_heldIntS_0 y0 (y1, y2))))])), (.T 4, .t (.val false [.undef]))])))
  | b, h => Ow_heldIntS_0 b h
theorem bw_heldIntS_0 (y0 : List (Int)) (y1 : Int) (y2 : Int) : Tr.bt Ew_heldIntS Ow_heldIntS_0 (exec Ew_heldIntS 0 cw_heldIntS_0 (St.of (hw_heldIntS_0 y0 y1 y2)) (leafRd Ew_heldIntS 0)) = (g_Sw_heldIntS_0 y0 (y1, y2)).bt (fun ((y1, y2) : (Int) × (Int)) => (hw_heldIntS_0 y0 y1 y2)) (xw_heldIntS_0 y0) := by kernel_rfl
theorem kw_heldIntS_1 : OrcOk Ew_heldIntS Ow_heldIntS_1 lsw_heldIntS 1 := orc_add kw_heldIntS_0 (fun n p hp h ex h' ho => by
  obtain ⟨b, c⟩ := p
  obtain ⟨xt, h1, h2⟩ := ho
  have h1 : Ow_heldIntS_1 b h = some (true, xt) := h1
  unfold Ow_heldIntS_1 at h1
  split at h1
  · injection h1 with h1
    injection h1 with e1 e2
    subst e2
    have hc : c = cw_heldIntS_0 := mw_heldIntS_0 _ hp rfl
    subst hc
    right
    rename_i y0 y1 y2
    have key := LT_step kw_heldIntS_0 hp (fun q hq => loopsAll_in _ _ _ _ hp hq) (fun ((y1, y2) : (Int) × (Int)) => (hw_heldIntS_0 y0 y1 y2)) (xw_heldIntS_0 y0) (g_Sw_heldIntS_0 y0) (fun x => by first | exact bw_heldIntS_0 y0 x.1 x.2) n (x := (y1, y2)) (okO_some e1)
    have hx : ∀ r, XT.sel (.br (isL r) (.leaf .ret [(.T 1, .t (.val false [.int .i64 (getL r).1])), (.T 4, .t (.val false [.int .i64 (getL r).2]))]) (.leaf (.exit 0) [(.T 1, .t (.val false [.int .i64 (getR r)])), (.T 4, .t (.val false [.undef]))])) = xw_heldIntS_0 y0 r := fun r => by first | rfl | (rcases r with r | r <;> rfl) | (rcases r with r | r | r <;> rfl) | (rcases r with r | r | r | r <;> rfl)
    have h3 := (hx (valO (g_Lw_heldIntS_0 y0 (y1, y2)))).symm.trans h2
    have e3 := congrArg Prod.fst h3
    have e4 := congrArg Prod.snd h3
    simp only at e3 e4
    rw [← e3, ← e4]
    exact key
  · exact .inl ⟨xt, h1, h2⟩)
noncomputable def g_Aw_heldIntS (a0 : List (Int)) (a1 : Int) : Bool := okO (g_Lw_heldIntS_0 a0 (a1, (0 : Int)))
noncomputable def g_Vw_heldIntS_0 (a0 : List (Int)) (a1 : Int) : Int := bif isL (valO (g_Lw_heldIntS_0 a0 (a1, (0 : Int)))) then (getL (valO (g_Lw_heldIntS_0 a0 (a1, (0 : Int))))).2 else getR (valO (g_Lw_heldIntS_0 a0 (a1, (0 : Int))))
noncomputable def Fw_heldIntS : FSem := fun ys => match ys with
  | [.val false [.sl .any 3 (.int .i64) a0], .val false [.int .i64 a1]] => some ((g_Aw_heldIntS a0 a1), .val false [.int .i64 (g_Vw_heldIntS_0 a0 a1)], [])
  | _ => none
theorem vw_heldIntS (a0 : List (Int)) (a1 : Int) : collapseH .std Ew_heldIntS Ow_heldIntS_1 (execFn Ew_heldIntS Go.Proofs.Tryd.f22 msw_heldIntS [.val false [.sl .any 3 (.int .i64) a0], .val false [.int .i64 a1]]) = some ((g_Aw_heldIntS a0 a1), .val false [.int .i64 (g_Vw_heldIntS_0 a0 a1)], []) := by kernel_rfl
theorem sw_heldIntS : Sound Go.Proofs.Tryd.prog 22 msw_heldIntS Fw_heldIntS := by
  refine fn_gen goodw_heldIntS (by kernel_rfl) .std (fn := Go.Proofs.Tryd.f22) (c := (Go.Proofs.Tryd.f22.body.getD .skip)) (o := Ow_heldIntS_1) (k := 1) (by kernel_rfl) (by kernel_rfl) (by kernel_rfl) (by kernel_rfl) (by decide) kw_heldIntS_1 ?_
  intro ys r outs h
  unfold Fw_heldIntS at h
  split at h
  · exact (vw_heldIntS _ _).trans h
  · cases h
end Go.Proofs.YtibafhmmnoijkaaDoor.E
end
section
namespace Go.Proofs.YtibafhmmnoijkaaDoor.E
open Go
set_option maxRecDepth 100000
set_option maxHeartbeats 0
set_option linter.all false
noncomputable def Ew_markIntS : Env where
  tt := mkTI Go.Proofs.Tryd.prog
  fn := fun _ => none
  bxf := fun _ => none
  mv := []
  keep := fun b => match b with
    | 0 => [(0, false), (1, false), (5, false)]
    | _ => []
  keepB := fun b => match b with
    | 0 => []
    | _ => []
  keepX := fun b => match b with
    | 0 => [(0, false), (1, false)]
    | _ => []
  keepXB := fun b => match b with
    | 0 => []
    | _ => []
theorem goodFw_markIntS : ∀ f ms F, Ew_markIntS.fn f = some (ms, F) → Sound Go.Proofs.Tryd.prog f ms F := fun f ms F h => by cases h
theorem goodBw_markIntS : ∀ f ms F, Ew_markIntS.bxf f = some (ms, F) → SoundB Go.Proofs.Tryd.prog f ms F := fun f ms F h => by cases h
theorem goodw_markIntS : Good Go.Proofs.Tryd.prog Ew_markIntS := ⟨rfl, goodFw_markIntS, goodBw_markIntS⟩
noncomputable def Ow_markIntS_0 : Orc := fun _ _ => none
noncomputable def msw_markIntS : List PM := [.«mut», .own]
noncomputable def lsw_markIntS : List (Nat × Code) := loopsAll 0 (Go.Proofs.Tryd.f21.body.getD .skip)
noncomputable def cw_markIntS_0 : Code := (loopOf 0 (Go.Proofs.Tryd.f21.body.getD .skip)).getD .skip
theorem lseqw_markIntS : lsw_markIntS = [(0, cw_markIntS_0)] := by kernel_rfl
theorem mw_markIntS_0 : ∀ p, p ∈ lsw_markIntS → p.1 = 0 → p.2 = cw_markIntS_0 := by
  intro p hp
  rw [lseqw_markIntS] at hp
  simp only [List.mem_cons, List.not_mem_nil, or_false] at hp
  subst hp; simp
theorem kw_markIntS_0 : OrcOk Ew_markIntS Ow_markIntS_0 lsw_markIntS 0 := orcOk_none
noncomputable def hw_markIntS_0 (y0 : List (Int)) (y1 : Int) (y2 : Int) : List (Pl × LV) := [(.T 0, .t (.val false [.row 0 0 0])), (.R 0 0, .r 0 (some ⟨false, .any, true, 3, (.int .i64), y0⟩)), (.T 1, .t (.val false [.int .i64 y1])), (.T 5, .t (.val false [.int .i64 y2]))]
noncomputable def g_Sw_markIntS_0 : ((List (Int)) × (Int) × (Int)) → RT ((List (Int)) × (Int) × (Int)) (((List (Int)) × (Int)))
  | (y0, y1, y2) => .br (true) (.br (decide (y2 < (↑(List.length y0) : Int))) (.br (decide ((0 : Int) ≤ y2 ∧ y2 < (↑(List.length y0) : Int))) (.br (decide (Int.toNat y2 < List.length y0)) (.br (true) (.br (true) (.go ((List.set y0 (Int.toNat y2) y1, IntKind.wrap IntKind.i64 (y1 + (1 : Int)), IntKind.wrap IntKind.i64 (y2 + (1 : Int))))) (.bad)) (.bad)) (.bad)) (.bad)) (.out ((y0, y1)))) (.bad)
noncomputable def g_Lw_markIntS_0 (x : (List (Int)) × (Int) × (Int)) : Option (((List (Int)) × (Int))) := loopO (g_Sw_markIntS_0) x
noncomputable def xw_markIntS_0 : (((List (Int)) × (Int))) → Ex × List (Pl × LV) := fun r => (.exit 0, [(.T 0, .t (.val false [.row 0 0 0])), (.R 0 0, .r 0 (some ⟨false, .any, true, 3, (.int .i64), r.1⟩)), (.T 1, .t (.val false [.int .i64 r.2]))])
noncomputable def Ow_markIntS_1 : Orc := fun b h => match b, h with
  | 0, [(.T 0, .t (.val false [.row 0 0 0])), (.R 0 0, .r 0 (some ⟨false, .any, true, 3, (.int .i64), y0⟩)), (.T 1, .t (.val false [.int .i64 y1])), (.T 5, .t (.val false [.int .i64 y2]))] => some (okO (g_Lw_markIntS_0 (y0, y1, y2)), (.leaf (.exit 0) [(.T 0, .t (.val false [.row 0 0 0])), (.R 0 0, .r 0 (some ⟨false, .any, true, 3, (.int .i64), (valO (g_Lw_markIntS_0 (y0, y1, y2))).1⟩)), (.T 1, .t (.val false [.int .i64 (valO (g_Lw_markIntS_0 (y0, y1, y2))).2]))]))
  | b, h => Ow_markIntS_0 b h
theorem bw_markIntS_0 (y0 : List (Int)) (y1 : Int) (y2 : Int) : Tr.bt Ew_markIntS Ow_markIntS_0 (exec Ew_markIntS 0 cw_markIntS_0 (St.of (hw_markIntS_0 y0 y1 y2)) (leafRd Ew_markIntS 0)) = (g_Sw_markIntS_0 (y0, y1, y2)).bt (fun ((y0, y1, y2) : (List (Int)) × (Int) × (Int)) => (hw_markIntS_0 y0 y1 y2)) (xw_markIntS_0) := by kernel_rfl
theorem kw_markIntS_1 : OrcOk Ew_markIntS Ow_markIntS_1 lsw_markIntS 1 := orc_add kw_markIntS_0 (fun n p hp h ex h' ho => by
  obtain ⟨b, c⟩ := p
  obtain ⟨xt, h1, h2⟩ := ho
  have h1 : Ow_markIntS_1 b h = some (true, xt) := h1
  unfold Ow_markIntS_1 at h1
  split at h1
  · injection h1 with h1
    injection h1 with e1 e2
    subst e2
    have hc : c = cw_markIntS_0 := mw_markIntS_0 _ hp rfl
    subst hc
    right
    rename_i y0 y1 y2
    have key := LT_step kw_markIntS_0 hp (fun q hq => loopsAll_in _ _ _ _ hp hq) (fun ((y0, y1, y2) : (List (Int)) × (Int) × (Int)) => (hw_markIntS_0 y0 y1 y2)) (xw_markIntS_0) (g_Sw_markIntS_0) (fun x => by first | exact bw_markIntS_0 x.1 x.2.1 x.2.2) n (x := (y0, y1, y2)) (okO_some e1)
    have hx : ∀ r, XT.sel (.leaf (.exit 0) [(.T 0, .t (.val false [.row 0 0 0])), (.R 0 0, .r 0 (some ⟨false, .any, true, 3, (.int .i64), r.1⟩)), (.T 1, .t (.val false [.int .i64 r.2]))]) = xw_markIntS_0 r := fun r => by first | rfl | (rcases r with r | r <;> rfl) | (rcases r with r | r | r <;> rfl) | (rcases r with r | r | r | r <;> rfl)
    have h3 := (hx (valO (g_Lw_markIntS_0 (y0, y1, y2)))).symm.trans h2
    have e3 := congrArg Prod.fst h3
    have e4 := congrArg Prod.snd h3
    simp only at e3 e4
    rw [← e3, ← e4]
    exact key
  · exact .inl ⟨xt, h1, h2⟩)
noncomputable def g_Aw_markIntS (a0 : List (Int)) (a1 : Int) : Bool := okO (g_Lw_markIntS_0 (a0, a1, (0 : Int)))
noncomputable def g_Vw_markIntS_0 (a0 : List (Int)) (a1 : Int) : Int := (valO (g_Lw_markIntS_0 (a0, a1, (0 : Int)))).2
noncomputable def g_Vw_markIntS_1 (a0 : List (Int)) (a1 : Int) : List (Int) := (valO (g_Lw_markIntS_0 (a0, a1, (0 : Int)))).1
noncomputable def Fw_markIntS : FSem := fun ys => match ys with
  | [.val false [.own .any true 3 (.int .i64) a0], .val false [.int .i64 a1]] => some ((g_Aw_markIntS a0 a1), .val false [.int .i64 (g_Vw_markIntS_0 a0 a1)], [[.own .any true 3 (.int .i64) (g_Vw_markIntS_1 a0 a1)]])
  | _ => none
theorem vw_markIntS (a0 : List (Int)) (a1 : Int) : collapseH .std Ew_markIntS Ow_markIntS_1 (execFn Ew_markIntS Go.Proofs.Tryd.f21 msw_markIntS [.val false [.own .any true 3 (.int .i64) a0], .val false [.int .i64 a1]]) = some ((g_Aw_markIntS a0 a1), .val false [.int .i64 (g_Vw_markIntS_0 a0 a1)], [[.own .any true 3 (.int .i64) (g_Vw_markIntS_1 a0 a1)]]) := by kernel_rfl
theorem sw_markIntS : Sound Go.Proofs.Tryd.prog 21 msw_markIntS Fw_markIntS := by
  refine fn_gen goodw_markIntS (by kernel_rfl) .std (fn := Go.Proofs.Tryd.f21) (c := (Go.Proofs.Tryd.f21.body.getD .skip)) (o := Ow_markIntS_1) (k := 1) (by kernel_rfl) (by kernel_rfl) (by kernel_rfl) (by kernel_rfl) (by decide) kw_markIntS_1 ?_
  intro ys r outs h
  unfold Fw_markIntS at h
  split at h
  · exact (vw_markIntS _ _).trans h
  · cases h
end Go.Proofs.YtibafhmmnoijkaaDoor.E
end
section
namespace Go.Proofs.YtibafhmmnoijkaaDoor.E
open Go
set_option maxRecDepth 100000
set_option maxHeartbeats 0
set_option linter.all false
noncomputable def Ew_markText : Env where
  tt := mkTI Go.Proofs.Tryd.prog
  fn := fun _ => none
  bxf := fun _ => none
  mv := []
  keep := fun b => match b with
    | 0 => [(0, false), (3, false)]
    | _ => []
  keepB := fun b => match b with
    | 0 => []
    | _ => []
  keepX := fun b => match b with
    | 0 => [(3, false)]
    | _ => []
  keepXB := fun b => match b with
    | 0 => []
    | _ => []
theorem goodFw_markText : ∀ f ms F, Ew_markText.fn f = some (ms, F) → Sound Go.Proofs.Tryd.prog f ms F := fun f ms F h => by cases h
theorem goodBw_markText : ∀ f ms F, Ew_markText.bxf f = some (ms, F) → SoundB Go.Proofs.Tryd.prog f ms F := fun f ms F h => by cases h
theorem goodw_markText : Good Go.Proofs.Tryd.prog Ew_markText := ⟨rfl, goodFw_markText, goodBw_markText⟩
noncomputable def Ow_markText_0 : Orc := fun _ _ => none
noncomputable def msw_markText : List PM := [.own]
noncomputable def lsw_markText : List (Nat × Code) := loopsAll 0 (Go.Proofs.Tryd.f114.body.getD .skip)
noncomputable def cw_markText_0 : Code := (loopOf 0 (Go.Proofs.Tryd.f114.body.getD .skip)).getD .skip
theorem lseqw_markText : lsw_markText = [(0, cw_markText_0)] := by kernel_rfl
theorem mw_markText_0 : ∀ p, p ∈ lsw_markText → p.1 = 0 → p.2 = cw_markText_0 := by
  intro p hp
  rw [lseqw_markText] at hp
  simp only [List.mem_cons, List.not_mem_nil, or_false] at hp
  subst hp; simp
theorem kw_markText_0 : OrcOk Ew_markText Ow_markText_0 lsw_markText 0 := orcOk_none
noncomputable def hw_markText_0 (y0 : Int) (y1 : ByteArray) : List (Pl × LV) := [(.T 0, .t (.val false [.int .i64 y0])), (.T 3, .t (.val false [.str y1]))]
noncomputable def g_Sw_markText_0 : ((Int) × (ByteArray)) → RT ((Int) × (ByteArray)) (((ByteArray)))
  | (y0, y1) => .br (true) (.br (decide (y0 > (0 : Int))) (.br (true) (.br (true) (.br (decide (ByteArray.size { data := List.toArray (List.map (fun n => UInt8.ofNat (Int.toNat n)) [IntKind.wrap IntKind.u8 (IntKind.wrap IntKind.i64 ((48 : Int) + Int.tmod y0 (10 : Int)))]) } + ByteArray.size y1 ≤ nat_lit 9223372036854775807)) (.br (true) (.go ((IntKind.wrap IntKind.i64 (Int.tdiv y0 (10 : Int)), { data := List.toArray (List.map (fun n => UInt8.ofNat (Int.toNat n)) [IntKind.wrap IntKind.u8 (IntKind.wrap IntKind.i64 ((48 : Int) + Int.tmod y0 (10 : Int)))]) } ++ y1))) (.bad)) (.bad)) (.bad)) (.bad)) (.out (y1))) (.bad)
noncomputable def g_Lw_markText_0 (x : (Int) × (ByteArray)) : Option (((ByteArray))) := loopO (g_Sw_markText_0) x
noncomputable def xw_markText_0 : (((ByteArray))) → Ex × List (Pl × LV) := fun r => (.exit 0, [(.T 3, .t (.val false [.str r]))])
noncomputable def Ow_markText_1 : Orc := fun b h => match b, h with
  | 0, [(.T 0, .t (.val false [.int .i64 y0])), (.T 3, .t (.val false [.str y1]))] => some (okO (g_Lw_markText_0 (y0, y1)), (.leaf (.exit 0) [(.T 3, .t (.val false [.str (valO (g_Lw_markText_0 (y0, y1)))]))]))
  | b, h => Ow_markText_0 b h
theorem bw_markText_0 (y0 : Int) (y1 : ByteArray) : Tr.bt Ew_markText Ow_markText_0 (exec Ew_markText 0 cw_markText_0 (St.of (hw_markText_0 y0 y1)) (leafRd Ew_markText 0)) = (g_Sw_markText_0 (y0, y1)).bt (fun ((y0, y1) : (Int) × (ByteArray)) => (hw_markText_0 y0 y1)) (xw_markText_0) := by kernel_rfl
theorem kw_markText_1 : OrcOk Ew_markText Ow_markText_1 lsw_markText 1 := orc_add kw_markText_0 (fun n p hp h ex h' ho => by
  obtain ⟨b, c⟩ := p
  obtain ⟨xt, h1, h2⟩ := ho
  have h1 : Ow_markText_1 b h = some (true, xt) := h1
  unfold Ow_markText_1 at h1
  split at h1
  · injection h1 with h1
    injection h1 with e1 e2
    subst e2
    have hc : c = cw_markText_0 := mw_markText_0 _ hp rfl
    subst hc
    right
    rename_i y0 y1
    have key := LT_step kw_markText_0 hp (fun q hq => loopsAll_in _ _ _ _ hp hq) (fun ((y0, y1) : (Int) × (ByteArray)) => (hw_markText_0 y0 y1)) (xw_markText_0) (g_Sw_markText_0) (fun x => by first | exact bw_markText_0 x.1 x.2) n (x := (y0, y1)) (okO_some e1)
    have hx : ∀ r, XT.sel (.leaf (.exit 0) [(.T 3, .t (.val false [.str r]))]) = xw_markText_0 r := fun r => by first | rfl | (rcases r with r | r <;> rfl) | (rcases r with r | r | r <;> rfl) | (rcases r with r | r | r | r <;> rfl)
    have h3 := (hx (valO (g_Lw_markText_0 (y0, y1)))).symm.trans h2
    have e3 := congrArg Prod.fst h3
    have e4 := congrArg Prod.snd h3
    simp only at e3 e4
    rw [← e3, ← e4]
    exact key
  · exact .inl ⟨xt, h1, h2⟩)
noncomputable def g_Aw_markText (a0 : Int) : Bool := decide (a0 ≤ (0 : Int)) || okO (g_Lw_markText_0 (a0, lit [])) && decide (nat_lit 1 + ByteArray.size (valO (g_Lw_markText_0 (a0, lit []))) ≤ nat_lit 9223372036854775807)
noncomputable def g_Vw_markText_0 (a0 : Int) : ByteArray := bif decide (a0 ≤ (0 : Int)) then lit [(109 : Nat), (48 : Nat)] else lit [(109 : Nat)] ++ valO (g_Lw_markText_0 (a0, lit []))
noncomputable def Fw_markText : FSem := fun ys => match ys with
  | [.val false [.int .i64 a0]] => some ((g_Aw_markText a0), .val false [.str (g_Vw_markText_0 a0)], [])
  | _ => none
theorem vw_markText (a0 : Int) : collapseH .std Ew_markText Ow_markText_1 (execFn Ew_markText Go.Proofs.Tryd.f114 msw_markText [.val false [.int .i64 a0]]) = some ((g_Aw_markText a0), .val false [.str (g_Vw_markText_0 a0)], []) := by kernel_rfl
theorem sw_markText : Sound Go.Proofs.Tryd.prog 114 msw_markText Fw_markText := by
  refine fn_gen goodw_markText (by kernel_rfl) .std (fn := Go.Proofs.Tryd.f114) (c := (Go.Proofs.Tryd.f114.body.getD .skip)) (o := Ow_markText_1) (k := 1) (by kernel_rfl) (by kernel_rfl) (by kernel_rfl) (by kernel_rfl) (by decide) kw_markText_1 ?_
  intro ys r outs h
  unfold Fw_markText at h
  split at h
  · exact (vw_markText _).trans h
  · cases h
end Go.Proofs.YtibafhmmnoijkaaDoor.E
end
section
namespace Go.Proofs.YtibafhmmnoijkaaDoor.E
open Go
set_option maxRecDepth 100000
set_option maxHeartbeats 0
set_option linter.all false
noncomputable def Ew_markStoItemS : Env where
  tt := mkTI Go.Proofs.Tryd.prog
  fn := fun f => match f with
    | 21 => some (msw_markIntS, FSem.wk msw_markIntS Fw_markIntS)
    | 114 => some (msw_markText, FSem.wk msw_markText Fw_markText)
    | _ => none
  bxf := fun _ => none
  mv := []
  keep := fun b => match b with
    | 0 => [(0, false), (1, false), (5, false)]
    | _ => []
  keepB := fun b => match b with
    | 0 => []
    | _ => []
  keepX := fun b => match b with
    | 0 => [(0, false), (1, false)]
    | _ => []
  keepXB := fun b => match b with
    | 0 => []
    | _ => []
  nest := [24]
theorem goodFw_markStoItemS : ∀ f ms F, Ew_markStoItemS.fn f = some (ms, F) → Sound Go.Proofs.Tryd.prog f ms F := fun f ms F h => by
  unfold Ew_markStoItemS at h
  dsimp only at h
  split at h
  · injection h with h; injection h with e1 e2; subst e1 e2; exact Sound.wk sw_markIntS
  · injection h with h; injection h with e1 e2; subst e1 e2; exact Sound.wk sw_markText
  · cases h
theorem goodBw_markStoItemS : ∀ f ms F, Ew_markStoItemS.bxf f = some (ms, F) → SoundB Go.Proofs.Tryd.prog f ms F := fun f ms F h => by cases h
theorem goodw_markStoItemS : Good Go.Proofs.Tryd.prog Ew_markStoItemS := ⟨rfl, goodFw_markStoItemS, goodBw_markStoItemS⟩
noncomputable def Ow_markStoItemS_0 : Orc := fun _ _ => none
noncomputable def msw_markStoItemS : List PM := [.«mut», .own]
noncomputable def lsw_markStoItemS : List (Nat × Code) := loopsAll 0 (Go.Proofs.Tryd.f61.body.getD .skip)
noncomputable def cw_markStoItemS_0 : Code := (loopOf 0 (Go.Proofs.Tryd.f61.body.getD .skip)).getD .skip
theorem lseqw_markStoItemS : lsw_markStoItemS = [(0, cw_markStoItemS_0)] := by kernel_rfl
theorem mw_markStoItemS_0 : ∀ p, p ∈ lsw_markStoItemS → p.1 = 0 → p.2 = cw_markStoItemS_0 := by
  intro p hp
  rw [lseqw_markStoItemS] at hp
  simp only [List.mem_cons, List.not_mem_nil, or_false] at hp
  subst hp; simp
theorem kw_markStoItemS_0 : OrcOk Ew_markStoItemS Ow_markStoItemS_0 lsw_markStoItemS 0 := orcOk_none
noncomputable def hw_markStoItemS_0 (y0 : List ((ByteArray) × (List (Int)))) (y1 : Int) (y2 : Int) : List (Pl × LV) := [(.T 0, .t (.val false [.row 0 0 0])), (.R 0 0, .r 0 (some ⟨false, .any, true, 85, (.pair .str (.sl 3 (.int .i64))), y0⟩)), (.T 1, .t (.val false [.int .i64 y1])), (.T 5, .t (.val false [.int .i64 y2]))]
noncomputable def g_Sw_markStoItemS_0 : ((List ((ByteArray) × (List (Int)))) × (Int) × (Int)) → RT ((List ((ByteArray) × (List (Int)))) × (Int) × (Int)) (((List ((ByteArray) × (List (Int)))) × (Int)))
  | (y0, y1, y2) => .br (true) (.br (decide (y2 < (↑(List.length y0) : Int))) (.br (g_Aw_markText y1) (.br (decide ((0 : Int) ≤ y2 ∧ y2 < (↑(List.length y0) : Int))) (.br (decide (Int.toNat y2 < List.length y0)) (.br (true) (.br (decide ((0 : Int) ≤ y2 ∧ y2 < (↑(List.length (List.set y0 (Int.toNat y2) (g_Vw_markText_0 y1, (at_ (Ty.pair Ty.str (Ty.sl (nat_lit 3) (Ty.int IntKind.i64))) y0 (Int.toNat y2)).2))) : Int))) (.br (decide (Int.toNat y2 < List.length (List.set y0 (Int.toNat y2) (g_Vw_markText_0 y1, (at_ (Ty.pair Ty.str (Ty.sl (nat_lit 3) (Ty.int IntKind.i64))) y0 (Int.toNat y2)).2)))) (.br (g_Aw_markIntS (at_ (Ty.pair Ty.str (Ty.sl (nat_lit 3) (Ty.int IntKind.i64))) (List.set y0 (Int.toNat y2) (g_Vw_markText_0 y1, (at_ (Ty.pair Ty.str (Ty.sl (nat_lit 3) (Ty.int IntKind.i64))) y0 (Int.toNat y2)).2)) (Int.toNat y2)).2 (IntKind.wrap IntKind.i64 (y1 + (1 : Int)))) (.br (true) (.go ((List.set (List.set y0 (Int.toNat y2) (g_Vw_markText_0 y1, (at_ (Ty.pair Ty.str (Ty.sl (nat_lit 3) (Ty.int IntKind.i64))) y0 (Int.toNat y2)).2)) (Int.toNat y2) ((at_ (Ty.pair Ty.str (Ty.sl (nat_lit 3) (Ty.int IntKind.i64))) (List.set y0 (Int.toNat y2) (g_Vw_markText_0 y1, (at_ (Ty.pair Ty.str (Ty.sl (nat_lit 3) (Ty.int IntKind.i64))) y0 (Int.toNat y2)).2)) (Int.toNat y2)).1, g_Vw_markIntS_1 (at_ (Ty.pair Ty.str (Ty.sl (nat_lit 3) (Ty.int IntKind.i64))) (List.set y0 (Int.toNat y2) (g_Vw_markText_0 y1, (at_ (Ty.pair Ty.str (Ty.sl (nat_lit 3) (Ty.int IntKind.i64))) y0 (Int.toNat y2)).2)) (Int.toNat y2)).2 (IntKind.wrap IntKind.i64 (y1 + (1 : Int)))), g_Vw_markIntS_0 (at_ (Ty.pair Ty.str (Ty.sl (nat_lit 3) (Ty.int IntKind.i64))) (List.set y0 (Int.toNat y2) (g_Vw_markText_0 y1, (at_ (Ty.pair Ty.str (Ty.sl (nat_lit 3) (Ty.int IntKind.i64))) y0 (Int.toNat y2)).2)) (Int.toNat y2)).2 (IntKind.wrap IntKind.i64 (y1 + (1 : Int))), IntKind.wrap IntKind.i64 (y2 + (1 : Int))))) (.bad)) (.bad)) (.bad)) (.bad)) (.bad)) (.bad)) (.bad)) (.bad)) (.out ((y0, y1)))) (.bad)
noncomputable def g_Lw_markStoItemS_0 (x : (List ((ByteArray) × (List (Int)))) × (Int) × (Int)) : Option (((List ((ByteArray) × (List (Int)))) × (Int))) := loopO (g_Sw_markStoItemS_0) x
noncomputable def xw_markStoItemS_0 : (((List ((ByteArray) × (List (Int)))) × (Int))) → Ex × List (Pl × LV) := fun r => (.exit 0, [(.T 0, .t (.val false [.row 0 0 0])), (.R 0 0, .r 0 (some ⟨false, .any, true, 85, (.pair .str (.sl 3 (.int .i64))), r.1⟩)), (.T 1, .t (.val false [.int .i64 r.2]))])
noncomputable def Ow_markStoItemS_1 : Orc := fun b h => match b, h with
  | 0, [(.T 0, .t (.val false [.row 0 0 0])), (.R 0 0, .r 0 (some ⟨false, .any, true, 85, (.pair .str (.sl 3 (.int .i64))), y0⟩)), (.T 1, .t (.val false [.int .i64 y1])), (.T 5, .t (.val false [.int .i64 y2]))] => some (okO (g_Lw_markStoItemS_0 (y0, y1, y2)), (.leaf (.exit 0) [(.T 0, .t (.val false [.row 0 0 0])), (.R 0 0, .r 0 (some ⟨false, .any, true, 85, (.pair .str (.sl 3 (.int .i64))), (valO (g_Lw_markStoItemS_0 (y0, y1, y2))).1⟩)), (.T 1, .t (.val false [.int .i64 (valO (g_Lw_markStoItemS_0 (y0, y1, y2))).2]))]))
  | b, h => Ow_markStoItemS_0 b h
theorem bw_markStoItemS_0 (y0 : List ((ByteArray) × (List (Int)))) (y1 : Int) (y2 : Int) : Tr.bt Ew_markStoItemS Ow_markStoItemS_0 (exec Ew_markStoItemS 0 cw_markStoItemS_0 (St.of (hw_markStoItemS_0 y0 y1 y2)) (leafRd Ew_markStoItemS 0)) = (g_Sw_markStoItemS_0 (y0, y1, y2)).bt (fun ((y0, y1, y2) : (List ((ByteArray) × (List (Int)))) × (Int) × (Int)) => (hw_markStoItemS_0 y0 y1 y2)) (xw_markStoItemS_0) := by kernel_rfl
theorem kw_markStoItemS_1 : OrcOk Ew_markStoItemS Ow_markStoItemS_1 lsw_markStoItemS 1 := orc_add kw_markStoItemS_0 (fun n p hp h ex h' ho => by
  obtain ⟨b, c⟩ := p
  obtain ⟨xt, h1, h2⟩ := ho
  have h1 : Ow_markStoItemS_1 b h = some (true, xt) := h1
  unfold Ow_markStoItemS_1 at h1
  split at h1
  · injection h1 with h1
    injection h1 with e1 e2
    subst e2
    have hc : c = cw_markStoItemS_0 := mw_markStoItemS_0 _ hp rfl
    subst hc
    right
    rename_i y0 y1 y2
    have key := LT_step kw_markStoItemS_0 hp (fun q hq => loopsAll_in _ _ _ _ hp hq) (fun ((y0, y1, y2) : (List ((ByteArray) × (List (Int)))) × (Int) × (Int)) => (hw_markStoItemS_0 y0 y1 y2)) (xw_markStoItemS_0) (g_Sw_markStoItemS_0) (fun x => by first | exact bw_markStoItemS_0 x.1 x.2.1 x.2.2) n (x := (y0, y1, y2)) (okO_some e1)
    have hx : ∀ r, XT.sel (.leaf (.exit 0) [(.T 0, .t (.val false [.row 0 0 0])), (.R 0 0, .r 0 (some ⟨false, .any, true, 85, (.pair .str (.sl 3 (.int .i64))), r.1⟩)), (.T 1, .t (.val false [.int .i64 r.2]))]) = xw_markStoItemS_0 r := fun r => by first | rfl | (rcases r with r | r <;> rfl) | (rcases r with r | r | r <;> rfl) | (rcases r with r | r | r | r <;> rfl)
    have h3 := (hx (valO (g_Lw_markStoItemS_0 (y0, y1, y2)))).symm.trans h2
    have e3 := congrArg Prod.fst h3
    have e4 := congrArg Prod.snd h3
    simp only at e3 e4
    rw [← e3, ← e4]
    exact key
  · exact .inl ⟨xt, h1, h2⟩)
noncomputable def g_Aw_markStoItemS (a0 : List ((ByteArray) × (List (Int)))) (a1 : Int) : Bool := okO (g_Lw_markStoItemS_0 (a0, a1, (0 : Int)))
noncomputable def g_Vw_markStoItemS_0 (a0 : List ((ByteArray) × (List (Int)))) (a1 : Int) : Int := (valO (g_Lw_markStoItemS_0 (a0, a1, (0 : Int)))).2
noncomputable def g_Vw_markStoItemS_1 (a0 : List ((ByteArray) × (List (Int)))) (a1 : Int) : List ((ByteArray) × (List (Int))) := (valO (g_Lw_markStoItemS_0 (a0, a1, (0 : Int)))).1
noncomputable def Fw_markStoItemS : FSem := fun ys => match ys with
  | [.val false [.own .any true 85 (.pair .str (.sl 3 (.int .i64))) a0], .val false [.int .i64 a1]] => some ((g_Aw_markStoItemS a0 a1), .val false [.int .i64 (g_Vw_markStoItemS_0 a0 a1)], [[.own .any true 85 (.pair .str (.sl 3 (.int .i64))) (g_Vw_markStoItemS_1 a0 a1)]])
  | _ => none
theorem vw_markStoItemS (a0 : List ((ByteArray) × (List (Int)))) (a1 : Int) : collapseH .std Ew_markStoItemS Ow_markStoItemS_1 (execFn Ew_markStoItemS Go.Proofs.Tryd.f61 msw_markStoItemS [.val false [.own .any true 85 (.pair .str (.sl 3 (.int .i64))) a0], .val false [.int .i64 a1]]) = some ((g_Aw_markStoItemS a0 a1), .val false [.int .i64 (g_Vw_markStoItemS_0 a0 a1)], [[.own .any true 85 (.pair .str (.sl 3 (.int .i64))) (g_Vw_markStoItemS_1 a0 a1)]]) := by kernel_rfl
theorem sw_markStoItemS : Sound Go.Proofs.Tryd.prog 61 msw_markStoItemS Fw_markStoItemS := by
  refine fn_gen goodw_markStoItemS (by kernel_rfl) .std (fn := Go.Proofs.Tryd.f61) (c := (Go.Proofs.Tryd.f61.body.getD .skip)) (o := Ow_markStoItemS_1) (k := 1) (by kernel_rfl) (by kernel_rfl) (by kernel_rfl) (by kernel_rfl) (by decide) kw_markStoItemS_1 ?_
  intro ys r outs h
  unfold Fw_markStoItemS at h
  split at h
  · exact (vw_markStoItemS _ _).trans h
  · cases h
end Go.Proofs.YtibafhmmnoijkaaDoor.E
end
section
namespace Go.Proofs.YtibafhmmnoijkaaDoor.E
open Go
set_option maxRecDepth 100000
set_option maxHeartbeats 0
set_option linter.all false
noncomputable def Ew_markStoStore : Env where
  tt := mkTI Go.Proofs.Tryd.prog
  fn := fun f => match f with
    | 61 => some (msw_markStoItemS, FSem.wk msw_markStoItemS Fw_markStoItemS)
    | _ => none
  bxf := fun _ => none
  mv := []
  keep := fun _ => []
  keepB := fun _ => []
  keepX := fun _ => []
  keepXB := fun _ => []
theorem goodFw_markStoStore : ∀ f ms F, Ew_markStoStore.fn f = some (ms, F) → Sound Go.Proofs.Tryd.prog f ms F := fun f ms F h => by
  unfold Ew_markStoStore at h
  dsimp only at h
  split at h
  · injection h with h; injection h with e1 e2; subst e1 e2; exact Sound.wk sw_markStoItemS
  · cases h
theorem goodBw_markStoStore : ∀ f ms F, Ew_markStoStore.bxf f = some (ms, F) → SoundB Go.Proofs.Tryd.prog f ms F := fun f ms F h => by cases h
theorem goodw_markStoStore : Good Go.Proofs.Tryd.prog Ew_markStoStore := ⟨rfl, goodFw_markStoStore, goodBw_markStoStore⟩
noncomputable def Ow_markStoStore_0 : Orc := fun _ _ => none
noncomputable def msw_markStoStore : List PM := [.«mut», .own]
noncomputable def lsw_markStoStore : List (Nat × Code) := loopsAll 0 (Go.Proofs.Tryd.f20.body.getD .skip)

theorem kw_markStoStore_0 : OrcOk Ew_markStoStore Ow_markStoStore_0 lsw_markStoStore 0 := orcOk_none
noncomputable def g_Aw_markStoStore (a0 : List ((ByteArray) × (List (Int)))) (a1 : Int) : Bool := g_Aw_markStoItemS a0 a1
noncomputable def Fw_markStoStore : FSem := fun ys => match ys with
  | [.val true [.own .any true 85 (.pair .str (.sl 3 (.int .i64))) a0], .val false [.int .i64 a1]] => some ((g_Aw_markStoStore a0 a1), .val false [.int .i64 (g_Vw_markStoItemS_0 a0 a1)], [[.own .any true 85 (.pair .str (.sl 3 (.int .i64))) (g_Vw_markStoItemS_1 a0 a1)]])
  | _ => none
theorem vw_markStoStore (a0 : List ((ByteArray) × (List (Int)))) (a1 : Int) : collapseH .std Ew_markStoStore Ow_markStoStore_0 (execFn Ew_markStoStore Go.Proofs.Tryd.f20 msw_markStoStore [.val true [.own .any true 85 (.pair .str (.sl 3 (.int .i64))) a0], .val false [.int .i64 a1]]) = some ((g_Aw_markStoStore a0 a1), .val false [.int .i64 (g_Vw_markStoItemS_0 a0 a1)], [[.own .any true 85 (.pair .str (.sl 3 (.int .i64))) (g_Vw_markStoItemS_1 a0 a1)]]) := by kernel_rfl
theorem sw_markStoStore : Sound Go.Proofs.Tryd.prog 20 msw_markStoStore Fw_markStoStore := by
  refine fn_gen goodw_markStoStore (by kernel_rfl) .std (fn := Go.Proofs.Tryd.f20) (c := (Go.Proofs.Tryd.f20.body.getD .skip)) (o := Ow_markStoStore_0) (k := 0) (by kernel_rfl) (by kernel_rfl) (by kernel_rfl) (by kernel_rfl) (by decide) kw_markStoStore_0 ?_
  intro ys r outs h
  unfold Fw_markStoStore at h
  split at h
  · exact (vw_markStoStore _ _).trans h
  · cases h
end Go.Proofs.YtibafhmmnoijkaaDoor.E
end
section
namespace Go.Proofs.YtibafhmmnoijkaaDoor.E
open Go
set_option maxRecDepth 100000
set_option maxHeartbeats 0
set_option linter.all false
noncomputable def Ew_szIntS : Env where
  tt := mkTI Go.Proofs.Tryd.prog
  fn := fun _ => none
  bxf := fun _ => none
  mv := []
  keep := fun _ => []
  keepB := fun _ => []
  keepX := fun _ => []
  keepXB := fun _ => []
theorem goodFw_szIntS : ∀ f ms F, Ew_szIntS.fn f = some (ms, F) → Sound Go.Proofs.Tryd.prog f ms F := fun f ms F h => by cases h
theorem goodBw_szIntS : ∀ f ms F, Ew_szIntS.bxf f = some (ms, F) → SoundB Go.Proofs.Tryd.prog f ms F := fun f ms F h => by cases h
theorem goodw_szIntS : Good Go.Proofs.Tryd.prog Ew_szIntS := ⟨rfl, goodFw_szIntS, goodBw_szIntS⟩
noncomputable def Ow_szIntS_0 : Orc := fun _ _ => none
noncomputable def msw_szIntS : List PM := [.rd, .own]
noncomputable def lsw_szIntS : List (Nat × Code) := loopsAll 0 (Go.Proofs.Tryd.f141.body.getD .skip)

theorem kw_szIntS_0 : OrcOk Ew_szIntS Ow_szIntS_0 lsw_szIntS 0 := orcOk_none
noncomputable def g_Vw_szIntS_0 (a0 : List (Int)) (a1 : Int) : Int := bif decide (IntKind.wrap IntKind.i64 (a1 - (↑(List.length a0) : Int)) < (0 : Int)) then (-1 : Int) else IntKind.wrap IntKind.i64 (a1 - (↑(List.length a0) : Int))
noncomputable def Fw_szIntS : FSem := fun ys => match ys with
  | [.val false [.sl .any 3 (.int .i64) a0], .val false [.int .i64 a1]] => some (true, .val false [.int .i64 (g_Vw_szIntS_0 a0 a1)], [])
  | _ => none
theorem vw_szIntS (a0 : List (Int)) (a1 : Int) : collapseH .std Ew_szIntS Ow_szIntS_0 (execFn Ew_szIntS Go.Proofs.Tryd.f141 msw_szIntS [.val false [.sl .any 3 (.int .i64) a0], .val false [.int .i64 a1]]) = some (true, .val false [.int .i64 (g_Vw_szIntS_0 a0 a1)], []) := by kernel_rfl
theorem sw_szIntS : Sound Go.Proofs.Tryd.prog 141 msw_szIntS Fw_szIntS := by
  refine fn_gen goodw_szIntS (by kernel_rfl) .std (fn := Go.Proofs.Tryd.f141) (c := (Go.Proofs.Tryd.f141.body.getD .skip)) (o := Ow_szIntS_0) (k := 0) (by kernel_rfl) (by kernel_rfl) (by kernel_rfl) (by kernel_rfl) (by decide) kw_szIntS_0 ?_
  intro ys r outs h
  unfold Fw_szIntS at h
  split at h
  · exact (vw_szIntS _ _).trans h
  · cases h
end Go.Proofs.YtibafhmmnoijkaaDoor.E
end
section
namespace Go.Proofs.YtibafhmmnoijkaaDoor.E
open Go
set_option maxRecDepth 100000
set_option maxHeartbeats 0
set_option linter.all false
noncomputable def Ew_szStoItem : Env where
  tt := mkTI Go.Proofs.Tryd.prog
  fn := fun f => match f with
    | 141 => some (msw_szIntS, FSem.wk msw_szIntS Fw_szIntS)
    | _ => none
  bxf := fun _ => none
  mv := []
  keep := fun _ => []
  keepB := fun _ => []
  keepX := fun _ => []
  keepXB := fun _ => []
theorem goodFw_szStoItem : ∀ f ms F, Ew_szStoItem.fn f = some (ms, F) → Sound Go.Proofs.Tryd.prog f ms F := fun f ms F h => by
  unfold Ew_szStoItem at h
  dsimp only at h
  split at h
  · injection h with h; injection h with e1 e2; subst e1 e2; exact Sound.wk sw_szIntS
  · cases h
theorem goodBw_szStoItem : ∀ f ms F, Ew_szStoItem.bxf f = some (ms, F) → SoundB Go.Proofs.Tryd.prog f ms F := fun f ms F h => by cases h
theorem goodw_szStoItem : Good Go.Proofs.Tryd.prog Ew_szStoItem := ⟨rfl, goodFw_szStoItem, goodBw_szStoItem⟩
noncomputable def Ow_szStoItem_0 : Orc := fun _ _ => none
noncomputable def msw_szStoItem : List PM := [.rd, .own]
noncomputable def lsw_szStoItem : List (Nat × Code) := loopsAll 0 (Go.Proofs.Tryd.f107.body.getD .skip)

theorem kw_szStoItem_0 : OrcOk Ew_szStoItem Ow_szStoItem_0 lsw_szStoItem 0 := orcOk_none
noncomputable def g_Aw_szStoItem (a0 : ByteArray) (a1 : List (Int)) (a2 : Int) : Bool := decide (IntKind.wrap IntKind.i64 (a2 - (↑(ByteArray.size a0) : Int)) < (0 : Int)) || true
noncomputable def g_Vw_szStoItem_0 (a0 : ByteArray) (a1 : List (Int)) (a2 : Int) : Int := bif decide (IntKind.wrap IntKind.i64 (a2 - (↑(ByteArray.size a0) : Int)) < (0 : Int)) then (-1 : Int) else bif decide (g_Vw_szIntS_0 a1 (IntKind.wrap IntKind.i64 (a2 - (↑(ByteArray.size a0) : Int))) < (0 : Int)) then (-1 : Int) else g_Vw_szIntS_0 a1 (IntKind.wrap IntKind.i64 (a2 - (↑(ByteArray.size a0) : Int)))
noncomputable def Fw_szStoItem : FSem := fun ys => match ys with
  | [.val true [.str a0, .sl .any 3 (.int .i64) a1], .val false [.int .i64 a2]] => some ((g_Aw_szStoItem a0 a1 a2), .val false [.int .i64 (g_Vw_szStoItem_0 a0 a1 a2)], [])
  | _ => none
theorem vw_szStoItem (a0 : ByteArray) (a1 : List (Int)) (a2 : Int) : collapseH .std Ew_szStoItem Ow_szStoItem_0 (execFn Ew_szStoItem Go.Proofs.Tryd.f107 msw_szStoItem [.val true [.str a0, .sl .any 3 (.int .i64) a1], .val false [.int .i64 a2]]) = some ((g_Aw_szStoItem a0 a1 a2), .val false [.int .i64 (g_Vw_szStoItem_0 a0 a1 a2)], []) := by kernel_rfl
theorem sw_szStoItem : Sound Go.Proofs.Tryd.prog 107 msw_szStoItem Fw_szStoItem := by
  refine fn_gen goodw_szStoItem (by kernel_rfl) .std (fn := Go.Proofs.Tryd.f107) (c := (Go.Proofs.Tryd.f107.body.getD .skip)) (o := Ow_szStoItem_0) (k := 0) (by kernel_rfl) (by kernel_rfl) (by kernel_rfl) (by kernel_rfl) (by decide) kw_szStoItem_0 ?_
  intro ys r outs h
  unfold Fw_szStoItem at h
  split at h
  · exact (vw_szStoItem _ _ _).trans h
  · cases h
end Go.Proofs.YtibafhmmnoijkaaDoor.E
end
section
namespace Go.Proofs.YtibafhmmnoijkaaDoor.E
open Go
set_option maxRecDepth 100000
set_option maxHeartbeats 0
set_option linter.all false
noncomputable def Ew_szStoItemS : Env where
  tt := mkTI Go.Proofs.Tryd.prog
  fn := fun f => match f with
    | 107 => some (msw_szStoItem, FSem.wk msw_szStoItem Fw_szStoItem)
    | _ => none
  bxf := fun _ => none
  mv := []
  keep := fun b => match b with
    | 0 => [(0, false), (1, false), (5, false)]
    | _ => []
  keepB := fun b => match b with
    | 0 => []
    | _ => []
  keepX := fun b => match b with
    | 0 => [(1, false), (4, false)]
    | _ => []
  keepXB := fun b => match b with
    | 0 => []
    | _ => []
theorem goodFw_szStoItemS : ∀ f ms F, Ew_szStoItemS.fn f = some (ms, F) → Sound Go.Proofs.Tryd.prog f ms F := fun f ms F h => by
  unfold Ew_szStoItemS at h
  dsimp only at h
  split at h
  · injection h with h; injection h with e1 e2; subst e1 e2; exact Sound.wk sw_szStoItem
  · cases h
theorem goodBw_szStoItemS : ∀ f ms F, Ew_szStoItemS.bxf f = some (ms, F) → SoundB Go.Proofs.Tryd.prog f ms F := fun f ms F h => by cases h
theorem goodw_szStoItemS : Good Go.Proofs.Tryd.prog Ew_szStoItemS := ⟨rfl, goodFw_szStoItemS, goodBw_szStoItemS⟩
noncomputable def Ow_szStoItemS_0 : Orc := fun _ _ => none
noncomputable def msw_szStoItemS : List PM := [.rd, .own]
noncomputable def lsw_szStoItemS : List (Nat × Code) := loopsAll 0 (Go.Proofs.Tryd.f55.body.getD .skip)
noncomputable def cw_szStoItemS_0 : Code := (loopOf 0 (Go.Proofs.Tryd.f55.body.getD .skip)).getD .skip
theorem lseqw_szStoItemS : lsw_szStoItemS = [(0, cw_szStoItemS_0)] := by kernel_rfl
theorem mw_szStoItemS_0 : ∀ p, p ∈ lsw_szStoItemS → p.1 = 0 → p.2 = cw_szStoItemS_0 := by
  intro p hp
  rw [lseqw_szStoItemS] at hp
  simp only [List.mem_cons, List.not_mem_nil, or_false] at hp
  subst hp; simp
theorem kw_szStoItemS_0 : OrcOk Ew_szStoItemS Ow_szStoItemS_0 lsw_szStoItemS 0 := orcOk_none
noncomputable def hw_szStoItemS_0 (y0 : List ((ByteArray) × (List (Int)))) (y1 : Int) (y2 : Int) : List (Pl × LV) := [(.T 0, .t (.val false [.sl .any 131 (.pair .str (.sl 3 (.int .i64))) y0])), (.T 1, .t (.val false [.int .i64 y1])), (.T 5, .t (.val false [.int .i64 y2]))]
noncomputable def g_Sw_szStoItemS_0 (y0 : List ((ByteArray) × (List (Int)))) : ((Int) × (Int)) → RT ((Int) × (Int)) (((Int) × (Int)) ⊕ ((Int)))
  | (y1, y2) => .br (true) (.br (decide (y2 < (↑(List.length y0) : Int))) (.br (decide ((0 : Int) ≤ y2 ∧ y2 < (↑(List.length y0) : Int))) (.br (g_Aw_szStoItem (at_ (Ty.pair Ty.str (Ty.sl (nat_lit 3) (Ty.int IntKind.i64))) y0 (Int.toNat y2)).1 (at_ (Ty.pair Ty.str (Ty.sl (nat_lit 3) (Ty.int IntKind.i64))) y0 (Int.toNat y2)).2 y1) (.br (true) (.br (decide (g_Vw_szStoItem_0 (at_ (Ty.pair Ty.str (Ty.sl (nat_lit 3) (Ty.int IntKind.i64))) y0 (Int.toNat y2)).1 (at_ (Ty.pair Ty.str (Ty.sl (nat_lit 3) (Ty.int IntKind.i64))) y0 (Int.toNat y2)).2 y1 < (0 : Int))) (.out (.inl ((g_Vw_szStoItem_0 (at_ (Ty.pair Ty.str (Ty.sl (nat_lit 3) (Ty.int IntKind.i64))) y0 (Int.toNat y2)).1 (at_ (Ty.pair Ty.str (Ty.sl (nat_lit 3) (Ty.int IntKind.i64))) y0 (Int.toNat y2)).2 y1, (-1 : Int))))) (.br (true) (.go ((g_Vw_szStoItem_0 (at_ (Ty.pair Ty.str (Ty.sl (nat_lit 3) (Ty.int IntKind.i64))) y0 (Int.toNat y2)).1 (at_ (Ty.pair Ty.str (Ty.sl (nat_lit 3) (Ty.int IntKind.i64))) y0 (Int.toNat y2)).2 y1, IntKind.wrap IntKind.i64 (y2 + (1 : Int))))) (.bad))) (.bad)) (.bad)) (.bad)) (.out (.inr (y1)))) (.bad)
noncomputable def g_Lw_szStoItemS_0 (y0 : List ((ByteArray) × (List (Int)))) (x : (Int) × (Int)) : Option (((Int) × (Int)) ⊕ ((Int))) := loopO (g_Sw_szStoItemS_0 y0) x
noncomputable def xw_szStoItemS_0 (y0 : List ((ByteArray) × (List (Int)))) : (((Int) × (Int)) ⊕ ((Int))) → Ex × List (Pl × LV) := fun
  | .inl r => (.ret, [(.T 1, .t (.val false [.int .i64 r.1])), (.T 4, .t (.val false [.int .i64 r.2]))])
  | .inr (r) => (.exit 0, [(.T 1, .t (.val false [.int .i64 r])), (.T 4, .t (.val false [.undef]))])
noncomputable def Ow_szStoItemS_1 : Orc := fun b h => match b, h with
  | 0, [(.T 0, .t (.val false [.sl .any 131 (.pair .str (.sl 3 (.int .i64))) y0])), (.T 1, .t (.val false [.int .i64 y1])), (.T 5, .t (.val false [.int .i64 y2]))] => some (okO (g_Lw_szStoItemS_0 y0 (y1, y2)), (.br (isL (valO (g_Lw_szStoItemS_0 y0 (y1, y2)))) (.leaf .ret [(.T 1, .t (.val false [.int .i64 (getL (valO (g_Lw_szStoItemS_0 y0 (y1, y2)))).1])), (.T 4, .t (.val false [.int .i64 (getL (valO (g_Lw_szStoItemS_0 y0 (y1, y2)))).2]))]) (.leaf (.exit 0) [(.T 1, .t (.val false [.int .i64 (getR (valO (g_Lw_szStoItemS_0 y0 (y1, y2))))])), (.T 4, .t (.val false [.undef]))])))
  | b, h => Ow_szStoItemS_0 b h
theorem bw_szStoItemS_0 (y0 : List ((ByteArray) × (List (Int)))) (y1 : Int) (y2 : Int) : Tr.bt Ew_szStoItemS Ow_szStoItemS_0 (exec Ew_szStoItemS 0 cw_szStoItemS_0 (St.of (hw_szStoItemS_0 y0 y1 y2)) (leafRd Ew_szStoItemS 0)) = (g_Sw_szStoItemS_0 y0 (y1, y2)).bt (fun ((y1, y2) : (Int) × (Int)) => (hw_szStoItemS_0 y0 y1 y2)) (xw_szStoItemS_0 y0) := by kernel_rfl
theorem kw_szStoItemS_1 : OrcOk Ew_szStoItemS Ow_szStoItemS_1 lsw_szStoItemS 1 := orc_add kw_szStoItemS_0 (fun n p hp h ex h' ho => by
  obtain ⟨b, c⟩ := p
  obtain ⟨xt, h1, h2⟩ := ho
  have h1 : Ow_szStoItemS_1 b h = some (true, xt) := h1
  unfold Ow_szStoItemS_1 at h1
  split at h1
  · injection h1 with h1
    injection h1 with e1 e2
    subst e2
    have hc : c = cw_szStoItemS_0 := mw_szStoItemS_0 _ hp rfl
    subst hc
    right
    rename_i y0 y1 y2
    have key := LT_step kw_szStoItemS_0 hp (fun q hq => loopsAll_in _ _ _ _ hp hq) (fun ((y1, y2) : (Int) × (Int)) => (hw_szStoItemS_0 y0 y1 y2)) (xw_szStoItemS_0 y0) (g_Sw_szStoItemS_0 y0) (fun x => by first | exact bw_szStoItemS_0 y0 x.1 x.2) n (x := (y1, y2)) (okO_some e1)
    have hx : ∀ r, XT.sel (.br (isL r) (.leaf .ret [(.T 1, .t (.val false [.int .i64 (getL r).1])), (.T 4, .t (.val false [.int .i64 (getL r).2]))]) (.leaf (.exit 0) [(.T 1, .t (.val false [.int .i64 (getR r)])), (.T 4, .t (.val false [.undef]))])) = xw_szStoItemS_0 y0 r := fun r => by first | rfl | (rcases r with r | r <;> rfl) | (rcases r with r | r | r <;> rfl) | (rcases r with r | r | r | r <;> rfl)
    have h3 := (hx (valO (g_Lw_szStoItemS_0 y0 (y1, y2)))).symm.trans h2
    have e3 := congrArg Prod.fst h3
    have e4 := congrArg Prod.snd h3
    simp only at e3 e4
    rw [← e3, ← e4]
    exact key
  · exact .inl ⟨xt, h1, h2⟩)
noncomputable def g_Aw_szStoItemS (a0 : List ((ByteArray) × (List (Int)))) (a1 : Int) : Bool := decide (IntKind.wrap IntKind.i64 (a1 - (↑(List.length a0) : Int)) < (0 : Int)) || okO (g_Lw_szStoItemS_0 a0 (IntKind.wrap IntKind.i64 (a1 - (↑(List.length a0) : Int)), (0 : Int)))
noncomputable def g_Vw_szStoItemS_0 (a0 : List ((ByteArray) × (List (Int)))) (a1 : Int) : Int := bif decide (IntKind.wrap IntKind.i64 (a1 - (↑(List.length a0) : Int)) < (0 : Int)) then (-1 : Int) else bif isL (valO (g_Lw_szStoItemS_0 a0 (IntKind.wrap IntKind.i64 (a1 - (↑(List.length a0) : Int)), (0 : Int)))) then (getL (valO (g_Lw_szStoItemS_0 a0 (IntKind.wrap IntKind.i64 (a1 - (↑(List.length a0) : Int)), (0 : Int))))).2 else getR (valO (g_Lw_szStoItemS_0 a0 (IntKind.wrap IntKind.i64 (a1 - (↑(List.length a0) : Int)), (0 : Int))))
noncomputable def Fw_szStoItemS : FSem := fun ys => match ys with
  | [.val false [.sl .any 131 (.pair .str (.sl 3 (.int .i64))) a0], .val false [.int .i64 a1]] => some ((g_Aw_szStoItemS a0 a1), .val false [.int .i64 (g_Vw_szStoItemS_0 a0 a1)], [])
  | _ => none
theorem vw_szStoItemS (a0 : List ((ByteArray) × (List (Int)))) (a1 : Int) : collapseH .std Ew_szStoItemS Ow_szStoItemS_1 (execFn Ew_szStoItemS Go.Proofs.Tryd.f55 msw_szStoItemS [.val false [.sl .any 131 (.pair .str (.sl 3 (.int .i64))) a0], .val false [.int .i64 a1]]) = some ((g_Aw_szStoItemS a0 a1), .val false [.int .i64 (g_Vw_szStoItemS_0 a0 a1)], []) := by kernel_rfl
theorem sw_szStoItemS : Sound Go.Proofs.Tryd.prog 55 msw_szStoItemS Fw_szStoItemS := by
  refine fn_gen goodw_szStoItemS (by kernel_rfl) .std (fn := Go.Proofs.Tryd.f55) (c := (Go.Proofs.Tryd.f55.body.getD .skip)) (o := Ow_szStoItemS_1) (k := 1) (by kernel_rfl) (by kernel_rfl) (by kernel_rfl) (by kernel_rfl) (by decide) kw_szStoItemS_1 ?_
  intro ys r outs h
  unfold Fw_szStoItemS at h
  split at h
  · exact (vw_szStoItemS _ _).trans h
  · cases h
end Go.Proofs.YtibafhmmnoijkaaDoor.E
end
section
namespace Go.Proofs.YtibafhmmnoijkaaDoor.E
open Go
set_option maxRecDepth 100000
set_option maxHeartbeats 0
set_option linter.all false
noncomputable def Ew_szStoStore : Env where
  tt := mkTI Go.Proofs.Tryd.prog
  fn := fun f => match f with
    | 55 => some (msw_szStoItemS, FSem.wk msw_szStoItemS Fw_szStoItemS)
    | _ => none
  bxf := fun _ => none
  mv := []
  keep := fun _ => []
  keepB := fun _ => []
  keepX := fun _ => []
  keepXB := fun _ => []
theorem goodFw_szStoStore : ∀ f ms F, Ew_szStoStore.fn f = some (ms, F) → Sound Go.Proofs.Tryd.prog f ms F := fun f ms F h => by
  unfold Ew_szStoStore at h
  dsimp only at h
  split at h
  · injection h with h; injection h with e1 e2; subst e1 e2; exact Sound.wk sw_szStoItemS
  · cases h
theorem goodBw_szStoStore : ∀ f ms F, Ew_szStoStore.bxf f = some (ms, F) → SoundB Go.Proofs.Tryd.prog f ms F := fun f ms F h => by cases h
theorem goodw_szStoStore : Good Go.Proofs.Tryd.prog Ew_szStoStore := ⟨rfl, goodFw_szStoStore, goodBw_szStoStore⟩
noncomputable def Ow_szStoStore_0 : Orc := fun _ _ => none
noncomputable def msw_szStoStore : List PM := [.rd, .own]
noncomputable def lsw_szStoStore : List (Nat × Code) := loopsAll 0 (Go.Proofs.Tryd.f14.body.getD .skip)

theorem kw_szStoStore_0 : OrcOk Ew_szStoStore Ow_szStoStore_0 lsw_szStoStore 0 := orcOk_none
noncomputable def g_Aw_szStoStore (a0 : List ((ByteArray) × (List (Int)))) (a1 : Int) : Bool := g_Aw_szStoItemS a0 a1 && true
noncomputable def g_Vw_szStoStore_0 (a0 : List ((ByteArray) × (List (Int)))) (a1 : Int) : Int := bif decide (g_Vw_szStoItemS_0 a0 a1 < (0 : Int)) then (-1 : Int) else g_Vw_szStoItemS_0 a0 a1
noncomputable def Fw_szStoStore : FSem := fun ys => match ys with
  | [.val true [.sl .any 131 (.pair .str (.sl 3 (.int .i64))) a0], .val false [.int .i64 a1]] => some ((g_Aw_szStoStore a0 a1), .val false [.int .i64 (g_Vw_szStoStore_0 a0 a1)], [])
  | _ => none
theorem vw_szStoStore (a0 : List ((ByteArray) × (List (Int)))) (a1 : Int) : collapseH .std Ew_szStoStore Ow_szStoStore_0 (execFn Ew_szStoStore Go.Proofs.Tryd.f14 msw_szStoStore [.val true [.sl .any 131 (.pair .str (.sl 3 (.int .i64))) a0], .val false [.int .i64 a1]]) = some ((g_Aw_szStoStore a0 a1), .val false [.int .i64 (g_Vw_szStoStore_0 a0 a1)], []) := by kernel_rfl
theorem sw_szStoStore : Sound Go.Proofs.Tryd.prog 14 msw_szStoStore Fw_szStoStore := by
  refine fn_gen goodw_szStoStore (by kernel_rfl) .std (fn := Go.Proofs.Tryd.f14) (c := (Go.Proofs.Tryd.f14.body.getD .skip)) (o := Ow_szStoStore_0) (k := 0) (by kernel_rfl) (by kernel_rfl) (by kernel_rfl) (by kernel_rfl) (by decide) kw_szStoStore_0 ?_
  intro ys r outs h
  unfold Fw_szStoStore at h
  split at h
  · exact (vw_szStoStore _ _).trans h
  · cases h
end Go.Proofs.YtibafhmmnoijkaaDoor.E
end
section
namespace Go.Proofs.YtibafhmmnoijkaaDoor.E
open Go
set_option maxRecDepth 100000
set_option maxHeartbeats 0
set_option linter.all false
noncomputable def Ew_toIntS : Env where
  tt := mkTI Go.Proofs.Tryd.prog
  fn := fun _ => none
  bxf := fun _ => none
  mv := []
  keep := fun b => match b with
    | 0 => [(0, false), (3, false), (4, false)]
    | _ => []
  keepB := fun b => match b with
    | 0 => []
    | _ => []
  keepX := fun b => match b with
    | 0 => [(3, false)]
    | _ => []
  keepXB := fun b => match b with
    | 0 => []
    | _ => []
theorem goodFw_toIntS : ∀ f ms F, Ew_toIntS.fn f = some (ms, F) → Sound Go.Proofs.Tryd.prog f ms F := fun f ms F h => by cases h
theorem goodBw_toIntS : ∀ f ms F, Ew_toIntS.bxf f = some (ms, F) → SoundB Go.Proofs.Tryd.prog f ms F := fun f ms F h => by cases h
theorem goodw_toIntS : Good Go.Proofs.Tryd.prog Ew_toIntS := ⟨rfl, goodFw_toIntS, goodBw_toIntS⟩
noncomputable def Ow_toIntS_0 : Orc := fun _ _ => none
noncomputable def msw_toIntS : List PM := [.rd]
noncomputable def lsw_toIntS : List (Nat × Code) := loopsAll 0 (Go.Proofs.Tryd.f142.body.getD .skip)
noncomputable def cw_toIntS_0 : Code := (loopOf 0 (Go.Proofs.Tryd.f142.body.getD .skip)).getD .skip
theorem lseqw_toIntS : lsw_toIntS = [(0, cw_toIntS_0)] := by kernel_rfl
theorem mw_toIntS_0 : ∀ p, p ∈ lsw_toIntS → p.1 = 0 → p.2 = cw_toIntS_0 := by
  intro p hp
  rw [lseqw_toIntS] at hp
  simp only [List.mem_cons, List.not_mem_nil, or_false] at hp
  subst hp; simp
theorem kw_toIntS_0 : OrcOk Ew_toIntS Ow_toIntS_0 lsw_toIntS 0 := orcOk_none
noncomputable def hw_toIntS_0 (y0 : List (Int)) (y1 : List (Int)) (y2 : Int) : List (Pl × LV) := [(.T 0, .t (.val false [.sl .any 3 (.int .i64) y0])), (.T 3, .t (.val false [.row 3 0 0])), (.R 3 0, .r 0 (some ⟨false, .non, true, 3, (.int .i64), y1⟩)), (.T 4, .t (.val false [.int .i64 y2]))]
noncomputable def g_Sw_toIntS_0 (y0 : List (Int)) : ((List (Int)) × (Int)) → RT ((List (Int)) × (Int)) (((List (Int))))
  | (y1, y2) => .br (true) (.br (decide (y2 < (↑(List.length y0) : Int))) (.br (decide ((0 : Int) ≤ y2 ∧ y2 < (↑(List.length y0) : Int))) (.br (decide ((0 : Int) ≤ y2 ∧ y2 < (↑(List.length y1) : Int))) (.br (decide (Int.toNat y2 < List.length y1)) (.br (true) (.go ((List.set y1 (Int.toNat y2) (at_ (Ty.int IntKind.i64) y0 (Int.toNat y2)), IntKind.wrap IntKind.i64 (y2 + (1 : Int))))) (.bad)) (.bad)) (.bad)) (.bad)) (.out (y1))) (.bad)
noncomputable def g_Lw_toIntS_0 (y0 : List (Int)) (x : (List (Int)) × (Int)) : Option (((List (Int)))) := loopO (g_Sw_toIntS_0 y0) x
noncomputable def xw_toIntS_0 (y0 : List (Int)) : (((List (Int)))) → Ex × List (Pl × LV) := fun r => (.exit 0, [(.T 3, .t (.val false [.row 3 0 0])), (.R 3 0, .r 0 (some ⟨false, .non, true, 3, (.int .i64), r⟩))])
noncomputable def Ow_toIntS_1 : Orc := fun b h => match b, h with
  | 0, [(.T 0, .t (.val false [.sl .any 3 (.int .i64) y0])), (.T 3, .t (.val false [.row 3 0 0])), (.R 3 0, .r 0 (some ⟨false, .non, true, 3, (.int .i64), y1⟩)), (.T 4, .t (.val false [.int .i64 y2]))] => some (okO (g_Lw_toIntS_0 y0 (y1, y2)), (.leaf (.exit 0) [(.T 3, .t (.val false [.row 3 0 0])), (.R 3 0, .r 0 (some ⟨false, .non, true, 3, (.int .i64), (valO (g_Lw_toIntS_0 y0 (y1, y2)))⟩))]))
  | b, h => Ow_toIntS_0 b h
theorem bw_toIntS_0 (y0 : List (Int)) (y1 : List (Int)) (y2 : Int) : Tr.bt Ew_toIntS Ow_toIntS_0 (exec Ew_toIntS 0 cw_toIntS_0 (St.of (hw_toIntS_0 y0 y1 y2)) (leafRd Ew_toIntS 0)) = (g_Sw_toIntS_0 y0 (y1, y2)).bt (fun ((y1, y2) : (List (Int)) × (Int)) => (hw_toIntS_0 y0 y1 y2)) (xw_toIntS_0 y0) := by kernel_rfl
theorem kw_toIntS_1 : OrcOk Ew_toIntS Ow_toIntS_1 lsw_toIntS 1 := orc_add kw_toIntS_0 (fun n p hp h ex h' ho => by
  obtain ⟨b, c⟩ := p
  obtain ⟨xt, h1, h2⟩ := ho
  have h1 : Ow_toIntS_1 b h = some (true, xt) := h1
  unfold Ow_toIntS_1 at h1
  split at h1
  · injection h1 with h1
    injection h1 with e1 e2
    subst e2
    have hc : c = cw_toIntS_0 := mw_toIntS_0 _ hp rfl
    subst hc
    right
    rename_i y0 y1 y2
    have key := LT_step kw_toIntS_0 hp (fun q hq => loopsAll_in _ _ _ _ hp hq) (fun ((y1, y2) : (List (Int)) × (Int)) => (hw_toIntS_0 y0 y1 y2)) (xw_toIntS_0 y0) (g_Sw_toIntS_0 y0) (fun x => by first | exact bw_toIntS_0 y0 x.1 x.2) n (x := (y1, y2)) (okO_some e1)
    have hx : ∀ r, XT.sel (.leaf (.exit 0) [(.T 3, .t (.val false [.row 3 0 0])), (.R 3 0, .r 0 (some ⟨false, .non, true, 3, (.int .i64), r⟩))]) = xw_toIntS_0 y0 r := fun r => by first | rfl | (rcases r with r | r <;> rfl) | (rcases r with r | r | r <;> rfl) | (rcases r with r | r | r | r <;> rfl)
    have h3 := (hx (valO (g_Lw_toIntS_0 y0 (y1, y2)))).symm.trans h2
    have e3 := congrArg Prod.fst h3
    have e4 := congrArg Prod.snd h3
    simp only at e3 e4
    rw [← e3, ← e4]
    exact key
  · exact .inl ⟨xt, h1, h2⟩)
noncomputable def g_Aw_toIntS (a0 : List (Int)) : Bool := decide ((↑(List.length a0) : Int) = (↑(List.length a0) : Int) ∧ (0 : Int) ≤ (↑(List.length a0) : Int) ∧ (↑(List.length a0) : Int) ≤ (9223372036854775807 : Int) ∧ (8 : Int) * (↑(List.length a0) : Int) ≤ (281474976710656 : Int)) && okO (g_Lw_toIntS_0 a0 (List.replicate (Int.toNat (↑(List.length a0) : Int)) (0 : Int), (0 : Int)))
noncomputable def g_Vw_toIntS_0 (a0 : List (Int)) : List (Int) := valO (g_Lw_toIntS_0 a0 (List.replicate (Int.toNat (↑(List.length a0) : Int)) (0 : Int), (0 : Int)))
noncomputable def Fw_toIntS : FSem := fun ys => match ys with
  | [.val false [.sl .any 3 (.int .i64) a0]] => some ((g_Aw_toIntS a0), .val false [.own .any true 3 (.int .i64) (g_Vw_toIntS_0 a0)], [])
  | _ => none
theorem vw_toIntS (a0 : List (Int)) : collapseH .std Ew_toIntS Ow_toIntS_1 (execFn Ew_toIntS Go.Proofs.Tryd.f142 msw_toIntS [.val false [.sl .any 3 (.int .i64) a0]]) = some ((g_Aw_toIntS a0), .val false [.own .any true 3 (.int .i64) (g_Vw_toIntS_0 a0)], []) := by kernel_rfl
theorem sw_toIntS : Sound Go.Proofs.Tryd.prog 142 msw_toIntS Fw_toIntS := by
  refine fn_gen goodw_toIntS (by kernel_rfl) .std (fn := Go.Proofs.Tryd.f142) (c := (Go.Proofs.Tryd.f142.body.getD .skip)) (o := Ow_toIntS_1) (k := 1) (by kernel_rfl) (by kernel_rfl) (by kernel_rfl) (by kernel_rfl) (by decide) kw_toIntS_1 ?_
  intro ys r outs h
  unfold Fw_toIntS at h
  split at h
  · exact (vw_toIntS _).trans h
  · cases h
end Go.Proofs.YtibafhmmnoijkaaDoor.E
end
section
namespace Go.Proofs.YtibafhmmnoijkaaDoor.E
open Go
set_option maxRecDepth 100000
set_option maxHeartbeats 0
set_option linter.all false
noncomputable def Ew_toStoItem : Env where
  tt := mkTI Go.Proofs.Tryd.prog
  fn := fun f => match f with
    | 142 => some (msw_toIntS, FSem.wk msw_toIntS Fw_toIntS)
    | _ => none
  bxf := fun _ => none
  mv := []
  keep := fun _ => []
  keepB := fun _ => []
  keepX := fun _ => []
  keepXB := fun _ => []
theorem goodFw_toStoItem : ∀ f ms F, Ew_toStoItem.fn f = some (ms, F) → Sound Go.Proofs.Tryd.prog f ms F := fun f ms F h => by
  unfold Ew_toStoItem at h
  dsimp only at h
  split at h
  · injection h with h; injection h with e1 e2; subst e1 e2; exact Sound.wk sw_toIntS
  · cases h
theorem goodBw_toStoItem : ∀ f ms F, Ew_toStoItem.bxf f = some (ms, F) → SoundB Go.Proofs.Tryd.prog f ms F := fun f ms F h => by cases h
theorem goodw_toStoItem : Good Go.Proofs.Tryd.prog Ew_toStoItem := ⟨rfl, goodFw_toStoItem, goodBw_toStoItem⟩
noncomputable def Ow_toStoItem_0 : Orc := fun _ _ => none
noncomputable def msw_toStoItem : List PM := [.rd]
noncomputable def lsw_toStoItem : List (Nat × Code) := loopsAll 0 (Go.Proofs.Tryd.f108.body.getD .skip)

theorem kw_toStoItem_0 : OrcOk Ew_toStoItem Ow_toStoItem_0 lsw_toStoItem 0 := orcOk_none
noncomputable def g_Aw_toStoItem (a0 : ByteArray) (a1 : List (Int)) : Bool := g_Aw_toIntS a1
noncomputable def Fw_toStoItem : FSem := fun ys => match ys with
  | [.val true [.str a0, .sl .any 3 (.int .i64) a1]] => some ((g_Aw_toStoItem a0 a1), .val true [.str a0, .own .any true 3 (.int .i64) (g_Vw_toIntS_0 a1)], [])
  | _ => none
theorem vw_toStoItem (a0 : ByteArray) (a1 : List (Int)) : collapseH .std Ew_toStoItem Ow_toStoItem_0 (execFn Ew_toStoItem Go.Proofs.Tryd.f108 msw_toStoItem [.val true [.str a0, .sl .any 3 (.int .i64) a1]]) = some ((g_Aw_toStoItem a0 a1), .val true [.str a0, .own .any true 3 (.int .i64) (g_Vw_toIntS_0 a1)], []) := by kernel_rfl
theorem sw_toStoItem : Sound Go.Proofs.Tryd.prog 108 msw_toStoItem Fw_toStoItem := by
  refine fn_gen goodw_toStoItem (by kernel_rfl) .std (fn := Go.Proofs.Tryd.f108) (c := (Go.Proofs.Tryd.f108.body.getD .skip)) (o := Ow_toStoItem_0) (k := 0) (by kernel_rfl) (by kernel_rfl) (by kernel_rfl) (by kernel_rfl) (by decide) kw_toStoItem_0 ?_
  intro ys r outs h
  unfold Fw_toStoItem at h
  split at h
  · exact (vw_toStoItem _ _).trans h
  · cases h
end Go.Proofs.YtibafhmmnoijkaaDoor.E
end
section
namespace Go.Proofs.YtibafhmmnoijkaaDoor.E
open Go
set_option maxRecDepth 100000
set_option maxHeartbeats 0
set_option linter.all false
noncomputable def Ew_toStoItemS : Env where
  tt := mkTI Go.Proofs.Tryd.prog
  fn := fun f => match f with
    | 108 => some (msw_toStoItem, FSem.wk msw_toStoItem Fw_toStoItem)
    | _ => none
  bxf := fun _ => none
  mv := []
  keep := fun b => match b with
    | 0 => [(0, false), (3, false), (4, false)]
    | _ => []
  keepB := fun b => match b with
    | 0 => []
    | _ => []
  keepX := fun b => match b with
    | 0 => [(3, false)]
    | _ => []
  keepXB := fun b => match b with
    | 0 => []
    | _ => []
theorem goodFw_toStoItemS : ∀ f ms F, Ew_toStoItemS.fn f = some (ms, F) → Sound Go.Proofs.Tryd.prog f ms F := fun f ms F h => by
  unfold Ew_toStoItemS at h
  dsimp only at h
  split at h
  · injection h with h; injection h with e1 e2; subst e1 e2; exact Sound.wk sw_toStoItem
  · cases h
theorem goodBw_toStoItemS : ∀ f ms F, Ew_toStoItemS.bxf f = some (ms, F) → SoundB Go.Proofs.Tryd.prog f ms F := fun f ms F h => by cases h
theorem goodw_toStoItemS : Good Go.Proofs.Tryd.prog Ew_toStoItemS := ⟨rfl, goodFw_toStoItemS, goodBw_toStoItemS⟩
noncomputable def Ow_toStoItemS_0 : Orc := fun _ _ => none
noncomputable def msw_toStoItemS : List PM := [.rd]
noncomputable def lsw_toStoItemS : List (Nat × Code) := loopsAll 0 (Go.Proofs.Tryd.f57.body.getD .skip)
noncomputable def cw_toStoItemS_0 : Code := (loopOf 0 (Go.Proofs.Tryd.f57.body.getD .skip)).getD .skip
theorem lseqw_toStoItemS : lsw_toStoItemS = [(0, cw_toStoItemS_0)] := by kernel_rfl
theorem mw_toStoItemS_0 : ∀ p, p ∈ lsw_toStoItemS → p.1 = 0 → p.2 = cw_toStoItemS_0 := by
  intro p hp
  rw [lseqw_toStoItemS] at hp
  simp only [List.mem_cons, List.not_mem_nil, or_false] at hp
  subst hp; simp
theorem kw_toStoItemS_0 : OrcOk Ew_toStoItemS Ow_toStoItemS_0 lsw_toStoItemS 0 := orcOk_none
noncomputable def hw_toStoItemS_0 (y0 : List ((ByteArray) × (List (Int)))) (y1 : List ((ByteArray) × (List (Int)))) (y2 : Int) : List (Pl × LV) := [(.T 0, .t (.val false [.sl .any 131 (.pair .str (.sl 3 (.int .i64))) y0])), (.T 3, .t (.val false [.row 3 0 0])), (.R 3 0, .r 0 (some ⟨false, .non, true, 85, (.pair .str (.sl 3 (.int .i64))), y1⟩)), (.T 4, .t (.val false [.int .i64 y2]))]
noncomputable def g_Sw_toStoItemS_0 (y0 : List ((ByteArray) × (List (Int)))) : ((List ((ByteArray) × (List (Int)))) × (Int)) → RT ((List ((ByteArray) × (List (Int)))) × (Int)) (((List ((ByteArray) × (List (Int))))))
  | (y1, y2) => .br (true) (.br (decide (y2 < (↑(List.length y0) : Int))) (.br (decide ((0 : Int) ≤ y2 ∧ y2 < (↑(List.length y0) : Int))) (.br (g_Aw_toStoItem (at_ (Ty.pair Ty.str (Ty.sl (nat_lit 3) (Ty.int IntKind.i64))) y0 (Int.toNat y2)).1 (at_ (Ty.pair Ty.str (Ty.sl (nat_lit 3) (Ty.int IntKind.i64))) y0 (Int.toNat y2)).2) (.br (decide ((0 : Int) ≤ y2 ∧ y2 < (↑(List.length y1) : Int))) (.br (decide (Int.toNat y2 < List.length y1)) (.br (true) (.go ((List.set y1 (Int.toNat y2) ((at_ (Ty.pair Ty.str (Ty.sl (nat_lit 3) (Ty.int IntKind.i64))) y0 (Int.toNat y2)).1, g_Vw_toIntS_0 (at_ (Ty.pair Ty.str (Ty.sl (nat_lit 3) (Ty.int IntKind.i64))) y0 (Int.toNat y2)).2), IntKind.wrap IntKind.i64 (y2 + (1 : Int))))) (.bad)) (.bad)) (.bad)) (.bad)) (.bad)) (.out (y1))) (.bad)
noncomputable def g_Lw_toStoItemS_0 (y0 : List ((ByteArray) × (List (Int)))) (x : (List ((ByteArray) × (List (Int)))) × (Int)) : Option (((List ((ByteArray) × (List (Int)))))) := loopO (g_Sw_toStoItemS_0 y0) x
noncomputable def xw_toStoItemS_0 (y0 : List ((ByteArray) × (List (Int)))) : (((List ((ByteArray) × (List (Int)))))) → Ex × List (Pl × LV) := fun r => (.exit 0, [(.T 3, .t (.val false [.row 3 0 0])), (.R 3 0, .r 0 (some ⟨false, .non, true, 85, (.pair .str (.sl 3 (.int .i64))), r⟩))])
noncomputable def Ow_toStoItemS_1 : Orc := fun b h => match b, h with
  | 0, [(.T 0, .t (.val false [.sl .any 131 (.pair .str (.sl 3 (.int .i64))) y0])), (.T 3, .t (.val false [.row 3 0 0])), (.R 3 0, .r 0 (some ⟨false, .non, true, 85, (.pair .str (.sl 3 (.int .i64))), y1⟩)), (.T 4, .t (.val false [.int .i64 y2]))] => some (okO (g_Lw_toStoItemS_0 y0 (y1, y2)), (.leaf (.exit 0) [(.T 3, .t (.val false [.row 3 0 0])), (.R 3 0, .r 0 (some ⟨false, .non, true, 85, (.pair .str (.sl 3 (.int .i64))), (valO (g_Lw_toStoItemS_0 y0 (y1, y2)))⟩))]))
  | b, h => Ow_toStoItemS_0 b h
theorem bw_toStoItemS_0 (y0 : List ((ByteArray) × (List (Int)))) (y1 : List ((ByteArray) × (List (Int)))) (y2 : Int) : Tr.bt Ew_toStoItemS Ow_toStoItemS_0 (exec Ew_toStoItemS 0 cw_toStoItemS_0 (St.of (hw_toStoItemS_0 y0 y1 y2)) (leafRd Ew_toStoItemS 0)) = (g_Sw_toStoItemS_0 y0 (y1, y2)).bt (fun ((y1, y2) : (List ((ByteArray) × (List (Int)))) × (Int)) => (hw_toStoItemS_0 y0 y1 y2)) (xw_toStoItemS_0 y0) := by kernel_rfl
theorem kw_toStoItemS_1 : OrcOk Ew_toStoItemS Ow_toStoItemS_1 lsw_toStoItemS 1 := orc_add kw_toStoItemS_0 (fun n p hp h ex h' ho => by
  obtain ⟨b, c⟩ := p
  obtain ⟨xt, h1, h2⟩ := ho
  have h1 : Ow_toStoItemS_1 b h = some (true, xt) := h1
  unfold Ow_toStoItemS_1 at h1
  split at h1
  · injection h1 with h1
    injection h1 with e1 e2
    subst e2
    have hc : c = cw_toStoItemS_0 := mw_toStoItemS_0 _ hp rfl
    subst hc
    right
    rename_i y0 y1 y2
    have key := LT_step kw_toStoItemS_0 hp (fun q hq => loopsAll_in _ _ _ _ hp hq) (fun ((y1, y2) : (List ((ByteArray) × (List (Int)))) × (Int)) => (hw_toStoItemS_0 y0 y1 y2)) (xw_toStoItemS_0 y0) (g_Sw_toStoItemS_0 y0) (fun x => by first | exact bw_toStoItemS_0 y0 x.1 x.2) n (x := (y1, y2)) (okO_some e1)
    have hx : ∀ r, XT.sel (.leaf (.exit 0) [(.T 3, .t (.val false [.row 3 0 0])), (.R 3 0, .r 0 (some ⟨false, .non, true, 85, (.pair .str (.sl 3 (.int .i64))), r⟩))]) = xw_toStoItemS_0 y0 r := fun r => by first | rfl | (rcases r with r | r <;> rfl) | (rcases r with r | r | r <;> rfl) | (rcases r with r | r | r | r <;> rfl)
    have h3 := (hx (valO (g_Lw_toStoItemS_0 y0 (y1, y2)))).symm.trans h2
    have e3 := congrArg Prod.fst h3
    have e4 := congrArg Prod.snd h3
    simp only at e3 e4
    rw [← e3, ← e4]
    exact key
  · exact .inl ⟨xt, h1, h2⟩)
noncomputable def g_Aw_toStoItemS (a0 : List ((ByteArray) × (List (Int)))) : Bool := decide ((↑(List.length a0) : Int) = (↑(List.length a0) : Int) ∧ (0 : Int) ≤ (↑(List.length a0) : Int) ∧ (↑(List.length a0) : Int) ≤ (9223372036854775807 : Int) ∧ (40 : Int) * (↑(List.length a0) : Int) ≤ (281474976710656 : Int)) && okO (g_Lw_toStoItemS_0 a0 (List.replicate (Int.toNat (↑(List.length a0) : Int)) (lit [], []), (0 : Int)))
noncomputable def g_Vw_toStoItemS_0 (a0 : List ((ByteArray) × (List (Int)))) : List ((ByteArray) × (List (Int))) := valO (g_Lw_toStoItemS_0 a0 (List.replicate (Int.toNat (↑(List.length a0) : Int)) (lit [], []), (0 : Int)))
noncomputable def Fw_toStoItemS : FSem := fun ys => match ys with
  | [.val false [.sl .any 131 (.pair .str (.sl 3 (.int .i64))) a0]] => some ((g_Aw_toStoItemS a0), .val false [.own .any true 85 (.pair .str (.sl 3 (.int .i64))) (g_Vw_toStoItemS_0 a0)], [])
  | _ => none
theorem vw_toStoItemS (a0 : List ((ByteArray) × (List (Int)))) : collapseH .std Ew_toStoItemS Ow_toStoItemS_1 (execFn Ew_toStoItemS Go.Proofs.Tryd.f57 msw_toStoItemS [.val false [.sl .any 131 (.pair .str (.sl 3 (.int .i64))) a0]]) = some ((g_Aw_toStoItemS a0), .val false [.own .any true 85 (.pair .str (.sl 3 (.int .i64))) (g_Vw_toStoItemS_0 a0)], []) := by kernel_rfl
theorem sw_toStoItemS : Sound Go.Proofs.Tryd.prog 57 msw_toStoItemS Fw_toStoItemS := by
  refine fn_gen goodw_toStoItemS (by kernel_rfl) .std (fn := Go.Proofs.Tryd.f57) (c := (Go.Proofs.Tryd.f57.body.getD .skip)) (o := Ow_toStoItemS_1) (k := 1) (by kernel_rfl) (by kernel_rfl) (by kernel_rfl) (by kernel_rfl) (by decide) kw_toStoItemS_1 ?_
  intro ys r outs h
  unfold Fw_toStoItemS at h
  split at h
  · exact (vw_toStoItemS _).trans h
  · cases h
end Go.Proofs.YtibafhmmnoijkaaDoor.E
end
section
namespace Go.Proofs.YtibafhmmnoijkaaDoor.E
open Go
set_option maxRecDepth 100000
set_option maxHeartbeats 0
set_option linter.all false
noncomputable def Ew_toStoStore : Env where
  tt := mkTI Go.Proofs.Tryd.prog
  fn := fun f => match f with
    | 57 => some (msw_toStoItemS, FSem.wk msw_toStoItemS Fw_toStoItemS)
    | _ => none
  bxf := fun _ => none
  mv := []
  keep := fun _ => []
  keepB := fun _ => []
  keepX := fun _ => []
  keepXB := fun _ => []
theorem goodFw_toStoStore : ∀ f ms F, Ew_toStoStore.fn f = some (ms, F) → Sound Go.Proofs.Tryd.prog f ms F := fun f ms F h => by
  unfold Ew_toStoStore at h
  dsimp only at h
  split at h
  · injection h with h; injection h with e1 e2; subst e1 e2; exact Sound.wk sw_toStoItemS
  · cases h
theorem goodBw_toStoStore : ∀ f ms F, Ew_toStoStore.bxf f = some (ms, F) → SoundB Go.Proofs.Tryd.prog f ms F := fun f ms F h => by cases h
theorem goodw_toStoStore : Good Go.Proofs.Tryd.prog Ew_toStoStore := ⟨rfl, goodFw_toStoStore, goodBw_toStoStore⟩
noncomputable def Ow_toStoStore_0 : Orc := fun _ _ => none
noncomputable def msw_toStoStore : List PM := [.rd]
noncomputable def lsw_toStoStore : List (Nat × Code) := loopsAll 0 (Go.Proofs.Tryd.f16.body.getD .skip)

theorem kw_toStoStore_0 : OrcOk Ew_toStoStore Ow_toStoStore_0 lsw_toStoStore 0 := orcOk_none
noncomputable def g_Aw_toStoStore (a0 : List ((ByteArray) × (List (Int)))) : Bool := g_Aw_toStoItemS a0
noncomputable def Fw_toStoStore : FSem := fun ys => match ys with
  | [.val true [.sl .any 131 (.pair .str (.sl 3 (.int .i64))) a0]] => some ((g_Aw_toStoStore a0), .val true [.own .any true 85 (.pair .str (.sl 3 (.int .i64))) (g_Vw_toStoItemS_0 a0)], [])
  | _ => none
theorem vw_toStoStore (a0 : List ((ByteArray) × (List (Int)))) : collapseH .std Ew_toStoStore Ow_toStoStore_0 (execFn Ew_toStoStore Go.Proofs.Tryd.f16 msw_toStoStore [.val true [.sl .any 131 (.pair .str (.sl 3 (.int .i64))) a0]]) = some ((g_Aw_toStoStore a0), .val true [.own .any true 85 (.pair .str (.sl 3 (.int .i64))) (g_Vw_toStoItemS_0 a0)], []) := by kernel_rfl
theorem sw_toStoStore : Sound Go.Proofs.Tryd.prog 16 msw_toStoStore Fw_toStoStore := by
  refine fn_gen goodw_toStoStore (by kernel_rfl) .std (fn := Go.Proofs.Tryd.f16) (c := (Go.Proofs.Tryd.f16.body.getD .skip)) (o := Ow_toStoStore_0) (k := 0) (by kernel_rfl) (by kernel_rfl) (by kernel_rfl) (by kernel_rfl) (by decide) kw_toStoStore_0 ?_
  intro ys r outs h
  unfold Fw_toStoStore at h
  split at h
  · exact (vw_toStoStore _).trans h
  · cases h
end Go.Proofs.YtibafhmmnoijkaaDoor.E
end
section
namespace Go.Proofs.YtibafhmmnoijkaaDoor.E
open Go
set_option maxRecDepth 100000
set_option maxHeartbeats 0
set_option linter.all false
noncomputable def Ew_FnExactStoGet : Env where
  tt := mkTI Go.Proofs.Tryd.prog
  fn := fun f => match f with
    | 14 => some (msw_szStoStore, FSem.wk msw_szStoStore Fw_szStoStore)
    | 15 => some (mss_StoGet, FSem.wk mss_StoGet Fs_StoGet)
    | 16 => some (msw_toStoStore, FSem.wk msw_toStoStore Fw_toStoStore)
    | 17 => some (msi_StoGet, FSem.wk msi_StoGet Fi_StoGet)
    | 18 => some (msw_eqIntS, FSem.wk msw_eqIntS Fw_eqIntS)
    | 19 => some (msw_eqStoStore, FSem.wk msw_eqStoStore Fw_eqStoStore)
    | 20 => some (msw_markStoStore, FSem.wk msw_markStoStore Fw_markStoStore)
    | 21 => some (msw_markIntS, FSem.wk msw_markIntS Fw_markIntS)
    | 22 => some (msw_heldIntS, FSem.wk msw_heldIntS Fw_heldIntS)
    | _ => none
  bxf := fun _ => none
  mv := []
  keep := fun _ => []
  keepB := fun _ => []
  keepX := fun _ => []
  keepXB := fun _ => []
theorem goodFw_FnExactStoGet : ∀ f ms F, Ew_FnExactStoGet.fn f = some (ms, F) → Sound Go.Proofs.Tryd.prog f ms F := fun f ms F h => by
  unfold Ew_FnExactStoGet at h
  dsimp only at h
  split at h
  · injection h with h; injection h with e1 e2; subst e1 e2; exact Sound.wk sw_szStoStore
  · injection h with h; injection h with e1 e2; subst e1 e2; exact Sound.wk ss_StoGet
  · injection h with h; injection h with e1 e2; subst e1 e2; exact Sound.wk sw_toStoStore
  · injection h with h; injection h with e1 e2; subst e1 e2; exact Sound.wk si_StoGet
  · injection h with h; injection h with e1 e2; subst e1 e2; exact Sound.wk sw_eqIntS
  · injection h with h; injection h with e1 e2; subst e1 e2; exact Sound.wk sw_eqStoStore
  · injection h with h; injection h with e1 e2; subst e1 e2; exact Sound.wk sw_markStoStore
  · injection h with h; injection h with e1 e2; subst e1 e2; exact Sound.wk sw_markIntS
  · injection h with h; injection h with e1 e2; subst e1 e2; exact Sound.wk sw_heldIntS
  · cases h
theorem goodBw_FnExactStoGet : ∀ f ms F, Ew_FnExactStoGet.bxf f = some (ms, F) → SoundB Go.Proofs.Tryd.prog f ms F := fun f ms F h => by cases h
theorem goodw_FnExactStoGet : Good Go.Proofs.Tryd.prog Ew_FnExactStoGet := ⟨rfl, goodFw_FnExactStoGet, goodBw_FnExactStoGet⟩
noncomputable def Ow_FnExactStoGet_0 : Orc := fun _ _ => none
noncomputable def msw_FnExactStoGet : List PM := [.rd, .own]
noncomputable def lsw_FnExactStoGet : List (Nat × Code) := loopsAll 0 (Go.Proofs.Tryd.f3.body.getD .skip)

theorem kw_FnExactStoGet_0 : OrcOk Ew_FnExactStoGet Ow_FnExactStoGet_0 lsw_FnExactStoGet 0 := orcOk_none
noncomputable def g_Aw_FnExactStoGet (a0 : List ((ByteArray) × (List (Int)))) (a1 : ByteArray) : Bool := decide ((↑(ByteArray.size a1) : Int) > (1048576 : Int)) || g_Aw_szStoStore a0 (1048576 : Int) && (decide (g_Vw_szStoStore_0 a0 (1048576 : Int) < (0 : Int)) || g_Aw_toStoStore a0 && (g_As_StoGet (g_Vw_toStoItemS_0 a0) a1 && (g_Aw_toStoStore a0 && (g_Ai_StoGet (g_Vw_toStoItemS_0 a0) a1 && (g_Aw_eqIntS (g_Vi_StoGet_0 (g_Vw_toStoItemS_0 a0) a1) (g_Vs_StoGet_0 (g_Vw_toStoItemS_0 a0) a1) && (!g_Vw_eqIntS_0 (g_Vi_StoGet_0 (g_Vw_toStoItemS_0 a0) a1) (g_Vs_StoGet_0 (g_Vw_toStoItemS_0 a0) a1) || (!g_Vi_StoGet_1 (g_Vw_toStoItemS_0 a0) a1 == g_Vs_StoGet_1 (g_Vw_toStoItemS_0 a0) a1 || g_Aw_toStoStore a0 && (g_Aw_eqStoStore (g_Vw_toStoItemS_0 a0) (g_Vw_toStoItemS_0 a0) && (!g_Vw_eqStoStore_0 (g_Vw_toStoItemS_0 a0) (g_Vw_toStoItemS_0 a0) || g_Aw_markStoStore (g_Vw_toStoItemS_0 a0) (1 : Int) && (decide (g_Vw_markStoItemS_0 (g_Vw_toStoItemS_0 a0) (1 : Int) < (0 : Int)) || g_Aw_eqIntS (g_Vi_StoGet_0 (g_Vw_toStoItemS_0 a0) a1) (g_Vs_StoGet_0 (g_Vw_toStoItemS_0 a0) a1) && (!g_Vw_eqIntS_0 (g_Vi_StoGet_0 (g_Vw_toStoItemS_0 a0) a1) (g_Vs_StoGet_0 (g_Vw_toStoItemS_0 a0) a1) || (!g_Vi_StoGet_1 (g_Vw_toStoItemS_0 a0) a1 == g_Vs_StoGet_1 (g_Vw_toStoItemS_0 a0) a1 || g_Aw_markIntS (g_Vi_StoGet_0 (g_Vw_toStoItemS_0 a0) a1) (1 : Int) && (g_Aw_heldIntS (g_Vw_markIntS_1 (g_Vi_StoGet_0 (g_Vw_toStoItemS_0 a0) a1) (1 : Int)) (1 : Int) && (decide (g_Vw_heldIntS_0 (g_Vw_markIntS_1 (g_Vi_StoGet_0 (g_Vw_toStoItemS_0 a0) a1) (1 : Int)) (1 : Int) < (0 : Int)) || (g_Vw_heldIntS_0 (g_Vw_markIntS_1 (g_Vi_StoGet_0 (g_Vw_toStoItemS_0 a0) a1) (1 : Int)) (1 : Int) != g_Vw_markIntS_0 (g_Vi_StoGet_0 (g_Vw_toStoItemS_0 a0) a1) (1 : Int) || g_Aw_toStoStore a0 && (g_Ai_StoGet (g_Vw_toStoItemS_0 a0) a1 && (g_Aw_eqIntS (g_Vi_StoGet_0 (g_Vw_toStoItemS_0 a0) a1) (g_Vs_StoGet_0 (g_Vw_toStoItemS_0 a0) a1) && (!g_Vw_eqIntS_0 (g_Vi_StoGet_0 (g_Vw_toStoItemS_0 a0) a1) (g_Vs_StoGet_0 (g_Vw_toStoItemS_0 a0) a1) || (!g_Vi_StoGet_1 (g_Vw_toStoItemS_0 a0) a1 == g_Vs_StoGet_1 (g_Vw_toStoItemS_0 a0) a1 || g_Aw_heldIntS (g_Vw_markIntS_1 (g_Vi_StoGet_0 (g_Vw_toStoItemS_0 a0) a1) (1 : Int)) (1 : Int) && (decide (g_Vw_heldIntS_0 (g_Vw_markIntS_1 (g_Vi_StoGet_0 (g_Vw_toStoItemS_0 a0) a1) (1 : Int)) (1 : Int) < (0 : Int)) || true))))))))))))))))))))
noncomputable def g_Vw_FnExactStoGet_0 (a0 : List ((ByteArray) × (List (Int)))) (a1 : ByteArray) : Bool := bif decide ((↑(ByteArray.size a1) : Int) > (1048576 : Int)) then true else bif decide (g_Vw_szStoStore_0 a0 (1048576 : Int) < (0 : Int)) then true else bif !g_Vw_eqIntS_0 (g_Vi_StoGet_0 (g_Vw_toStoItemS_0 a0) a1) (g_Vs_StoGet_0 (g_Vw_toStoItemS_0 a0) a1) then false else bif !g_Vi_StoGet_1 (g_Vw_toStoItemS_0 a0) a1 == g_Vs_StoGet_1 (g_Vw_toStoItemS_0 a0) a1 then false else bif !g_Vw_eqStoStore_0 (g_Vw_toStoItemS_0 a0) (g_Vw_toStoItemS_0 a0) then false else bif decide (g_Vw_markStoItemS_0 (g_Vw_toStoItemS_0 a0) (1 : Int) < (0 : Int)) then false else bif !g_Vw_eqIntS_0 (g_Vi_StoGet_0 (g_Vw_toStoItemS_0 a0) a1) (g_Vs_StoGet_0 (g_Vw_toStoItemS_0 a0) a1) then false else bif !g_Vi_StoGet_1 (g_Vw_toStoItemS_0 a0) a1 == g_Vs_StoGet_1 (g_Vw_toStoItemS_0 a0) a1 then false else bif decide (g_Vw_heldIntS_0 (g_Vw_markIntS_1 (g_Vi_StoGet_0 (g_Vw_toStoItemS_0 a0) a1) (1 : Int)) (1 : Int) < (0 : Int)) then false else bif g_Vw_heldIntS_0 (g_Vw_markIntS_1 (g_Vi_StoGet_0 (g_Vw_toStoItemS_0 a0) a1) (1 : Int)) (1 : Int) != g_Vw_markIntS_0 (g_Vi_StoGet_0 (g_Vw_toStoItemS_0 a0) a1) (1 : Int) then false else bif !g_Vw_eqIntS_0 (g_Vi_StoGet_0 (g_Vw_toStoItemS_0 a0) a1) (g_Vs_StoGet_0 (g_Vw_toStoItemS_0 a0) a1) then false else bif !g_Vi_StoGet_1 (g_Vw_toStoItemS_0 a0) a1 == g_Vs_StoGet_1 (g_Vw_toStoItemS_0 a0) a1 then false else bif decide (g_Vw_heldIntS_0 (g_Vw_markIntS_1 (g_Vi_StoGet_0 (g_Vw_toStoItemS_0 a0) a1) (1 : Int)) (1 : Int) < (0 : Int)) then false else bif g_Vw_heldIntS_0 (g_Vw_markIntS_1 (g_Vi_StoGet_0 (g_Vw_toStoItemS_0 a0) a1) (1 : Int)) (1 : Int) != g_Vw_markIntS_0 (g_Vi_StoGet_0 (g_Vw_toStoItemS_0 a0) a1) (1 : Int) then false else true
noncomputable def Fw_FnExactStoGet : FSem := fun ys => match ys with
  | [.val true [.sl .any 131 (.pair .str (.sl 3 (.int .i64))) a0], .val false [.str a1]] => some ((g_Aw_FnExactStoGet a0 a1), .val false [.bool (g_Vw_FnExactStoGet_0 a0 a1)], [])
  | _ => none
theorem vw_FnExactStoGet (a0 : List ((ByteArray) × (List (Int)))) (a1 : ByteArray) : collapseH .std Ew_FnExactStoGet Ow_FnExactStoGet_0 (execFn Ew_FnExactStoGet Go.Proofs.Tryd.f3 msw_FnExactStoGet [.val true [.sl .any 131 (.pair .str (.sl 3 (.int .i64))) a0], .val false [.str a1]]) = some ((g_Aw_FnExactStoGet a0 a1), .val false [.bool (g_Vw_FnExactStoGet_0 a0 a1)], []) := by kernel_rfl
theorem sw_FnExactStoGet : Sound Go.Proofs.Tryd.prog 3 msw_FnExactStoGet Fw_FnExactStoGet := by
  refine fn_gen goodw_FnExactStoGet (by kernel_rfl) .std (fn := Go.Proofs.Tryd.f3) (c := (Go.Proofs.Tryd.f3.body.getD .skip)) (o := Ow_FnExactStoGet_0) (k := 0) (by kernel_rfl) (by kernel_rfl) (by kernel_rfl) (by kernel_rfl) (by decide) kw_FnExactStoGet_0 ?_
  intro ys r outs h
  unfold Fw_FnExactStoGet at h
  split at h
  · exact (vw_FnExactStoGet _ _).trans h
  · cases h
end Go.Proofs.YtibafhmmnoijkaaDoor.E
end
section
namespace Go.Proofs.YtibafhmmnoijkaaDoor.E
open Go
set_option maxRecDepth 100000
set_option maxHeartbeats 0
set_option linter.all false
noncomputable def Ei_WrtOk : Env where
  tt := mkTI Go.Proofs.Tryd.prog
  fn := fun f => match f with
    | 109 => some (msi_keyOk, FSem.wk msi_keyOk Fi_keyOk)
    | 110 => some (msi_valOk, FSem.wk msi_valOk Fi_valOk)
    | _ => none
  bxf := fun _ => none
  mv := []
  keep := fun _ => []
  keepB := fun _ => []
  keepX := fun _ => []
  keepXB := fun _ => []
theorem goodFi_WrtOk : ∀ f ms F, Ei_WrtOk.fn f = some (ms, F) → Sound Go.Proofs.Tryd.prog f ms F := fun f ms F h => by
  unfold Ei_WrtOk at h
  dsimp only at h
  split at h
  · injection h with h; injection h with e1 e2; subst e1 e2; exact Sound.wk si_keyOk
  · injection h with h; injection h with e1 e2; subst e1 e2; exact Sound.wk si_valOk
  · cases h
theorem goodBi_WrtOk : ∀ f ms F, Ei_WrtOk.bxf f = some (ms, F) → SoundB Go.Proofs.Tryd.prog f ms F := fun f ms F h => by cases h
theorem goodi_WrtOk : Good Go.Proofs.Tryd.prog Ei_WrtOk := ⟨rfl, goodFi_WrtOk, goodBi_WrtOk⟩
noncomputable def Oi_WrtOk_0 : Orc := fun _ _ => none
noncomputable def msi_WrtOk : List PM := [.rd]
noncomputable def lsi_WrtOk : List (Nat × Code) := loopsAll 0 (Go.Proofs.Tryd.f75.body.getD .skip)

theorem ki_WrtOk_0 : OrcOk Ei_WrtOk Oi_WrtOk_0 lsi_WrtOk 0 := orcOk_none
noncomputable def g_Ai_WrtOk (a0 : ByteArray) (a1 : Bool) (a2 : List (Int)) : Bool := bif a1 then g_Ai_keyOk a0 && (!g_Vi_keyOk_0 a0 || true) else g_Ai_keyOk a0 && (!g_Vi_keyOk_0 a0 || g_Ai_valOk a2)
noncomputable def g_Vi_WrtOk_0 (a0 : ByteArray) (a1 : Bool) (a2 : List (Int)) : Bool := bif a1 then bif g_Vi_keyOk_0 a0 then (↑(List.length a2) : Int) == (0 : Int) else false else bif g_Vi_keyOk_0 a0 then g_Vi_valOk_0 a2 else false
noncomputable def Fi_WrtOk : FSem := fun ys => match ys with
  | [.val true [.str a0, .bool a1, .sl .any 3 (.int .i64) a2]] => some ((g_Ai_WrtOk a0 a1 a2), .val false [.bool (g_Vi_WrtOk_0 a0 a1 a2)], [])
  | _ => none
theorem vi_WrtOk (a0 : ByteArray) (a1 : Bool) (a2 : List (Int)) : collapseH .std Ei_WrtOk Oi_WrtOk_0 (execFn Ei_WrtOk Go.Proofs.Tryd.f75 msi_WrtOk [.val true [.str a0, .bool a1, .sl .any 3 (.int .i64) a2]]) = some ((g_Ai_WrtOk a0 a1 a2), .val false [.bool (g_Vi_WrtOk_0 a0 a1 a2)], []) := by kernel_rfl
theorem si_WrtOk : Sound Go.Proofs.Tryd.prog 75 msi_WrtOk Fi_WrtOk := by
  refine fn_gen goodi_WrtOk (by kernel_rfl) .std (fn := Go.Proofs.Tryd.f75) (c := (Go.Proofs.Tryd.f75.body.getD .skip)) (o := Oi_WrtOk_0) (k := 0) (by kernel_rfl) (by kernel_rfl) (by kernel_rfl) (by kernel_rfl) (by decide) ki_WrtOk_0 ?_
  intro ys r outs h
  unfold Fi_WrtOk at h
  split at h
  · exact (vi_WrtOk _ _ _).trans h
  · cases h
end Go.Proofs.YtibafhmmnoijkaaDoor.E
end
section
namespace Go.Proofs.YtibafhmmnoijkaaDoor.E
open Go
set_option maxRecDepth 100000
set_option maxHeartbeats 0
set_option linter.all false
noncomputable def Es_WrtOk : Env where
  tt := mkTI Go.Proofs.Tryd.prog
  fn := fun f => match f with
    | 84 => some (mss_l1Key, FSem.wk mss_l1Key Fs_l1Key)
    | 101 => some (mss_l1Val, FSem.wk mss_l1Val Fs_l1Val)
    | _ => none
  bxf := fun _ => none
  mv := []
  keep := fun _ => []
  keepB := fun _ => []
  keepX := fun _ => []
  keepXB := fun _ => []
theorem goodFs_WrtOk : ∀ f ms F, Es_WrtOk.fn f = some (ms, F) → Sound Go.Proofs.Tryd.prog f ms F := fun f ms F h => by
  unfold Es_WrtOk at h
  dsimp only at h
  split at h
  · injection h with h; injection h with e1 e2; subst e1 e2; exact Sound.wk ss_l1Key
  · injection h with h; injection h with e1 e2; subst e1 e2; exact Sound.wk ss_l1Val
  · cases h
theorem goodBs_WrtOk : ∀ f ms F, Es_WrtOk.bxf f = some (ms, F) → SoundB Go.Proofs.Tryd.prog f ms F := fun f ms F h => by cases h
theorem goods_WrtOk : Good Go.Proofs.Tryd.prog Es_WrtOk := ⟨rfl, goodFs_WrtOk, goodBs_WrtOk⟩
noncomputable def Os_WrtOk_0 : Orc := fun _ _ => none
noncomputable def mss_WrtOk : List PM := [.rd]
noncomputable def lss_WrtOk : List (Nat × Code) := loopsAll 0 (Go.Proofs.Tryd.f51.body.getD .skip)

theorem ks_WrtOk_0 : OrcOk Es_WrtOk Os_WrtOk_0 lss_WrtOk 0 := orcOk_none
noncomputable def g_As_WrtOk (a0 : ByteArray) (a1 : Bool) (a2 : List (Int)) : Bool := bif a1 then g_As_l1Key a0 && (!g_Vs_l1Key_0 a0 || true) else g_As_l1Key a0 && (!g_Vs_l1Key_0 a0 || g_As_l1Val a2)
noncomputable def g_Vs_WrtOk_0 (a0 : ByteArray) (a1 : Bool) (a2 : List (Int)) : Bool := bif a1 then bif g_Vs_l1Key_0 a0 then (↑(List.length a2) : Int) == (0 : Int) else false else bif g_Vs_l1Key_0 a0 then g_Vs_l1Val_0 a2 else false
noncomputable def Fs_WrtOk : FSem := fun ys => match ys with
  | [.val true [.str a0, .bool a1, .sl .any 3 (.int .i64) a2]] => some ((g_As_WrtOk a0 a1 a2), .val false [.bool (g_Vs_WrtOk_0 a0 a1 a2)], [])
  | _ => none
theorem vs_WrtOk (a0 : ByteArray) (a1 : Bool) (a2 : List (Int)) : collapseH .std Es_WrtOk Os_WrtOk_0 (execFn Es_WrtOk Go.Proofs.Tryd.f51 mss_WrtOk [.val true [.str a0, .bool a1, .sl .any 3 (.int .i64) a2]]) = some ((g_As_WrtOk a0 a1 a2), .val false [.bool (g_Vs_WrtOk_0 a0 a1 a2)], []) := by kernel_rfl
theorem ss_WrtOk : Sound Go.Proofs.Tryd.prog 51 mss_WrtOk Fs_WrtOk := by
  refine fn_gen goods_WrtOk (by kernel_rfl) .std (fn := Go.Proofs.Tryd.f51) (c := (Go.Proofs.Tryd.f51.body.getD .skip)) (o := Os_WrtOk_0) (k := 0) (by kernel_rfl) (by kernel_rfl) (by kernel_rfl) (by kernel_rfl) (by decide) ks_WrtOk_0 ?_
  intro ys r outs h
  unfold Fs_WrtOk at h
  split at h
  · exact (vs_WrtOk _ _ _).trans h
  · cases h
end Go.Proofs.YtibafhmmnoijkaaDoor.E
end
