/- What the functions that are reached do, by the engine: for the proof (laws.FnGloOk): part 1. No conditions. -/
import Derived.Test.YtnbcdkbjmpadmaaDoorEc
import Derived.Test.YtnbcdkbjmpadmaaDoorProg
import Derived.Test.YtnbcdkbjmpadmaaDoorShelf
set_option linter.all false
section
namespace Go.Proofs.YtnbcdkbjmpadmaaDoor.E
open Go
set_option maxRecDepth 100000
set_option maxHeartbeats 0
set_option linter.all false
noncomputable def Ei_GloNew : Env where
  tt := mkTI Go.Proofs.Tryd.prog
  fn := fun _ => none
  bxf := fun _ => none
  mv := []
  keep := fun _ => []
  keepB := fun _ => []
  keepX := fun _ => []
  keepXB := fun _ => []
theorem goodFi_GloNew : ∀ f ms F, Ei_GloNew.fn f = some (ms, F) → Sound Go.Proofs.Tryd.prog f ms F := fun f ms F h => by cases h
theorem goodBi_GloNew : ∀ f ms F, Ei_GloNew.bxf f = some (ms, F) → SoundB Go.Proofs.Tryd.prog f ms F := fun f ms F h => by cases h
theorem goodi_GloNew : Good Go.Proofs.Tryd.prog Ei_GloNew := ⟨rfl, goodFi_GloNew, goodBi_GloNew⟩
noncomputable def Oi_GloNew_0 : Orc := fun _ _ => none
noncomputable def msi_GloNew : List PM := []
noncomputable def lsi_GloNew : List (Nat × Code) := loopsAll 0 (Go.Proofs.Tryd.f7.body.getD .skip)

theorem ki_GloNew_0 : OrcOk Ei_GloNew Oi_GloNew_0 lsi_GloNew 0 := orcOk_none
noncomputable def g_Vi_GloNew_0 : List (List ((ByteArray) × (List (Int)))) := [[], [], []]
noncomputable def Fi_GloNew : FSem := fun ys => match ys with
  | [] => some (true, .val false [.own .any true 30 (.sl 42 (.pair .str (.sl 3 (.int .i64)))) g_Vi_GloNew_0], [])
  | _ => none
theorem vi_GloNew : collapseH .std Ei_GloNew Oi_GloNew_0 (execFn Ei_GloNew Go.Proofs.Tryd.f7 msi_GloNew []) = some (true, .val false [.own .any true 30 (.sl 42 (.pair .str (.sl 3 (.int .i64)))) g_Vi_GloNew_0], []) := by kernel_rfl
theorem si_GloNew : Sound Go.Proofs.Tryd.prog 7 msi_GloNew Fi_GloNew := by
  refine fn_gen goodi_GloNew (by kernel_rfl) .std (fn := Go.Proofs.Tryd.f7) (c := (Go.Proofs.Tryd.f7.body.getD .skip)) (o := Oi_GloNew_0) (k := 0) (by kernel_rfl) (by kernel_rfl) (by kernel_rfl) (by kernel_rfl) (by decide) ki_GloNew_0 ?_
  intro ys r outs h
  unfold Fi_GloNew at h
  split at h
  · exact (vi_GloNew).trans h
  · cases h
end Go.Proofs.YtnbcdkbjmpadmaaDoor.E
end
section
namespace Go.Proofs.YtnbcdkbjmpadmaaDoor.E
open Go
set_option maxRecDepth 100000
set_option maxHeartbeats 0
set_option linter.all false
noncomputable def Ei_in : Env where
  tt := mkTI Go.Proofs.Tryd.prog
  fn := fun _ => none
  bxf := fun _ => none
  mv := []
  keep := fun _ => []
  keepB := fun _ => []
  keepX := fun _ => []
  keepXB := fun _ => []
theorem goodFi_in : ∀ f ms F, Ei_in.fn f = some (ms, F) → Sound Go.Proofs.Tryd.prog f ms F := fun f ms F h => by cases h
theorem goodBi_in : ∀ f ms F, Ei_in.bxf f = some (ms, F) → SoundB Go.Proofs.Tryd.prog f ms F := fun f ms F h => by cases h
theorem goodi_in : Good Go.Proofs.Tryd.prog Ei_in := ⟨rfl, goodFi_in, goodBi_in⟩
noncomputable def Oi_in_0 : Orc := fun _ _ => none
noncomputable def msi_in : List PM := [.own, .own, .own]
noncomputable def lsi_in : List (Nat × Code) := loopsAll 0 (Go.Proofs.Tryd.f32.body.getD .skip)

theorem ki_in_0 : OrcOk Ei_in Oi_in_0 lsi_in 0 := orcOk_none
noncomputable def g_Ai_in (a0 : Int) (a1 : Int) (a2 : Int) : Bool := !decide (a0 ≥ a1) || true
noncomputable def g_Vi_in_0 (a0 : Int) (a1 : Int) (a2 : Int) : Bool := bif decide (a0 ≥ a1) then decide (a0 ≤ a2) else false
noncomputable def Fi_in : FSem := fun ys => match ys with
  | [.val false [.int .i64 a0], .val false [.int .i64 a1], .val false [.int .i64 a2]] => some ((g_Ai_in a0 a1 a2), .val false [.bool (g_Vi_in_0 a0 a1 a2)], [])
  | _ => none
theorem vi_in (a0 : Int) (a1 : Int) (a2 : Int) : collapseH .std Ei_in Oi_in_0 (execFn Ei_in Go.Proofs.Tryd.f32 msi_in [.val false [.int .i64 a0], .val false [.int .i64 a1], .val false [.int .i64 a2]]) = some ((g_Ai_in a0 a1 a2), .val false [.bool (g_Vi_in_0 a0 a1 a2)], []) := by kernel_rfl
theorem si_in : Sound Go.Proofs.Tryd.prog 32 msi_in Fi_in := by
  refine fn_gen goodi_in (by kernel_rfl) .std (fn := Go.Proofs.Tryd.f32) (c := (Go.Proofs.Tryd.f32.body.getD .skip)) (o := Oi_in_0) (k := 0) (by kernel_rfl) (by kernel_rfl) (by kernel_rfl) (by kernel_rfl) (by decide) ki_in_0 ?_
  intro ys r outs h
  unfold Fi_in at h
  split at h
  · exact (vi_in _ _ _).trans h
  · cases h
end Go.Proofs.YtnbcdkbjmpadmaaDoor.E
end
section
namespace Go.Proofs.YtnbcdkbjmpadmaaDoor.E
open Go
set_option maxRecDepth 100000
set_option linter.all false
def msstrings_Trim : List PM := [.own, .own]
def g_trim (s c : ByteArray) : ByteArray := ⟨(Lib.trimS s.data.toList c.data.toList).toArray⟩
def g_ascii (c : ByteArray) : Bool := c.data.toList.all fun b => decide (b.toNat < 128)
def Fstrings_Trim : FSem := fun ys => match ys with
  | [.val false [.str s], .val false [.str c]] => some (decide (s.size ≤ 9223372036854775807) && (decide (c.size < 4294967281) && g_ascii c), .val false [.str (g_trim s c)], [])
  | _ => none
theorem sstrings_Trim : Sound Go.Proofs.Tryd.prog 45 msstrings_Trim Fstrings_Trim := by
  refine sound_plain (by simp [msstrings_Trim]) ⟨_, Tryd.func45, by kernel_rfl, by kernel_rfl⟩ (fun w ys r outs h => ?_)
  unfold Fstrings_Trim at h
  split at h
  · rename_i s c
    simp only [Option.some.injEq, Prod.mk.injEq, Bool.and_eq_true, decide_eq_true_eq] at h
    obtain ⟨⟨h1, h2, h3⟩, rfl, rfl⟩ := h
    refine ⟨rfl, [.string s, .string c], .string (g_trim s c), rfl, rfl, ?_⟩
    exact Tryd.strings_Trim_laid s c w h1 h2 (fun j b hb => by
      have := List.all_eq_true.1 h3 b (List.mem_of_getElem? hb)
      simpa using this)
  · cases h
end Go.Proofs.YtnbcdkbjmpadmaaDoor.E
end
section
namespace Go.Proofs.YtnbcdkbjmpadmaaDoor.E
open Go
set_option maxRecDepth 100000
set_option maxHeartbeats 0
set_option linter.all false
noncomputable def Ei_keyOk : Env where
  tt := mkTI Go.Proofs.Tryd.prog
  fn := fun f => match f with
    | 32 => some (msi_in, FSem.wk msi_in Fi_in)
    | 45 => some (msstrings_Trim, FSem.wk msstrings_Trim Fstrings_Trim)
    | _ => none
  bxf := fun _ => none
  mv := []
  keep := fun _ => []
  keepB := fun _ => []
  keepX := fun _ => []
  keepXB := fun _ => []
theorem goodFi_keyOk : ∀ f ms F, Ei_keyOk.fn f = some (ms, F) → Sound Go.Proofs.Tryd.prog f ms F := fun f ms F h => by
  unfold Ei_keyOk at h
  dsimp only at h
  split at h
  · injection h with h; injection h with e1 e2; subst e1 e2; exact Sound.wk si_in
  · injection h with h; injection h with e1 e2; subst e1 e2; exact Sound.wk sstrings_Trim
  · cases h
theorem goodBi_keyOk : ∀ f ms F, Ei_keyOk.bxf f = some (ms, F) → SoundB Go.Proofs.Tryd.prog f ms F := fun f ms F h => by cases h
theorem goodi_keyOk : Good Go.Proofs.Tryd.prog Ei_keyOk := ⟨rfl, goodFi_keyOk, goodBi_keyOk⟩
noncomputable def Oi_keyOk_0 : Orc := fun _ _ => none
noncomputable def msi_keyOk : List PM := [.own]
noncomputable def lsi_keyOk : List (Nat × Code) := loopsAll 0 (Go.Proofs.Tryd.f33.body.getD .skip)

theorem ki_keyOk_0 : OrcOk Ei_keyOk Oi_keyOk_0 lsi_keyOk 0 := orcOk_none
noncomputable def g_Ai_keyOk (a0 : ByteArray) : Bool := g_Ai_in (↑(ByteArray.size a0) : Int) (2 : Int) (3 : Int) && (!g_Vi_in_0 (↑(ByteArray.size a0) : Int) (2 : Int) (3 : Int) || decide ((0 : Int) ≤ (0 : Int) ∧ (0 : Int) < (↑(ByteArray.size a0) : Int)) && (g_Ai_in (IntKind.wrap IntKind.i64 (byteAt a0 (nat_lit 0))) (97 : Int) (122 : Int) && (!g_Vi_in_0 (IntKind.wrap IntKind.i64 (byteAt a0 (nat_lit 0))) (97 : Int) (122 : Int) || decide ((0 : Int) ≤ (1 : Int) ∧ (1 : Int) ≤ (↑(ByteArray.size a0) : Int)) && (decide (ByteArray.size (ByteArray.extract a0 (nat_lit 1) (ByteArray.size a0)) ≤ nat_lit 9223372036854775807) && g_ascii (lit [(48 : Nat), (49 : Nat), (50 : Nat), (51 : Nat), (52 : Nat), (53 : Nat), (54 : Nat), (55 : Nat), (56 : Nat), (57 : Nat)]) && true))))
noncomputable def g_Vi_keyOk_0 (a0 : ByteArray) : Bool := bif g_Vi_in_0 (↑(ByteArray.size a0) : Int) (2 : Int) (3 : Int) then bif g_Vi_in_0 (IntKind.wrap IntKind.i64 (byteAt a0 (nat_lit 0))) (97 : Int) (122 : Int) then ByteArray.toList (g_trim (ByteArray.extract a0 (nat_lit 1) (ByteArray.size a0)) (lit [(48 : Nat), (49 : Nat), (50 : Nat), (51 : Nat), (52 : Nat), (53 : Nat), (54 : Nat), (55 : Nat), (56 : Nat), (57 : Nat)])) == [] else false else false
noncomputable def Fi_keyOk : FSem := fun ys => match ys with
  | [.val false [.str a0]] => some ((g_Ai_keyOk a0), .val false [.bool (g_Vi_keyOk_0 a0)], [])
  | _ => none
theorem vi_keyOk (a0 : ByteArray) : collapseH .std Ei_keyOk Oi_keyOk_0 (execFn Ei_keyOk Go.Proofs.Tryd.f33 msi_keyOk [.val false [.str a0]]) = some ((g_Ai_keyOk a0), .val false [.bool (g_Vi_keyOk_0 a0)], []) := by kernel_rfl
theorem si_keyOk : Sound Go.Proofs.Tryd.prog 33 msi_keyOk Fi_keyOk := by
  refine fn_gen goodi_keyOk (by kernel_rfl) .std (fn := Go.Proofs.Tryd.f33) (c := (Go.Proofs.Tryd.f33.body.getD .skip)) (o := Oi_keyOk_0) (k := 0) (by kernel_rfl) (by kernel_rfl) (by kernel_rfl) (by kernel_rfl) (by decide) ki_keyOk_0 ?_
  intro ys r outs h
  unfold Fi_keyOk at h
  split at h
  · exact (vi_keyOk _).trans h
  · cases h
end Go.Proofs.YtnbcdkbjmpadmaaDoor.E
end
section
namespace Go.Proofs.YtnbcdkbjmpadmaaDoor.E
open Go
set_option maxRecDepth 100000
set_option maxHeartbeats 0
set_option linter.all false
noncomputable def Ei_valOk_1 : Env where
  tt := mkTI Go.Proofs.Tryd.prog
  fn := fun f => match f with
    | 32 => some (msi_in, FSem.wk msi_in Fi_in)
    | _ => none
  bxf := fun _ => none
  mv := []
  keep := fun _ => []
  keepB := fun _ => []
  keepX := fun _ => []
  keepXB := fun _ => []
theorem goodFi_valOk_1 : ∀ f ms F, Ei_valOk_1.fn f = some (ms, F) → Sound Go.Proofs.Tryd.prog f ms F := fun f ms F h => by
  unfold Ei_valOk_1 at h
  dsimp only at h
  split at h
  · injection h with h; injection h with e1 e2; subst e1 e2; exact Sound.wk si_in
  · cases h
theorem goodBi_valOk_1 : ∀ f ms F, Ei_valOk_1.bxf f = some (ms, F) → SoundB Go.Proofs.Tryd.prog f ms F := fun f ms F h => by cases h
theorem goodi_valOk_1 : Good Go.Proofs.Tryd.prog Ei_valOk_1 := ⟨rfl, goodFi_valOk_1, goodBi_valOk_1⟩
noncomputable def Oi_valOk_1_0 : Orc := fun _ _ => none
noncomputable def msi_valOk_1 : List PM := [.own]
noncomputable def lsi_valOk_1 : List (Nat × Code) := loopsAll 0 (Go.Proofs.Tryd.f47.body.getD .skip)

theorem ki_valOk_1_0 : OrcOk Ei_valOk_1 Oi_valOk_1_0 lsi_valOk_1 0 := orcOk_none
noncomputable def g_Ai_valOk_1 (a0 : Int) : Bool := g_Ai_in a0 (0 : Int) (9999 : Int)
noncomputable def g_Vi_valOk_1_0 (a0 : Int) : Bool := !g_Vi_in_0 a0 (0 : Int) (9999 : Int)
noncomputable def Fi_valOk_1 : FSem := fun ys => match ys with
  | [.val false [.int .i64 a0]] => some ((g_Ai_valOk_1 a0), .val false [.bool (g_Vi_valOk_1_0 a0)], [])
  | _ => none
theorem vi_valOk_1 (a0 : Int) : collapseH .std Ei_valOk_1 Oi_valOk_1_0 (execFn Ei_valOk_1 Go.Proofs.Tryd.f47 msi_valOk_1 [.val false [.int .i64 a0]]) = some ((g_Ai_valOk_1 a0), .val false [.bool (g_Vi_valOk_1_0 a0)], []) := by kernel_rfl
theorem si_valOk_1 : Sound Go.Proofs.Tryd.prog 47 msi_valOk_1 Fi_valOk_1 := by
  refine fn_gen goodi_valOk_1 (by kernel_rfl) .std (fn := Go.Proofs.Tryd.f47) (c := (Go.Proofs.Tryd.f47.body.getD .skip)) (o := Oi_valOk_1_0) (k := 0) (by kernel_rfl) (by kernel_rfl) (by kernel_rfl) (by kernel_rfl) (by decide) ki_valOk_1_0 ?_
  intro ys r outs h
  unfold Fi_valOk_1 at h
  split at h
  · exact (vi_valOk_1 _).trans h
  · cases h
end Go.Proofs.YtnbcdkbjmpadmaaDoor.E
end
section
namespace Go.Proofs.YtnbcdkbjmpadmaaDoor.E
open Go
set_option maxRecDepth 100000
set_option maxHeartbeats 0
set_option linter.all false
noncomputable def Eslices_IndexFunc_int_int__i_valOk_1 : Env where
  tt := mkTI Go.Proofs.Tryd.prog
  fn := fun f => match f with
    | 47 => some (msi_valOk_1, FSem.wk msi_valOk_1 Fi_valOk_1)
    | _ => none
  bxf := fun _ => none
  mv := []
  keep := fun b => match b with
    | 0 => [(0, false), (1, false), (7, false), (8, false)]
    | _ => []
  keepB := fun b => match b with
    | 0 => []
    | _ => []
  keepX := fun b => match b with
    | 0 => [(4, false)]
    | _ => []
  keepXB := fun b => match b with
    | 0 => []
    | _ => []
theorem goodFslices_IndexFunc_int_int__i_valOk_1 : ∀ f ms F, Eslices_IndexFunc_int_int__i_valOk_1.fn f = some (ms, F) → Sound Go.Proofs.Tryd.prog f ms F := fun f ms F h => by
  unfold Eslices_IndexFunc_int_int__i_valOk_1 at h
  dsimp only at h
  split at h
  · injection h with h; injection h with e1 e2; subst e1 e2; exact Sound.wk si_valOk_1
  · cases h
theorem goodBslices_IndexFunc_int_int__i_valOk_1 : ∀ f ms F, Eslices_IndexFunc_int_int__i_valOk_1.bxf f = some (ms, F) → SoundB Go.Proofs.Tryd.prog f ms F := fun f ms F h => by cases h
theorem goodslices_IndexFunc_int_int__i_valOk_1 : Good Go.Proofs.Tryd.prog Eslices_IndexFunc_int_int__i_valOk_1 := ⟨rfl, goodFslices_IndexFunc_int_int__i_valOk_1, goodBslices_IndexFunc_int_int__i_valOk_1⟩
noncomputable def Oslices_IndexFunc_int_int__i_valOk_1_0 : Orc := fun _ _ => none
noncomputable def msslices_IndexFunc_int_int__i_valOk_1 : List PM := [.rd, .rd]
noncomputable def lsslices_IndexFunc_int_int__i_valOk_1 : List (Nat × Code) := loopsAll 0 (Go.Proofs.Tryd.f58.body.getD .skip)
noncomputable def cslices_IndexFunc_int_int__i_valOk_1_0 : Code := (loopOf 0 (Go.Proofs.Tryd.f58.body.getD .skip)).getD .skip
theorem lseqslices_IndexFunc_int_int__i_valOk_1 : lsslices_IndexFunc_int_int__i_valOk_1 = [(0, cslices_IndexFunc_int_int__i_valOk_1_0)] := by kernel_rfl
theorem mslices_IndexFunc_int_int__i_valOk_1_0 : ∀ p, p ∈ lsslices_IndexFunc_int_int__i_valOk_1 → p.1 = 0 → p.2 = cslices_IndexFunc_int_int__i_valOk_1_0 := by
  intro p hp
  rw [lseqslices_IndexFunc_int_int__i_valOk_1] at hp
  simp only [List.mem_cons, List.not_mem_nil, or_false] at hp
  subst hp; simp
theorem kslices_IndexFunc_int_int__i_valOk_1_0 : OrcOk Eslices_IndexFunc_int_int__i_valOk_1 Oslices_IndexFunc_int_int__i_valOk_1_0 lsslices_IndexFunc_int_int__i_valOk_1 0 := orcOk_none
noncomputable def hslices_IndexFunc_int_int__i_valOk_1_0 (y0 : List (Int)) (y1 : Int) (y2 : Int) : List (Pl × LV) := [(.T 0, .t (.val false [.sl .any 3 (.int .i64) y0])), (.T 1, .t (.val false [.fn 47 []])), (.T 7, .t (.val false [.int .i64 y1])), (.T 8, .t (.val false [.int .i64 y2]))]
noncomputable def g_Sslices_IndexFunc_int_int__i_valOk_1_0 (y0 : List (Int)) (y1 : Int) : ((Int)) → RT ((Int)) (((Int)) ⊕ (Unit))
  | y2 => .br (true) (.br (decide (y2 < y1)) (.br (decide ((0 : Int) ≤ y2 ∧ y2 < (↑(List.length y0) : Int))) (.br (g_Ai_valOk_1 (at_ (Ty.int IntKind.i64) y0 (Int.toNat y2))) (.br (g_Vi_valOk_1_0 (at_ (Ty.int IntKind.i64) y0 (Int.toNat y2))) (.out (.inl y2)) (.br (true) (.go (IntKind.wrap IntKind.i64 (y2 + (1 : Int)))) (.bad))) (.bad)) (.bad)) (.out (.inr (())))) (.bad)
noncomputable def g_Lslices_IndexFunc_int_int__i_valOk_1_0 (y0 : List (Int)) (y1 : Int) (x : (Int)) : Option (((Int)) ⊕ (Unit)) := loopO (g_Sslices_IndexFunc_int_int__i_valOk_1_0 y0 y1) x
noncomputable def xslices_IndexFunc_int_int__i_valOk_1_0 (y0 : List (Int)) (y1 : Int) : (((Int)) ⊕ (Unit)) → Ex × List (Pl × LV) := fun
  | .inl r => (.ret, [(.T 4, .t (.val false [.int .i64 r]))])
  | .inr (r) => (.exit 0, [(.T 4, .t (.val false [.undef]))])
noncomputable def Oslices_IndexFunc_int_int__i_valOk_1_1 : Orc := fun b h => match b, h with
  | 0, [(.T 0, .t (.val false [.sl .any 3 (.int .i64) y0])), (.T 1, .t (.val false [.fn 47 []])), (.T 7, .t (.val false [.int .i64 y1])), (.T 8, .t (.val false [.int .i64 y2]))] => some (okO (g_Lslices_IndexFunc_int_int__i_valOk_1_0 y0 y1 y2), (.br (isL (valO (g_Lslices_IndexFunc_int_int__i_valOk_1_0 y0 y1 y2))) (.leaf .ret [(.T 4, .t (.val false [.int .i64 (getL (valO (g_Lslices_IndexFunc_int_int__i_valOk_1_0 y0 y1 y2)))]))]) (.leaf (.exit 0) [(.T 4, .t (.val false [.undef]))])))
  | b, h => Oslices_IndexFunc_int_int__i_valOk_1_0 b h
theorem bslices_IndexFunc_int_int__i_valOk_1_0 (y0 : List (Int)) (y1 : Int) (y2 : Int) : Tr.bt Eslices_IndexFunc_int_int__i_valOk_1 Oslices_IndexFunc_int_int__i_valOk_1_0 (exec Eslices_IndexFunc_int_int__i_valOk_1 0 cslices_IndexFunc_int_int__i_valOk_1_0 (St.of (hslices_IndexFunc_int_int__i_valOk_1_0 y0 y1 y2)) (leafRd Eslices_IndexFunc_int_int__i_valOk_1 0)) = (g_Sslices_IndexFunc_int_int__i_valOk_1_0 y0 y1 y2).bt (fun (y2 : (Int)) => (hslices_IndexFunc_int_int__i_valOk_1_0 y0 y1 y2)) (xslices_IndexFunc_int_int__i_valOk_1_0 y0 y1) := by kernel_rfl
theorem kslices_IndexFunc_int_int__i_valOk_1_1 : OrcOk Eslices_IndexFunc_int_int__i_valOk_1 Oslices_IndexFunc_int_int__i_valOk_1_1 lsslices_IndexFunc_int_int__i_valOk_1 1 := orc_add kslices_IndexFunc_int_int__i_valOk_1_0 (fun n p hp h ex h' ho => by
  obtain ⟨b, c⟩ := p
  obtain ⟨xt, h1, h2⟩ := ho
  have h1 : Oslices_IndexFunc_int_int__i_valOk_1_1 b h = some (true, xt) := h1
  unfold Oslices_IndexFunc_int_int__i_valOk_1_1 at h1
  split at h1
  · injection h1 with h1
    injection h1 with e1 e2
    subst e2
    have hc : c = cslices_IndexFunc_int_int__i_valOk_1_0 := mslices_IndexFunc_int_int__i_valOk_1_0 _ hp rfl
    subst hc
    right
    rename_i y0 y1 y2
    have key := LT_step kslices_IndexFunc_int_int__i_valOk_1_0 hp (fun q hq => loopsAll_in _ _ _ _ hp hq) (fun (y2 : (Int)) => (hslices_IndexFunc_int_int__i_valOk_1_0 y0 y1 y2)) (xslices_IndexFunc_int_int__i_valOk_1_0 y0 y1) (g_Sslices_IndexFunc_int_int__i_valOk_1_0 y0 y1) (fun x => by first | exact bslices_IndexFunc_int_int__i_valOk_1_0 y0 y1 x) n (x := y2) (okO_some e1)
    have hx : ∀ r, XT.sel (.br (isL r) (.leaf .ret [(.T 4, .t (.val false [.int .i64 (getL r)]))]) (.leaf (.exit 0) [(.T 4, .t (.val false [.undef]))])) = xslices_IndexFunc_int_int__i_valOk_1_0 y0 y1 r := fun r => by first | rfl | (rcases r with r | r <;> rfl) | (rcases r with r | r | r <;> rfl) | (rcases r with r | r | r | r <;> rfl)
    have h3 := (hx (valO (g_Lslices_IndexFunc_int_int__i_valOk_1_0 y0 y1 y2))).symm.trans h2
    have e3 := congrArg Prod.fst h3
    have e4 := congrArg Prod.snd h3
    simp only at e3 e4
    rw [← e3, ← e4]
    exact key
  · exact .inl ⟨xt, h1, h2⟩)
noncomputable def g_Aslices_IndexFunc_int_int__i_valOk_1 (a0 : List (Int)) : Bool := okO (g_Lslices_IndexFunc_int_int__i_valOk_1_0 a0 (↑(List.length a0) : Int) (0 : Int))
noncomputable def g_Vslices_IndexFunc_int_int__i_valOk_1_0 (a0 : List (Int)) : Int := bif isL (valO (g_Lslices_IndexFunc_int_int__i_valOk_1_0 a0 (↑(List.length a0) : Int) (0 : Int))) then getL (valO (g_Lslices_IndexFunc_int_int__i_valOk_1_0 a0 (↑(List.length a0) : Int) (0 : Int))) else (-1 : Int)
noncomputable def Fslices_IndexFunc_int_int__i_valOk_1 : FSem := fun ys => match ys with
  | [.val false [.sl .any 3 (.int .i64) a0], .val false [.fn 47 []]] => some ((g_Aslices_IndexFunc_int_int__i_valOk_1 a0), .val false [.int .i64 (g_Vslices_IndexFunc_int_int__i_valOk_1_0 a0)], [])
  | _ => none
theorem vslices_IndexFunc_int_int__i_valOk_1 (a0 : List (Int)) : collapseH .std Eslices_IndexFunc_int_int__i_valOk_1 Oslices_IndexFunc_int_int__i_valOk_1_1 (execFn Eslices_IndexFunc_int_int__i_valOk_1 Go.Proofs.Tryd.f58 msslices_IndexFunc_int_int__i_valOk_1 [.val false [.sl .any 3 (.int .i64) a0], .val false [.fn 47 []]]) = some ((g_Aslices_IndexFunc_int_int__i_valOk_1 a0), .val false [.int .i64 (g_Vslices_IndexFunc_int_int__i_valOk_1_0 a0)], []) := by kernel_rfl
theorem sslices_IndexFunc_int_int__i_valOk_1 : Sound Go.Proofs.Tryd.prog 58 msslices_IndexFunc_int_int__i_valOk_1 Fslices_IndexFunc_int_int__i_valOk_1 := by
  refine fn_gen goodslices_IndexFunc_int_int__i_valOk_1 (by kernel_rfl) .std (fn := Go.Proofs.Tryd.f58) (c := (Go.Proofs.Tryd.f58.body.getD .skip)) (o := Oslices_IndexFunc_int_int__i_valOk_1_1) (k := 1) (by kernel_rfl) (by kernel_rfl) (by kernel_rfl) (by kernel_rfl) (by decide) kslices_IndexFunc_int_int__i_valOk_1_1 ?_
  intro ys r outs h
  unfold Fslices_IndexFunc_int_int__i_valOk_1 at h
  split at h
  · exact (vslices_IndexFunc_int_int__i_valOk_1 _).trans h
  · cases h
end Go.Proofs.YtnbcdkbjmpadmaaDoor.E
end
section
namespace Go.Proofs.YtnbcdkbjmpadmaaDoor.E
open Go
set_option maxRecDepth 100000
set_option maxHeartbeats 0
set_option linter.all false
noncomputable def Eslices_ContainsFunc_int_int__i_valOk_1 : Env where
  tt := mkTI Go.Proofs.Tryd.prog
  fn := fun f => match f with
    | 47 => some (msi_valOk_1, FSem.wk msi_valOk_1 Fi_valOk_1)
    | 58 => some (msslices_IndexFunc_int_int__i_valOk_1, FSem.wk msslices_IndexFunc_int_int__i_valOk_1 Fslices_IndexFunc_int_int__i_valOk_1)
    | _ => none
  bxf := fun _ => none
  mv := []
  keep := fun _ => []
  keepB := fun _ => []
  keepX := fun _ => []
  keepXB := fun _ => []
theorem goodFslices_ContainsFunc_int_int__i_valOk_1 : ∀ f ms F, Eslices_ContainsFunc_int_int__i_valOk_1.fn f = some (ms, F) → Sound Go.Proofs.Tryd.prog f ms F := fun f ms F h => by
  unfold Eslices_ContainsFunc_int_int__i_valOk_1 at h
  dsimp only at h
  split at h
  · injection h with h; injection h with e1 e2; subst e1 e2; exact Sound.wk si_valOk_1
  · injection h with h; injection h with e1 e2; subst e1 e2; exact Sound.wk sslices_IndexFunc_int_int__i_valOk_1
  · cases h
theorem goodBslices_ContainsFunc_int_int__i_valOk_1 : ∀ f ms F, Eslices_ContainsFunc_int_int__i_valOk_1.bxf f = some (ms, F) → SoundB Go.Proofs.Tryd.prog f ms F := fun f ms F h => by cases h
theorem goodslices_ContainsFunc_int_int__i_valOk_1 : Good Go.Proofs.Tryd.prog Eslices_ContainsFunc_int_int__i_valOk_1 := ⟨rfl, goodFslices_ContainsFunc_int_int__i_valOk_1, goodBslices_ContainsFunc_int_int__i_valOk_1⟩
noncomputable def Oslices_ContainsFunc_int_int__i_valOk_1_0 : Orc := fun _ _ => none
noncomputable def msslices_ContainsFunc_int_int__i_valOk_1 : List PM := [.rd, .rd]
noncomputable def lsslices_ContainsFunc_int_int__i_valOk_1 : List (Nat × Code) := loopsAll 0 (Go.Proofs.Tryd.f46.body.getD .skip)

theorem kslices_ContainsFunc_int_int__i_valOk_1_0 : OrcOk Eslices_ContainsFunc_int_int__i_valOk_1 Oslices_ContainsFunc_int_int__i_valOk_1_0 lsslices_ContainsFunc_int_int__i_valOk_1 0 := orcOk_none
noncomputable def g_Aslices_ContainsFunc_int_int__i_valOk_1 (a0 : List (Int)) : Bool := g_Aslices_IndexFunc_int_int__i_valOk_1 a0 && true
noncomputable def g_Vslices_ContainsFunc_int_int__i_valOk_1_0 (a0 : List (Int)) : Bool := decide (g_Vslices_IndexFunc_int_int__i_valOk_1_0 a0 ≥ (0 : Int))
noncomputable def Fslices_ContainsFunc_int_int__i_valOk_1 : FSem := fun ys => match ys with
  | [.val false [.sl .any 3 (.int .i64) a0], .val false [.fn 47 []]] => some ((g_Aslices_ContainsFunc_int_int__i_valOk_1 a0), .val false [.bool (g_Vslices_ContainsFunc_int_int__i_valOk_1_0 a0)], [])
  | _ => none
theorem vslices_ContainsFunc_int_int__i_valOk_1 (a0 : List (Int)) : collapseH .std Eslices_ContainsFunc_int_int__i_valOk_1 Oslices_ContainsFunc_int_int__i_valOk_1_0 (execFn Eslices_ContainsFunc_int_int__i_valOk_1 Go.Proofs.Tryd.f46 msslices_ContainsFunc_int_int__i_valOk_1 [.val false [.sl .any 3 (.int .i64) a0], .val false [.fn 47 []]]) = some ((g_Aslices_ContainsFunc_int_int__i_valOk_1 a0), .val false [.bool (g_Vslices_ContainsFunc_int_int__i_valOk_1_0 a0)], []) := by kernel_rfl
theorem sslices_ContainsFunc_int_int__i_valOk_1 : Sound Go.Proofs.Tryd.prog 46 msslices_ContainsFunc_int_int__i_valOk_1 Fslices_ContainsFunc_int_int__i_valOk_1 := by
  refine fn_gen goodslices_ContainsFunc_int_int__i_valOk_1 (by kernel_rfl) .std (fn := Go.Proofs.Tryd.f46) (c := (Go.Proofs.Tryd.f46.body.getD .skip)) (o := Oslices_ContainsFunc_int_int__i_valOk_1_0) (k := 0) (by kernel_rfl) (by kernel_rfl) (by kernel_rfl) (by kernel_rfl) (by decide) kslices_ContainsFunc_int_int__i_valOk_1_0 ?_
  intro ys r outs h
  unfold Fslices_ContainsFunc_int_int__i_valOk_1 at h
  split at h
  · exact (vslices_ContainsFunc_int_int__i_valOk_1 _).trans h
  · cases h
end Go.Proofs.YtnbcdkbjmpadmaaDoor.E
end
section
namespace Go.Proofs.YtnbcdkbjmpadmaaDoor.E
open Go
set_option maxRecDepth 100000
set_option maxHeartbeats 0
set_option linter.all false
noncomputable def Ei_valOk : Env where
  tt := mkTI Go.Proofs.Tryd.prog
  fn := fun f => match f with
    | 32 => some (msi_in, FSem.wk msi_in Fi_in)
    | 46 => some (msslices_ContainsFunc_int_int__i_valOk_1, FSem.wk msslices_ContainsFunc_int_int__i_valOk_1 Fslices_ContainsFunc_int_int__i_valOk_1)
    | _ => none
  bxf := fun _ => none
  mv := []
  keep := fun _ => []
  keepB := fun _ => []
  keepX := fun _ => []
  keepXB := fun _ => []
theorem goodFi_valOk : ∀ f ms F, Ei_valOk.fn f = some (ms, F) → Sound Go.Proofs.Tryd.prog f ms F := fun f ms F h => by
  unfold Ei_valOk at h
  dsimp only at h
  split at h
  · injection h with h; injection h with e1 e2; subst e1 e2; exact Sound.wk si_in
  · injection h with h; injection h with e1 e2; subst e1 e2; exact Sound.wk sslices_ContainsFunc_int_int__i_valOk_1
  · cases h
theorem goodBi_valOk : ∀ f ms F, Ei_valOk.bxf f = some (ms, F) → SoundB Go.Proofs.Tryd.prog f ms F := fun f ms F h => by cases h
theorem goodi_valOk : Good Go.Proofs.Tryd.prog Ei_valOk := ⟨rfl, goodFi_valOk, goodBi_valOk⟩
noncomputable def Oi_valOk_0 : Orc := fun _ _ => none
noncomputable def msi_valOk : List PM := [.rd]
noncomputable def lsi_valOk : List (Nat × Code) := loopsAll 0 (Go.Proofs.Tryd.f34.body.getD .skip)

theorem ki_valOk_0 : OrcOk Ei_valOk Oi_valOk_0 lsi_valOk 0 := orcOk_none
noncomputable def g_Ai_valOk (a0 : List (Int)) : Bool := g_Ai_in (↑(List.length a0) : Int) (1 : Int) (3 : Int) && (!g_Vi_in_0 (↑(List.length a0) : Int) (1 : Int) (3 : Int) || g_Aslices_ContainsFunc_int_int__i_valOk_1 a0)
noncomputable def g_Vi_valOk_0 (a0 : List (Int)) : Bool := bif g_Vi_in_0 (↑(List.length a0) : Int) (1 : Int) (3 : Int) then !g_Vslices_ContainsFunc_int_int__i_valOk_1_0 a0 else false
noncomputable def Fi_valOk : FSem := fun ys => match ys with
  | [.val false [.sl .any 3 (.int .i64) a0]] => some ((g_Ai_valOk a0), .val false [.bool (g_Vi_valOk_0 a0)], [])
  | _ => none
theorem vi_valOk (a0 : List (Int)) : collapseH .std Ei_valOk Oi_valOk_0 (execFn Ei_valOk Go.Proofs.Tryd.f34 msi_valOk [.val false [.sl .any 3 (.int .i64) a0]]) = some ((g_Ai_valOk a0), .val false [.bool (g_Vi_valOk_0 a0)], []) := by kernel_rfl
theorem si_valOk : Sound Go.Proofs.Tryd.prog 34 msi_valOk Fi_valOk := by
  refine fn_gen goodi_valOk (by kernel_rfl) .std (fn := Go.Proofs.Tryd.f34) (c := (Go.Proofs.Tryd.f34.body.getD .skip)) (o := Oi_valOk_0) (k := 0) (by kernel_rfl) (by kernel_rfl) (by kernel_rfl) (by kernel_rfl) (by decide) ki_valOk_0 ?_
  intro ys r outs h
  unfold Fi_valOk at h
  split at h
  · exact (vi_valOk _).trans h
  · cases h
end Go.Proofs.YtnbcdkbjmpadmaaDoor.E
end
section
namespace Go.Proofs.YtnbcdkbjmpadmaaDoor.E
open Go
set_option maxRecDepth 100000
set_option maxHeartbeats 0
set_option linter.all false
noncomputable def Ei_StoOk : Env where
  tt := mkTI Go.Proofs.Tryd.prog
  fn := fun f => match f with
    | 33 => some (msi_keyOk, FSem.wk msi_keyOk Fi_keyOk)
    | 34 => some (msi_valOk, FSem.wk msi_valOk Fi_valOk)
    | _ => none
  bxf := fun _ => none
  mv := []
  keep := fun b => match b with
    | 0 => [(1, false), (6, false), (7, false), (8, false)]
    | _ => []
  keepB := fun b => match b with
    | 0 => [(1, false)]
    | _ => []
  keepX := fun b => match b with
    | 0 => [(1, false), (2, false)]
    | _ => []
  keepXB := fun b => match b with
    | 0 => [(1, false)]
    | _ => []
theorem goodFi_StoOk : ∀ f ms F, Ei_StoOk.fn f = some (ms, F) → Sound Go.Proofs.Tryd.prog f ms F := fun f ms F h => by
  unfold Ei_StoOk at h
  dsimp only at h
  split at h
  · injection h with h; injection h with e1 e2; subst e1 e2; exact Sound.wk si_keyOk
  · injection h with h; injection h with e1 e2; subst e1 e2; exact Sound.wk si_valOk
  · cases h
theorem goodBi_StoOk : ∀ f ms F, Ei_StoOk.bxf f = some (ms, F) → SoundB Go.Proofs.Tryd.prog f ms F := fun f ms F h => by cases h
theorem goodi_StoOk : Good Go.Proofs.Tryd.prog Ei_StoOk := ⟨rfl, goodFi_StoOk, goodBi_StoOk⟩
noncomputable def Oi_StoOk_0 : Orc := fun _ _ => none
noncomputable def msi_StoOk : List PM := [.rd]
noncomputable def lsi_StoOk : List (Nat × Code) := loopsAll 0 (Go.Proofs.Tryd.f21.body.getD .skip)
noncomputable def ci_StoOk_0 : Code := (loopOf 0 (Go.Proofs.Tryd.f21.body.getD .skip)).getD .skip
theorem lseqi_StoOk : lsi_StoOk = [(0, ci_StoOk_0)] := by kernel_rfl
theorem mi_StoOk_0 : ∀ p, p ∈ lsi_StoOk → p.1 = 0 → p.2 = ci_StoOk_0 := by
  intro p hp
  rw [lseqi_StoOk] at hp
  simp only [List.mem_cons, List.not_mem_nil, or_false] at hp
  subst hp; simp
theorem ki_StoOk_0 : OrcOk Ei_StoOk Oi_StoOk_0 lsi_StoOk 0 := orcOk_none
noncomputable def hi_StoOk_0 (y0 : List ((ByteArray) × (List (Int)))) (y1 : Int) (y2 : Int) (y3 : List ((ByteArray) × (List (Int)))) : List (Pl × LV) := [(.T 1, .t (.val false [.ptr 1 0 0])), (.T 6, .t (.val false [.sl .any 42 (.pair .str (.sl 3 (.int .i64))) y0])), (.T 7, .t (.val false [.int .i64 y1])), (.T 8, .t (.val false [.int .i64 y2])), (.B 1, .b 0 false [.sl .any 42 (.pair .str (.sl 3 (.int .i64))) y3])]
noncomputable def g_Si_StoOk_0 (y0 : List ((ByteArray) × (List (Int)))) (y1 : Int) (y3 : List ((ByteArray) × (List (Int)))) : ((Int)) → RT ((Int)) (((Bool)) ⊕ (Unit))
  | y2 => .br (true) (.br (decide (y2 < y1)) (.br (decide ((0 : Int) ≤ y2 ∧ y2 < (↑(List.length y0) : Int))) (.br (g_Ai_keyOk (at_ (Ty.pair Ty.str (Ty.sl (nat_lit 3) (Ty.int IntKind.i64))) y0 (Int.toNat y2)).1) (.br (!g_Vi_keyOk_0 (at_ (Ty.pair Ty.str (Ty.sl (nat_lit 3) (Ty.int IntKind.i64))) y0 (Int.toNat y2)).1) (.out (.inl false)) (.br (g_Ai_valOk (at_ (Ty.pair Ty.str (Ty.sl (nat_lit 3) (Ty.int IntKind.i64))) y0 (Int.toNat y2)).2) (.br (!g_Vi_valOk_0 (at_ (Ty.pair Ty.str (Ty.sl (nat_lit 3) (Ty.int IntKind.i64))) y0 (Int.toNat y2)).2) (.out (.inl false)) (.br (true) (.br (decide (y2 > (0 : Int))) (.br (true) (.br (decide ((0 : Int) ≤ IntKind.wrap IntKind.i64 (y2 - (1 : Int)) ∧ IntKind.wrap IntKind.i64 (y2 - (1 : Int)) < (↑(List.length y3) : Int))) (.br (true) (.br (Op.bytesLess (ByteArray.toList (at_ (Ty.pair Ty.str (Ty.sl (nat_lit 3) (Ty.int IntKind.i64))) y0 (Int.toNat y2)).1) (ByteArray.toList (at_ (Ty.pair Ty.str (Ty.sl (nat_lit 3) (Ty.int IntKind.i64))) y3 (Int.toNat (IntKind.wrap IntKind.i64 (y2 - (1 : Int))))).1) || ByteArray.toList (at_ (Ty.pair Ty.str (Ty.sl (nat_lit 3) (Ty.int IntKind.i64))) y0 (Int.toNat y2)).1 == ByteArray.toList (at_ (Ty.pair Ty.str (Ty.sl (nat_lit 3) (Ty.int IntKind.i64))) y3 (Int.toNat (IntKind.wrap IntKind.i64 (y2 - (1 : Int))))).1) (.out (.inl false)) (.br (true) (.go (IntKind.wrap IntKind.i64 (y2 + (1 : Int)))) (.bad))) (.bad)) (.bad)) (.bad)) (.br (true) (.go (IntKind.wrap IntKind.i64 (y2 + (1 : Int)))) (.bad))) (.bad))) (.bad))) (.bad)) (.bad)) (.out (.inr (())))) (.bad)
noncomputable def g_Li_StoOk_0 (y0 : List ((ByteArray) × (List (Int)))) (y1 : Int) (y3 : List ((ByteArray) × (List (Int)))) (x : (Int)) : Option (((Bool)) ⊕ (Unit)) := loopO (g_Si_StoOk_0 y0 y1 y3) x
noncomputable def xi_StoOk_0 (y0 : List ((ByteArray) × (List (Int)))) (y1 : Int) (y3 : List ((ByteArray) × (List (Int)))) : (((Bool)) ⊕ (Unit)) → Ex × List (Pl × LV) := fun
  | .inl r => (.ret, [(.T 1, .t (.val false [.ptr 1 0 0])), (.T 2, .t (.val false [.bool r])), (.B 1, .b 0 false [.sl .any 42 (.pair .str (.sl 3 (.int .i64))) y3])])
  | .inr (r) => (.exit 0, [(.T 1, .t (.val false [.ptr 1 0 0])), (.T 2, .t (.val false [.undef])), (.B 1, .b 0 false [.sl .any 42 (.pair .str (.sl 3 (.int .i64))) y3])])
noncomputable def Oi_StoOk_1 : Orc := fun b h => match b, h with
  | 0, [(.T 1, .t (.val false [.ptr 1 0 0])), (.T 6, .t (.val false [.sl .any 42 (.pair .str (.sl 3 (.int .i64))) y0])), (.T 7, .t (.val false [.int .i64 y1])), (.T 8, .t (.val false [.int .i64 y2])), (.B 1, .b 0 false [.sl .any 42 (.pair .str (.sl 3 (.int .i64))) y3])] => some (okO (g_Li_StoOk_0 y0 y1 y3 y2), (.br (isL (valO (g_Li_StoOk_0 y0 y1 y3 y2))) (.leaf .ret [(.T 1, .t (.val false [.ptr 1 0 0])), (.T 2, .t (.val false [.bool (getL (valO (g_Li_StoOk_0 y0 y1 y3 y2)))])), (.B 1, .b 0 false [.sl .any 42 (.pair .str (.sl 3 (.int .i64))) y3])]) (.leaf (.exit 0) [(.T 1, .t (.val false [.ptr 1 0 0])), (.T 2, .t (.val false [.undef])), (.B 1, .b 0 false [.sl .any 42 (.pair .str (.sl 3 (.int .i64))) y3])])))
  | b, h => Oi_StoOk_0 b h
theorem bi_StoOk_0 (y0 : List ((ByteArray) × (List (Int)))) (y1 : Int) (y2 : Int) (y3 : List ((ByteArray) × (List (Int)))) : Tr.bt Ei_StoOk Oi_StoOk_0 (exec Ei_StoOk 0 ci_StoOk_0 (St.of (hi_StoOk_0 y0 y1 y2 y3)) (leafRd Ei_StoOk 0)) = (g_Si_StoOk_0 y0 y1 y3 y2).bt (fun (y2 : (Int)) => (hi_StoOk_0 y0 y1 y2 y3)) (xi_StoOk_0 y0 y1 y3) := by kernel_rfl
theorem ki_StoOk_1 : OrcOk Ei_StoOk Oi_StoOk_1 lsi_StoOk 1 := orc_add ki_StoOk_0 (fun n p hp h ex h' ho => by
  obtain ⟨b, c⟩ := p
  obtain ⟨xt, h1, h2⟩ := ho
  have h1 : Oi_StoOk_1 b h = some (true, xt) := h1
  unfold Oi_StoOk_1 at h1
  split at h1
  · injection h1 with h1
    injection h1 with e1 e2
    subst e2
    have hc : c = ci_StoOk_0 := mi_StoOk_0 _ hp rfl
    subst hc
    right
    rename_i y0 y1 y2 y3
    have key := LT_step ki_StoOk_0 hp (fun q hq => loopsAll_in _ _ _ _ hp hq) (fun (y2 : (Int)) => (hi_StoOk_0 y0 y1 y2 y3)) (xi_StoOk_0 y0 y1 y3) (g_Si_StoOk_0 y0 y1 y3) (fun x => by first | exact bi_StoOk_0 y0 y1 x y3) n (x := y2) (okO_some e1)
    have hx : ∀ r, XT.sel (.br (isL r) (.leaf .ret [(.T 1, .t (.val false [.ptr 1 0 0])), (.T 2, .t (.val false [.bool (getL r)])), (.B 1, .b 0 false [.sl .any 42 (.pair .str (.sl 3 (.int .i64))) y3])]) (.leaf (.exit 0) [(.T 1, .t (.val false [.ptr 1 0 0])), (.T 2, .t (.val false [.undef])), (.B 1, .b 0 false [.sl .any 42 (.pair .str (.sl 3 (.int .i64))) y3])])) = xi_StoOk_0 y0 y1 y3 r := fun r => by first | rfl | (rcases r with r | r <;> rfl) | (rcases r with r | r | r <;> rfl) | (rcases r with r | r | r | r <;> rfl)
    have h3 := (hx (valO (g_Li_StoOk_0 y0 y1 y3 y2))).symm.trans h2
    have e3 := congrArg Prod.fst h3
    have e4 := congrArg Prod.snd h3
    simp only at e3 e4
    rw [← e3, ← e4]
    exact key
  · exact .inl ⟨xt, h1, h2⟩)
noncomputable def g_Ai_StoOk (a0 : List ((ByteArray) × (List (Int)))) : Bool := okO (g_Li_StoOk_0 a0 (↑(List.length a0) : Int) a0 (0 : Int)) && (isL (valO (g_Li_StoOk_0 a0 (↑(List.length a0) : Int) a0 (0 : Int))) || true)
noncomputable def g_Vi_StoOk_0 (a0 : List ((ByteArray) × (List (Int)))) : Bool := bif isL (valO (g_Li_StoOk_0 a0 (↑(List.length a0) : Int) a0 (0 : Int))) then getL (valO (g_Li_StoOk_0 a0 (↑(List.length a0) : Int) a0 (0 : Int))) else decide ((↑(List.length a0) : Int) ≤ (40 : Int))
noncomputable def Fi_StoOk : FSem := fun ys => match ys with
  | [.val true [.sl .any 42 (.pair .str (.sl 3 (.int .i64))) a0]] => some ((g_Ai_StoOk a0), .val false [.bool (g_Vi_StoOk_0 a0)], [])
  | _ => none
theorem vi_StoOk (a0 : List ((ByteArray) × (List (Int)))) : collapseH .std Ei_StoOk Oi_StoOk_1 (execFn Ei_StoOk Go.Proofs.Tryd.f21 msi_StoOk [.val true [.sl .any 42 (.pair .str (.sl 3 (.int .i64))) a0]]) = some ((g_Ai_StoOk a0), .val false [.bool (g_Vi_StoOk_0 a0)], []) := by kernel_rfl
theorem si_StoOk : Sound Go.Proofs.Tryd.prog 21 msi_StoOk Fi_StoOk := by
  refine fn_gen goodi_StoOk (by kernel_rfl) .std (fn := Go.Proofs.Tryd.f21) (c := (Go.Proofs.Tryd.f21.body.getD .skip)) (o := Oi_StoOk_1) (k := 1) (by kernel_rfl) (by kernel_rfl) (by kernel_rfl) (by kernel_rfl) (by decide) ki_StoOk_1 ?_
  intro ys r outs h
  unfold Fi_StoOk at h
  split at h
  · exact (vi_StoOk _).trans h
  · cases h
end Go.Proofs.YtnbcdkbjmpadmaaDoor.E
end
section
namespace Go.Proofs.YtnbcdkbjmpadmaaDoor.E
open Go
set_option maxRecDepth 100000
set_option maxHeartbeats 0
set_option linter.all false
noncomputable def Ei_isService : Env where
  tt := mkTI Go.Proofs.Tryd.prog
  fn := fun f => match f with
    | 32 => some (msi_in, FSem.wk msi_in Fi_in)
    | _ => none
  bxf := fun _ => none
  mv := []
  keep := fun _ => []
  keepB := fun _ => []
  keepX := fun _ => []
  keepXB := fun _ => []
theorem goodFi_isService : ∀ f ms F, Ei_isService.fn f = some (ms, F) → Sound Go.Proofs.Tryd.prog f ms F := fun f ms F h => by
  unfold Ei_isService at h
  dsimp only at h
  split at h
  · injection h with h; injection h with e1 e2; subst e1 e2; exact Sound.wk si_in
  · cases h
theorem goodBi_isService : ∀ f ms F, Ei_isService.bxf f = some (ms, F) → SoundB Go.Proofs.Tryd.prog f ms F := fun f ms F h => by cases h
theorem goodi_isService : Good Go.Proofs.Tryd.prog Ei_isService := ⟨rfl, goodFi_isService, goodBi_isService⟩
noncomputable def Oi_isService_0 : Orc := fun _ _ => none
noncomputable def msi_isService : List PM := [.own]
noncomputable def lsi_isService : List (Nat × Code) := loopsAll 0 (Go.Proofs.Tryd.f20.body.getD .skip)

theorem ki_isService_0 : OrcOk Ei_isService Oi_isService_0 lsi_isService 0 := orcOk_none
noncomputable def g_Ai_isService (a0 : Int) : Bool := g_Ai_in a0 (1 : Int) (3 : Int)
noncomputable def g_Vi_isService_0 (a0 : Int) : Bool := g_Vi_in_0 a0 (1 : Int) (3 : Int)
noncomputable def Fi_isService : FSem := fun ys => match ys with
  | [.val false [.int .i64 a0]] => some ((g_Ai_isService a0), .val false [.bool (g_Vi_isService_0 a0)], [])
  | _ => none
theorem vi_isService (a0 : Int) : collapseH .std Ei_isService Oi_isService_0 (execFn Ei_isService Go.Proofs.Tryd.f20 msi_isService [.val false [.int .i64 a0]]) = some ((g_Ai_isService a0), .val false [.bool (g_Vi_isService_0 a0)], []) := by kernel_rfl
theorem si_isService : Sound Go.Proofs.Tryd.prog 20 msi_isService Fi_isService := by
  refine fn_gen goodi_isService (by kernel_rfl) .std (fn := Go.Proofs.Tryd.f20) (c := (Go.Proofs.Tryd.f20.body.getD .skip)) (o := Oi_isService_0) (k := 0) (by kernel_rfl) (by kernel_rfl) (by kernel_rfl) (by kernel_rfl) (by decide) ki_isService_0 ?_
  intro ys r outs h
  unfold Fi_isService at h
  split at h
  · exact (vi_isService _).trans h
  · cases h
end Go.Proofs.YtnbcdkbjmpadmaaDoor.E
end
section
namespace Go.Proofs.YtnbcdkbjmpadmaaDoor.E
open Go
set_option maxRecDepth 100000
set_option maxHeartbeats 0
set_option linter.all false
noncomputable def Ei_itemOk : Env where
  tt := mkTI Go.Proofs.Tryd.prog
  fn := fun f => match f with
    | 32 => some (msi_in, FSem.wk msi_in Fi_in)
    | _ => none
  bxf := fun _ => none
  mv := []
  keep := fun _ => []
  keepB := fun _ => []
  keepX := fun _ => []
  keepXB := fun _ => []
theorem goodFi_itemOk : ∀ f ms F, Ei_itemOk.fn f = some (ms, F) → Sound Go.Proofs.Tryd.prog f ms F := fun f ms F h => by
  unfold Ei_itemOk at h
  dsimp only at h
  split at h
  · injection h with h; injection h with e1 e2; subst e1 e2; exact Sound.wk si_in
  · cases h
theorem goodBi_itemOk : ∀ f ms F, Ei_itemOk.bxf f = some (ms, F) → SoundB Go.Proofs.Tryd.prog f ms F := fun f ms F h => by cases h
theorem goodi_itemOk : Good Go.Proofs.Tryd.prog Ei_itemOk := ⟨rfl, goodFi_itemOk, goodBi_itemOk⟩
noncomputable def Oi_itemOk_0 : Orc := fun _ _ => none
noncomputable def msi_itemOk : List PM := [.own, .rd]
noncomputable def lsi_itemOk : List (Nat × Code) := loopsAll 0 (Go.Proofs.Tryd.f19.body.getD .skip)

theorem ki_itemOk_0 : OrcOk Ei_itemOk Oi_itemOk_0 lsi_itemOk 0 := orcOk_none
noncomputable def g_Ai_itemOk (a0 : Int) (a1 : ByteArray) (a2 : List (Int)) : Bool := decide ((0 : Int) ≤ (0 : Int) ∧ (0 : Int) < (↑(ByteArray.size a1) : Int)) && (decide ((0 : Int) ≤ (0 : Int) ∧ (0 : Int) < (↑(List.length a2) : Int)) && (g_Ai_in (at_ (Ty.int IntKind.i64) a2 (nat_lit 0)) (0 : Int) (9 : Int) && bif a0 == (1 : Int) then !byteAt a1 (nat_lit 0) == (115 : Int) || (!(↑(ByteArray.size a1) : Int) == (2 : Int) || true) else bif a0 == (2 : Int) then bif byteAt a1 (nat_lit 0) == (99 : Int) then !byteAt a1 (nat_lit 0) == (102 : Int) || (!(↑(List.length a2) : Int) == (3 : Int) || decide ((0 : Int) ≤ (1 : Int) ∧ (1 : Int) < (↑(List.length a2) : Int)) && (g_Ai_in (at_ (Ty.int IntKind.i64) a2 (nat_lit 1)) (1 : Int) (99 : Int) && (!g_Vi_in_0 (at_ (Ty.int IntKind.i64) a2 (nat_lit 1)) (1 : Int) (99 : Int) || decide ((0 : Int) ≤ (2 : Int) ∧ (2 : Int) < (↑(List.length a2) : Int)) && true))) else !byteAt a1 (nat_lit 0) == (102 : Int) || (!(↑(List.length a2) : Int) == (3 : Int) || decide ((0 : Int) ≤ (1 : Int) ∧ (1 : Int) < (↑(List.length a2) : Int)) && (g_Ai_in (at_ (Ty.int IntKind.i64) a2 (nat_lit 1)) (1 : Int) (99 : Int) && (!g_Vi_in_0 (at_ (Ty.int IntKind.i64) a2 (nat_lit 1)) (1 : Int) (99 : Int) || decide ((0 : Int) ≤ (2 : Int) ∧ (2 : Int) < (↑(List.length a2) : Int)) && true))) else !a0 == (3 : Int) || (!byteAt a1 (nat_lit 0) == (97 : Int) || true)))
noncomputable def g_Vi_itemOk_0 (a0 : Int) (a1 : ByteArray) (a2 : List (Int)) : Bool := bif a0 == (1 : Int) then bif byteAt a1 (nat_lit 0) == (115 : Int) then bif (↑(ByteArray.size a1) : Int) == (2 : Int) then bif (↑(List.length a2) : Int) == (1 : Int) then g_Vi_in_0 (at_ (Ty.int IntKind.i64) a2 (nat_lit 0)) (0 : Int) (9 : Int) else false else false else false else bif a0 == (2 : Int) then bif byteAt a1 (nat_lit 0) == (99 : Int) then bif byteAt a1 (nat_lit 0) == (102 : Int) then bif (↑(List.length a2) : Int) == (3 : Int) then bif g_Vi_in_0 (at_ (Ty.int IntKind.i64) a2 (nat_lit 1)) (1 : Int) (99 : Int) then bif (↑(ByteArray.size a1) : Int) == (2 : Int) then bif g_Vi_in_0 (at_ (Ty.int IntKind.i64) a2 (nat_lit 0)) (0 : Int) (9 : Int) then bif (↑(List.length a2) : Int) == (2 : Int) then true else decide (at_ (Ty.int IntKind.i64) a2 (nat_lit 2) ≤ (1 : Int)) else false else false else bif (↑(ByteArray.size a1) : Int) == (2 : Int) then bif g_Vi_in_0 (at_ (Ty.int IntKind.i64) a2 (nat_lit 0)) (0 : Int) (9 : Int) then bif (↑(List.length a2) : Int) == (2 : Int) then true else false else false else false else bif (↑(ByteArray.size a1) : Int) == (2 : Int) then bif g_Vi_in_0 (at_ (Ty.int IntKind.i64) a2 (nat_lit 0)) (0 : Int) (9 : Int) then bif (↑(List.length a2) : Int) == (2 : Int) then true else false else false else false else bif (↑(ByteArray.size a1) : Int) == (2 : Int) then bif g_Vi_in_0 (at_ (Ty.int IntKind.i64) a2 (nat_lit 0)) (0 : Int) (9 : Int) then bif (↑(List.length a2) : Int) == (2 : Int) then true else false else false else false else bif byteAt a1 (nat_lit 0) == (102 : Int) then bif (↑(List.length a2) : Int) == (3 : Int) then bif g_Vi_in_0 (at_ (Ty.int IntKind.i64) a2 (nat_lit 1)) (1 : Int) (99 : Int) then bif (↑(ByteArray.size a1) : Int) == (2 : Int) then bif g_Vi_in_0 (at_ (Ty.int IntKind.i64) a2 (nat_lit 0)) (0 : Int) (9 : Int) then decide (at_ (Ty.int IntKind.i64) a2 (nat_lit 2) ≤ (1 : Int)) else false else false else bif (↑(ByteArray.size a1) : Int) == (2 : Int) then bif g_Vi_in_0 (at_ (Ty.int IntKind.i64) a2 (nat_lit 0)) (0 : Int) (9 : Int) then false else false else false else bif (↑(ByteArray.size a1) : Int) == (2 : Int) then bif g_Vi_in_0 (at_ (Ty.int IntKind.i64) a2 (nat_lit 0)) (0 : Int) (9 : Int) then false else false else false else bif (↑(ByteArray.size a1) : Int) == (2 : Int) then bif g_Vi_in_0 (at_ (Ty.int IntKind.i64) a2 (nat_lit 0)) (0 : Int) (9 : Int) then false else false else false else bif a0 == (3 : Int) then bif byteAt a1 (nat_lit 0) == (97 : Int) then (↑(List.length a2) : Int) == (1 : Int) else false else false
noncomputable def Fi_itemOk : FSem := fun ys => match ys with
  | [.val false [.int .i64 a0], .val true [.str a1, .sl .any 3 (.int .i64) a2]] => some ((g_Ai_itemOk a0 a1 a2), .val false [.bool (g_Vi_itemOk_0 a0 a1 a2)], [])
  | _ => none
theorem vi_itemOk (a0 : Int) (a1 : ByteArray) (a2 : List (Int)) : collapseH .std Ei_itemOk Oi_itemOk_0 (execFn Ei_itemOk Go.Proofs.Tryd.f19 msi_itemOk [.val false [.int .i64 a0], .val true [.str a1, .sl .any 3 (.int .i64) a2]]) = some ((g_Ai_itemOk a0 a1 a2), .val false [.bool (g_Vi_itemOk_0 a0 a1 a2)], []) := by kernel_rfl
theorem si_itemOk : Sound Go.Proofs.Tryd.prog 19 msi_itemOk Fi_itemOk := by
  refine fn_gen goodi_itemOk (by kernel_rfl) .std (fn := Go.Proofs.Tryd.f19) (c := (Go.Proofs.Tryd.f19.body.getD .skip)) (o := Oi_itemOk_0) (k := 0) (by kernel_rfl) (by kernel_rfl) (by kernel_rfl) (by kernel_rfl) (by decide) ki_itemOk_0 ?_
  intro ys r outs h
  unfold Fi_itemOk at h
  split at h
  · exact (vi_itemOk _ _ _).trans h
  · cases h
end Go.Proofs.YtnbcdkbjmpadmaaDoor.E
end
section
namespace Go.Proofs.YtnbcdkbjmpadmaaDoor.E
open Go
set_option maxRecDepth 100000
set_option maxHeartbeats 0
set_option linter.all false
noncomputable def Ei_PlcOk_1 : Env where
  tt := mkTI Go.Proofs.Tryd.prog
  fn := fun f => match f with
    | 19 => some (msi_itemOk, FSem.wk msi_itemOk Fi_itemOk)
    | _ => none
  bxf := fun _ => none
  mv := []
  keep := fun _ => []
  keepB := fun _ => []
  keepX := fun _ => []
  keepXB := fun _ => []
theorem goodFi_PlcOk_1 : ∀ f ms F, Ei_PlcOk_1.fn f = some (ms, F) → Sound Go.Proofs.Tryd.prog f ms F := fun f ms F h => by
  unfold Ei_PlcOk_1 at h
  dsimp only at h
  split at h
  · injection h with h; injection h with e1 e2; subst e1 e2; exact Sound.wk si_itemOk
  · cases h
theorem goodBi_PlcOk_1 : ∀ f ms F, Ei_PlcOk_1.bxf f = some (ms, F) → SoundB Go.Proofs.Tryd.prog f ms F := fun f ms F h => by cases h
theorem goodi_PlcOk_1 : Good Go.Proofs.Tryd.prog Ei_PlcOk_1 := ⟨rfl, goodFi_PlcOk_1, goodBi_PlcOk_1⟩
noncomputable def Oi_PlcOk_1_0 : Orc := fun _ _ => none
noncomputable def msi_PlcOk_1 : List PM := [.rd, .rd]
noncomputable def lsi_PlcOk_1 : List (Nat × Code) := loopsAll 0 (Go.Proofs.Tryd.f18.body.getD .skip)

theorem ki_PlcOk_1_0 : OrcOk Ei_PlcOk_1 Oi_PlcOk_1_0 lsi_PlcOk_1 0 := orcOk_none
noncomputable def g_Ai_PlcOk_1 (a0 : ByteArray) (a1 : List (Int)) (c0 : Int) : Bool := g_Ai_itemOk c0 a0 a1
noncomputable def Fi_PlcOk_1 : FSem := fun ys => match ys with
  | [.val true [.str a0, .sl .any 3 (.int .i64) a1], .val false [.sptr (.int .i64) c0 0]] => some ((g_Ai_PlcOk_1 a0 a1 c0), .val false [.bool (!g_Vi_itemOk_0 c0 a0 a1)], [])
  | _ => none
theorem vi_PlcOk_1 (a0 : ByteArray) (a1 : List (Int)) (c0 : Int) : collapseH .std Ei_PlcOk_1 Oi_PlcOk_1_0 (execFn Ei_PlcOk_1 Go.Proofs.Tryd.f18 msi_PlcOk_1 [.val true [.str a0, .sl .any 3 (.int .i64) a1], .val false [.sptr (.int .i64) c0 0]]) = some ((g_Ai_PlcOk_1 a0 a1 c0), .val false [.bool (!g_Vi_itemOk_0 c0 a0 a1)], []) := by kernel_rfl
theorem si_PlcOk_1 : Sound Go.Proofs.Tryd.prog 18 msi_PlcOk_1 Fi_PlcOk_1 := by
  refine fn_gen goodi_PlcOk_1 (by kernel_rfl) .std (fn := Go.Proofs.Tryd.f18) (c := (Go.Proofs.Tryd.f18.body.getD .skip)) (o := Oi_PlcOk_1_0) (k := 0) (by kernel_rfl) (by kernel_rfl) (by kernel_rfl) (by kernel_rfl) (by decide) ki_PlcOk_1_0 ?_
  intro ys r outs h
  unfold Fi_PlcOk_1 at h
  split at h
  · exact (vi_PlcOk_1 _ _ _).trans h
  · cases h
end Go.Proofs.YtnbcdkbjmpadmaaDoor.E
end
section
namespace Go.Proofs.YtnbcdkbjmpadmaaDoor.E
open Go
set_option maxRecDepth 100000
set_option maxHeartbeats 0
set_option linter.all false
noncomputable def Eslices_IndexFunc_i_StoItem_i_StoItem__i_PlcOk_1 : Env where
  tt := mkTI Go.Proofs.Tryd.prog
  fn := fun f => match f with
    | 18 => some (msi_PlcOk_1, FSem.wk msi_PlcOk_1 Fi_PlcOk_1)
    | _ => none
  bxf := fun _ => none
  mv := []
  keep := fun b => match b with
    | 0 => [(0, false), (1, false), (7, false), (8, false)]
    | _ => []
  keepB := fun b => match b with
    | 0 => []
    | _ => []
  keepX := fun b => match b with
    | 0 => [(4, false)]
    | _ => []
  keepXB := fun b => match b with
    | 0 => []
    | _ => []
theorem goodFslices_IndexFunc_i_StoItem_i_StoItem__i_PlcOk_1 : ∀ f ms F, Eslices_IndexFunc_i_StoItem_i_StoItem__i_PlcOk_1.fn f = some (ms, F) → Sound Go.Proofs.Tryd.prog f ms F := fun f ms F h => by
  unfold Eslices_IndexFunc_i_StoItem_i_StoItem__i_PlcOk_1 at h
  dsimp only at h
  split at h
  · injection h with h; injection h with e1 e2; subst e1 e2; exact Sound.wk si_PlcOk_1
  · cases h
theorem goodBslices_IndexFunc_i_StoItem_i_StoItem__i_PlcOk_1 : ∀ f ms F, Eslices_IndexFunc_i_StoItem_i_StoItem__i_PlcOk_1.bxf f = some (ms, F) → SoundB Go.Proofs.Tryd.prog f ms F := fun f ms F h => by cases h
theorem goodslices_IndexFunc_i_StoItem_i_StoItem__i_PlcOk_1 : Good Go.Proofs.Tryd.prog Eslices_IndexFunc_i_StoItem_i_StoItem__i_PlcOk_1 := ⟨rfl, goodFslices_IndexFunc_i_StoItem_i_StoItem__i_PlcOk_1, goodBslices_IndexFunc_i_StoItem_i_StoItem__i_PlcOk_1⟩
noncomputable def Oslices_IndexFunc_i_StoItem_i_StoItem__i_PlcOk_1_0 : Orc := fun _ _ => none
noncomputable def msslices_IndexFunc_i_StoItem_i_StoItem__i_PlcOk_1 : List PM := [.rd, .rd]
noncomputable def lsslices_IndexFunc_i_StoItem_i_StoItem__i_PlcOk_1 : List (Nat × Code) := loopsAll 0 (Go.Proofs.Tryd.f35.body.getD .skip)
noncomputable def cslices_IndexFunc_i_StoItem_i_StoItem__i_PlcOk_1_0 : Code := (loopOf 0 (Go.Proofs.Tryd.f35.body.getD .skip)).getD .skip
theorem lseqslices_IndexFunc_i_StoItem_i_StoItem__i_PlcOk_1 : lsslices_IndexFunc_i_StoItem_i_StoItem__i_PlcOk_1 = [(0, cslices_IndexFunc_i_StoItem_i_StoItem__i_PlcOk_1_0)] := by kernel_rfl
theorem mslices_IndexFunc_i_StoItem_i_StoItem__i_PlcOk_1_0 : ∀ p, p ∈ lsslices_IndexFunc_i_StoItem_i_StoItem__i_PlcOk_1 → p.1 = 0 → p.2 = cslices_IndexFunc_i_StoItem_i_StoItem__i_PlcOk_1_0 := by
  intro p hp
  rw [lseqslices_IndexFunc_i_StoItem_i_StoItem__i_PlcOk_1] at hp
  simp only [List.mem_cons, List.not_mem_nil, or_false] at hp
  subst hp; simp
theorem kslices_IndexFunc_i_StoItem_i_StoItem__i_PlcOk_1_0 : OrcOk Eslices_IndexFunc_i_StoItem_i_StoItem__i_PlcOk_1 Oslices_IndexFunc_i_StoItem_i_StoItem__i_PlcOk_1_0 lsslices_IndexFunc_i_StoItem_i_StoItem__i_PlcOk_1 0 := orcOk_none
noncomputable def hslices_IndexFunc_i_StoItem_i_StoItem__i_PlcOk_1_0 (y0 : List ((ByteArray) × (List (Int)))) (y1 : Int) (y2 : Int) (y3 : Int) : List (Pl × LV) := [(.T 0, .t (.val false [.sl .any 42 (.pair .str (.sl 3 (.int .i64))) y0])), (.T 1, .t (.val false [.fn 18 [.sptr (.int .i64) y1 0]])), (.T 7, .t (.val false [.int .i64 y2])), (.T 8, .t (.val false [.int .i64 y3]))]
noncomputable def g_Sslices_IndexFunc_i_StoItem_i_StoItem__i_PlcOk_1_0 (y0 : List ((ByteArray) × (List (Int)))) (y1 : Int) (y2 : Int) : ((Int)) → RT ((Int)) (((Int)) ⊕ (Unit))
  | y3 => .br (true) (.br (decide (y3 < y2)) (.br (decide ((0 : Int) ≤ y3 ∧ y3 < (↑(List.length y0) : Int))) (.br (g_Ai_PlcOk_1 (at_ (Ty.pair Ty.str (Ty.sl (nat_lit 3) (Ty.int IntKind.i64))) y0 (Int.toNat y3)).1 (at_ (Ty.pair Ty.str (Ty.sl (nat_lit 3) (Ty.int IntKind.i64))) y0 (Int.toNat y3)).2 y1) (.br (!g_Vi_itemOk_0 y1 (at_ (Ty.pair Ty.str (Ty.sl (nat_lit 3) (Ty.int IntKind.i64))) y0 (Int.toNat y3)).1 (at_ (Ty.pair Ty.str (Ty.sl (nat_lit 3) (Ty.int IntKind.i64))) y0 (Int.toNat y3)).2) (.out (.inl y3)) (.br (true) (.go (IntKind.wrap IntKind.i64 (y3 + (1 : Int)))) (.bad))) (.bad)) (.bad)) (.out (.inr (())))) (.bad)
noncomputable def g_Lslices_IndexFunc_i_StoItem_i_StoItem__i_PlcOk_1_0 (y0 : List ((ByteArray) × (List (Int)))) (y1 : Int) (y2 : Int) (x : (Int)) : Option (((Int)) ⊕ (Unit)) := loopO (g_Sslices_IndexFunc_i_StoItem_i_StoItem__i_PlcOk_1_0 y0 y1 y2) x
noncomputable def xslices_IndexFunc_i_StoItem_i_StoItem__i_PlcOk_1_0 (y0 : List ((ByteArray) × (List (Int)))) (y1 : Int) (y2 : Int) : (((Int)) ⊕ (Unit)) → Ex × List (Pl × LV) := fun
  | .inl r => (.ret, [(.T 4, .t (.val false [.int .i64 r]))])
  | .inr (r) => (.exit 0, [(.T 4, .t (.val false [.undef]))])
noncomputable def Oslices_IndexFunc_i_StoItem_i_StoItem__i_PlcOk_1_1 : Orc := fun b h => match b, h with
  | 0, [(.T 0, .t (.val false [.sl .any 42 (.pair .str (.sl 3 (.int .i64))) y0])), (.T 1, .t (.val false [.fn 18 [.sptr (.int .i64) y1 0]])), (.T 7, .t (.val false [.int .i64 y2])), (.T 8, .t (.val false [.int .i64 y3]))] => some (okO (g_Lslices_IndexFunc_i_StoItem_i_StoItem__i_PlcOk_1_0 y0 y1 y2 y3), (.br (isL (valO (g_Lslices_IndexFunc_i_StoItem_i_StoItem__i_PlcOk_1_0 y0 y1 y2 y3))) (.leaf .ret [(.T 4, .t (.val false [.int .i64 (getL (valO (g_Lslices_IndexFunc_i_StoItem_i_StoItem__i_PlcOk_1_0 y0 y1 y2 y3)))]))]) (.leaf (.exit 0) [(.T 4, .t (.val false [.undef]))])))
  | b, h => Oslices_IndexFunc_i_StoItem_i_StoItem__i_PlcOk_1_0 b h
theorem bslices_IndexFunc_i_StoItem_i_StoItem__i_PlcOk_1_0 (y0 : List ((ByteArray) × (List (Int)))) (y1 : Int) (y2 : Int) (y3 : Int) : Tr.bt Eslices_IndexFunc_i_StoItem_i_StoItem__i_PlcOk_1 Oslices_IndexFunc_i_StoItem_i_StoItem__i_PlcOk_1_0 (exec Eslices_IndexFunc_i_StoItem_i_StoItem__i_PlcOk_1 0 cslices_IndexFunc_i_StoItem_i_StoItem__i_PlcOk_1_0 (St.of (hslices_IndexFunc_i_StoItem_i_StoItem__i_PlcOk_1_0 y0 y1 y2 y3)) (leafRd Eslices_IndexFunc_i_StoItem_i_StoItem__i_PlcOk_1 0)) = (g_Sslices_IndexFunc_i_StoItem_i_StoItem__i_PlcOk_1_0 y0 y1 y2 y3).bt (fun (y3 : (Int)) => (hslices_IndexFunc_i_StoItem_i_StoItem__i_PlcOk_1_0 y0 y1 y2 y3)) (xslices_IndexFunc_i_StoItem_i_StoItem__i_PlcOk_1_0 y0 y1 y2) := by kernel_rfl
theorem kslices_IndexFunc_i_StoItem_i_StoItem__i_PlcOk_1_1 : OrcOk Eslices_IndexFunc_i_StoItem_i_StoItem__i_PlcOk_1 Oslices_IndexFunc_i_StoItem_i_StoItem__i_PlcOk_1_1 lsslices_IndexFunc_i_StoItem_i_StoItem__i_PlcOk_1 1 := orc_add kslices_IndexFunc_i_StoItem_i_StoItem__i_PlcOk_1_0 (fun n p hp h ex h' ho => by
  obtain ⟨b, c⟩ := p
  obtain ⟨xt, h1, h2⟩ := ho
  have h1 : Oslices_IndexFunc_i_StoItem_i_StoItem__i_PlcOk_1_1 b h = some (true, xt) := h1
  unfold Oslices_IndexFunc_i_StoItem_i_StoItem__i_PlcOk_1_1 at h1
  split at h1
  · injection h1 with h1
    injection h1 with e1 e2
    subst e2
    have hc : c = cslices_IndexFunc_i_StoItem_i_StoItem__i_PlcOk_1_0 := mslices_IndexFunc_i_StoItem_i_StoItem__i_PlcOk_1_0 _ hp rfl
    subst hc
    right
    rename_i y0 y1 y2 y3
    have key := LT_step kslices_IndexFunc_i_StoItem_i_StoItem__i_PlcOk_1_0 hp (fun q hq => loopsAll_in _ _ _ _ hp hq) (fun (y3 : (Int)) => (hslices_IndexFunc_i_StoItem_i_StoItem__i_PlcOk_1_0 y0 y1 y2 y3)) (xslices_IndexFunc_i_StoItem_i_StoItem__i_PlcOk_1_0 y0 y1 y2) (g_Sslices_IndexFunc_i_StoItem_i_StoItem__i_PlcOk_1_0 y0 y1 y2) (fun x => by first | exact bslices_IndexFunc_i_StoItem_i_StoItem__i_PlcOk_1_0 y0 y1 y2 x) n (x := y3) (okO_some e1)
    have hx : ∀ r, XT.sel (.br (isL r) (.leaf .ret [(.T 4, .t (.val false [.int .i64 (getL r)]))]) (.leaf (.exit 0) [(.T 4, .t (.val false [.undef]))])) = xslices_IndexFunc_i_StoItem_i_StoItem__i_PlcOk_1_0 y0 y1 y2 r := fun r => by first | rfl | (rcases r with r | r <;> rfl) | (rcases r with r | r | r <;> rfl) | (rcases r with r | r | r | r <;> rfl)
    have h3 := (hx (valO (g_Lslices_IndexFunc_i_StoItem_i_StoItem__i_PlcOk_1_0 y0 y1 y2 y3))).symm.trans h2
    have e3 := congrArg Prod.fst h3
    have e4 := congrArg Prod.snd h3
    simp only at e3 e4
    rw [← e3, ← e4]
    exact key
  · exact .inl ⟨xt, h1, h2⟩)
noncomputable def g_Aslices_IndexFunc_i_StoItem_i_StoItem__i_PlcOk_1 (a0 : List ((ByteArray) × (List (Int)))) (c0 : Int) : Bool := okO (g_Lslices_IndexFunc_i_StoItem_i_StoItem__i_PlcOk_1_0 a0 c0 (↑(List.length a0) : Int) (0 : Int))
noncomputable def g_Vslices_IndexFunc_i_StoItem_i_StoItem__i_PlcOk_1_0 (a0 : List ((ByteArray) × (List (Int)))) (c0 : Int) : Int := bif isL (valO (g_Lslices_IndexFunc_i_StoItem_i_StoItem__i_PlcOk_1_0 a0 c0 (↑(List.length a0) : Int) (0 : Int))) then getL (valO (g_Lslices_IndexFunc_i_StoItem_i_StoItem__i_PlcOk_1_0 a0 c0 (↑(List.length a0) : Int) (0 : Int))) else (-1 : Int)
noncomputable def Fslices_IndexFunc_i_StoItem_i_StoItem__i_PlcOk_1 : FSem := fun ys => match ys with
  | [.val false [.sl .any 42 (.pair .str (.sl 3 (.int .i64))) a0], .val false [.fn 18 [.sptr (.int .i64) c0 0]]] => some ((g_Aslices_IndexFunc_i_StoItem_i_StoItem__i_PlcOk_1 a0 c0), .val false [.int .i64 (g_Vslices_IndexFunc_i_StoItem_i_StoItem__i_PlcOk_1_0 a0 c0)], [])
  | _ => none
theorem vslices_IndexFunc_i_StoItem_i_StoItem__i_PlcOk_1 (a0 : List ((ByteArray) × (List (Int)))) (c0 : Int) : collapseH .std Eslices_IndexFunc_i_StoItem_i_StoItem__i_PlcOk_1 Oslices_IndexFunc_i_StoItem_i_StoItem__i_PlcOk_1_1 (execFn Eslices_IndexFunc_i_StoItem_i_StoItem__i_PlcOk_1 Go.Proofs.Tryd.f35 msslices_IndexFunc_i_StoItem_i_StoItem__i_PlcOk_1 [.val false [.sl .any 42 (.pair .str (.sl 3 (.int .i64))) a0], .val false [.fn 18 [.sptr (.int .i64) c0 0]]]) = some ((g_Aslices_IndexFunc_i_StoItem_i_StoItem__i_PlcOk_1 a0 c0), .val false [.int .i64 (g_Vslices_IndexFunc_i_StoItem_i_StoItem__i_PlcOk_1_0 a0 c0)], []) := by kernel_rfl
theorem sslices_IndexFunc_i_StoItem_i_StoItem__i_PlcOk_1 : Sound Go.Proofs.Tryd.prog 35 msslices_IndexFunc_i_StoItem_i_StoItem__i_PlcOk_1 Fslices_IndexFunc_i_StoItem_i_StoItem__i_PlcOk_1 := by
  refine fn_gen goodslices_IndexFunc_i_StoItem_i_StoItem__i_PlcOk_1 (by kernel_rfl) .std (fn := Go.Proofs.Tryd.f35) (c := (Go.Proofs.Tryd.f35.body.getD .skip)) (o := Oslices_IndexFunc_i_StoItem_i_StoItem__i_PlcOk_1_1) (k := 1) (by kernel_rfl) (by kernel_rfl) (by kernel_rfl) (by kernel_rfl) (by decide) kslices_IndexFunc_i_StoItem_i_StoItem__i_PlcOk_1_1 ?_
  intro ys r outs h
  unfold Fslices_IndexFunc_i_StoItem_i_StoItem__i_PlcOk_1 at h
  split at h
  · exact (vslices_IndexFunc_i_StoItem_i_StoItem__i_PlcOk_1 _ _).trans h
  · cases h
end Go.Proofs.YtnbcdkbjmpadmaaDoor.E
end
section
namespace Go.Proofs.YtnbcdkbjmpadmaaDoor.E
open Go
set_option maxRecDepth 100000
set_option maxHeartbeats 0
set_option linter.all false
noncomputable def Eslices_ContainsFunc_i_StoItem_i_StoItem__i_PlcOk_1 : Env where
  tt := mkTI Go.Proofs.Tryd.prog
  fn := fun f => match f with
    | 18 => some (msi_PlcOk_1, FSem.wk msi_PlcOk_1 Fi_PlcOk_1)
    | 35 => some (msslices_IndexFunc_i_StoItem_i_StoItem__i_PlcOk_1, FSem.wk msslices_IndexFunc_i_StoItem_i_StoItem__i_PlcOk_1 Fslices_IndexFunc_i_StoItem_i_StoItem__i_PlcOk_1)
    | _ => none
  bxf := fun _ => none
  mv := []
  keep := fun _ => []
  keepB := fun _ => []
  keepX := fun _ => []
  keepXB := fun _ => []
theorem goodFslices_ContainsFunc_i_StoItem_i_StoItem__i_PlcOk_1 : ∀ f ms F, Eslices_ContainsFunc_i_StoItem_i_StoItem__i_PlcOk_1.fn f = some (ms, F) → Sound Go.Proofs.Tryd.prog f ms F := fun f ms F h => by
  unfold Eslices_ContainsFunc_i_StoItem_i_StoItem__i_PlcOk_1 at h
  dsimp only at h
  split at h
  · injection h with h; injection h with e1 e2; subst e1 e2; exact Sound.wk si_PlcOk_1
  · injection h with h; injection h with e1 e2; subst e1 e2; exact Sound.wk sslices_IndexFunc_i_StoItem_i_StoItem__i_PlcOk_1
  · cases h
theorem goodBslices_ContainsFunc_i_StoItem_i_StoItem__i_PlcOk_1 : ∀ f ms F, Eslices_ContainsFunc_i_StoItem_i_StoItem__i_PlcOk_1.bxf f = some (ms, F) → SoundB Go.Proofs.Tryd.prog f ms F := fun f ms F h => by cases h
theorem goodslices_ContainsFunc_i_StoItem_i_StoItem__i_PlcOk_1 : Good Go.Proofs.Tryd.prog Eslices_ContainsFunc_i_StoItem_i_StoItem__i_PlcOk_1 := ⟨rfl, goodFslices_ContainsFunc_i_StoItem_i_StoItem__i_PlcOk_1, goodBslices_ContainsFunc_i_StoItem_i_StoItem__i_PlcOk_1⟩
noncomputable def Oslices_ContainsFunc_i_StoItem_i_StoItem__i_PlcOk_1_0 : Orc := fun _ _ => none
noncomputable def msslices_ContainsFunc_i_StoItem_i_StoItem__i_PlcOk_1 : List PM := [.rd, .rd]
noncomputable def lsslices_ContainsFunc_i_StoItem_i_StoItem__i_PlcOk_1 : List (Nat × Code) := loopsAll 0 (Go.Proofs.Tryd.f22.body.getD .skip)

theorem kslices_ContainsFunc_i_StoItem_i_StoItem__i_PlcOk_1_0 : OrcOk Eslices_ContainsFunc_i_StoItem_i_StoItem__i_PlcOk_1 Oslices_ContainsFunc_i_StoItem_i_StoItem__i_PlcOk_1_0 lsslices_ContainsFunc_i_StoItem_i_StoItem__i_PlcOk_1 0 := orcOk_none
noncomputable def g_Aslices_ContainsFunc_i_StoItem_i_StoItem__i_PlcOk_1 (a0 : List ((ByteArray) × (List (Int)))) (c0 : Int) : Bool := g_Aslices_IndexFunc_i_StoItem_i_StoItem__i_PlcOk_1 a0 c0 && true
noncomputable def g_Vslices_ContainsFunc_i_StoItem_i_StoItem__i_PlcOk_1_0 (a0 : List ((ByteArray) × (List (Int)))) (c0 : Int) : Bool := decide (g_Vslices_IndexFunc_i_StoItem_i_StoItem__i_PlcOk_1_0 a0 c0 ≥ (0 : Int))
noncomputable def Fslices_ContainsFunc_i_StoItem_i_StoItem__i_PlcOk_1 : FSem := fun ys => match ys with
  | [.val false [.sl .any 42 (.pair .str (.sl 3 (.int .i64))) a0], .val false [.fn 18 [.sptr (.int .i64) c0 0]]] => some ((g_Aslices_ContainsFunc_i_StoItem_i_StoItem__i_PlcOk_1 a0 c0), .val false [.bool (g_Vslices_ContainsFunc_i_StoItem_i_StoItem__i_PlcOk_1_0 a0 c0)], [])
  | _ => none
theorem vslices_ContainsFunc_i_StoItem_i_StoItem__i_PlcOk_1 (a0 : List ((ByteArray) × (List (Int)))) (c0 : Int) : collapseH .std Eslices_ContainsFunc_i_StoItem_i_StoItem__i_PlcOk_1 Oslices_ContainsFunc_i_StoItem_i_StoItem__i_PlcOk_1_0 (execFn Eslices_ContainsFunc_i_StoItem_i_StoItem__i_PlcOk_1 Go.Proofs.Tryd.f22 msslices_ContainsFunc_i_StoItem_i_StoItem__i_PlcOk_1 [.val false [.sl .any 42 (.pair .str (.sl 3 (.int .i64))) a0], .val false [.fn 18 [.sptr (.int .i64) c0 0]]]) = some ((g_Aslices_ContainsFunc_i_StoItem_i_StoItem__i_PlcOk_1 a0 c0), .val false [.bool (g_Vslices_ContainsFunc_i_StoItem_i_StoItem__i_PlcOk_1_0 a0 c0)], []) := by kernel_rfl
theorem sslices_ContainsFunc_i_StoItem_i_StoItem__i_PlcOk_1 : Sound Go.Proofs.Tryd.prog 22 msslices_ContainsFunc_i_StoItem_i_StoItem__i_PlcOk_1 Fslices_ContainsFunc_i_StoItem_i_StoItem__i_PlcOk_1 := by
  refine fn_gen goodslices_ContainsFunc_i_StoItem_i_StoItem__i_PlcOk_1 (by kernel_rfl) .std (fn := Go.Proofs.Tryd.f22) (c := (Go.Proofs.Tryd.f22.body.getD .skip)) (o := Oslices_ContainsFunc_i_StoItem_i_StoItem__i_PlcOk_1_0) (k := 0) (by kernel_rfl) (by kernel_rfl) (by kernel_rfl) (by kernel_rfl) (by decide) kslices_ContainsFunc_i_StoItem_i_StoItem__i_PlcOk_1_0 ?_
  intro ys r outs h
  unfold Fslices_ContainsFunc_i_StoItem_i_StoItem__i_PlcOk_1 at h
  split at h
  · exact (vslices_ContainsFunc_i_StoItem_i_StoItem__i_PlcOk_1 _ _).trans h
  · cases h
end Go.Proofs.YtnbcdkbjmpadmaaDoor.E
end
section
namespace Go.Proofs.YtnbcdkbjmpadmaaDoor.E
open Go
set_option maxRecDepth 100000
set_option maxHeartbeats 0
set_option linter.all false
noncomputable def Ei_PlcOk : Env where
  tt := mkTI Go.Proofs.Tryd.prog
  fn := fun f => match f with
    | 20 => some (msi_isService, FSem.wk msi_isService Fi_isService)
    | 21 => some (msi_StoOk, FSem.wk msi_StoOk Fi_StoOk)
    | 22 => some (msslices_ContainsFunc_i_StoItem_i_StoItem__i_PlcOk_1, FSem.wk msslices_ContainsFunc_i_StoItem_i_StoItem__i_PlcOk_1 Fslices_ContainsFunc_i_StoItem_i_StoItem__i_PlcOk_1)
    | _ => none
  bxf := fun _ => none
  mv := []
  keep := fun _ => []
  keepB := fun _ => []
  keepX := fun _ => []
  keepXB := fun _ => []
theorem goodFi_PlcOk : ∀ f ms F, Ei_PlcOk.fn f = some (ms, F) → Sound Go.Proofs.Tryd.prog f ms F := fun f ms F h => by
  unfold Ei_PlcOk at h
  dsimp only at h
  split at h
  · injection h with h; injection h with e1 e2; subst e1 e2; exact Sound.wk si_isService
  · injection h with h; injection h with e1 e2; subst e1 e2; exact Sound.wk si_StoOk
  · injection h with h; injection h with e1 e2; subst e1 e2; exact Sound.wk sslices_ContainsFunc_i_StoItem_i_StoItem__i_PlcOk_1
  · cases h
theorem goodBi_PlcOk : ∀ f ms F, Ei_PlcOk.bxf f = some (ms, F) → SoundB Go.Proofs.Tryd.prog f ms F := fun f ms F h => by cases h
theorem goodi_PlcOk : Good Go.Proofs.Tryd.prog Ei_PlcOk := ⟨rfl, goodFi_PlcOk, goodBi_PlcOk⟩
noncomputable def Oi_PlcOk_0 : Orc := fun _ _ => none
noncomputable def msi_PlcOk : List PM := [.own, .rd]
noncomputable def lsi_PlcOk : List (Nat × Code) := loopsAll 0 (Go.Proofs.Tryd.f10.body.getD .skip)

theorem ki_PlcOk_0 : OrcOk Ei_PlcOk Oi_PlcOk_0 lsi_PlcOk 0 := orcOk_none
noncomputable def g_Ai_PlcOk (a0 : Int) (a1 : List ((ByteArray) × (List (Int)))) : Bool := g_Ai_isService a0 && (!g_Vi_isService_0 a0 || g_Ai_StoOk a1 && (!g_Vi_StoOk_0 a1 || g_Aslices_ContainsFunc_i_StoItem_i_StoItem__i_PlcOk_1 a1 a0))
noncomputable def g_Vi_PlcOk_0 (a0 : Int) (a1 : List ((ByteArray) × (List (Int)))) : Bool := bif g_Vi_isService_0 a0 then bif g_Vi_StoOk_0 a1 then !g_Vslices_ContainsFunc_i_StoItem_i_StoItem__i_PlcOk_1_0 a1 a0 else false else false
noncomputable def Fi_PlcOk : FSem := fun ys => match ys with
  | [.val false [.int .i64 a0], .val true [.sl .any 42 (.pair .str (.sl 3 (.int .i64))) a1]] => some ((g_Ai_PlcOk a0 a1), .val false [.bool (g_Vi_PlcOk_0 a0 a1)], [])
  | _ => none
theorem vi_PlcOk (a0 : Int) (a1 : List ((ByteArray) × (List (Int)))) : collapseH .std Ei_PlcOk Oi_PlcOk_0 (execFn Ei_PlcOk Go.Proofs.Tryd.f10 msi_PlcOk [.val false [.int .i64 a0], .val true [.sl .any 42 (.pair .str (.sl 3 (.int .i64))) a1]]) = some ((g_Ai_PlcOk a0 a1), .val false [.bool (g_Vi_PlcOk_0 a0 a1)], []) := by kernel_rfl
theorem si_PlcOk : Sound Go.Proofs.Tryd.prog 10 msi_PlcOk Fi_PlcOk := by
  refine fn_gen goodi_PlcOk (by kernel_rfl) .std (fn := Go.Proofs.Tryd.f10) (c := (Go.Proofs.Tryd.f10.body.getD .skip)) (o := Oi_PlcOk_0) (k := 0) (by kernel_rfl) (by kernel_rfl) (by kernel_rfl) (by kernel_rfl) (by decide) ki_PlcOk_0 ?_
  intro ys r outs h
  unfold Fi_PlcOk at h
  split at h
  · exact (vi_PlcOk _ _).trans h
  · cases h
end Go.Proofs.YtnbcdkbjmpadmaaDoor.E
end
section
namespace Go.Proofs.YtnbcdkbjmpadmaaDoor.E
open Go
set_option maxRecDepth 100000
set_option maxHeartbeats 0
set_option linter.all false
noncomputable def Ei_GloOk : Env where
  tt := mkTI Go.Proofs.Tryd.prog
  fn := fun f => match f with
    | 10 => some (msi_PlcOk, FSem.wk msi_PlcOk Fi_PlcOk)
    | _ => none
  bxf := fun _ => none
  mv := []
  keep := fun b => match b with
    | 0 => [(0, false), (5, false), (6, false), (7, false)]
    | _ => []
  keepB := fun b => match b with
    | 0 => []
    | _ => []
  keepX := fun b => match b with
    | 0 => [(0, false), (2, false)]
    | _ => []
  keepXB := fun b => match b with
    | 0 => []
    | _ => []
theorem goodFi_GloOk : ∀ f ms F, Ei_GloOk.fn f = some (ms, F) → Sound Go.Proofs.Tryd.prog f ms F := fun f ms F h => by
  unfold Ei_GloOk at h
  dsimp only at h
  split at h
  · injection h with h; injection h with e1 e2; subst e1 e2; exact Sound.wk si_PlcOk
  · cases h
theorem goodBi_GloOk : ∀ f ms F, Ei_GloOk.bxf f = some (ms, F) → SoundB Go.Proofs.Tryd.prog f ms F := fun f ms F h => by cases h
theorem goodi_GloOk : Good Go.Proofs.Tryd.prog Ei_GloOk := ⟨rfl, goodFi_GloOk, goodBi_GloOk⟩
noncomputable def Oi_GloOk_0 : Orc := fun _ _ => none
noncomputable def msi_GloOk : List PM := [.rd]
noncomputable def lsi_GloOk : List (Nat × Code) := loopsAll 0 (Go.Proofs.Tryd.f5.body.getD .skip)
noncomputable def ci_GloOk_0 : Code := (loopOf 0 (Go.Proofs.Tryd.f5.body.getD .skip)).getD .skip
theorem lseqi_GloOk : lsi_GloOk = [(0, ci_GloOk_0)] := by kernel_rfl
theorem mi_GloOk_0 : ∀ p, p ∈ lsi_GloOk → p.1 = 0 → p.2 = ci_GloOk_0 := by
  intro p hp
  rw [lseqi_GloOk] at hp
  simp only [List.mem_cons, List.not_mem_nil, or_false] at hp
  subst hp; simp
theorem ki_GloOk_0 : OrcOk Ei_GloOk Oi_GloOk_0 lsi_GloOk 0 := orcOk_none
noncomputable def hi_GloOk_0 (y0 : List (List ((ByteArray) × (List (Int))))) (y1 : List (List ((ByteArray) × (List (Int))))) (y2 : Int) (y3 : Int) : List (Pl × LV) := [(.T 0, .t (.val false [.sl .any 30 (.sl 42 (.pair .str (.sl 3 (.int .i64)))) y0])), (.T 5, .t (.val false [.sl .any 30 (.sl 42 (.pair .str (.sl 3 (.int .i64)))) y1])), (.T 6, .t (.val false [.int .i64 y2])), (.T 7, .t (.val false [.int .i64 y3]))]
noncomputable def g_Si_GloOk_0 (y0 : List (List ((ByteArray) × (List (Int))))) (y1 : List (List ((ByteArray) × (List (Int))))) (y2 : Int) : ((Int)) → RT ((Int)) (((Bool)) ⊕ (Unit))
  | y3 => .br (true) (.br (decide (y3 < y2)) (.br (decide ((0 : Int) ≤ y3 ∧ y3 < (↑(List.length y1) : Int))) (.br (true) (.br (g_Ai_PlcOk (IntKind.wrap IntKind.i64 (y3 + (1 : Int))) (at_ (Ty.sl (nat_lit 42) (Ty.pair Ty.str (Ty.sl (nat_lit 3) (Ty.int IntKind.i64)))) y1 (Int.toNat y3))) (.br (!g_Vi_PlcOk_0 (IntKind.wrap IntKind.i64 (y3 + (1 : Int))) (at_ (Ty.sl (nat_lit 42) (Ty.pair Ty.str (Ty.sl (nat_lit 3) (Ty.int IntKind.i64)))) y1 (Int.toNat y3))) (.out (.inl false)) (.br (true) (.go (IntKind.wrap IntKind.i64 (y3 + (1 : Int)))) (.bad))) (.bad)) (.bad)) (.bad)) (.out (.inr (())))) (.bad)
noncomputable def g_Li_GloOk_0 (y0 : List (List ((ByteArray) × (List (Int))))) (y1 : List (List ((ByteArray) × (List (Int))))) (y2 : Int) (x : (Int)) : Option (((Bool)) ⊕ (Unit)) := loopO (g_Si_GloOk_0 y0 y1 y2) x
noncomputable def xi_GloOk_0 (y0 : List (List ((ByteArray) × (List (Int))))) (y1 : List (List ((ByteArray) × (List (Int))))) (y2 : Int) : (((Bool)) ⊕ (Unit)) → Ex × List (Pl × LV) := fun
  | .inl r => (.ret, [(.T 0, .t (.val false [.sl .any 30 (.sl 42 (.pair .str (.sl 3 (.int .i64)))) y0])), (.T 2, .t (.val false [.bool r]))])
  | .inr (r) => (.exit 0, [(.T 0, .t (.val false [.sl .any 30 (.sl 42 (.pair .str (.sl 3 (.int .i64)))) y0])), (.T 2, .t (.val false [.undef]))])
noncomputable def Oi_GloOk_1 : Orc := fun b h => match b, h with
  | 0, [(.T 0, .t (.val false [.sl .any 30 (.sl 42 (.pair .str (.sl 3 (.int .i64)))) y0])), (.T 5, .t (.val false [.sl .any 30 (.sl 42 (.pair .str (.sl 3 (.int .i64)))) y1])), (.T 6, .t (.val false [.int .i64 y2])), (.T 7, .t (.val false [.int .i64 y3]))] => some (okO (g_Li_GloOk_0 y0 y1 y2 y3), (.br (isL (valO (g_Li_GloOk_0 y0 y1 y2 y3))) (.leaf .ret [(.T 0, .t (.val false [.sl .any 30 (.sl 42 (.pair .str (.sl 3 (.int .i64)))) y0])), (.T 2, .t (.val false [.bool (getL (valO (g_Li_GloOk_0 y0 y1 y2 y3)))]))]) (.leaf (.exit 0) [(.T 0, .t (.val false [.sl .any 30 (.sl 42 (.pair .str (.sl 3 (.int .i64)))) y0])), (.T 2, .t (.val false [.undef]))])))
  | b, h => Oi_GloOk_0 b h
theorem bi_GloOk_0 (y0 : List (List ((ByteArray) × (List (Int))))) (y1 : List (List ((ByteArray) × (List (Int))))) (y2 : Int) (y3 : Int) : Tr.bt Ei_GloOk Oi_GloOk_0 (exec Ei_GloOk 0 ci_GloOk_0 (St.of (hi_GloOk_0 y0 y1 y2 y3)) (leafRd Ei_GloOk 0)) = (g_Si_GloOk_0 y0 y1 y2 y3).bt (fun (y3 : (Int)) => (hi_GloOk_0 y0 y1 y2 y3)) (xi_GloOk_0 y0 y1 y2) := by kernel_rfl
theorem ki_GloOk_1 : OrcOk Ei_GloOk Oi_GloOk_1 lsi_GloOk 1 := orc_add ki_GloOk_0 (fun n p hp h ex h' ho => by
  obtain ⟨b, c⟩ := p
  obtain ⟨xt, h1, h2⟩ := ho
  have h1 : Oi_GloOk_1 b h = some (true, xt) := h1
  unfold Oi_GloOk_1 at h1
  split at h1
  · injection h1 with h1
    injection h1 with e1 e2
    subst e2
    have hc : c = ci_GloOk_0 := mi_GloOk_0 _ hp rfl
    subst hc
    right
    rename_i y0 y1 y2 y3
    have key := LT_step ki_GloOk_0 hp (fun q hq => loopsAll_in _ _ _ _ hp hq) (fun (y3 : (Int)) => (hi_GloOk_0 y0 y1 y2 y3)) (xi_GloOk_0 y0 y1 y2) (g_Si_GloOk_0 y0 y1 y2) (fun x => by first | exact bi_GloOk_0 y0 y1 y2 x) n (x := y3) (okO_some e1)
    have hx : ∀ r, XT.sel (.br (isL r) (.leaf .ret [(.T 0, .t (.val false [.sl .any 30 (.sl 42 (.pair .str (.sl 3 (.int .i64)))) y0])), (.T 2, .t (.val false [.bool (getL r)]))]) (.leaf (.exit 0) [(.T 0, .t (.val false [.sl .any 30 (.sl 42 (.pair .str (.sl 3 (.int .i64)))) y0])), (.T 2, .t (.val false [.undef]))])) = xi_GloOk_0 y0 y1 y2 r := fun r => by first | rfl | (rcases r with r | r <;> rfl) | (rcases r with r | r | r <;> rfl) | (rcases r with r | r | r | r <;> rfl)
    have h3 := (hx (valO (g_Li_GloOk_0 y0 y1 y2 y3))).symm.trans h2
    have e3 := congrArg Prod.fst h3
    have e4 := congrArg Prod.snd h3
    simp only at e3 e4
    rw [← e3, ← e4]
    exact key
  · exact .inl ⟨xt, h1, h2⟩)
noncomputable def g_Ai_GloOk (a0 : List (List ((ByteArray) × (List (Int))))) : Bool := okO (g_Li_GloOk_0 a0 a0 (↑(List.length a0) : Int) (0 : Int)) && (isL (valO (g_Li_GloOk_0 a0 a0 (↑(List.length a0) : Int) (0 : Int))) || true)
noncomputable def g_Vi_GloOk_0 (a0 : List (List ((ByteArray) × (List (Int))))) : Bool := bif isL (valO (g_Li_GloOk_0 a0 a0 (↑(List.length a0) : Int) (0 : Int))) then getL (valO (g_Li_GloOk_0 a0 a0 (↑(List.length a0) : Int) (0 : Int))) else (↑(List.length a0) : Int) == (3 : Int)
noncomputable def Fi_GloOk : FSem := fun ys => match ys with
  | [.val false [.sl .any 30 (.sl 42 (.pair .str (.sl 3 (.int .i64)))) a0]] => some ((g_Ai_GloOk a0), .val false [.bool (g_Vi_GloOk_0 a0)], [])
  | _ => none
theorem vi_GloOk (a0 : List (List ((ByteArray) × (List (Int))))) : collapseH .std Ei_GloOk Oi_GloOk_1 (execFn Ei_GloOk Go.Proofs.Tryd.f5 msi_GloOk [.val false [.sl .any 30 (.sl 42 (.pair .str (.sl 3 (.int .i64)))) a0]]) = some ((g_Ai_GloOk a0), .val false [.bool (g_Vi_GloOk_0 a0)], []) := by kernel_rfl
theorem si_GloOk : Sound Go.Proofs.Tryd.prog 5 msi_GloOk Fi_GloOk := by
  refine fn_gen goodi_GloOk (by kernel_rfl) .std (fn := Go.Proofs.Tryd.f5) (c := (Go.Proofs.Tryd.f5.body.getD .skip)) (o := Oi_GloOk_1) (k := 1) (by kernel_rfl) (by kernel_rfl) (by kernel_rfl) (by kernel_rfl) (by decide) ki_GloOk_1 ?_
  intro ys r outs h
  unfold Fi_GloOk at h
  split at h
  · exact (vi_GloOk _).trans h
  · cases h
end Go.Proofs.YtnbcdkbjmpadmaaDoor.E
end
section
namespace Go.Proofs.YtnbcdkbjmpadmaaDoor.E
open Go
set_option maxRecDepth 100000
set_option maxHeartbeats 0
set_option linter.all false
noncomputable def Es_l1In : Env where
  tt := mkTI Go.Proofs.Tryd.prog
  fn := fun _ => none
  bxf := fun _ => none
  mv := []
  keep := fun _ => []
  keepB := fun _ => []
  keepX := fun _ => []
  keepXB := fun _ => []
theorem goodFs_l1In : ∀ f ms F, Es_l1In.fn f = some (ms, F) → Sound Go.Proofs.Tryd.prog f ms F := fun f ms F h => by cases h
theorem goodBs_l1In : ∀ f ms F, Es_l1In.bxf f = some (ms, F) → SoundB Go.Proofs.Tryd.prog f ms F := fun f ms F h => by cases h
theorem goods_l1In : Good Go.Proofs.Tryd.prog Es_l1In := ⟨rfl, goodFs_l1In, goodBs_l1In⟩
noncomputable def Os_l1In_0 : Orc := fun _ _ => none
noncomputable def mss_l1In : List PM := [.own, .own, .own]
noncomputable def lss_l1In : List (Nat × Code) := loopsAll 0 (Go.Proofs.Tryd.f28.body.getD .skip)

theorem ks_l1In_0 : OrcOk Es_l1In Os_l1In_0 lss_l1In 0 := orcOk_none
noncomputable def g_As_l1In (a0 : Int) (a1 : Int) (a2 : Int) : Bool := !decide (a0 ≥ a1) || true
noncomputable def g_Vs_l1In_0 (a0 : Int) (a1 : Int) (a2 : Int) : Bool := bif decide (a0 ≥ a1) then decide (a0 ≤ a2) else false
noncomputable def Fs_l1In : FSem := fun ys => match ys with
  | [.val false [.int .i64 a0], .val false [.int .i64 a1], .val false [.int .i64 a2]] => some ((g_As_l1In a0 a1 a2), .val false [.bool (g_Vs_l1In_0 a0 a1 a2)], [])
  | _ => none
theorem vs_l1In (a0 : Int) (a1 : Int) (a2 : Int) : collapseH .std Es_l1In Os_l1In_0 (execFn Es_l1In Go.Proofs.Tryd.f28 mss_l1In [.val false [.int .i64 a0], .val false [.int .i64 a1], .val false [.int .i64 a2]]) = some ((g_As_l1In a0 a1 a2), .val false [.bool (g_Vs_l1In_0 a0 a1 a2)], []) := by kernel_rfl
theorem ss_l1In : Sound Go.Proofs.Tryd.prog 28 mss_l1In Fs_l1In := by
  refine fn_gen goods_l1In (by kernel_rfl) .std (fn := Go.Proofs.Tryd.f28) (c := (Go.Proofs.Tryd.f28.body.getD .skip)) (o := Os_l1In_0) (k := 0) (by kernel_rfl) (by kernel_rfl) (by kernel_rfl) (by kernel_rfl) (by decide) ks_l1In_0 ?_
  intro ys r outs h
  unfold Fs_l1In at h
  split at h
  · exact (vs_l1In _ _ _).trans h
  · cases h
end Go.Proofs.YtnbcdkbjmpadmaaDoor.E
end
section
namespace Go.Proofs.YtnbcdkbjmpadmaaDoor.E
open Go
set_option maxRecDepth 100000
set_option maxHeartbeats 0
set_option linter.all false
noncomputable def Es_l1Key : Env where
  tt := mkTI Go.Proofs.Tryd.prog
  fn := fun f => match f with
    | 28 => some (mss_l1In, FSem.wk mss_l1In Fs_l1In)
    | _ => none
  bxf := fun _ => none
  mv := []
  keep := fun b => match b with
    | 0 => [(0, false), (3, false)]
    | _ => []
  keepB := fun b => match b with
    | 0 => []
    | _ => []
  keepX := fun b => match b with
    | 0 => [(2, false)]
    | _ => []
  keepXB := fun b => match b with
    | 0 => []
    | _ => []
theorem goodFs_l1Key : ∀ f ms F, Es_l1Key.fn f = some (ms, F) → Sound Go.Proofs.Tryd.prog f ms F := fun f ms F h => by
  unfold Es_l1Key at h
  dsimp only at h
  split at h
  · injection h with h; injection h with e1 e2; subst e1 e2; exact Sound.wk ss_l1In
  · cases h
theorem goodBs_l1Key : ∀ f ms F, Es_l1Key.bxf f = some (ms, F) → SoundB Go.Proofs.Tryd.prog f ms F := fun f ms F h => by cases h
theorem goods_l1Key : Good Go.Proofs.Tryd.prog Es_l1Key := ⟨rfl, goodFs_l1Key, goodBs_l1Key⟩
noncomputable def Os_l1Key_0 : Orc := fun _ _ => none
noncomputable def mss_l1Key : List PM := [.own]
noncomputable def lss_l1Key : List (Nat × Code) := loopsAll 0 (Go.Proofs.Tryd.f43.body.getD .skip)
noncomputable def cs_l1Key_0 : Code := (loopOf 0 (Go.Proofs.Tryd.f43.body.getD .skip)).getD .skip
theorem lseqs_l1Key : lss_l1Key = [(0, cs_l1Key_0)] := by kernel_rfl
theorem ms_l1Key_0 : ∀ p, p ∈ lss_l1Key → p.1 = 0 → p.2 = cs_l1Key_0 := by
  intro p hp
  rw [lseqs_l1Key] at hp
  simp only [List.mem_cons, List.not_mem_nil, or_false] at hp
  subst hp; simp
theorem ks_l1Key_0 : OrcOk Es_l1Key Os_l1Key_0 lss_l1Key 0 := orcOk_none
noncomputable def hs_l1Key_0 (y0 : ByteArray) (y1 : Int) : List (Pl × LV) := [(.T 0, .t (.val false [.str y0])), (.T 3, .t (.val false [.int .i64 y1]))]
noncomputable def g_Ss_l1Key_0 (y0 : ByteArray) : ((Int)) → RT ((Int)) (((Bool)) ⊕ (Unit))
  | y1 => .br (true) (.br (decide (y1 < (↑(ByteArray.size y0) : Int))) (.br (decide ((0 : Int) ≤ y1 ∧ y1 < (↑(ByteArray.size y0) : Int))) (.br (true) (.br (decide (byteAt y0 (Int.toNat y1) < (48 : Int))) (.out (.inl false)) (.br (decide ((0 : Int) ≤ y1 ∧ y1 < (↑(ByteArray.size y0) : Int))) (.br (true) (.br (decide (byteAt y0 (Int.toNat y1) > (57 : Int))) (.out (.inl false)) (.br (true) (.go (IntKind.wrap IntKind.i64 (y1 + (1 : Int)))) (.bad))) (.bad)) (.bad))) (.bad)) (.bad)) (.out (.inr (())))) (.bad)
noncomputable def g_Ls_l1Key_0 (y0 : ByteArray) (x : (Int)) : Option (((Bool)) ⊕ (Unit)) := loopO (g_Ss_l1Key_0 y0) x
noncomputable def xs_l1Key_0 (y0 : ByteArray) : (((Bool)) ⊕ (Unit)) → Ex × List (Pl × LV) := fun
  | .inl r => (.ret, [(.T 2, .t (.val false [.bool r]))])
  | .inr (r) => (.exit 0, [(.T 2, .t (.val false [.undef]))])
noncomputable def Os_l1Key_1 : Orc := fun b h => match b, h with
  | 0, [(.T 0, .t (.val false [.str y0])), (.T 3, .t (.val false [.int .i64 y1]))] => some (okO (g_Ls_l1Key_0 y0 y1), (.br (isL (valO (g_Ls_l1Key_0 y0 y1))) (.leaf .ret [(.T 2, .t (.val false [.bool (getL (valO (g_Ls_l1Key_0 y0 y1)))]))]) (.leaf (.exit 0) [(.T 2, .t (.val false [.undef]))])))
  | b, h => Os_l1Key_0 b h
theorem bs_l1Key_0 (y0 : ByteArray) (y1 : Int) : Tr.bt Es_l1Key Os_l1Key_0 (exec Es_l1Key 0 cs_l1Key_0 (St.of (hs_l1Key_0 y0 y1)) (leafRd Es_l1Key 0)) = (g_Ss_l1Key_0 y0 y1).bt (fun (y1 : (Int)) => (hs_l1Key_0 y0 y1)) (xs_l1Key_0 y0) := by kernel_rfl
theorem ks_l1Key_1 : OrcOk Es_l1Key Os_l1Key_1 lss_l1Key 1 := orc_add ks_l1Key_0 (fun n p hp h ex h' ho => by
  obtain ⟨b, c⟩ := p
  obtain ⟨xt, h1, h2⟩ := ho
  have h1 : Os_l1Key_1 b h = some (true, xt) := h1
  unfold Os_l1Key_1 at h1
  split at h1
  · injection h1 with h1
    injection h1 with e1 e2
    subst e2
    have hc : c = cs_l1Key_0 := ms_l1Key_0 _ hp rfl
    subst hc
    right
    rename_i y0 y1
    have key := LT_step ks_l1Key_0 hp (fun q hq => loopsAll_in _ _ _ _ hp hq) (fun (y1 : (Int)) => (hs_l1Key_0 y0 y1)) (xs_l1Key_0 y0) (g_Ss_l1Key_0 y0) (fun x => by first | exact bs_l1Key_0 y0 x) n (x := y1) (okO_some e1)
    have hx : ∀ r, XT.sel (.br (isL r) (.leaf .ret [(.T 2, .t (.val false [.bool (getL r)]))]) (.leaf (.exit 0) [(.T 2, .t (.val false [.undef]))])) = xs_l1Key_0 y0 r := fun r => by first | rfl | (rcases r with r | r <;> rfl) | (rcases r with r | r | r <;> rfl) | (rcases r with r | r | r | r <;> rfl)
    have h3 := (hx (valO (g_Ls_l1Key_0 y0 y1))).symm.trans h2
    have e3 := congrArg Prod.fst h3
    have e4 := congrArg Prod.snd h3
    simp only at e3 e4
    rw [← e3, ← e4]
    exact key
  · exact .inl ⟨xt, h1, h2⟩)
noncomputable def g_As_l1Key (a0 : ByteArray) : Bool := g_As_l1In (↑(ByteArray.size a0) : Int) (2 : Int) (3 : Int) && (!g_Vs_l1In_0 (↑(ByteArray.size a0) : Int) (2 : Int) (3 : Int) || decide ((0 : Int) ≤ (0 : Int) ∧ (0 : Int) < (↑(ByteArray.size a0) : Int)) && (decide (byteAt a0 (nat_lit 0) < (97 : Int)) || decide ((0 : Int) ≤ (0 : Int) ∧ (0 : Int) < (↑(ByteArray.size a0) : Int)) && (decide (byteAt a0 (nat_lit 0) > (122 : Int)) || okO (g_Ls_l1Key_0 a0 (1 : Int)))))
noncomputable def g_Vs_l1Key_0 (a0 : ByteArray) : Bool := bif !g_Vs_l1In_0 (↑(ByteArray.size a0) : Int) (2 : Int) (3 : Int) then false else bif decide (byteAt a0 (nat_lit 0) < (97 : Int)) then false else bif decide (byteAt a0 (nat_lit 0) > (122 : Int)) then false else bif isL (valO (g_Ls_l1Key_0 a0 (1 : Int))) then getL (valO (g_Ls_l1Key_0 a0 (1 : Int))) else true
noncomputable def Fs_l1Key : FSem := fun ys => match ys with
  | [.val false [.str a0]] => some ((g_As_l1Key a0), .val false [.bool (g_Vs_l1Key_0 a0)], [])
  | _ => none
theorem vs_l1Key (a0 : ByteArray) : collapseH .std Es_l1Key Os_l1Key_1 (execFn Es_l1Key Go.Proofs.Tryd.f43 mss_l1Key [.val false [.str a0]]) = some ((g_As_l1Key a0), .val false [.bool (g_Vs_l1Key_0 a0)], []) := by kernel_rfl
theorem ss_l1Key : Sound Go.Proofs.Tryd.prog 43 mss_l1Key Fs_l1Key := by
  refine fn_gen goods_l1Key (by kernel_rfl) .std (fn := Go.Proofs.Tryd.f43) (c := (Go.Proofs.Tryd.f43.body.getD .skip)) (o := Os_l1Key_1) (k := 1) (by kernel_rfl) (by kernel_rfl) (by kernel_rfl) (by kernel_rfl) (by decide) ks_l1Key_1 ?_
  intro ys r outs h
  unfold Fs_l1Key at h
  split at h
  · exact (vs_l1Key _).trans h
  · cases h
end Go.Proofs.YtnbcdkbjmpadmaaDoor.E
end
section
namespace Go.Proofs.YtnbcdkbjmpadmaaDoor.E
open Go
set_option maxRecDepth 100000
set_option maxHeartbeats 0
set_option linter.all false
noncomputable def Es_l1Val : Env where
  tt := mkTI Go.Proofs.Tryd.prog
  fn := fun f => match f with
    | 28 => some (mss_l1In, FSem.wk mss_l1In Fs_l1In)
    | _ => none
  bxf := fun _ => none
  mv := []
  keep := fun b => match b with
    | 0 => [(0, false), (3, false)]
    | _ => []
  keepB := fun b => match b with
    | 0 => []
    | _ => []
  keepX := fun b => match b with
    | 0 => [(0, false), (2, false)]
    | _ => []
  keepXB := fun b => match b with
    | 0 => []
    | _ => []
theorem goodFs_l1Val : ∀ f ms F, Es_l1Val.fn f = some (ms, F) → Sound Go.Proofs.Tryd.prog f ms F := fun f ms F h => by
  unfold Es_l1Val at h
  dsimp only at h
  split at h
  · injection h with h; injection h with e1 e2; subst e1 e2; exact Sound.wk ss_l1In
  · cases h
theorem goodBs_l1Val : ∀ f ms F, Es_l1Val.bxf f = some (ms, F) → SoundB Go.Proofs.Tryd.prog f ms F := fun f ms F h => by cases h
theorem goods_l1Val : Good Go.Proofs.Tryd.prog Es_l1Val := ⟨rfl, goodFs_l1Val, goodBs_l1Val⟩
noncomputable def Os_l1Val_0 : Orc := fun _ _ => none
noncomputable def mss_l1Val : List PM := [.rd]
noncomputable def lss_l1Val : List (Nat × Code) := loopsAll 0 (Go.Proofs.Tryd.f44.body.getD .skip)
noncomputable def cs_l1Val_0 : Code := (loopOf 0 (Go.Proofs.Tryd.f44.body.getD .skip)).getD .skip
theorem lseqs_l1Val : lss_l1Val = [(0, cs_l1Val_0)] := by kernel_rfl
theorem ms_l1Val_0 : ∀ p, p ∈ lss_l1Val → p.1 = 0 → p.2 = cs_l1Val_0 := by
  intro p hp
  rw [lseqs_l1Val] at hp
  simp only [List.mem_cons, List.not_mem_nil, or_false] at hp
  subst hp; simp
theorem ks_l1Val_0 : OrcOk Es_l1Val Os_l1Val_0 lss_l1Val 0 := orcOk_none
noncomputable def hs_l1Val_0 (y0 : List (Int)) (y1 : Int) : List (Pl × LV) := [(.T 0, .t (.val false [.sl .any 3 (.int .i64) y0])), (.T 3, .t (.val false [.int .i64 y1]))]
noncomputable def g_Ss_l1Val_0 (y0 : List (Int)) : ((Int)) → RT ((Int)) (((Bool)) ⊕ (Unit))
  | y1 => .br (true) (.br (decide (y1 < (↑(List.length y0) : Int))) (.br (decide ((0 : Int) ≤ y1 ∧ y1 < (↑(List.length y0) : Int))) (.br (g_As_l1In (at_ (Ty.int IntKind.i64) y0 (Int.toNat y1)) (0 : Int) (9999 : Int)) (.br (!g_Vs_l1In_0 (at_ (Ty.int IntKind.i64) y0 (Int.toNat y1)) (0 : Int) (9999 : Int)) (.out (.inl false)) (.br (true) (.go (IntKind.wrap IntKind.i64 (y1 + (1 : Int)))) (.bad))) (.bad)) (.bad)) (.out (.inr (())))) (.bad)
noncomputable def g_Ls_l1Val_0 (y0 : List (Int)) (x : (Int)) : Option (((Bool)) ⊕ (Unit)) := loopO (g_Ss_l1Val_0 y0) x
noncomputable def xs_l1Val_0 (y0 : List (Int)) : (((Bool)) ⊕ (Unit)) → Ex × List (Pl × LV) := fun
  | .inl r => (.ret, [(.T 0, .t (.val false [.sl .any 3 (.int .i64) y0])), (.T 2, .t (.val false [.bool r]))])
  | .inr (r) => (.exit 0, [(.T 0, .t (.val false [.sl .any 3 (.int .i64) y0])), (.T 2, .t (.val false [.undef]))])
noncomputable def Os_l1Val_1 : Orc := fun b h => match b, h with
  | 0, [(.T 0, .t (.val false [.sl .any 3 (.int .i64) y0])), (.T 3, .t (.val false [.int .i64 y1]))] => some (okO (g_Ls_l1Val_0 y0 y1), (.br (isL (valO (g_Ls_l1Val_0 y0 y1))) (.leaf .ret [(.T 0, .t (.val false [.sl .any 3 (.int .i64) y0])), (.T 2, .t (.val false [.bool (getL (valO (g_Ls_l1Val_0 y0 y1)))]))]) (.leaf (.exit 0) [(.T 0, .t (.val false [.sl .any 3 (.int .i64) y0])), (.T 2, .t (.val false [.undef]))])))
  | b, h => Os_l1Val_0 b h
theorem bs_l1Val_0 (y0 : List (Int)) (y1 : Int) : Tr.bt Es_l1Val Os_l1Val_0 (exec Es_l1Val 0 cs_l1Val_0 (St.of (hs_l1Val_0 y0 y1)) (leafRd Es_l1Val 0)) = (g_Ss_l1Val_0 y0 y1).bt (fun (y1 : (Int)) => (hs_l1Val_0 y0 y1)) (xs_l1Val_0 y0) := by kernel_rfl
theorem ks_l1Val_1 : OrcOk Es_l1Val Os_l1Val_1 lss_l1Val 1 := orc_add ks_l1Val_0 (fun n p hp h ex h' ho => by
  obtain ⟨b, c⟩ := p
  obtain ⟨xt, h1, h2⟩ := ho
  have h1 : Os_l1Val_1 b h = some (true, xt) := h1
  unfold Os_l1Val_1 at h1
  split at h1
  · injection h1 with h1
    injection h1 with e1 e2
    subst e2
    have hc : c = cs_l1Val_0 := ms_l1Val_0 _ hp rfl
    subst hc
    right
    rename_i y0 y1
    have key := LT_step ks_l1Val_0 hp (fun q hq => loopsAll_in _ _ _ _ hp hq) (fun (y1 : (Int)) => (hs_l1Val_0 y0 y1)) (xs_l1Val_0 y0) (g_Ss_l1Val_0 y0) (fun x => by first | exact bs_l1Val_0 y0 x) n (x := y1) (okO_some e1)
    have hx : ∀ r, XT.sel (.br (isL r) (.leaf .ret [(.T 0, .t (.val false [.sl .any 3 (.int .i64) y0])), (.T 2, .t (.val false [.bool (getL r)]))]) (.leaf (.exit 0) [(.T 0, .t (.val false [.sl .any 3 (.int .i64) y0])), (.T 2, .t (.val false [.undef]))])) = xs_l1Val_0 y0 r := fun r => by first | rfl | (rcases r with r | r <;> rfl) | (rcases r with r | r | r <;> rfl) | (rcases r with r | r | r | r <;> rfl)
    have h3 := (hx (valO (g_Ls_l1Val_0 y0 y1))).symm.trans h2
    have e3 := congrArg Prod.fst h3
    have e4 := congrArg Prod.snd h3
    simp only at e3 e4
    rw [← e3, ← e4]
    exact key
  · exact .inl ⟨xt, h1, h2⟩)
noncomputable def g_As_l1Val (a0 : List (Int)) : Bool := okO (g_Ls_l1Val_0 a0 (0 : Int)) && (isL (valO (g_Ls_l1Val_0 a0 (0 : Int))) || g_As_l1In (↑(List.length a0) : Int) (1 : Int) (3 : Int))
noncomputable def g_Vs_l1Val_0 (a0 : List (Int)) : Bool := bif isL (valO (g_Ls_l1Val_0 a0 (0 : Int))) then getL (valO (g_Ls_l1Val_0 a0 (0 : Int))) else g_Vs_l1In_0 (↑(List.length a0) : Int) (1 : Int) (3 : Int)
noncomputable def Fs_l1Val : FSem := fun ys => match ys with
  | [.val false [.sl .any 3 (.int .i64) a0]] => some ((g_As_l1Val a0), .val false [.bool (g_Vs_l1Val_0 a0)], [])
  | _ => none
theorem vs_l1Val (a0 : List (Int)) : collapseH .std Es_l1Val Os_l1Val_1 (execFn Es_l1Val Go.Proofs.Tryd.f44 mss_l1Val [.val false [.sl .any 3 (.int .i64) a0]]) = some ((g_As_l1Val a0), .val false [.bool (g_Vs_l1Val_0 a0)], []) := by kernel_rfl
theorem ss_l1Val : Sound Go.Proofs.Tryd.prog 44 mss_l1Val Fs_l1Val := by
  refine fn_gen goods_l1Val (by kernel_rfl) .std (fn := Go.Proofs.Tryd.f44) (c := (Go.Proofs.Tryd.f44.body.getD .skip)) (o := Os_l1Val_1) (k := 1) (by kernel_rfl) (by kernel_rfl) (by kernel_rfl) (by kernel_rfl) (by decide) ks_l1Val_1 ?_
  intro ys r outs h
  unfold Fs_l1Val at h
  split at h
  · exact (vs_l1Val _).trans h
  · cases h
end Go.Proofs.YtnbcdkbjmpadmaaDoor.E
end
section
namespace Go.Proofs.YtnbcdkbjmpadmaaDoor.E
open Go
set_option maxRecDepth 100000
set_option maxHeartbeats 0
set_option linter.all false
noncomputable def Es_StoOk : Env where
  tt := mkTI Go.Proofs.Tryd.prog
  fn := fun f => match f with
    | 43 => some (mss_l1Key, FSem.wk mss_l1Key Fs_l1Key)
    | 44 => some (mss_l1Val, FSem.wk mss_l1Val Fs_l1Val)
    | _ => none
  bxf := fun _ => none
  mv := []
  keep := fun b => match b with
    | 0 => [(1, false), (3, false)]
    | _ => []
  keepB := fun b => match b with
    | 0 => [(1, false)]
    | _ => []
  keepX := fun b => match b with
    | 0 => [(2, false)]
    | _ => []
  keepXB := fun b => match b with
    | 0 => []
    | _ => []
theorem goodFs_StoOk : ∀ f ms F, Es_StoOk.fn f = some (ms, F) → Sound Go.Proofs.Tryd.prog f ms F := fun f ms F h => by
  unfold Es_StoOk at h
  dsimp only at h
  split at h
  · injection h with h; injection h with e1 e2; subst e1 e2; exact Sound.wk ss_l1Key
  · injection h with h; injection h with e1 e2; subst e1 e2; exact Sound.wk ss_l1Val
  · cases h
theorem goodBs_StoOk : ∀ f ms F, Es_StoOk.bxf f = some (ms, F) → SoundB Go.Proofs.Tryd.prog f ms F := fun f ms F h => by cases h
theorem goods_StoOk : Good Go.Proofs.Tryd.prog Es_StoOk := ⟨rfl, goodFs_StoOk, goodBs_StoOk⟩
noncomputable def Os_StoOk_0 : Orc := fun _ _ => none
noncomputable def mss_StoOk : List PM := [.rd]
noncomputable def lss_StoOk : List (Nat × Code) := loopsAll 0 (Go.Proofs.Tryd.f29.body.getD .skip)
noncomputable def cs_StoOk_0 : Code := (loopOf 0 (Go.Proofs.Tryd.f29.body.getD .skip)).getD .skip
theorem lseqs_StoOk : lss_StoOk = [(0, cs_StoOk_0)] := by kernel_rfl
theorem ms_StoOk_0 : ∀ p, p ∈ lss_StoOk → p.1 = 0 → p.2 = cs_StoOk_0 := by
  intro p hp
  rw [lseqs_StoOk] at hp
  simp only [List.mem_cons, List.not_mem_nil, or_false] at hp
  subst hp; simp
theorem ks_StoOk_0 : OrcOk Es_StoOk Os_StoOk_0 lss_StoOk 0 := orcOk_none
noncomputable def hs_StoOk_0 (y0 : Int) (y1 : List ((ByteArray) × (List (Int)))) : List (Pl × LV) := [(.T 1, .t (.val false [.ptr 1 0 0])), (.T 3, .t (.val false [.int .i64 y0])), (.B 1, .b 0 false [.sl .any 42 (.pair .str (.sl 3 (.int .i64))) y1])]
noncomputable def g_Ss_StoOk_0 (y1 : List ((ByteArray) × (List (Int)))) : ((Int)) → RT ((Int)) (((Bool)) ⊕ (Unit))
  | y0 => .br (true) (.br (decide (y0 < (↑(List.length y1) : Int))) (.br (decide ((0 : Int) ≤ y0 ∧ y0 < (↑(List.length y1) : Int))) (.br (g_As_l1Key (at_ (Ty.pair Ty.str (Ty.sl (nat_lit 3) (Ty.int IntKind.i64))) y1 (Int.toNat y0)).1) (.br (!g_Vs_l1Key_0 (at_ (Ty.pair Ty.str (Ty.sl (nat_lit 3) (Ty.int IntKind.i64))) y1 (Int.toNat y0)).1) (.out (.inl false)) (.br (decide ((0 : Int) ≤ y0 ∧ y0 < (↑(List.length y1) : Int))) (.br (g_As_l1Val (at_ (Ty.pair Ty.str (Ty.sl (nat_lit 3) (Ty.int IntKind.i64))) y1 (Int.toNat y0)).2) (.br (!g_Vs_l1Val_0 (at_ (Ty.pair Ty.str (Ty.sl (nat_lit 3) (Ty.int IntKind.i64))) y1 (Int.toNat y0)).2) (.out (.inl false)) (.br (true) (.br (decide (y0 > (0 : Int))) (.br (true) (.br (decide ((0 : Int) ≤ IntKind.wrap IntKind.i64 (y0 - (1 : Int)) ∧ IntKind.wrap IntKind.i64 (y0 - (1 : Int)) < (↑(List.length y1) : Int))) (.br (decide ((0 : Int) ≤ y0 ∧ y0 < (↑(List.length y1) : Int))) (.br (true) (.br (!Op.bytesLess (ByteArray.toList (at_ (Ty.pair Ty.str (Ty.sl (nat_lit 3) (Ty.int IntKind.i64))) y1 (Int.toNat (IntKind.wrap IntKind.i64 (y0 - (1 : Int))))).1) (ByteArray.toList (at_ (Ty.pair Ty.str (Ty.sl (nat_lit 3) (Ty.int IntKind.i64))) y1 (Int.toNat y0)).1)) (.out (.inl false)) (.br (true) (.go (IntKind.wrap IntKind.i64 (y0 + (1 : Int)))) (.bad))) (.bad)) (.bad)) (.bad)) (.bad)) (.br (true) (.go (IntKind.wrap IntKind.i64 (y0 + (1 : Int)))) (.bad))) (.bad))) (.bad)) (.bad))) (.bad)) (.bad)) (.out (.inr (())))) (.bad)
noncomputable def g_Ls_StoOk_0 (y1 : List ((ByteArray) × (List (Int)))) (x : (Int)) : Option (((Bool)) ⊕ (Unit)) := loopO (g_Ss_StoOk_0 y1) x
noncomputable def xs_StoOk_0 (y1 : List ((ByteArray) × (List (Int)))) : (((Bool)) ⊕ (Unit)) → Ex × List (Pl × LV) := fun
  | .inl r => (.ret, [(.T 2, .t (.val false [.bool r]))])
  | .inr (r) => (.exit 0, [(.T 2, .t (.val false [.undef]))])
noncomputable def Os_StoOk_1 : Orc := fun b h => match b, h with
  | 0, [(.T 1, .t (.val false [.ptr 1 0 0])), (.T 3, .t (.val false [.int .i64 y0])), (.B 1, .b 0 false [.sl .any 42 (.pair .str (.sl 3 (.int .i64))) y1])] => some (okO (g_Ls_StoOk_0 y1 y0), (.br (isL (valO (g_Ls_StoOk_0 y1 y0))) (.leaf .ret [(.T 2, .t (.val false [.bool (getL (valO (g_Ls_StoOk_0 y1 y0)))]))]) (.leaf (.exit 0) [(.T 2, .t (.val false [.undef]))])))
  | b, h => Os_StoOk_0 b h
theorem bs_StoOk_0 (y0 : Int) (y1 : List ((ByteArray) × (List (Int)))) : Tr.bt Es_StoOk Os_StoOk_0 (exec Es_StoOk 0 cs_StoOk_0 (St.of (hs_StoOk_0 y0 y1)) (leafRd Es_StoOk 0)) = (g_Ss_StoOk_0 y1 y0).bt (fun (y0 : (Int)) => (hs_StoOk_0 y0 y1)) (xs_StoOk_0 y1) := by kernel_rfl
theorem ks_StoOk_1 : OrcOk Es_StoOk Os_StoOk_1 lss_StoOk 1 := orc_add ks_StoOk_0 (fun n p hp h ex h' ho => by
  obtain ⟨b, c⟩ := p
  obtain ⟨xt, h1, h2⟩ := ho
  have h1 : Os_StoOk_1 b h = some (true, xt) := h1
  unfold Os_StoOk_1 at h1
  split at h1
  · injection h1 with h1
    injection h1 with e1 e2
    subst e2
    have hc : c = cs_StoOk_0 := ms_StoOk_0 _ hp rfl
    subst hc
    right
    rename_i y0 y1
    have key := LT_step ks_StoOk_0 hp (fun q hq => loopsAll_in _ _ _ _ hp hq) (fun (y0 : (Int)) => (hs_StoOk_0 y0 y1)) (xs_StoOk_0 y1) (g_Ss_StoOk_0 y1) (fun x => by first | exact bs_StoOk_0 x y1) n (x := y0) (okO_some e1)
    have hx : ∀ r, XT.sel (.br (isL r) (.leaf .ret [(.T 2, .t (.val false [.bool (getL r)]))]) (.leaf (.exit 0) [(.T 2, .t (.val false [.undef]))])) = xs_StoOk_0 y1 r := fun r => by first | rfl | (rcases r with r | r <;> rfl) | (rcases r with r | r | r <;> rfl) | (rcases r with r | r | r | r <;> rfl)
    have h3 := (hx (valO (g_Ls_StoOk_0 y1 y0))).symm.trans h2
    have e3 := congrArg Prod.fst h3
    have e4 := congrArg Prod.snd h3
    simp only at e3 e4
    rw [← e3, ← e4]
    exact key
  · exact .inl ⟨xt, h1, h2⟩)
noncomputable def g_As_StoOk (a0 : List ((ByteArray) × (List (Int)))) : Bool := decide ((↑(List.length a0) : Int) > (40 : Int)) || okO (g_Ls_StoOk_0 a0 (0 : Int))
noncomputable def g_Vs_StoOk_0 (a0 : List ((ByteArray) × (List (Int)))) : Bool := bif decide ((↑(List.length a0) : Int) > (40 : Int)) then false else bif isL (valO (g_Ls_StoOk_0 a0 (0 : Int))) then getL (valO (g_Ls_StoOk_0 a0 (0 : Int))) else true
noncomputable def Fs_StoOk : FSem := fun ys => match ys with
  | [.val true [.sl .any 42 (.pair .str (.sl 3 (.int .i64))) a0]] => some ((g_As_StoOk a0), .val false [.bool (g_Vs_StoOk_0 a0)], [])
  | _ => none
theorem vs_StoOk (a0 : List ((ByteArray) × (List (Int)))) : collapseH .std Es_StoOk Os_StoOk_1 (execFn Es_StoOk Go.Proofs.Tryd.f29 mss_StoOk [.val true [.sl .any 42 (.pair .str (.sl 3 (.int .i64))) a0]]) = some ((g_As_StoOk a0), .val false [.bool (g_Vs_StoOk_0 a0)], []) := by kernel_rfl
theorem ss_StoOk : Sound Go.Proofs.Tryd.prog 29 mss_StoOk Fs_StoOk := by
  refine fn_gen goods_StoOk (by kernel_rfl) .std (fn := Go.Proofs.Tryd.f29) (c := (Go.Proofs.Tryd.f29.body.getD .skip)) (o := Os_StoOk_1) (k := 1) (by kernel_rfl) (by kernel_rfl) (by kernel_rfl) (by kernel_rfl) (by decide) ks_StoOk_1 ?_
  intro ys r outs h
  unfold Fs_StoOk at h
  split at h
  · exact (vs_StoOk _).trans h
  · cases h
end Go.Proofs.YtnbcdkbjmpadmaaDoor.E
end
section
namespace Go.Proofs.YtnbcdkbjmpadmaaDoor.E
open Go
set_option maxRecDepth 100000
set_option maxHeartbeats 0
set_option linter.all false
noncomputable def Es_l3Form : Env where
  tt := mkTI Go.Proofs.Tryd.prog
  fn := fun f => match f with
    | 28 => some (mss_l1In, FSem.wk mss_l1In Fs_l1In)
    | _ => none
  bxf := fun _ => none
  mv := []
  keep := fun b => match b with
    | 0 => [(0, false), (3, false), (5, false)]
    | _ => []
  keepB := fun b => match b with
    | 0 => [(3, false)]
    | _ => []
  keepX := fun b => match b with
    | 0 => [(4, false)]
    | _ => []
  keepXB := fun b => match b with
    | 0 => []
    | _ => []
theorem goodFs_l3Form : ∀ f ms F, Es_l3Form.fn f = some (ms, F) → Sound Go.Proofs.Tryd.prog f ms F := fun f ms F h => by
  unfold Es_l3Form at h
  dsimp only at h
  split at h
  · injection h with h; injection h with e1 e2; subst e1 e2; exact Sound.wk ss_l1In
  · cases h
theorem goodBs_l3Form : ∀ f ms F, Es_l3Form.bxf f = some (ms, F) → SoundB Go.Proofs.Tryd.prog f ms F := fun f ms F h => by cases h
theorem goods_l3Form : Good Go.Proofs.Tryd.prog Es_l3Form := ⟨rfl, goodFs_l3Form, goodBs_l3Form⟩
noncomputable def Os_l3Form_0 : Orc := fun _ _ => none
noncomputable def mss_l3Form : List PM := [.own, .rd]
noncomputable def lss_l3Form : List (Nat × Code) := loopsAll 0 (Go.Proofs.Tryd.f30.body.getD .skip)
noncomputable def cs_l3Form_0 : Code := (loopOf 0 (Go.Proofs.Tryd.f30.body.getD .skip)).getD .skip
theorem lseqs_l3Form : lss_l3Form = [(0, cs_l3Form_0)] := by kernel_rfl
theorem ms_l3Form_0 : ∀ p, p ∈ lss_l3Form → p.1 = 0 → p.2 = cs_l3Form_0 := by
  intro p hp
  rw [lseqs_l3Form] at hp
  simp only [List.mem_cons, List.not_mem_nil, or_false] at hp
  subst hp; simp
theorem ks_l3Form_0 : OrcOk Es_l3Form Os_l3Form_0 lss_l3Form 0 := orcOk_none
noncomputable def hs_l3Form_0 (y0 : Int) (y1 : Int) (y2 : List ((ByteArray) × (List (Int)))) : List (Pl × LV) := [(.T 0, .t (.val false [.int .i64 y0])), (.T 3, .t (.val false [.ptr 3 0 0])), (.T 5, .t (.val false [.int .i64 y1])), (.B 3, .b 0 false [.sl .any 42 (.pair .str (.sl 3 (.int .i64))) y2])]
noncomputable def g_Ss_l3Form_0 (y0 : Int) (y2 : List ((ByteArray) × (List (Int)))) : ((Int)) → RT ((Int)) (((Bool)) ⊕ (Unit))
  | y1 => .br (true) (.br (decide (y1 < (↑(List.length y2) : Int))) (.br (decide ((0 : Int) ≤ y1 ∧ y1 < (↑(List.length y2) : Int))) (.br (decide ((0 : Int) ≤ (0 : Int) ∧ (0 : Int) < (↑(ByteArray.size (at_ (Ty.pair Ty.str (Ty.sl (nat_lit 3) (Ty.int IntKind.i64))) y2 (Int.toNat y1)).1) : Int))) (.br (decide ((0 : Int) ≤ (0 : Int) ∧ (0 : Int) < (↑(List.length (at_ (Ty.pair Ty.str (Ty.sl (nat_lit 3) (Ty.int IntKind.i64))) y2 (Int.toNat y1)).2) : Int))) (.br (true) (.br (y0 == (1 : Int)) (.br (true) (.br (byteAt (at_ (Ty.pair Ty.str (Ty.sl (nat_lit 3) (Ty.int IntKind.i64))) y2 (Int.toNat y1)).1 (nat_lit 0) == (115 : Int)) (.br (true) (.br ((↑(List.length (at_ (Ty.pair Ty.str (Ty.sl (nat_lit 3) (Ty.int IntKind.i64))) y2 (Int.toNat y1)).2) : Int) == (1 : Int)) (.br (true) (.br (decide (at_ (Ty.int IntKind.i64) (at_ (Ty.pair Ty.str (Ty.sl (nat_lit 3) (Ty.int IntKind.i64))) y2 (Int.toNat y1)).2 (nat_lit 0) ≤ (9 : Int))) (.br (false) (.out (.inl false)) (.br (true) (.br (byteAt (at_ (Ty.pair Ty.str (Ty.sl (nat_lit 3) (Ty.int IntKind.i64))) y2 (Int.toNat y1)).1 (nat_lit 0) != (97 : Int)) (.br (true) (.br ((↑(ByteArray.size (at_ (Ty.pair Ty.str (Ty.sl (nat_lit 3) (Ty.int IntKind.i64))) y2 (Int.toNat y1)).1) : Int) != (2 : Int)) (.out (.inl false)) (.br (true) (.go (IntKind.wrap IntKind.i64 (y1 + (1 : Int)))) (.bad))) (.bad)) (.br (true) (.go (IntKind.wrap IntKind.i64 (y1 + (1 : Int)))) (.bad))) (.bad))) (.br (true) (.br (y0 == (3 : Int)) (.br (true) (.br (byteAt (at_ (Ty.pair Ty.str (Ty.sl (nat_lit 3) (Ty.int IntKind.i64))) y2 (Int.toNat y1)).1 (nat_lit 0) == (97 : Int)) (.br (true) (.br ((↑(List.length (at_ (Ty.pair Ty.str (Ty.sl (nat_lit 3) (Ty.int IntKind.i64))) y2 (Int.toNat y1)).2) : Int) == (1 : Int)) (.br (false) (.out (.inl false)) (.br (true) (.br (byteAt (at_ (Ty.pair Ty.str (Ty.sl (nat_lit 3) (Ty.int IntKind.i64))) y2 (Int.toNat y1)).1 (nat_lit 0) != (97 : Int)) (.br (true) (.br ((↑(ByteArray.size (at_ (Ty.pair Ty.str (Ty.sl (nat_lit 3) (Ty.int IntKind.i64))) y2 (Int.toNat y1)).1) : Int) != (2 : Int)) (.out (.inl false)) (.br (true) (.go (IntKind.wrap IntKind.i64 (y1 + (1 : Int)))) (.bad))) (.bad)) (.br (true) (.go (IntKind.wrap IntKind.i64 (y1 + (1 : Int)))) (.bad))) (.bad))) (.br (true) (.br (y0 == (2 : Int)) (.br (true) (.br (decide (at_ (Ty.int IntKind.i64) (at_ (Ty.pair Ty.str (Ty.sl (nat_lit 3) (Ty.int IntKind.i64))) y2 (Int.toNat y1)).2 (nat_lit 0) ≤ (9 : Int))) (.br (true) (.br (byteAt (at_ (Ty.pair Ty.str (Ty.sl (nat_lit 3) (Ty.int IntKind.i64))) y2 (Int.toNat y1)).1 (nat_lit 0) == (99 : Int)) (.br (true) (.br ((↑(List.length (at_ (Ty.pair Ty.str (Ty.sl (nat_lit 3) (Ty.int IntKind.i64))) y2 (Int.toNat y1)).2) : Int) == (2 : Int)) (.br (false) (.out (.inl false)) (.br (true) (.br (byteAt (at_ (Ty.pair Ty.str (Ty.sl (nat_lit 3) (Ty.int IntKind.i64))) y2 (Int.toNat y1)).1 (nat_lit 0) != (97 : Int)) (.br (true) (.br ((↑(ByteArray.size (at_ (Ty.pair Ty.str (Ty.sl (nat_lit 3) (Ty.int IntKind.i64))) y2 (Int.toNat y1)).1) : Int) != (2 : Int)) (.out (.inl false)) (.br (true) (.go (IntKind.wrap IntKind.i64 (y1 + (1 : Int)))) (.bad))) (.bad)) (.br (true) (.go (IntKind.wrap IntKind.i64 (y1 + (1 : Int)))) (.bad))) (.bad))) (.br (true) (.br (byteAt (at_ (Ty.pair Ty.str (Ty.sl (nat_lit 3) (Ty.int IntKind.i64))) y2 (Int.toNat y1)).1 (nat_lit 0) == (102 : Int)) (.br (true) (.br ((↑(List.length (at_ (Ty.pair Ty.str (Ty.sl (nat_lit 3) (Ty.int IntKind.i64))) y2 (Int.toNat y1)).2) : Int) == (3 : Int)) (.br (decide ((0 : Int) ≤ (1 : Int) ∧ (1 : Int) < (↑(List.length (at_ (Ty.pair Ty.str (Ty.sl (nat_lit 3) (Ty.int IntKind.i64))) y2 (Int.toNat y1)).2) : Int))) (.br (g_As_l1In (at_ (Ty.int IntKind.i64) (at_ (Ty.pair Ty.str (Ty.sl (nat_lit 3) (Ty.int IntKind.i64))) y2 (Int.toNat y1)).2 (nat_lit 1)) (1 : Int) (99 : Int)) (.br (g_Vs_l1In_0 (at_ (Ty.int IntKind.i64) (at_ (Ty.pair Ty.str (Ty.sl (nat_lit 3) (Ty.int IntKind.i64))) y2 (Int.toNat y1)).2 (nat_lit 1)) (1 : Int) (99 : Int)) (.br (decide ((0 : Int) ≤ (2 : Int) ∧ (2 : Int) < (↑(List.length (at_ (Ty.pair Ty.str (Ty.sl (nat_lit 3) (Ty.int IntKind.i64))) y2 (Int.toNat y1)).2) : Int))) (.br (true) (.br (!decide (at_ (Ty.int IntKind.i64) (at_ (Ty.pair Ty.str (Ty.sl (nat_lit 3) (Ty.int IntKind.i64))) y2 (Int.toNat y1)).2 (nat_lit 2) ≤ (1 : Int))) (.out (.inl false)) (.br (true) (.br (byteAt (at_ (Ty.pair Ty.str (Ty.sl (nat_lit 3) (Ty.int IntKind.i64))) y2 (Int.toNat y1)).1 (nat_lit 0) != (97 : Int)) (.br (true) (.br ((↑(ByteArray.size (at_ (Ty.pair Ty.str (Ty.sl (nat_lit 3) (Ty.int IntKind.i64))) y2 (Int.toNat y1)).1) : Int) != (2 : Int)) (.out (.inl false)) (.br (true) (.go (IntKind.wrap IntKind.i64 (y1 + (1 : Int)))) (.bad))) (.bad)) (.br (true) (.go (IntKind.wrap IntKind.i64 (y1 + (1 : Int)))) (.bad))) (.bad))) (.bad)) (.bad)) (.br (true) (.out (.inl false)) (.br (true) (.br (byteAt (at_ (Ty.pair Ty.str (Ty.sl (nat_lit 3) (Ty.int IntKind.i64))) y2 (Int.toNat y1)).1 (nat_lit 0) != (97 : Int)) (.br (true) (.br ((↑(ByteArray.size (at_ (Ty.pair Ty.str (Ty.sl (nat_lit 3) (Ty.int IntKind.i64))) y2 (Int.toNat y1)).1) : Int) != (2 : Int)) (.out (.inl false)) (.br (true) (.go (IntKind.wrap IntKind.i64 (y1 + (1 : Int)))) (.bad))) (.bad)) (.br (true) (.go (IntKind.wrap IntKind.i64 (y1 + (1 : Int)))) (.bad))) (.bad)))) (.bad)) (.bad)) (.br (true) (.out (.inl false)) (.br (true) (.br (byteAt (at_ (Ty.pair Ty.str (Ty.sl (nat_lit 3) (Ty.int IntKind.i64))) y2 (Int.toNat y1)).1 (nat_lit 0) != (97 : Int)) (.br (true) (.br ((↑(ByteArray.size (at_ (Ty.pair Ty.str (Ty.sl (nat_lit 3) (Ty.int IntKind.i64))) y2 (Int.toNat y1)).1) : Int) != (2 : Int)) (.out (.inl false)) (.br (true) (.go (IntKind.wrap IntKind.i64 (y1 + (1 : Int)))) (.bad))) (.bad)) (.br (true) (.go (IntKind.wrap IntKind.i64 (y1 + (1 : Int)))) (.bad))) (.bad)))) (.bad)) (.br (true) (.out (.inl false)) (.br (true) (.br (byteAt (at_ (Ty.pair Ty.str (Ty.sl (nat_lit 3) (Ty.int IntKind.i64))) y2 (Int.toNat y1)).1 (nat_lit 0) != (97 : Int)) (.br (true) (.br ((↑(ByteArray.size (at_ (Ty.pair Ty.str (Ty.sl (nat_lit 3) (Ty.int IntKind.i64))) y2 (Int.toNat y1)).1) : Int) != (2 : Int)) (.out (.inl false)) (.br (true) (.go (IntKind.wrap IntKind.i64 (y1 + (1 : Int)))) (.bad))) (.bad)) (.br (true) (.go (IntKind.wrap IntKind.i64 (y1 + (1 : Int)))) (.bad))) (.bad)))) (.bad))) (.bad)) (.br (true) (.br (byteAt (at_ (Ty.pair Ty.str (Ty.sl (nat_lit 3) (Ty.int IntKind.i64))) y2 (Int.toNat y1)).1 (nat_lit 0) == (102 : Int)) (.br (true) (.br ((↑(List.length (at_ (Ty.pair Ty.str (Ty.sl (nat_lit 3) (Ty.int IntKind.i64))) y2 (Int.toNat y1)).2) : Int) == (3 : Int)) (.br (decide ((0 : Int) ≤ (1 : Int) ∧ (1 : Int) < (↑(List.length (at_ (Ty.pair Ty.str (Ty.sl (nat_lit 3) (Ty.int IntKind.i64))) y2 (Int.toNat y1)).2) : Int))) (.br (g_As_l1In (at_ (Ty.int IntKind.i64) (at_ (Ty.pair Ty.str (Ty.sl (nat_lit 3) (Ty.int IntKind.i64))) y2 (Int.toNat y1)).2 (nat_lit 1)) (1 : Int) (99 : Int)) (.br (g_Vs_l1In_0 (at_ (Ty.int IntKind.i64) (at_ (Ty.pair Ty.str (Ty.sl (nat_lit 3) (Ty.int IntKind.i64))) y2 (Int.toNat y1)).2 (nat_lit 1)) (1 : Int) (99 : Int)) (.br (decide ((0 : Int) ≤ (2 : Int) ∧ (2 : Int) < (↑(List.length (at_ (Ty.pair Ty.str (Ty.sl (nat_lit 3) (Ty.int IntKind.i64))) y2 (Int.toNat y1)).2) : Int))) (.br (true) (.br (!decide (at_ (Ty.int IntKind.i64) (at_ (Ty.pair Ty.str (Ty.sl (nat_lit 3) (Ty.int IntKind.i64))) y2 (Int.toNat y1)).2 (nat_lit 2) ≤ (1 : Int))) (.out (.inl false)) (.br (true) (.br (byteAt (at_ (Ty.pair Ty.str (Ty.sl (nat_lit 3) (Ty.int IntKind.i64))) y2 (Int.toNat y1)).1 (nat_lit 0) != (97 : Int)) (.br (true) (.br ((↑(ByteArray.size (at_ (Ty.pair Ty.str (Ty.sl (nat_lit 3) (Ty.int IntKind.i64))) y2 (Int.toNat y1)).1) : Int) != (2 : Int)) (.out (.inl false)) (.br (true) (.go (IntKind.wrap IntKind.i64 (y1 + (1 : Int)))) (.bad))) (.bad)) (.br (true) (.go (IntKind.wrap IntKind.i64 (y1 + (1 : Int)))) (.bad))) (.bad))) (.bad)) (.bad)) (.br (true) (.out (.inl false)) (.br (true) (.br (byteAt (at_ (Ty.pair Ty.str (Ty.sl (nat_lit 3) (Ty.int IntKind.i64))) y2 (Int.toNat y1)).1 (nat_lit 0) != (97 : Int)) (.br (true) (.br ((↑(ByteArray.size (at_ (Ty.pair Ty.str (Ty.sl (nat_lit 3) (Ty.int IntKind.i64))) y2 (Int.toNat y1)).1) : Int) != (2 : Int)) (.out (.inl false)) (.br (true) (.go (IntKind.wrap IntKind.i64 (y1 + (1 : Int)))) (.bad))) (.bad)) (.br (true) (.go (IntKind.wrap IntKind.i64 (y1 + (1 : Int)))) (.bad))) (.bad)))) (.bad)) (.bad)) (.br (true) (.out (.inl false)) (.br (true) (.br (byteAt (at_ (Ty.pair Ty.str (Ty.sl (nat_lit 3) (Ty.int IntKind.i64))) y2 (Int.toNat y1)).1 (nat_lit 0) != (97 : Int)) (.br (true) (.br ((↑(ByteArray.size (at_ (Ty.pair Ty.str (Ty.sl (nat_lit 3) (Ty.int IntKind.i64))) y2 (Int.toNat y1)).1) : Int) != (2 : Int)) (.out (.inl false)) (.br (true) (.go (IntKind.wrap IntKind.i64 (y1 + (1 : Int)))) (.bad))) (.bad)) (.br (true) (.go (IntKind.wrap IntKind.i64 (y1 + (1 : Int)))) (.bad))) (.bad)))) (.bad)) (.br (true) (.out (.inl false)) (.br (true) (.br (byteAt (at_ (Ty.pair Ty.str (Ty.sl (nat_lit 3) (Ty.int IntKind.i64))) y2 (Int.toNat y1)).1 (nat_lit 0) != (97 : Int)) (.br (true) (.br ((↑(ByteArray.size (at_ (Ty.pair Ty.str (Ty.sl (nat_lit 3) (Ty.int IntKind.i64))) y2 (Int.toNat y1)).1) : Int) != (2 : Int)) (.out (.inl false)) (.br (true) (.go (IntKind.wrap IntKind.i64 (y1 + (1 : Int)))) (.bad))) (.bad)) (.br (true) (.go (IntKind.wrap IntKind.i64 (y1 + (1 : Int)))) (.bad))) (.bad)))) (.bad))) (.bad)) (.br (true) (.out (.inl false)) (.br (true) (.br (byteAt (at_ (Ty.pair Ty.str (Ty.sl (nat_lit 3) (Ty.int IntKind.i64))) y2 (Int.toNat y1)).1 (nat_lit 0) != (97 : Int)) (.br (true) (.br ((↑(ByteArray.size (at_ (Ty.pair Ty.str (Ty.sl (nat_lit 3) (Ty.int IntKind.i64))) y2 (Int.toNat y1)).1) : Int) != (2 : Int)) (.out (.inl false)) (.br (true) (.go (IntKind.wrap IntKind.i64 (y1 + (1 : Int)))) (.bad))) (.bad)) (.br (true) (.go (IntKind.wrap IntKind.i64 (y1 + (1 : Int)))) (.bad))) (.bad)))) (.bad)) (.br (true) (.out (.inl false)) (.br (true) (.br (byteAt (at_ (Ty.pair Ty.str (Ty.sl (nat_lit 3) (Ty.int IntKind.i64))) y2 (Int.toNat y1)).1 (nat_lit 0) != (97 : Int)) (.br (true) (.br ((↑(ByteArray.size (at_ (Ty.pair Ty.str (Ty.sl (nat_lit 3) (Ty.int IntKind.i64))) y2 (Int.toNat y1)).1) : Int) != (2 : Int)) (.out (.inl false)) (.br (true) (.go (IntKind.wrap IntKind.i64 (y1 + (1 : Int)))) (.bad))) (.bad)) (.br (true) (.go (IntKind.wrap IntKind.i64 (y1 + (1 : Int)))) (.bad))) (.bad)))) (.bad))) (.bad)) (.br (true) (.br (y0 == (2 : Int)) (.br (true) (.br (decide (at_ (Ty.int IntKind.i64) (at_ (Ty.pair Ty.str (Ty.sl (nat_lit 3) (Ty.int IntKind.i64))) y2 (Int.toNat y1)).2 (nat_lit 0) ≤ (9 : Int))) (.br (true) (.br (byteAt (at_ (Ty.pair Ty.str (Ty.sl (nat_lit 3) (Ty.int IntKind.i64))) y2 (Int.toNat y1)).1 (nat_lit 0) == (99 : Int)) (.br (true) (.br ((↑(List.length (at_ (Ty.pair Ty.str (Ty.sl (nat_lit 3) (Ty.int IntKind.i64))) y2 (Int.toNat y1)).2) : Int) == (2 : Int)) (.br (false) (.out (.inl false)) (.br (true) (.br (byteAt (at_ (Ty.pair Ty.str (Ty.sl (nat_lit 3) (Ty.int IntKind.i64))) y2 (Int.toNat y1)).1 (nat_lit 0) != (97 : Int)) (.br (true) (.br ((↑(ByteArray.size (at_ (Ty.pair Ty.str (Ty.sl (nat_lit 3) (Ty.int IntKind.i64))) y2 (Int.toNat y1)).1) : Int) != (2 : Int)) (.out (.inl false)) (.br (true) (.go (IntKind.wrap IntKind.i64 (y1 + (1 : Int)))) (.bad))) (.bad)) (.br (true) (.go (IntKind.wrap IntKind.i64 (y1 + (1 : Int)))) (.bad))) (.bad))) (.br (true) (.br (byteAt (at_ (Ty.pair Ty.str (Ty.sl (nat_lit 3) (Ty.int IntKind.i64))) y2 (Int.toNat y1)).1 (nat_lit 0) == (102 : Int)) (.br (true) (.br ((↑(List.length (at_ (Ty.pair Ty.str (Ty.sl (nat_lit 3) (Ty.int IntKind.i64))) y2 (Int.toNat y1)).2) : Int) == (3 : Int)) (.br (decide ((0 : Int) ≤ (1 : Int) ∧ (1 : Int) < (↑(List.length (at_ (Ty.pair Ty.str (Ty.sl (nat_lit 3) (Ty.int IntKind.i64))) y2 (Int.toNat y1)).2) : Int))) (.br (g_As_l1In (at_ (Ty.int IntKind.i64) (at_ (Ty.pair Ty.str (Ty.sl (nat_lit 3) (Ty.int IntKind.i64))) y2 (Int.toNat y1)).2 (nat_lit 1)) (1 : Int) (99 : Int)) (.br (g_Vs_l1In_0 (at_ (Ty.int IntKind.i64) (at_ (Ty.pair Ty.str (Ty.sl (nat_lit 3) (Ty.int IntKind.i64))) y2 (Int.toNat y1)).2 (nat_lit 1)) (1 : Int) (99 : Int)) (.br (decide ((0 : Int) ≤ (2 : Int) ∧ (2 : Int) < (↑(List.length (at_ (Ty.pair Ty.str (Ty.sl (nat_lit 3) (Ty.int IntKind.i64))) y2 (Int.toNat y1)).2) : Int))) (.br (true) (.br (!decide (at_ (Ty.int IntKind.i64) (at_ (Ty.pair Ty.str (Ty.sl (nat_lit 3) (Ty.int IntKind.i64))) y2 (Int.toNat y1)).2 (nat_lit 2) ≤ (1 : Int))) (.out (.inl false)) (.br (true) (.br (byteAt (at_ (Ty.pair Ty.str (Ty.sl (nat_lit 3) (Ty.int IntKind.i64))) y2 (Int.toNat y1)).1 (nat_lit 0) != (97 : Int)) (.br (true) (.br ((↑(ByteArray.size (at_ (Ty.pair Ty.str (Ty.sl (nat_lit 3) (Ty.int IntKind.i64))) y2 (Int.toNat y1)).1) : Int) != (2 : Int)) (.out (.inl false)) (.br (true) (.go (IntKind.wrap IntKind.i64 (y1 + (1 : Int)))) (.bad))) (.bad)) (.br (true) (.go (IntKind.wrap IntKind.i64 (y1 + (1 : Int)))) (.bad))) (.bad))) (.bad)) (.bad)) (.br (true) (.out (.inl false)) (.br (true) (.br (byteAt (at_ (Ty.pair Ty.str (Ty.sl (nat_lit 3) (Ty.int IntKind.i64))) y2 (Int.toNat y1)).1 (nat_lit 0) != (97 : Int)) (.br (true) (.br ((↑(ByteArray.size (at_ (Ty.pair Ty.str (Ty.sl (nat_lit 3) (Ty.int IntKind.i64))) y2 (Int.toNat y1)).1) : Int) != (2 : Int)) (.out (.inl false)) (.br (true) (.go (IntKind.wrap IntKind.i64 (y1 + (1 : Int)))) (.bad))) (.bad)) (.br (true) (.go (IntKind.wrap IntKind.i64 (y1 + (1 : Int)))) (.bad))) (.bad)))) (.bad)) (.bad)) (.br (true) (.out (.inl false)) (.br (true) (.br (byteAt (at_ (Ty.pair Ty.str (Ty.sl (nat_lit 3) (Ty.int IntKind.i64))) y2 (Int.toNat y1)).1 (nat_lit 0) != (97 : Int)) (.br (true) (.br ((↑(ByteArray.size (at_ (Ty.pair Ty.str (Ty.sl (nat_lit 3) (Ty.int IntKind.i64))) y2 (Int.toNat y1)).1) : Int) != (2 : Int)) (.out (.inl false)) (.br (true) (.go (IntKind.wrap IntKind.i64 (y1 + (1 : Int)))) (.bad))) (.bad)) (.br (true) (.go (IntKind.wrap IntKind.i64 (y1 + (1 : Int)))) (.bad))) (.bad)))) (.bad)) (.br (true) (.out (.inl false)) (.br (true) (.br (byteAt (at_ (Ty.pair Ty.str (Ty.sl (nat_lit 3) (Ty.int IntKind.i64))) y2 (Int.toNat y1)).1 (nat_lit 0) != (97 : Int)) (.br (true) (.br ((↑(ByteArray.size (at_ (Ty.pair Ty.str (Ty.sl (nat_lit 3) (Ty.int IntKind.i64))) y2 (Int.toNat y1)).1) : Int) != (2 : Int)) (.out (.inl false)) (.br (true) (.go (IntKind.wrap IntKind.i64 (y1 + (1 : Int)))) (.bad))) (.bad)) (.br (true) (.go (IntKind.wrap IntKind.i64 (y1 + (1 : Int)))) (.bad))) (.bad)))) (.bad))) (.bad)) (.br (true) (.br (byteAt (at_ (Ty.pair Ty.str (Ty.sl (nat_lit 3) (Ty.int IntKind.i64))) y2 (Int.toNat y1)).1 (nat_lit 0) == (102 : Int)) (.br (true) (.br ((↑(List.length (at_ (Ty.pair Ty.str (Ty.sl (nat_lit 3) (Ty.int IntKind.i64))) y2 (Int.toNat y1)).2) : Int) == (3 : Int)) (.br (decide ((0 : Int) ≤ (1 : Int) ∧ (1 : Int) < (↑(List.length (at_ (Ty.pair Ty.str (Ty.sl (nat_lit 3) (Ty.int IntKind.i64))) y2 (Int.toNat y1)).2) : Int))) (.br (g_As_l1In (at_ (Ty.int IntKind.i64) (at_ (Ty.pair Ty.str (Ty.sl (nat_lit 3) (Ty.int IntKind.i64))) y2 (Int.toNat y1)).2 (nat_lit 1)) (1 : Int) (99 : Int)) (.br (g_Vs_l1In_0 (at_ (Ty.int IntKind.i64) (at_ (Ty.pair Ty.str (Ty.sl (nat_lit 3) (Ty.int IntKind.i64))) y2 (Int.toNat y1)).2 (nat_lit 1)) (1 : Int) (99 : Int)) (.br (decide ((0 : Int) ≤ (2 : Int) ∧ (2 : Int) < (↑(List.length (at_ (Ty.pair Ty.str (Ty.sl (nat_lit 3) (Ty.int IntKind.i64))) y2 (Int.toNat y1)).2) : Int))) (.br (true) (.br (!decide (at_ (Ty.int IntKind.i64) (at_ (Ty.pair Ty.str (Ty.sl (nat_lit 3) (Ty.int IntKind.i64))) y2 (Int.toNat y1)).2 (nat_lit 2) ≤ (1 : Int))) (.out (.inl false)) (.br (true) (.br (byteAt (at_ (Ty.pair Ty.str (Ty.sl (nat_lit 3) (Ty.int IntKind.i64))) y2 (Int.toNat y1)).1 (nat_lit 0) != (97 : Int)) (.br (true) (.br ((↑(ByteArray.size (at_ (Ty.pair Ty.str (Ty.sl (nat_lit 3) (Ty.int IntKind.i64))) y2 (Int.toNat y1)).1) : Int) != (2 : Int)) (.out (.inl false)) (.br (true) (.go (IntKind.wrap IntKind.i64 (y1 + (1 : Int)))) (.bad))) (.bad)) (.br (true) (.go (IntKind.wrap IntKind.i64 (y1 + (1 : Int)))) (.bad))) (.bad))) (.bad)) (.bad)) (.br (true) (.out (.inl false)) (.br (true) (.br (byteAt (at_ (Ty.pair Ty.str (Ty.sl (nat_lit 3) (Ty.int IntKind.i64))) y2 (Int.toNat y1)).1 (nat_lit 0) != (97 : Int)) (.br (true) (.br ((↑(ByteArray.size (at_ (Ty.pair Ty.str (Ty.sl (nat_lit 3) (Ty.int IntKind.i64))) y2 (Int.toNat y1)).1) : Int) != (2 : Int)) (.out (.inl false)) (.br (true) (.go (IntKind.wrap IntKind.i64 (y1 + (1 : Int)))) (.bad))) (.bad)) (.br (true) (.go (IntKind.wrap IntKind.i64 (y1 + (1 : Int)))) (.bad))) (.bad)))) (.bad)) (.bad)) (.br (true) (.out (.inl false)) (.br (true) (.br (byteAt (at_ (Ty.pair Ty.str (Ty.sl (nat_lit 3) (Ty.int IntKind.i64))) y2 (Int.toNat y1)).1 (nat_lit 0) != (97 : Int)) (.br (true) (.br ((↑(ByteArray.size (at_ (Ty.pair Ty.str (Ty.sl (nat_lit 3) (Ty.int IntKind.i64))) y2 (Int.toNat y1)).1) : Int) != (2 : Int)) (.out (.inl false)) (.br (true) (.go (IntKind.wrap IntKind.i64 (y1 + (1 : Int)))) (.bad))) (.bad)) (.br (true) (.go (IntKind.wrap IntKind.i64 (y1 + (1 : Int)))) (.bad))) (.bad)))) (.bad)) (.br (true) (.out (.inl false)) (.br (true) (.br (byteAt (at_ (Ty.pair Ty.str (Ty.sl (nat_lit 3) (Ty.int IntKind.i64))) y2 (Int.toNat y1)).1 (nat_lit 0) != (97 : Int)) (.br (true) (.br ((↑(ByteArray.size (at_ (Ty.pair Ty.str (Ty.sl (nat_lit 3) (Ty.int IntKind.i64))) y2 (Int.toNat y1)).1) : Int) != (2 : Int)) (.out (.inl false)) (.br (true) (.go (IntKind.wrap IntKind.i64 (y1 + (1 : Int)))) (.bad))) (.bad)) (.br (true) (.go (IntKind.wrap IntKind.i64 (y1 + (1 : Int)))) (.bad))) (.bad)))) (.bad))) (.bad)) (.br (true) (.out (.inl false)) (.br (true) (.br (byteAt (at_ (Ty.pair Ty.str (Ty.sl (nat_lit 3) (Ty.int IntKind.i64))) y2 (Int.toNat y1)).1 (nat_lit 0) != (97 : Int)) (.br (true) (.br ((↑(ByteArray.size (at_ (Ty.pair Ty.str (Ty.sl (nat_lit 3) (Ty.int IntKind.i64))) y2 (Int.toNat y1)).1) : Int) != (2 : Int)) (.out (.inl false)) (.br (true) (.go (IntKind.wrap IntKind.i64 (y1 + (1 : Int)))) (.bad))) (.bad)) (.br (true) (.go (IntKind.wrap IntKind.i64 (y1 + (1 : Int)))) (.bad))) (.bad)))) (.bad)) (.br (true) (.out (.inl false)) (.br (true) (.br (byteAt (at_ (Ty.pair Ty.str (Ty.sl (nat_lit 3) (Ty.int IntKind.i64))) y2 (Int.toNat y1)).1 (nat_lit 0) != (97 : Int)) (.br (true) (.br ((↑(ByteArray.size (at_ (Ty.pair Ty.str (Ty.sl (nat_lit 3) (Ty.int IntKind.i64))) y2 (Int.toNat y1)).1) : Int) != (2 : Int)) (.out (.inl false)) (.br (true) (.go (IntKind.wrap IntKind.i64 (y1 + (1 : Int)))) (.bad))) (.bad)) (.br (true) (.go (IntKind.wrap IntKind.i64 (y1 + (1 : Int)))) (.bad))) (.bad)))) (.bad))) (.bad)) (.br (true) (.br (y0 == (2 : Int)) (.br (true) (.br (decide (at_ (Ty.int IntKind.i64) (at_ (Ty.pair Ty.str (Ty.sl (nat_lit 3) (Ty.int IntKind.i64))) y2 (Int.toNat y1)).2 (nat_lit 0) ≤ (9 : Int))) (.br (true) (.br (byteAt (at_ (Ty.pair Ty.str (Ty.sl (nat_lit 3) (Ty.int IntKind.i64))) y2 (Int.toNat y1)).1 (nat_lit 0) == (99 : Int)) (.br (true) (.br ((↑(List.length (at_ (Ty.pair Ty.str (Ty.sl (nat_lit 3) (Ty.int IntKind.i64))) y2 (Int.toNat y1)).2) : Int) == (2 : Int)) (.br (false) (.out (.inl false)) (.br (true) (.br (byteAt (at_ (Ty.pair Ty.str (Ty.sl (nat_lit 3) (Ty.int IntKind.i64))) y2 (Int.toNat y1)).1 (nat_lit 0) != (97 : Int)) (.br (true) (.br ((↑(ByteArray.size (at_ (Ty.pair Ty.str (Ty.sl (nat_lit 3) (Ty.int IntKind.i64))) y2 (Int.toNat y1)).1) : Int) != (2 : Int)) (.out (.inl false)) (.br (true) (.go (IntKind.wrap IntKind.i64 (y1 + (1 : Int)))) (.bad))) (.bad)) (.br (true) (.go (IntKind.wrap IntKind.i64 (y1 + (1 : Int)))) (.bad))) (.bad))) (.br (true) (.br (byteAt (at_ (Ty.pair Ty.str (Ty.sl (nat_lit 3) (Ty.int IntKind.i64))) y2 (Int.toNat y1)).1 (nat_lit 0) == (102 : Int)) (.br (true) (.br ((↑(List.length (at_ (Ty.pair Ty.str (Ty.sl (nat_lit 3) (Ty.int IntKind.i64))) y2 (Int.toNat y1)).2) : Int) == (3 : Int)) (.br (decide ((0 : Int) ≤ (1 : Int) ∧ (1 : Int) < (↑(List.length (at_ (Ty.pair Ty.str (Ty.sl (nat_lit 3) (Ty.int IntKind.i64))) y2 (Int.toNat y1)).2) : Int))) (.br (g_As_l1In (at_ (Ty.int IntKind.i64) (at_ (Ty.pair Ty.str (Ty.sl (nat_lit 3) (Ty.int IntKind.i64))) y2 (Int.toNat y1)).2 (nat_lit 1)) (1 : Int) (99 : Int)) (.br (g_Vs_l1In_0 (at_ (Ty.int IntKind.i64) (at_ (Ty.pair Ty.str (Ty.sl (nat_lit 3) (Ty.int IntKind.i64))) y2 (Int.toNat y1)).2 (nat_lit 1)) (1 : Int) (99 : Int)) (.br (decide ((0 : Int) ≤ (2 : Int) ∧ (2 : Int) < (↑(List.length (at_ (Ty.pair Ty.str (Ty.sl (nat_lit 3) (Ty.int IntKind.i64))) y2 (Int.toNat y1)).2) : Int))) (.br (true) (.br (!decide (at_ (Ty.int IntKind.i64) (at_ (Ty.pair Ty.str (Ty.sl (nat_lit 3) (Ty.int IntKind.i64))) y2 (Int.toNat y1)).2 (nat_lit 2) ≤ (1 : Int))) (.out (.inl false)) (.br (true) (.br (byteAt (at_ (Ty.pair Ty.str (Ty.sl (nat_lit 3) (Ty.int IntKind.i64))) y2 (Int.toNat y1)).1 (nat_lit 0) != (97 : Int)) (.br (true) (.br ((↑(ByteArray.size (at_ (Ty.pair Ty.str (Ty.sl (nat_lit 3) (Ty.int IntKind.i64))) y2 (Int.toNat y1)).1) : Int) != (2 : Int)) (.out (.inl false)) (.br (true) (.go (IntKind.wrap IntKind.i64 (y1 + (1 : Int)))) (.bad))) (.bad)) (.br (true) (.go (IntKind.wrap IntKind.i64 (y1 + (1 : Int)))) (.bad))) (.bad))) (.bad)) (.bad)) (.br (true) (.out (.inl false)) (.br (true) (.br (byteAt (at_ (Ty.pair Ty.str (Ty.sl (nat_lit 3) (Ty.int IntKind.i64))) y2 (Int.toNat y1)).1 (nat_lit 0) != (97 : Int)) (.br (true) (.br ((↑(ByteArray.size (at_ (Ty.pair Ty.str (Ty.sl (nat_lit 3) (Ty.int IntKind.i64))) y2 (Int.toNat y1)).1) : Int) != (2 : Int)) (.out (.inl false)) (.br (true) (.go (IntKind.wrap IntKind.i64 (y1 + (1 : Int)))) (.bad))) (.bad)) (.br (true) (.go (IntKind.wrap IntKind.i64 (y1 + (1 : Int)))) (.bad))) (.bad)))) (.bad)) (.bad)) (.br (true) (.out (.inl false)) (.br (true) (.br (byteAt (at_ (Ty.pair Ty.str (Ty.sl (nat_lit 3) (Ty.int IntKind.i64))) y2 (Int.toNat y1)).1 (nat_lit 0) != (97 : Int)) (.br (true) (.br ((↑(ByteArray.size (at_ (Ty.pair Ty.str (Ty.sl (nat_lit 3) (Ty.int IntKind.i64))) y2 (Int.toNat y1)).1) : Int) != (2 : Int)) (.out (.inl false)) (.br (true) (.go (IntKind.wrap IntKind.i64 (y1 + (1 : Int)))) (.bad))) (.bad)) (.br (true) (.go (IntKind.wrap IntKind.i64 (y1 + (1 : Int)))) (.bad))) (.bad)))) (.bad)) (.br (true) (.out (.inl false)) (.br (true) (.br (byteAt (at_ (Ty.pair Ty.str (Ty.sl (nat_lit 3) (Ty.int IntKind.i64))) y2 (Int.toNat y1)).1 (nat_lit 0) != (97 : Int)) (.br (true) (.br ((↑(ByteArray.size (at_ (Ty.pair Ty.str (Ty.sl (nat_lit 3) (Ty.int IntKind.i64))) y2 (Int.toNat y1)).1) : Int) != (2 : Int)) (.out (.inl false)) (.br (true) (.go (IntKind.wrap IntKind.i64 (y1 + (1 : Int)))) (.bad))) (.bad)) (.br (true) (.go (IntKind.wrap IntKind.i64 (y1 + (1 : Int)))) (.bad))) (.bad)))) (.bad))) (.bad)) (.br (true) (.br (byteAt (at_ (Ty.pair Ty.str (Ty.sl (nat_lit 3) (Ty.int IntKind.i64))) y2 (Int.toNat y1)).1 (nat_lit 0) == (102 : Int)) (.br (true) (.br ((↑(List.length (at_ (Ty.pair Ty.str (Ty.sl (nat_lit 3) (Ty.int IntKind.i64))) y2 (Int.toNat y1)).2) : Int) == (3 : Int)) (.br (decide ((0 : Int) ≤ (1 : Int) ∧ (1 : Int) < (↑(List.length (at_ (Ty.pair Ty.str (Ty.sl (nat_lit 3) (Ty.int IntKind.i64))) y2 (Int.toNat y1)).2) : Int))) (.br (g_As_l1In (at_ (Ty.int IntKind.i64) (at_ (Ty.pair Ty.str (Ty.sl (nat_lit 3) (Ty.int IntKind.i64))) y2 (Int.toNat y1)).2 (nat_lit 1)) (1 : Int) (99 : Int)) (.br (g_Vs_l1In_0 (at_ (Ty.int IntKind.i64) (at_ (Ty.pair Ty.str (Ty.sl (nat_lit 3) (Ty.int IntKind.i64))) y2 (Int.toNat y1)).2 (nat_lit 1)) (1 : Int) (99 : Int)) (.br (decide ((0 : Int) ≤ (2 : Int) ∧ (2 : Int) < (↑(List.length (at_ (Ty.pair Ty.str (Ty.sl (nat_lit 3) (Ty.int IntKind.i64))) y2 (Int.toNat y1)).2) : Int))) (.br (true) (.br (!decide (at_ (Ty.int IntKind.i64) (at_ (Ty.pair Ty.str (Ty.sl (nat_lit 3) (Ty.int IntKind.i64))) y2 (Int.toNat y1)).2 (nat_lit 2) ≤ (1 : Int))) (.out (.inl false)) (.br (true) (.br (byteAt (at_ (Ty.pair Ty.str (Ty.sl (nat_lit 3) (Ty.int IntKind.i64))) y2 (Int.toNat y1)).1 (nat_lit 0) != (97 : Int)) (.br (true) (.br ((↑(ByteArray.size (at_ (Ty.pair Ty.str (Ty.sl (nat_lit 3) (Ty.int IntKind.i64))) y2 (Int.toNat y1)).1) : Int) != (2 : Int)) (.out (.inl false)) (.br (true) (.go (IntKind.wrap IntKind.i64 (y1 + (1 : Int)))) (.bad))) (.bad)) (.br (true) (.go (IntKind.wrap IntKind.i64 (y1 + (1 : Int)))) (.bad))) (.bad))) (.bad)) (.bad)) (.br (true) (.out (.inl false)) (.br (true) (.br (byteAt (at_ (Ty.pair Ty.str (Ty.sl (nat_lit 3) (Ty.int IntKind.i64))) y2 (Int.toNat y1)).1 (nat_lit 0) != (97 : Int)) (.br (true) (.br ((↑(ByteArray.size (at_ (Ty.pair Ty.str (Ty.sl (nat_lit 3) (Ty.int IntKind.i64))) y2 (Int.toNat y1)).1) : Int) != (2 : Int)) (.out (.inl false)) (.br (true) (.go (IntKind.wrap IntKind.i64 (y1 + (1 : Int)))) (.bad))) (.bad)) (.br (true) (.go (IntKind.wrap IntKind.i64 (y1 + (1 : Int)))) (.bad))) (.bad)))) (.bad)) (.bad)) (.br (true) (.out (.inl false)) (.br (true) (.br (byteAt (at_ (Ty.pair Ty.str (Ty.sl (nat_lit 3) (Ty.int IntKind.i64))) y2 (Int.toNat y1)).1 (nat_lit 0) != (97 : Int)) (.br (true) (.br ((↑(ByteArray.size (at_ (Ty.pair Ty.str (Ty.sl (nat_lit 3) (Ty.int IntKind.i64))) y2 (Int.toNat y1)).1) : Int) != (2 : Int)) (.out (.inl false)) (.br (true) (.go (IntKind.wrap IntKind.i64 (y1 + (1 : Int)))) (.bad))) (.bad)) (.br (true) (.go (IntKind.wrap IntKind.i64 (y1 + (1 : Int)))) (.bad))) (.bad)))) (.bad)) (.br (true) (.out (.inl false)) (.br (true) (.br (byteAt (at_ (Ty.pair Ty.str (Ty.sl (nat_lit 3) (Ty.int IntKind.i64))) y2 (Int.toNat y1)).1 (nat_lit 0) != (97 : Int)) (.br (true) (.br ((↑(ByteArray.size (at_ (Ty.pair Ty.str (Ty.sl (nat_lit 3) (Ty.int IntKind.i64))) y2 (Int.toNat y1)).1) : Int) != (2 : Int)) (.out (.inl false)) (.br (true) (.go (IntKind.wrap IntKind.i64 (y1 + (1 : Int)))) (.bad))) (.bad)) (.br (true) (.go (IntKind.wrap IntKind.i64 (y1 + (1 : Int)))) (.bad))) (.bad)))) (.bad))) (.bad)) (.br (true) (.out (.inl false)) (.br (true) (.br (byteAt (at_ (Ty.pair Ty.str (Ty.sl (nat_lit 3) (Ty.int IntKind.i64))) y2 (Int.toNat y1)).1 (nat_lit 0) != (97 : Int)) (.br (true) (.br ((↑(ByteArray.size (at_ (Ty.pair Ty.str (Ty.sl (nat_lit 3) (Ty.int IntKind.i64))) y2 (Int.toNat y1)).1) : Int) != (2 : Int)) (.out (.inl false)) (.br (true) (.go (IntKind.wrap IntKind.i64 (y1 + (1 : Int)))) (.bad))) (.bad)) (.br (true) (.go (IntKind.wrap IntKind.i64 (y1 + (1 : Int)))) (.bad))) (.bad)))) (.bad)) (.br (true) (.out (.inl false)) (.br (true) (.br (byteAt (at_ (Ty.pair Ty.str (Ty.sl (nat_lit 3) (Ty.int IntKind.i64))) y2 (Int.toNat y1)).1 (nat_lit 0) != (97 : Int)) (.br (true) (.br ((↑(ByteArray.size (at_ (Ty.pair Ty.str (Ty.sl (nat_lit 3) (Ty.int IntKind.i64))) y2 (Int.toNat y1)).1) : Int) != (2 : Int)) (.out (.inl false)) (.br (true) (.go (IntKind.wrap IntKind.i64 (y1 + (1 : Int)))) (.bad))) (.bad)) (.br (true) (.go (IntKind.wrap IntKind.i64 (y1 + (1 : Int)))) (.bad))) (.bad)))) (.bad))) (.bad))) (.bad)) (.br (true) (.br (y0 == (3 : Int)) (.br (true) (.br (byteAt (at_ (Ty.pair Ty.str (Ty.sl (nat_lit 3) (Ty.int IntKind.i64))) y2 (Int.toNat y1)).1 (nat_lit 0) == (97 : Int)) (.br (true) (.br ((↑(List.length (at_ (Ty.pair Ty.str (Ty.sl (nat_lit 3) (Ty.int IntKind.i64))) y2 (Int.toNat y1)).2) : Int) == (1 : Int)) (.br (false) (.out (.inl false)) (.br (true) (.br (byteAt (at_ (Ty.pair Ty.str (Ty.sl (nat_lit 3) (Ty.int IntKind.i64))) y2 (Int.toNat y1)).1 (nat_lit 0) != (97 : Int)) (.br (true) (.br ((↑(ByteArray.size (at_ (Ty.pair Ty.str (Ty.sl (nat_lit 3) (Ty.int IntKind.i64))) y2 (Int.toNat y1)).1) : Int) != (2 : Int)) (.out (.inl false)) (.br (true) (.go (IntKind.wrap IntKind.i64 (y1 + (1 : Int)))) (.bad))) (.bad)) (.br (true) (.go (IntKind.wrap IntKind.i64 (y1 + (1 : Int)))) (.bad))) (.bad))) (.br (true) (.br (y0 == (2 : Int)) (.br (true) (.br (decide (at_ (Ty.int IntKind.i64) (at_ (Ty.pair Ty.str (Ty.sl (nat_lit 3) (Ty.int IntKind.i64))) y2 (Int.toNat y1)).2 (nat_lit 0) ≤ (9 : Int))) (.br (true) (.br (byteAt (at_ (Ty.pair Ty.str (Ty.sl (nat_lit 3) (Ty.int IntKind.i64))) y2 (Int.toNat y1)).1 (nat_lit 0) == (99 : Int)) (.br (true) (.br ((↑(List.length (at_ (Ty.pair Ty.str (Ty.sl (nat_lit 3) (Ty.int IntKind.i64))) y2 (Int.toNat y1)).2) : Int) == (2 : Int)) (.br (false) (.out (.inl false)) (.br (true) (.br (byteAt (at_ (Ty.pair Ty.str (Ty.sl (nat_lit 3) (Ty.int IntKind.i64))) y2 (Int.toNat y1)).1 (nat_lit 0) != (97 : Int)) (.br (true) (.br ((↑(ByteArray.size (at_ (Ty.pair Ty.str (Ty.sl (nat_lit 3) (Ty.int IntKind.i64))) y2 (Int.toNat y1)).1) : Int) != (2 : Int)) (.out (.inl false)) (.br (true) (.go (IntKind.wrap IntKind.i64 (y1 + (1 : Int)))) (.bad))) (.bad)) (.br (true) (.go (IntKind.wrap IntKind.i64 (y1 + (1 : Int)))) (.bad))) (.bad))) (.br (true) (.br (byteAt (at_ (Ty.pair Ty.str (Ty.sl (nat_lit 3) (Ty.int IntKind.i64))) y2 (Int.toNat y1)).1 (nat_lit 0) == (102 : Int)) (.br (true) (.br ((↑(List.length (at_ (Ty.pair Ty.str (Ty.sl (nat_lit 3) (Ty.int IntKind.i64))) y2 (Int.toNat y1)).2) : Int) == (3 : Int)) (.br (decide ((0 : Int) ≤ (1 : Int) ∧ (1 : Int) < (↑(List.length (at_ (Ty.pair Ty.str (Ty.sl (nat_lit 3) (Ty.int IntKind.i64))) y2 (Int.toNat y1)).2) : Int))) (.br (g_As_l1In (at_ (Ty.int IntKind.i64) (at_ (Ty.pair Ty.str (Ty.sl (nat_lit 3) (Ty.int IntKind.i64))) y2 (Int.toNat y1)).2 (nat_lit 1)) (1 : Int) (99 : Int)) (.br (g_Vs_l1In_0 (at_ (Ty.int IntKind.i64) (at_ (Ty.pair Ty.str (Ty.sl (nat_lit 3) (Ty.int IntKind.i64))) y2 (Int.toNat y1)).2 (nat_lit 1)) (1 : Int) (99 : Int)) (.br (decide ((0 : Int) ≤ (2 : Int) ∧ (2 : Int) < (↑(List.length (at_ (Ty.pair Ty.str (Ty.sl (nat_lit 3) (Ty.int IntKind.i64))) y2 (Int.toNat y1)).2) : Int))) (.br (true) (.br (!decide (at_ (Ty.int IntKind.i64) (at_ (Ty.pair Ty.str (Ty.sl (nat_lit 3) (Ty.int IntKind.i64))) y2 (Int.toNat y1)).2 (nat_lit 2) ≤ (1 : Int))) (.out (.inl false)) (.br (true) (.br (byteAt (at_ (Ty.pair Ty.str (Ty.sl (nat_lit 3) (Ty.int IntKind.i64))) y2 (Int.toNat y1)).1 (nat_lit 0) != (97 : Int)) (.br (true) (.br ((↑(ByteArray.size (at_ (Ty.pair Ty.str (Ty.sl (nat_lit 3) (Ty.int IntKind.i64))) y2 (Int.toNat y1)).1) : Int) != (2 : Int)) (.out (.inl false)) (.br (true) (.go (IntKind.wrap IntKind.i64 (y1 + (1 : Int)))) (.bad))) (.bad)) (.br (true) (.go (IntKind.wrap IntKind.i64 (y1 + (1 : Int)))) (.bad))) (.bad))) (.bad)) (.bad)) (.br (true) (.out (.inl false)) (.br (true) (.br (byteAt (at_ (Ty.pair Ty.str (Ty.sl (nat_lit 3) (Ty.int IntKind.i64))) y2 (Int.toNat y1)).1 (nat_lit 0) != (97 : Int)) (.br (true) (.br ((↑(ByteArray.size (at_ (Ty.pair Ty.str (Ty.sl (nat_lit 3) (Ty.int IntKind.i64))) y2 (Int.toNat y1)).1) : Int) != (2 : Int)) (.out (.inl false)) (.br (true) (.go (IntKind.wrap IntKind.i64 (y1 + (1 : Int)))) (.bad))) (.bad)) (.br (true) (.go (IntKind.wrap IntKind.i64 (y1 + (1 : Int)))) (.bad))) (.bad)))) (.bad)) (.bad)) (.br (true) (.out (.inl false)) (.br (true) (.br (byteAt (at_ (Ty.pair Ty.str (Ty.sl (nat_lit 3) (Ty.int IntKind.i64))) y2 (Int.toNat y1)).1 (nat_lit 0) != (97 : Int)) (.br (true) (.br ((↑(ByteArray.size (at_ (Ty.pair Ty.str (Ty.sl (nat_lit 3) (Ty.int IntKind.i64))) y2 (Int.toNat y1)).1) : Int) != (2 : Int)) (.out (.inl false)) (.br (true) (.go (IntKind.wrap IntKind.i64 (y1 + (1 : Int)))) (.bad))) (.bad)) (.br (true) (.go (IntKind.wrap IntKind.i64 (y1 + (1 : Int)))) (.bad))) (.bad)))) (.bad)) (.br (true) (.out (.inl false)) (.br (true) (.br (byteAt (at_ (Ty.pair Ty.str (Ty.sl (nat_lit 3) (Ty.int IntKind.i64))) y2 (Int.toNat y1)).1 (nat_lit 0) != (97 : Int)) (.br (true) (.br ((↑(ByteArray.size (at_ (Ty.pair Ty.str (Ty.sl (nat_lit 3) (Ty.int IntKind.i64))) y2 (Int.toNat y1)).1) : Int) != (2 : Int)) (.out (.inl false)) (.br (true) (.go (IntKind.wrap IntKind.i64 (y1 + (1 : Int)))) (.bad))) (.bad)) (.br (true) (.go (IntKind.wrap IntKind.i64 (y1 + (1 : Int)))) (.bad))) (.bad)))) (.bad))) (.bad)) (.br (true) (.br (byteAt (at_ (Ty.pair Ty.str (Ty.sl (nat_lit 3) (Ty.int IntKind.i64))) y2 (Int.toNat y1)).1 (nat_lit 0) == (102 : Int)) (.br (true) (.br ((↑(List.length (at_ (Ty.pair Ty.str (Ty.sl (nat_lit 3) (Ty.int IntKind.i64))) y2 (Int.toNat y1)).2) : Int) == (3 : Int)) (.br (decide ((0 : Int) ≤ (1 : Int) ∧ (1 : Int) < (↑(List.length (at_ (Ty.pair Ty.str (Ty.sl (nat_lit 3) (Ty.int IntKind.i64))) y2 (Int.toNat y1)).2) : Int))) (.br (g_As_l1In (at_ (Ty.int IntKind.i64) (at_ (Ty.pair Ty.str (Ty.sl (nat_lit 3) (Ty.int IntKind.i64))) y2 (Int.toNat y1)).2 (nat_lit 1)) (1 : Int) (99 : Int)) (.br (g_Vs_l1In_0 (at_ (Ty.int IntKind.i64) (at_ (Ty.pair Ty.str (Ty.sl (nat_lit 3) (Ty.int IntKind.i64))) y2 (Int.toNat y1)).2 (nat_lit 1)) (1 : Int) (99 : Int)) (.br (decide ((0 : Int) ≤ (2 : Int) ∧ (2 : Int) < (↑(List.length (at_ (Ty.pair Ty.str (Ty.sl (nat_lit 3) (Ty.int IntKind.i64))) y2 (Int.toNat y1)).2) : Int))) (.br (true) (.br (!decide (at_ (Ty.int IntKind.i64) (at_ (Ty.pair Ty.str (Ty.sl (nat_lit 3) (Ty.int IntKind.i64))) y2 (Int.toNat y1)).2 (nat_lit 2) ≤ (1 : Int))) (.out (.inl false)) (.br (true) (.br (byteAt (at_ (Ty.pair Ty.str (Ty.sl (nat_lit 3) (Ty.int IntKind.i64))) y2 (Int.toNat y1)).1 (nat_lit 0) != (97 : Int)) (.br (true) (.br ((↑(ByteArray.size (at_ (Ty.pair Ty.str (Ty.sl (nat_lit 3) (Ty.int IntKind.i64))) y2 (Int.toNat y1)).1) : Int) != (2 : Int)) (.out (.inl false)) (.br (true) (.go (IntKind.wrap IntKind.i64 (y1 + (1 : Int)))) (.bad))) (.bad)) (.br (true) (.go (IntKind.wrap IntKind.i64 (y1 + (1 : Int)))) (.bad))) (.bad))) (.bad)) (.bad)) (.br (true) (.out (.inl false)) (.br (true) (.br (byteAt (at_ (Ty.pair Ty.str (Ty.sl (nat_lit 3) (Ty.int IntKind.i64))) y2 (Int.toNat y1)).1 (nat_lit 0) != (97 : Int)) (.br (true) (.br ((↑(ByteArray.size (at_ (Ty.pair Ty.str (Ty.sl (nat_lit 3) (Ty.int IntKind.i64))) y2 (Int.toNat y1)).1) : Int) != (2 : Int)) (.out (.inl false)) (.br (true) (.go (IntKind.wrap IntKind.i64 (y1 + (1 : Int)))) (.bad))) (.bad)) (.br (true) (.go (IntKind.wrap IntKind.i64 (y1 + (1 : Int)))) (.bad))) (.bad)))) (.bad)) (.bad)) (.br (true) (.out (.inl false)) (.br (true) (.br (byteAt (at_ (Ty.pair Ty.str (Ty.sl (nat_lit 3) (Ty.int IntKind.i64))) y2 (Int.toNat y1)).1 (nat_lit 0) != (97 : Int)) (.br (true) (.br ((↑(ByteArray.size (at_ (Ty.pair Ty.str (Ty.sl (nat_lit 3) (Ty.int IntKind.i64))) y2 (Int.toNat y1)).1) : Int) != (2 : Int)) (.out (.inl false)) (.br (true) (.go (IntKind.wrap IntKind.i64 (y1 + (1 : Int)))) (.bad))) (.bad)) (.br (true) (.go (IntKind.wrap IntKind.i64 (y1 + (1 : Int)))) (.bad))) (.bad)))) (.bad)) (.br (true) (.out (.inl false)) (.br (true) (.br (byteAt (at_ (Ty.pair Ty.str (Ty.sl (nat_lit 3) (Ty.int IntKind.i64))) y2 (Int.toNat y1)).1 (nat_lit 0) != (97 : Int)) (.br (true) (.br ((↑(ByteArray.size (at_ (Ty.pair Ty.str (Ty.sl (nat_lit 3) (Ty.int IntKind.i64))) y2 (Int.toNat y1)).1) : Int) != (2 : Int)) (.out (.inl false)) (.br (true) (.go (IntKind.wrap IntKind.i64 (y1 + (1 : Int)))) (.bad))) (.bad)) (.br (true) (.go (IntKind.wrap IntKind.i64 (y1 + (1 : Int)))) (.bad))) (.bad)))) (.bad))) (.bad)) (.br (true) (.out (.inl false)) (.br (true) (.br (byteAt (at_ (Ty.pair Ty.str (Ty.sl (nat_lit 3) (Ty.int IntKind.i64))) y2 (Int.toNat y1)).1 (nat_lit 0) != (97 : Int)) (.br (true) (.br ((↑(ByteArray.size (at_ (Ty.pair Ty.str (Ty.sl (nat_lit 3) (Ty.int IntKind.i64))) y2 (Int.toNat y1)).1) : Int) != (2 : Int)) (.out (.inl false)) (.br (true) (.go (IntKind.wrap IntKind.i64 (y1 + (1 : Int)))) (.bad))) (.bad)) (.br (true) (.go (IntKind.wrap IntKind.i64 (y1 + (1 : Int)))) (.bad))) (.bad)))) (.bad)) (.br (true) (.out (.inl false)) (.br (true) (.br (byteAt (at_ (Ty.pair Ty.str (Ty.sl (nat_lit 3) (Ty.int IntKind.i64))) y2 (Int.toNat y1)).1 (nat_lit 0) != (97 : Int)) (.br (true) (.br ((↑(ByteArray.size (at_ (Ty.pair Ty.str (Ty.sl (nat_lit 3) (Ty.int IntKind.i64))) y2 (Int.toNat y1)).1) : Int) != (2 : Int)) (.out (.inl false)) (.br (true) (.go (IntKind.wrap IntKind.i64 (y1 + (1 : Int)))) (.bad))) (.bad)) (.br (true) (.go (IntKind.wrap IntKind.i64 (y1 + (1 : Int)))) (.bad))) (.bad)))) (.bad))) (.bad)) (.br (true) (.br (y0 == (2 : Int)) (.br (true) (.br (decide (at_ (Ty.int IntKind.i64) (at_ (Ty.pair Ty.str (Ty.sl (nat_lit 3) (Ty.int IntKind.i64))) y2 (Int.toNat y1)).2 (nat_lit 0) ≤ (9 : Int))) (.br (true) (.br (byteAt (at_ (Ty.pair Ty.str (Ty.sl (nat_lit 3) (Ty.int IntKind.i64))) y2 (Int.toNat y1)).1 (nat_lit 0) == (99 : Int)) (.br (true) (.br ((↑(List.length (at_ (Ty.pair Ty.str (Ty.sl (nat_lit 3) (Ty.int IntKind.i64))) y2 (Int.toNat y1)).2) : Int) == (2 : Int)) (.br (false) (.out (.inl false)) (.br (true) (.br (byteAt (at_ (Ty.pair Ty.str (Ty.sl (nat_lit 3) (Ty.int IntKind.i64))) y2 (Int.toNat y1)).1 (nat_lit 0) != (97 : Int)) (.br (true) (.br ((↑(ByteArray.size (at_ (Ty.pair Ty.str (Ty.sl (nat_lit 3) (Ty.int IntKind.i64))) y2 (Int.toNat y1)).1) : Int) != (2 : Int)) (.out (.inl false)) (.br (true) (.go (IntKind.wrap IntKind.i64 (y1 + (1 : Int)))) (.bad))) (.bad)) (.br (true) (.go (IntKind.wrap IntKind.i64 (y1 + (1 : Int)))) (.bad))) (.bad))) (.br (true) (.br (byteAt (at_ (Ty.pair Ty.str (Ty.sl (nat_lit 3) (Ty.int IntKind.i64))) y2 (Int.toNat y1)).1 (nat_lit 0) == (102 : Int)) (.br (true) (.br ((↑(List.length (at_ (Ty.pair Ty.str (Ty.sl (nat_lit 3) (Ty.int IntKind.i64))) y2 (Int.toNat y1)).2) : Int) == (3 : Int)) (.br (decide ((0 : Int) ≤ (1 : Int) ∧ (1 : Int) < (↑(List.length (at_ (Ty.pair Ty.str (Ty.sl (nat_lit 3) (Ty.int IntKind.i64))) y2 (Int.toNat y1)).2) : Int))) (.br (g_As_l1In (at_ (Ty.int IntKind.i64) (at_ (Ty.pair Ty.str (Ty.sl (nat_lit 3) (Ty.int IntKind.i64))) y2 (Int.toNat y1)).2 (nat_lit 1)) (1 : Int) (99 : Int)) (.br (g_Vs_l1In_0 (at_ (Ty.int IntKind.i64) (at_ (Ty.pair Ty.str (Ty.sl (nat_lit 3) (Ty.int IntKind.i64))) y2 (Int.toNat y1)).2 (nat_lit 1)) (1 : Int) (99 : Int)) (.br (decide ((0 : Int) ≤ (2 : Int) ∧ (2 : Int) < (↑(List.length (at_ (Ty.pair Ty.str (Ty.sl (nat_lit 3) (Ty.int IntKind.i64))) y2 (Int.toNat y1)).2) : Int))) (.br (true) (.br (!decide (at_ (Ty.int IntKind.i64) (at_ (Ty.pair Ty.str (Ty.sl (nat_lit 3) (Ty.int IntKind.i64))) y2 (Int.toNat y1)).2 (nat_lit 2) ≤ (1 : Int))) (.out (.inl false)) (.br (true) (.br (byteAt (at_ (Ty.pair Ty.str (Ty.sl (nat_lit 3) (Ty.int IntKind.i64))) y2 (Int.toNat y1)).1 (nat_lit 0) != (97 : Int)) (.br (true) (.br ((↑(ByteArray.size (at_ (Ty.pair Ty.str (Ty.sl (nat_lit 3) (Ty.int IntKind.i64))) y2 (Int.toNat y1)).1) : Int) != (2 : Int)) (.out (.inl false)) (.br (true) (.go (IntKind.wrap IntKind.i64 (y1 + (1 : Int)))) (.bad))) (.bad)) (.br (true) (.go (IntKind.wrap IntKind.i64 (y1 + (1 : Int)))) (.bad))) (.bad))) (.bad)) (.bad)) (.br (true) (.out (.inl false)) (.br (true) (.br (byteAt (at_ (Ty.pair Ty.str (Ty.sl (nat_lit 3) (Ty.int IntKind.i64))) y2 (Int.toNat y1)).1 (nat_lit 0) != (97 : Int)) (.br (true) (.br ((↑(ByteArray.size (at_ (Ty.pair Ty.str (Ty.sl (nat_lit 3) (Ty.int IntKind.i64))) y2 (Int.toNat y1)).1) : Int) != (2 : Int)) (.out (.inl false)) (.br (true) (.go (IntKind.wrap IntKind.i64 (y1 + (1 : Int)))) (.bad))) (.bad)) (.br (true) (.go (IntKind.wrap IntKind.i64 (y1 + (1 : Int)))) (.bad))) (.bad)))) (.bad)) (.bad)) (.br (true) (.out (.inl false)) (.br (true) (.br (byteAt (at_ (Ty.pair Ty.str (Ty.sl (nat_lit 3) (Ty.int IntKind.i64))) y2 (Int.toNat y1)).1 (nat_lit 0) != (97 : Int)) (.br (true) (.br ((↑(ByteArray.size (at_ (Ty.pair Ty.str (Ty.sl (nat_lit 3) (Ty.int IntKind.i64))) y2 (Int.toNat y1)).1) : Int) != (2 : Int)) (.out (.inl false)) (.br (true) (.go (IntKind.wrap IntKind.i64 (y1 + (1 : Int)))) (.bad))) (.bad)) (.br (true) (.go (IntKind.wrap IntKind.i64 (y1 + (1 : Int)))) (.bad))) (.bad)))) (.bad)) (.br (true) (.out (.inl false)) (.br (true) (.br (byteAt (at_ (Ty.pair Ty.str (Ty.sl (nat_lit 3) (Ty.int IntKind.i64))) y2 (Int.toNat y1)).1 (nat_lit 0) != (97 : Int)) (.br (true) (.br ((↑(ByteArray.size (at_ (Ty.pair Ty.str (Ty.sl (nat_lit 3) (Ty.int IntKind.i64))) y2 (Int.toNat y1)).1) : Int) != (2 : Int)) (.out (.inl false)) (.br (true) (.go (IntKind.wrap IntKind.i64 (y1 + (1 : Int)))) (.bad))) (.bad)) (.br (true) (.go (IntKind.wrap IntKind.i64 (y1 + (1 : Int)))) (.bad))) (.bad)))) (.bad))) (.bad)) (.br (true) (.br (byteAt (at_ (Ty.pair Ty.str (Ty.sl (nat_lit 3) (Ty.int IntKind.i64))) y2 (Int.toNat y1)).1 (nat_lit 0) == (102 : Int)) (.br (true) (.br ((↑(List.length (at_ (Ty.pair Ty.str (Ty.sl (nat_lit 3) (Ty.int IntKind.i64))) y2 (Int.toNat y1)).2) : Int) == (3 : Int)) (.br (decide ((0 : Int) ≤ (1 : Int) ∧ (1 : Int) < (↑(List.length (at_ (Ty.pair Ty.str (Ty.sl (nat_lit 3) (Ty.int IntKind.i64))) y2 (Int.toNat y1)).2) : Int))) (.br (g_As_l1In (at_ (Ty.int IntKind.i64) (at_ (Ty.pair Ty.str (Ty.sl (nat_lit 3) (Ty.int IntKind.i64))) y2 (Int.toNat y1)).2 (nat_lit 1)) (1 : Int) (99 : Int)) (.br (g_Vs_l1In_0 (at_ (Ty.int IntKind.i64) (at_ (Ty.pair Ty.str (Ty.sl (nat_lit 3) (Ty.int IntKind.i64))) y2 (Int.toNat y1)).2 (nat_lit 1)) (1 : Int) (99 : Int)) (.br (decide ((0 : Int) ≤ (2 : Int) ∧ (2 : Int) < (↑(List.length (at_ (Ty.pair Ty.str (Ty.sl (nat_lit 3) (Ty.int IntKind.i64))) y2 (Int.toNat y1)).2) : Int))) (.br (true) (.br (!decide (at_ (Ty.int IntKind.i64) (at_ (Ty.pair Ty.str (Ty.sl (nat_lit 3) (Ty.int IntKind.i64))) y2 (Int.toNat y1)).2 (nat_lit 2) ≤ (1 : Int))) (.out (.inl false)) (.br (true) (.br (byteAt (at_ (Ty.pair Ty.str (Ty.sl (nat_lit 3) (Ty.int IntKind.i64))) y2 (Int.toNat y1)).1 (nat_lit 0) != (97 : Int)) (.br (true) (.br ((↑(ByteArray.size (at_ (Ty.pair Ty.str (Ty.sl (nat_lit 3) (Ty.int IntKind.i64))) y2 (Int.toNat y1)).1) : Int) != (2 : Int)) (.out (.inl false)) (.br (true) (.go (IntKind.wrap IntKind.i64 (y1 + (1 : Int)))) (.bad))) (.bad)) (.br (true) (.go (IntKind.wrap IntKind.i64 (y1 + (1 : Int)))) (.bad))) (.bad))) (.bad)) (.bad)) (.br (true) (.out (.inl false)) (.br (true) (.br (byteAt (at_ (Ty.pair Ty.str (Ty.sl (nat_lit 3) (Ty.int IntKind.i64))) y2 (Int.toNat y1)).1 (nat_lit 0) != (97 : Int)) (.br (true) (.br ((↑(ByteArray.size (at_ (Ty.pair Ty.str (Ty.sl (nat_lit 3) (Ty.int IntKind.i64))) y2 (Int.toNat y1)).1) : Int) != (2 : Int)) (.out (.inl false)) (.br (true) (.go (IntKind.wrap IntKind.i64 (y1 + (1 : Int)))) (.bad))) (.bad)) (.br (true) (.go (IntKind.wrap IntKind.i64 (y1 + (1 : Int)))) (.bad))) (.bad)))) (.bad)) (.bad)) (.br (true) (.out (.inl false)) (.br (true) (.br (byteAt (at_ (Ty.pair Ty.str (Ty.sl (nat_lit 3) (Ty.int IntKind.i64))) y2 (Int.toNat y1)).1 (nat_lit 0) != (97 : Int)) (.br (true) (.br ((↑(ByteArray.size (at_ (Ty.pair Ty.str (Ty.sl (nat_lit 3) (Ty.int IntKind.i64))) y2 (Int.toNat y1)).1) : Int) != (2 : Int)) (.out (.inl false)) (.br (true) (.go (IntKind.wrap IntKind.i64 (y1 + (1 : Int)))) (.bad))) (.bad)) (.br (true) (.go (IntKind.wrap IntKind.i64 (y1 + (1 : Int)))) (.bad))) (.bad)))) (.bad)) (.br (true) (.out (.inl false)) (.br (true) (.br (byteAt (at_ (Ty.pair Ty.str (Ty.sl (nat_lit 3) (Ty.int IntKind.i64))) y2 (Int.toNat y1)).1 (nat_lit 0) != (97 : Int)) (.br (true) (.br ((↑(ByteArray.size (at_ (Ty.pair Ty.str (Ty.sl (nat_lit 3) (Ty.int IntKind.i64))) y2 (Int.toNat y1)).1) : Int) != (2 : Int)) (.out (.inl false)) (.br (true) (.go (IntKind.wrap IntKind.i64 (y1 + (1 : Int)))) (.bad))) (.bad)) (.br (true) (.go (IntKind.wrap IntKind.i64 (y1 + (1 : Int)))) (.bad))) (.bad)))) (.bad))) (.bad)) (.br (true) (.out (.inl false)) (.br (true) (.br (byteAt (at_ (Ty.pair Ty.str (Ty.sl (nat_lit 3) (Ty.int IntKind.i64))) y2 (Int.toNat y1)).1 (nat_lit 0) != (97 : Int)) (.br (true) (.br ((↑(ByteArray.size (at_ (Ty.pair Ty.str (Ty.sl (nat_lit 3) (Ty.int IntKind.i64))) y2 (Int.toNat y1)).1) : Int) != (2 : Int)) (.out (.inl false)) (.br (true) (.go (IntKind.wrap IntKind.i64 (y1 + (1 : Int)))) (.bad))) (.bad)) (.br (true) (.go (IntKind.wrap IntKind.i64 (y1 + (1 : Int)))) (.bad))) (.bad)))) (.bad)) (.br (true) (.out (.inl false)) (.br (true) (.br (byteAt (at_ (Ty.pair Ty.str (Ty.sl (nat_lit 3) (Ty.int IntKind.i64))) y2 (Int.toNat y1)).1 (nat_lit 0) != (97 : Int)) (.br (true) (.br ((↑(ByteArray.size (at_ (Ty.pair Ty.str (Ty.sl (nat_lit 3) (Ty.int IntKind.i64))) y2 (Int.toNat y1)).1) : Int) != (2 : Int)) (.out (.inl false)) (.br (true) (.go (IntKind.wrap IntKind.i64 (y1 + (1 : Int)))) (.bad))) (.bad)) (.br (true) (.go (IntKind.wrap IntKind.i64 (y1 + (1 : Int)))) (.bad))) (.bad)))) (.bad))) (.bad)) (.br (true) (.br (y0 == (2 : Int)) (.br (true) (.br (decide (at_ (Ty.int IntKind.i64) (at_ (Ty.pair Ty.str (Ty.sl (nat_lit 3) (Ty.int IntKind.i64))) y2 (Int.toNat y1)).2 (nat_lit 0) ≤ (9 : Int))) (.br (true) (.br (byteAt (at_ (Ty.pair Ty.str (Ty.sl (nat_lit 3) (Ty.int IntKind.i64))) y2 (Int.toNat y1)).1 (nat_lit 0) == (99 : Int)) (.br (true) (.br ((↑(List.length (at_ (Ty.pair Ty.str (Ty.sl (nat_lit 3) (Ty.int IntKind.i64))) y2 (Int.toNat y1)).2) : Int) == (2 : Int)) (.br (false) (.out (.inl false)) (.br (true) (.br (byteAt (at_ (Ty.pair Ty.str (Ty.sl (nat_lit 3) (Ty.int IntKind.i64))) y2 (Int.toNat y1)).1 (nat_lit 0) != (97 : Int)) (.br (true) (.br ((↑(ByteArray.size (at_ (Ty.pair Ty.str (Ty.sl (nat_lit 3) (Ty.int IntKind.i64))) y2 (Int.toNat y1)).1) : Int) != (2 : Int)) (.out (.inl false)) (.br (true) (.go (IntKind.wrap IntKind.i64 (y1 + (1 : Int)))) (.bad))) (.bad)) (.br (true) (.go (IntKind.wrap IntKind.i64 (y1 + (1 : Int)))) (.bad))) (.bad))) (.br (true) (.br (byteAt (at_ (Ty.pair Ty.str (Ty.sl (nat_lit 3) (Ty.int IntKind.i64))) y2 (Int.toNat y1)).1 (nat_lit 0) == (102 : Int)) (.br (true) (.br ((↑(List.length (at_ (Ty.pair Ty.str (Ty.sl (nat_lit 3) (Ty.int IntKind.i64))) y2 (Int.toNat y1)).2) : Int) == (3 : Int)) (.br (decide ((0 : Int) ≤ (1 : Int) ∧ (1 : Int) < (↑(List.length (at_ (Ty.pair Ty.str (Ty.sl (nat_lit 3) (Ty.int IntKind.i64))) y2 (Int.toNat y1)).2) : Int))) (.br (g_As_l1In (at_ (Ty.int IntKind.i64) (at_ (Ty.pair Ty.str (Ty.sl (nat_lit 3) (Ty.int IntKind.i64))) y2 (Int.toNat y1)).2 (nat_lit 1)) (1 : Int) (99 : Int)) (.br (g_Vs_l1In_0 (at_ (Ty.int IntKind.i64) (at_ (Ty.pair Ty.str (Ty.sl (nat_lit 3) (Ty.int IntKind.i64))) y2 (Int.toNat y1)).2 (nat_lit 1)) (1 : Int) (99 : Int)) (.br (decide ((0 : Int) ≤ (2 : Int) ∧ (2 : Int) < (↑(List.length (at_ (Ty.pair Ty.str (Ty.sl (nat_lit 3) (Ty.int IntKind.i64))) y2 (Int.toNat y1)).2) : Int))) (.br (true) (.br (!decide (at_ (Ty.int IntKind.i64) (at_ (Ty.pair Ty.str (Ty.sl (nat_lit 3) (Ty.int IntKind.i64))) y2 (Int.toNat y1)).2 (nat_lit 2) ≤ (1 : Int))) (.out (.inl false)) (.br (true) (.br (byteAt (at_ (Ty.pair Ty.str (Ty.sl (nat_lit 3) (Ty.int IntKind.i64))) y2 (Int.toNat y1)).1 (nat_lit 0) != (97 : Int)) (.br (true) (.br ((↑(ByteArray.size (at_ (Ty.pair Ty.str (Ty.sl (nat_lit 3) (Ty.int IntKind.i64))) y2 (Int.toNat y1)).1) : Int) != (2 : Int)) (.out (.inl false)) (.br (true) (.go (IntKind.wrap IntKind.i64 (y1 + (1 : Int)))) (.bad))) (.bad)) (.br (true) (.go (IntKind.wrap IntKind.i64 (y1 + (1 : Int)))) (.bad))) (.bad))) (.bad)) (.bad)) (.br (true) (.out (.inl false)) (.br (true) (.br (byteAt (at_ (Ty.pair Ty.str (Ty.sl (nat_lit 3) (Ty.int IntKind.i64))) y2 (Int.toNat y1)).1 (nat_lit 0) != (97 : Int)) (.br (true) (.br ((↑(ByteArray.size (at_ (Ty.pair Ty.str (Ty.sl (nat_lit 3) (Ty.int IntKind.i64))) y2 (Int.toNat y1)).1) : Int) != (2 : Int)) (.out (.inl false)) (.br (true) (.go (IntKind.wrap IntKind.i64 (y1 + (1 : Int)))) (.bad))) (.bad)) (.br (true) (.go (IntKind.wrap IntKind.i64 (y1 + (1 : Int)))) (.bad))) (.bad)))) (.bad)) (.bad)) (.br (true) (.out (.inl false)) (.br (true) (.br (byteAt (at_ (Ty.pair Ty.str (Ty.sl (nat_lit 3) (Ty.int IntKind.i64))) y2 (Int.toNat y1)).1 (nat_lit 0) != (97 : Int)) (.br (true) (.br ((↑(ByteArray.size (at_ (Ty.pair Ty.str (Ty.sl (nat_lit 3) (Ty.int IntKind.i64))) y2 (Int.toNat y1)).1) : Int) != (2 : Int)) (.out (.inl false)) (.br (true) (.go (IntKind.wrap IntKind.i64 (y1 + (1 : Int)))) (.bad))) (.bad)) (.br (true) (.go (IntKind.wrap IntKind.i64 (y1 + (1 : Int)))) (.bad))) (.bad)))) (.bad)) (.br (true) (.out (.inl false)) (.br (true) (.br (byteAt (at_ (Ty.pair Ty.str (Ty.sl (nat_lit 3) (Ty.int IntKind.i64))) y2 (Int.toNat y1)).1 (nat_lit 0) != (97 : Int)) (.br (true) (.br ((↑(ByteArray.size (at_ (Ty.pair Ty.str (Ty.sl (nat_lit 3) (Ty.int IntKind.i64))) y2 (Int.toNat y1)).1) : Int) != (2 : Int)) (.out (.inl false)) (.br (true) (.go (IntKind.wrap IntKind.i64 (y1 + (1 : Int)))) (.bad))) (.bad)) (.br (true) (.go (IntKind.wrap IntKind.i64 (y1 + (1 : Int)))) (.bad))) (.bad)))) (.bad))) (.bad)) (.br (true) (.br (byteAt (at_ (Ty.pair Ty.str (Ty.sl (nat_lit 3) (Ty.int IntKind.i64))) y2 (Int.toNat y1)).1 (nat_lit 0) == (102 : Int)) (.br (true) (.br ((↑(List.length (at_ (Ty.pair Ty.str (Ty.sl (nat_lit 3) (Ty.int IntKind.i64))) y2 (Int.toNat y1)).2) : Int) == (3 : Int)) (.br (decide ((0 : Int) ≤ (1 : Int) ∧ (1 : Int) < (↑(List.length (at_ (Ty.pair Ty.str (Ty.sl (nat_lit 3) (Ty.int IntKind.i64))) y2 (Int.toNat y1)).2) : Int))) (.br (g_As_l1In (at_ (Ty.int IntKind.i64) (at_ (Ty.pair Ty.str (Ty.sl (nat_lit 3) (Ty.int IntKind.i64))) y2 (Int.toNat y1)).2 (nat_lit 1)) (1 : Int) (99 : Int)) (.br (g_Vs_l1In_0 (at_ (Ty.int IntKind.i64) (at_ (Ty.pair Ty.str (Ty.sl (nat_lit 3) (Ty.int IntKind.i64))) y2 (Int.toNat y1)).2 (nat_lit 1)) (1 : Int) (99 : Int)) (.br (decide ((0 : Int) ≤ (2 : Int) ∧ (2 : Int) < (↑(List.length (at_ (Ty.pair Ty.str (Ty.sl (nat_lit 3) (Ty.int IntKind.i64))) y2 (Int.toNat y1)).2) : Int))) (.br (true) (.br (!decide (at_ (Ty.int IntKind.i64) (at_ (Ty.pair Ty.str (Ty.sl (nat_lit 3) (Ty.int IntKind.i64))) y2 (Int.toNat y1)).2 (nat_lit 2) ≤ (1 : Int))) (.out (.inl false)) (.br (true) (.br (byteAt (at_ (Ty.pair Ty.str (Ty.sl (nat_lit 3) (Ty.int IntKind.i64))) y2 (Int.toNat y1)).1 (nat_lit 0) != (97 : Int)) (.br (true) (.br ((↑(ByteArray.size (at_ (Ty.pair Ty.str (Ty.sl (nat_lit 3) (Ty.int IntKind.i64))) y2 (Int.toNat y1)).1) : Int) != (2 : Int)) (.out (.inl false)) (.br (true) (.go (IntKind.wrap IntKind.i64 (y1 + (1 : Int)))) (.bad))) (.bad)) (.br (true) (.go (IntKind.wrap IntKind.i64 (y1 + (1 : Int)))) (.bad))) (.bad))) (.bad)) (.bad)) (.br (true) (.out (.inl false)) (.br (true) (.br (byteAt (at_ (Ty.pair Ty.str (Ty.sl (nat_lit 3) (Ty.int IntKind.i64))) y2 (Int.toNat y1)).1 (nat_lit 0) != (97 : Int)) (.br (true) (.br ((↑(ByteArray.size (at_ (Ty.pair Ty.str (Ty.sl (nat_lit 3) (Ty.int IntKind.i64))) y2 (Int.toNat y1)).1) : Int) != (2 : Int)) (.out (.inl false)) (.br (true) (.go (IntKind.wrap IntKind.i64 (y1 + (1 : Int)))) (.bad))) (.bad)) (.br (true) (.go (IntKind.wrap IntKind.i64 (y1 + (1 : Int)))) (.bad))) (.bad)))) (.bad)) (.bad)) (.br (true) (.out (.inl false)) (.br (true) (.br (byteAt (at_ (Ty.pair Ty.str (Ty.sl (nat_lit 3) (Ty.int IntKind.i64))) y2 (Int.toNat y1)).1 (nat_lit 0) != (97 : Int)) (.br (true) (.br ((↑(ByteArray.size (at_ (Ty.pair Ty.str (Ty.sl (nat_lit 3) (Ty.int IntKind.i64))) y2 (Int.toNat y1)).1) : Int) != (2 : Int)) (.out (.inl false)) (.br (true) (.go (IntKind.wrap IntKind.i64 (y1 + (1 : Int)))) (.bad))) (.bad)) (.br (true) (.go (IntKind.wrap IntKind.i64 (y1 + (1 : Int)))) (.bad))) (.bad)))) (.bad)) (.br (true) (.out (.inl false)) (.br (true) (.br (byteAt (at_ (Ty.pair Ty.str (Ty.sl (nat_lit 3) (Ty.int IntKind.i64))) y2 (Int.toNat y1)).1 (nat_lit 0) != (97 : Int)) (.br (true) (.br ((↑(ByteArray.size (at_ (Ty.pair Ty.str (Ty.sl (nat_lit 3) (Ty.int IntKind.i64))) y2 (Int.toNat y1)).1) : Int) != (2 : Int)) (.out (.inl false)) (.br (true) (.go (IntKind.wrap IntKind.i64 (y1 + (1 : Int)))) (.bad))) (.bad)) (.br (true) (.go (IntKind.wrap IntKind.i64 (y1 + (1 : Int)))) (.bad))) (.bad)))) (.bad))) (.bad)) (.br (true) (.out (.inl false)) (.br (true) (.br (byteAt (at_ (Ty.pair Ty.str (Ty.sl (nat_lit 3) (Ty.int IntKind.i64))) y2 (Int.toNat y1)).1 (nat_lit 0) != (97 : Int)) (.br (true) (.br ((↑(ByteArray.size (at_ (Ty.pair Ty.str (Ty.sl (nat_lit 3) (Ty.int IntKind.i64))) y2 (Int.toNat y1)).1) : Int) != (2 : Int)) (.out (.inl false)) (.br (true) (.go (IntKind.wrap IntKind.i64 (y1 + (1 : Int)))) (.bad))) (.bad)) (.br (true) (.go (IntKind.wrap IntKind.i64 (y1 + (1 : Int)))) (.bad))) (.bad)))) (.bad)) (.br (true) (.out (.inl false)) (.br (true) (.br (byteAt (at_ (Ty.pair Ty.str (Ty.sl (nat_lit 3) (Ty.int IntKind.i64))) y2 (Int.toNat y1)).1 (nat_lit 0) != (97 : Int)) (.br (true) (.br ((↑(ByteArray.size (at_ (Ty.pair Ty.str (Ty.sl (nat_lit 3) (Ty.int IntKind.i64))) y2 (Int.toNat y1)).1) : Int) != (2 : Int)) (.out (.inl false)) (.br (true) (.go (IntKind.wrap IntKind.i64 (y1 + (1 : Int)))) (.bad))) (.bad)) (.br (true) (.go (IntKind.wrap IntKind.i64 (y1 + (1 : Int)))) (.bad))) (.bad)))) (.bad))) (.bad))) (.bad)) (.br (true) (.br (y0 == (3 : Int)) (.br (true) (.br (byteAt (at_ (Ty.pair Ty.str (Ty.sl (nat_lit 3) (Ty.int IntKind.i64))) y2 (Int.toNat y1)).1 (nat_lit 0) == (97 : Int)) (.br (true) (.br ((↑(List.length (at_ (Ty.pair Ty.str (Ty.sl (nat_lit 3) (Ty.int IntKind.i64))) y2 (Int.toNat y1)).2) : Int) == (1 : Int)) (.br (false) (.out (.inl false)) (.br (true) (.br (byteAt (at_ (Ty.pair Ty.str (Ty.sl (nat_lit 3) (Ty.int IntKind.i64))) y2 (Int.toNat y1)).1 (nat_lit 0) != (97 : Int)) (.br (true) (.br ((↑(ByteArray.size (at_ (Ty.pair Ty.str (Ty.sl (nat_lit 3) (Ty.int IntKind.i64))) y2 (Int.toNat y1)).1) : Int) != (2 : Int)) (.out (.inl false)) (.br (true) (.go (IntKind.wrap IntKind.i64 (y1 + (1 : Int)))) (.bad))) (.bad)) (.br (true) (.go (IntKind.wrap IntKind.i64 (y1 + (1 : Int)))) (.bad))) (.bad))) (.br (true) (.br (y0 == (2 : Int)) (.br (true) (.br (decide (at_ (Ty.int IntKind.i64) (at_ (Ty.pair Ty.str (Ty.sl (nat_lit 3) (Ty.int IntKind.i64))) y2 (Int.toNat y1)).2 (nat_lit 0) ≤ (9 : Int))) (.br (true) (.br (byteAt (at_ (Ty.pair Ty.str (Ty.sl (nat_lit 3) (Ty.int IntKind.i64))) y2 (Int.toNat y1)).1 (nat_lit 0) == (99 : Int)) (.br (true) (.br ((↑(List.length (at_ (Ty.pair Ty.str (Ty.sl (nat_lit 3) (Ty.int IntKind.i64))) y2 (Int.toNat y1)).2) : Int) == (2 : Int)) (.br (false) (.out (.inl false)) (.br (true) (.br (byteAt (at_ (Ty.pair Ty.str (Ty.sl (nat_lit 3) (Ty.int IntKind.i64))) y2 (Int.toNat y1)).1 (nat_lit 0) != (97 : Int)) (.br (true) (.br ((↑(ByteArray.size (at_ (Ty.pair Ty.str (Ty.sl (nat_lit 3) (Ty.int IntKind.i64))) y2 (Int.toNat y1)).1) : Int) != (2 : Int)) (.out (.inl false)) (.br (true) (.go (IntKind.wrap IntKind.i64 (y1 + (1 : Int)))) (.bad))) (.bad)) (.br (true) (.go (IntKind.wrap IntKind.i64 (y1 + (1 : Int)))) (.bad))) (.bad))) (.br (true) (.br (byteAt (at_ (Ty.pair Ty.str (Ty.sl (nat_lit 3) (Ty.int IntKind.i64))) y2 (Int.toNat y1)).1 (nat_lit 0) == (102 : Int)) (.br (true) (.br ((↑(List.length (at_ (Ty.pair Ty.str (Ty.sl (nat_lit 3) (Ty.int IntKind.i64))) y2 (Int.toNat y1)).2) : Int) == (3 : Int)) (.br (decide ((0 : Int) ≤ (1 : Int) ∧ (1 : Int) < (↑(List.length (at_ (Ty.pair Ty.str (Ty.sl (nat_lit 3) (Ty.int IntKind.i64))) y2 (Int.toNat y1)).2) : Int))) (.br (g_As_l1In (at_ (Ty.int IntKind.i64) (at_ (Ty.pair Ty.str (Ty.sl (nat_lit 3) (Ty.int IntKind.i64))) y2 (Int.toNat y1)).2 (nat_lit 1)) (1 : Int) (99 : Int)) (.br (g_Vs_l1In_0 (at_ (Ty.int IntKind.i64) (at_ (Ty.pair Ty.str (Ty.sl (nat_lit 3) (Ty.int IntKind.i64))) y2 (Int.toNat y1)).2 (nat_lit 1)) (1 : Int) (99 : Int)) (.br (decide ((0 : Int) ≤ (2 : Int) ∧ (2 : Int) < (↑(List.length (at_ (Ty.pair Ty.str (Ty.sl (nat_lit 3) (Ty.int IntKind.i64))) y2 (Int.toNat y1)).2) : Int))) (.br (true) (.br (!decide (at_ (Ty.int IntKind.i64) (at_ (Ty.pair Ty.str (Ty.sl (nat_lit 3) (Ty.int IntKind.i64))) y2 (Int.toNat y1)).2 (nat_lit 2) ≤ (1 : Int))) (.out (.inl false)) (.br (true) (.br (byteAt (at_ (Ty.pair Ty.str (Ty.sl (nat_lit 3) (Ty.int IntKind.i64))) y2 (Int.toNat y1)).1 (nat_lit 0) != (97 : Int)) (.br (true) (.br ((↑(ByteArray.size (at_ (Ty.pair Ty.str (Ty.sl (nat_lit 3) (Ty.int IntKind.i64))) y2 (Int.toNat y1)).1) : Int) != (2 : Int)) (.out (.inl false)) (.br (true) (.go (IntKind.wrap IntKind.i64 (y1 + (1 : Int)))) (.bad))) (.bad)) (.br (true) (.go (IntKind.wrap IntKind.i64 (y1 + (1 : Int)))) (.bad))) (.bad))) (.bad)) (.bad)) (.br (true) (.out (.inl false)) (.br (true) (.br (byteAt (at_ (Ty.pair Ty.str (Ty.sl (nat_lit 3) (Ty.int IntKind.i64))) y2 (Int.toNat y1)).1 (nat_lit 0) != (97 : Int)) (.br (true) (.br ((↑(ByteArray.size (at_ (Ty.pair Ty.str (Ty.sl (nat_lit 3) (Ty.int IntKind.i64))) y2 (Int.toNat y1)).1) : Int) != (2 : Int)) (.out (.inl false)) (.br (true) (.go (IntKind.wrap IntKind.i64 (y1 + (1 : Int)))) (.bad))) (.bad)) (.br (true) (.go (IntKind.wrap IntKind.i64 (y1 + (1 : Int)))) (.bad))) (.bad)))) (.bad)) (.bad)) (.br (true) (.out (.inl false)) (.br (true) (.br (byteAt (at_ (Ty.pair Ty.str (Ty.sl (nat_lit 3) (Ty.int IntKind.i64))) y2 (Int.toNat y1)).1 (nat_lit 0) != (97 : Int)) (.br (true) (.br ((↑(ByteArray.size (at_ (Ty.pair Ty.str (Ty.sl (nat_lit 3) (Ty.int IntKind.i64))) y2 (Int.toNat y1)).1) : Int) != (2 : Int)) (.out (.inl false)) (.br (true) (.go (IntKind.wrap IntKind.i64 (y1 + (1 : Int)))) (.bad))) (.bad)) (.br (true) (.go (IntKind.wrap IntKind.i64 (y1 + (1 : Int)))) (.bad))) (.bad)))) (.bad)) (.br (true) (.out (.inl false)) (.br (true) (.br (byteAt (at_ (Ty.pair Ty.str (Ty.sl (nat_lit 3) (Ty.int IntKind.i64))) y2 (Int.toNat y1)).1 (nat_lit 0) != (97 : Int)) (.br (true) (.br ((↑(ByteArray.size (at_ (Ty.pair Ty.str (Ty.sl (nat_lit 3) (Ty.int IntKind.i64))) y2 (Int.toNat y1)).1) : Int) != (2 : Int)) (.out (.inl false)) (.br (true) (.go (IntKind.wrap IntKind.i64 (y1 + (1 : Int)))) (.bad))) (.bad)) (.br (true) (.go (IntKind.wrap IntKind.i64 (y1 + (1 : Int)))) (.bad))) (.bad)))) (.bad))) (.bad)) (.br (true) (.br (byteAt (at_ (Ty.pair Ty.str (Ty.sl (nat_lit 3) (Ty.int IntKind.i64))) y2 (Int.toNat y1)).1 (nat_lit 0) == (102 : Int)) (.br (true) (.br ((↑(List.length (at_ (Ty.pair Ty.str (Ty.sl (nat_lit 3) (Ty.int IntKind.i64))) y2 (Int.toNat y1)).2) : Int) == (3 : Int)) (.br (decide ((0 : Int) ≤ (1 : Int) ∧ (1 : Int) < (↑(List.length (at_ (Ty.pair Ty.str (Ty.sl (nat_lit 3) (Ty.int IntKind.i64))) y2 (Int.toNat y1)).2) : Int))) (.br (g_As_l1In (at_ (Ty.int IntKind.i64) (at_ (Ty.pair Ty.str (Ty.sl (nat_lit 3) (Ty.int IntKind.i64))) y2 (Int.toNat y1)).2 (nat_lit 1)) (1 : Int) (99 : Int)) (.br (g_Vs_l1In_0 (at_ (Ty.int IntKind.i64) (at_ (Ty.pair Ty.str (Ty.sl (nat_lit 3) (Ty.int IntKind.i64))) y2 (Int.toNat y1)).2 (nat_lit 1)) (1 : Int) (99 : Int)) (.br (decide ((0 : Int) ≤ (2 : Int) ∧ (2 : Int) < (↑(List.length (at_ (Ty.pair Ty.str (Ty.sl (nat_lit 3) (Ty.int IntKind.i64))) y2 (Int.toNat y1)).2) : Int))) (.br (true) (.br (!decide (at_ (Ty.int IntKind.i64) (at_ (Ty.pair Ty.str (Ty.sl (nat_lit 3) (Ty.int IntKind.i64))) y2 (Int.toNat y1)).2 (nat_lit 2) ≤ (1 : Int))) (.out (.inl false)) (.br (true) (.br (byteAt (at_ (Ty.pair Ty.str (Ty.sl (nat_lit 3) (Ty.int IntKind.i64))) y2 (Int.toNat y1)).1 (nat_lit 0) != (97 : Int)) (.br (true) (.br ((↑(ByteArray.size (at_ (Ty.pair Ty.str (Ty.sl (nat_lit 3) (Ty.int IntKind.i64))) y2 (Int.toNat y1)).1) : Int) != (2 : Int)) (.out (.inl false)) (.br (true) (.go (IntKind.wrap IntKind.i64 (y1 + (1 : Int)))) (.bad))) (.bad)) (.br (true) (.go (IntKind.wrap IntKind.i64 (y1 + (1 : Int)))) (.bad))) (.bad))) (.bad)) (.bad)) (.br (true) (.out (.inl false)) (.br (true) (.br (byteAt (at_ (Ty.pair Ty.str (Ty.sl (nat_lit 3) (Ty.int IntKind.i64))) y2 (Int.toNat y1)).1 (nat_lit 0) != (97 : Int)) (.br (true) (.br ((↑(ByteArray.size (at_ (Ty.pair Ty.str (Ty.sl (nat_lit 3) (Ty.int IntKind.i64))) y2 (Int.toNat y1)).1) : Int) != (2 : Int)) (.out (.inl false)) (.br (true) (.go (IntKind.wrap IntKind.i64 (y1 + (1 : Int)))) (.bad))) (.bad)) (.br (true) (.go (IntKind.wrap IntKind.i64 (y1 + (1 : Int)))) (.bad))) (.bad)))) (.bad)) (.bad)) (.br (true) (.out (.inl false)) (.br (true) (.br (byteAt (at_ (Ty.pair Ty.str (Ty.sl (nat_lit 3) (Ty.int IntKind.i64))) y2 (Int.toNat y1)).1 (nat_lit 0) != (97 : Int)) (.br (true) (.br ((↑(ByteArray.size (at_ (Ty.pair Ty.str (Ty.sl (nat_lit 3) (Ty.int IntKind.i64))) y2 (Int.toNat y1)).1) : Int) != (2 : Int)) (.out (.inl false)) (.br (true) (.go (IntKind.wrap IntKind.i64 (y1 + (1 : Int)))) (.bad))) (.bad)) (.br (true) (.go (IntKind.wrap IntKind.i64 (y1 + (1 : Int)))) (.bad))) (.bad)))) (.bad)) (.br (true) (.out (.inl false)) (.br (true) (.br (byteAt (at_ (Ty.pair Ty.str (Ty.sl (nat_lit 3) (Ty.int IntKind.i64))) y2 (Int.toNat y1)).1 (nat_lit 0) != (97 : Int)) (.br (true) (.br ((↑(ByteArray.size (at_ (Ty.pair Ty.str (Ty.sl (nat_lit 3) (Ty.int IntKind.i64))) y2 (Int.toNat y1)).1) : Int) != (2 : Int)) (.out (.inl false)) (.br (true) (.go (IntKind.wrap IntKind.i64 (y1 + (1 : Int)))) (.bad))) (.bad)) (.br (true) (.go (IntKind.wrap IntKind.i64 (y1 + (1 : Int)))) (.bad))) (.bad)))) (.bad))) (.bad)) (.br (true) (.out (.inl false)) (.br (true) (.br (byteAt (at_ (Ty.pair Ty.str (Ty.sl (nat_lit 3) (Ty.int IntKind.i64))) y2 (Int.toNat y1)).1 (nat_lit 0) != (97 : Int)) (.br (true) (.br ((↑(ByteArray.size (at_ (Ty.pair Ty.str (Ty.sl (nat_lit 3) (Ty.int IntKind.i64))) y2 (Int.toNat y1)).1) : Int) != (2 : Int)) (.out (.inl false)) (.br (true) (.go (IntKind.wrap IntKind.i64 (y1 + (1 : Int)))) (.bad))) (.bad)) (.br (true) (.go (IntKind.wrap IntKind.i64 (y1 + (1 : Int)))) (.bad))) (.bad)))) (.bad)) (.br (true) (.out (.inl false)) (.br (true) (.br (byteAt (at_ (Ty.pair Ty.str (Ty.sl (nat_lit 3) (Ty.int IntKind.i64))) y2 (Int.toNat y1)).1 (nat_lit 0) != (97 : Int)) (.br (true) (.br ((↑(ByteArray.size (at_ (Ty.pair Ty.str (Ty.sl (nat_lit 3) (Ty.int IntKind.i64))) y2 (Int.toNat y1)).1) : Int) != (2 : Int)) (.out (.inl false)) (.br (true) (.go (IntKind.wrap IntKind.i64 (y1 + (1 : Int)))) (.bad))) (.bad)) (.br (true) (.go (IntKind.wrap IntKind.i64 (y1 + (1 : Int)))) (.bad))) (.bad)))) (.bad))) (.bad)) (.br (true) (.br (y0 == (2 : Int)) (.br (true) (.br (decide (at_ (Ty.int IntKind.i64) (at_ (Ty.pair Ty.str (Ty.sl (nat_lit 3) (Ty.int IntKind.i64))) y2 (Int.toNat y1)).2 (nat_lit 0) ≤ (9 : Int))) (.br (true) (.br (byteAt (at_ (Ty.pair Ty.str (Ty.sl (nat_lit 3) (Ty.int IntKind.i64))) y2 (Int.toNat y1)).1 (nat_lit 0) == (99 : Int)) (.br (true) (.br ((↑(List.length (at_ (Ty.pair Ty.str (Ty.sl (nat_lit 3) (Ty.int IntKind.i64))) y2 (Int.toNat y1)).2) : Int) == (2 : Int)) (.br (false) (.out (.inl false)) (.br (true) (.br (byteAt (at_ (Ty.pair Ty.str (Ty.sl (nat_lit 3) (Ty.int IntKind.i64))) y2 (Int.toNat y1)).1 (nat_lit 0) != (97 : Int)) (.br (true) (.br ((↑(ByteArray.size (at_ (Ty.pair Ty.str (Ty.sl (nat_lit 3) (Ty.int IntKind.i64))) y2 (Int.toNat y1)).1) : Int) != (2 : Int)) (.out (.inl false)) (.br (true) (.go (IntKind.wrap IntKind.i64 (y1 + (1 : Int)))) (.bad))) (.bad)) (.br (true) (.go (IntKind.wrap IntKind.i64 (y1 + (1 : Int)))) (.bad))) (.bad))) (.br (true) (.br (byteAt (at_ (Ty.pair Ty.str (Ty.sl (nat_lit 3) (Ty.int IntKind.i64))) y2 (Int.toNat y1)).1 (nat_lit 0) == (102 : Int)) (.br (true) (.br ((↑(List.length (at_ (Ty.pair Ty.str (Ty.sl (nat_lit 3) (Ty.int IntKind.i64))) y2 (Int.toNat y1)).2) : Int) == (3 : Int)) (.br (decide ((0 : Int) ≤ (1 : Int) ∧ (1 : Int) < (↑(List.length (at_ (Ty.pair Ty.str (Ty.sl (nat_lit 3) (Ty.int IntKind.i64))) y2 (Int.toNat y1)).2) : Int))) (.br (g_As_l1In (at_ (Ty.int IntKind.i64) (at_ (Ty.pair Ty.str (Ty.sl (nat_lit 3) (Ty.int IntKind.i64))) y2 (Int.toNat y1)).2 (nat_lit 1)) (1 : Int) (99 : Int)) (.br (g_Vs_l1In_0 (at_ (Ty.int IntKind.i64) (at_ (Ty.pair Ty.str (Ty.sl (nat_lit 3) (Ty.int IntKind.i64))) y2 (Int.toNat y1)).2 (nat_lit 1)) (1 : Int) (99 : Int)) (.br (decide ((0 : Int) ≤ (2 : Int) ∧ (2 : Int) < (↑(List.length (at_ (Ty.pair Ty.str (Ty.sl (nat_lit 3) (Ty.int IntKind.i64))) y2 (Int.toNat y1)).2) : Int))) (.br (true) (.br (!decide (at_ (Ty.int IntKind.i64) (at_ (Ty.pair Ty.str (Ty.sl (nat_lit 3) (Ty.int IntKind.i64))) y2 (Int.toNat y1)).2 (nat_lit 2) ≤ (1 : Int))) (.out (.inl false)) (.br (true) (.br (byteAt (at_ (Ty.pair Ty.str (Ty.sl (nat_lit 3) (Ty.int IntKind.i64))) y2 (Int.toNat y1)).1 (nat_lit 0) != (97 : Int)) (.br (true) (.br ((↑(ByteArray.size (at_ (Ty.pair Ty.str (Ty.sl (nat_lit 3) (Ty.int IntKind.i64))) y2 (Int.toNat y1)).1) : Int) != (2 : Int)) (.out (.inl false)) (.br (true) (.go (IntKind.wrap IntKind.i64 (y1 + (1 : Int)))) (.bad))) (.bad)) (.br (true) (.go (IntKind.wrap IntKind.i64 (y1 + (1 : Int)))) (.bad))) (.bad))) (.bad)) (.bad)) (.br (true) (.out (.inl false)) (.br (true) (.br (byteAt (at_ (Ty.pair Ty.str (Ty.sl (nat_lit 3) (Ty.int IntKind.i64))) y2 (Int.toNat y1)).1 (nat_lit 0) != (97 : Int)) (.br (true) (.br ((↑(ByteArray.size (at_ (Ty.pair Ty.str (Ty.sl (nat_lit 3) (Ty.int IntKind.i64))) y2 (Int.toNat y1)).1) : Int) != (2 : Int)) (.out (.inl false)) (.br (true) (.go (IntKind.wrap IntKind.i64 (y1 + (1 : Int)))) (.bad))) (.bad)) (.br (true) (.go (IntKind.wrap IntKind.i64 (y1 + (1 : Int)))) (.bad))) (.bad)))) (.bad)) (.bad)) (.br (true) (.out (.inl false)) (.br (true) (.br (byteAt (at_ (Ty.pair Ty.str (Ty.sl (nat_lit 3) (Ty.int IntKind.i64))) y2 (Int.toNat y1)).1 (nat_lit 0) != (97 : Int)) (.br (true) (.br ((↑(ByteArray.size (at_ (Ty.pair Ty.str (Ty.sl (nat_lit 3) (Ty.int IntKind.i64))) y2 (Int.toNat y1)).1) : Int) != (2 : Int)) (.out (.inl false)) (.br (true) (.go (IntKind.wrap IntKind.i64 (y1 + (1 : Int)))) (.bad))) (.bad)) (.br (true) (.go (IntKind.wrap IntKind.i64 (y1 + (1 : Int)))) (.bad))) (.bad)))) (.bad)) (.br (true) (.out (.inl false)) (.br (true) (.br (byteAt (at_ (Ty.pair Ty.str (Ty.sl (nat_lit 3) (Ty.int IntKind.i64))) y2 (Int.toNat y1)).1 (nat_lit 0) != (97 : Int)) (.br (true) (.br ((↑(ByteArray.size (at_ (Ty.pair Ty.str (Ty.sl (nat_lit 3) (Ty.int IntKind.i64))) y2 (Int.toNat y1)).1) : Int) != (2 : Int)) (.out (.inl false)) (.br (true) (.go (IntKind.wrap IntKind.i64 (y1 + (1 : Int)))) (.bad))) (.bad)) (.br (true) (.go (IntKind.wrap IntKind.i64 (y1 + (1 : Int)))) (.bad))) (.bad)))) (.bad))) (.bad)) (.br (true) (.br (byteAt (at_ (Ty.pair Ty.str (Ty.sl (nat_lit 3) (Ty.int IntKind.i64))) y2 (Int.toNat y1)).1 (nat_lit 0) == (102 : Int)) (.br (true) (.br ((↑(List.length (at_ (Ty.pair Ty.str (Ty.sl (nat_lit 3) (Ty.int IntKind.i64))) y2 (Int.toNat y1)).2) : Int) == (3 : Int)) (.br (decide ((0 : Int) ≤ (1 : Int) ∧ (1 : Int) < (↑(List.length (at_ (Ty.pair Ty.str (Ty.sl (nat_lit 3) (Ty.int IntKind.i64))) y2 (Int.toNat y1)).2) : Int))) (.br (g_As_l1In (at_ (Ty.int IntKind.i64) (at_ (Ty.pair Ty.str (Ty.sl (nat_lit 3) (Ty.int IntKind.i64))) y2 (Int.toNat y1)).2 (nat_lit 1)) (1 : Int) (99 : Int)) (.br (g_Vs_l1In_0 (at_ (Ty.int IntKind.i64) (at_ (Ty.pair Ty.str (Ty.sl (nat_lit 3) (Ty.int IntKind.i64))) y2 (Int.toNat y1)).2 (nat_lit 1)) (1 : Int) (99 : Int)) (.br (decide ((0 : Int) ≤ (2 : Int) ∧ (2 : Int) < (↑(List.length (at_ (Ty.pair Ty.str (Ty.sl (nat_lit 3) (Ty.int IntKind.i64))) y2 (Int.toNat y1)).2) : Int))) (.br (true) (.br (!decide (at_ (Ty.int IntKind.i64) (at_ (Ty.pair Ty.str (Ty.sl (nat_lit 3) (Ty.int IntKind.i64))) y2 (Int.toNat y1)).2 (nat_lit 2) ≤ (1 : Int))) (.out (.inl false)) (.br (true) (.br (byteAt (at_ (Ty.pair Ty.str (Ty.sl (nat_lit 3) (Ty.int IntKind.i64))) y2 (Int.toNat y1)).1 (nat_lit 0) != (97 : Int)) (.br (true) (.br ((↑(ByteArray.size (at_ (Ty.pair Ty.str (Ty.sl (nat_lit 3) (Ty.int IntKind.i64))) y2 (Int.toNat y1)).1) : Int) != (2 : Int)) (.out (.inl false)) (.br (true) (.go (IntKind.wrap IntKind.i64 (y1 + (1 : Int)))) (.bad))) (.bad)) (.br (true) (.go (IntKind.wrap IntKind.i64 (y1 + (1 : Int)))) (.bad))) (.bad))) (.bad)) (.bad)) (.br (true) (.out (.inl false)) (.br (true) (.br (byteAt (at_ (Ty.pair Ty.str (Ty.sl (nat_lit 3) (Ty.int IntKind.i64))) y2 (Int.toNat y1)).1 (nat_lit 0) != (97 : Int)) (.br (true) (.br ((↑(ByteArray.size (at_ (Ty.pair Ty.str (Ty.sl (nat_lit 3) (Ty.int IntKind.i64))) y2 (Int.toNat y1)).1) : Int) != (2 : Int)) (.out (.inl false)) (.br (true) (.go (IntKind.wrap IntKind.i64 (y1 + (1 : Int)))) (.bad))) (.bad)) (.br (true) (.go (IntKind.wrap IntKind.i64 (y1 + (1 : Int)))) (.bad))) (.bad)))) (.bad)) (.bad)) (.br (true) (.out (.inl false)) (.br (true) (.br (byteAt (at_ (Ty.pair Ty.str (Ty.sl (nat_lit 3) (Ty.int IntKind.i64))) y2 (Int.toNat y1)).1 (nat_lit 0) != (97 : Int)) (.br (true) (.br ((↑(ByteArray.size (at_ (Ty.pair Ty.str (Ty.sl (nat_lit 3) (Ty.int IntKind.i64))) y2 (Int.toNat y1)).1) : Int) != (2 : Int)) (.out (.inl false)) (.br (true) (.go (IntKind.wrap IntKind.i64 (y1 + (1 : Int)))) (.bad))) (.bad)) (.br (true) (.go (IntKind.wrap IntKind.i64 (y1 + (1 : Int)))) (.bad))) (.bad)))) (.bad)) (.br (true) (.out (.inl false)) (.br (true) (.br (byteAt (at_ (Ty.pair Ty.str (Ty.sl (nat_lit 3) (Ty.int IntKind.i64))) y2 (Int.toNat y1)).1 (nat_lit 0) != (97 : Int)) (.br (true) (.br ((↑(ByteArray.size (at_ (Ty.pair Ty.str (Ty.sl (nat_lit 3) (Ty.int IntKind.i64))) y2 (Int.toNat y1)).1) : Int) != (2 : Int)) (.out (.inl false)) (.br (true) (.go (IntKind.wrap IntKind.i64 (y1 + (1 : Int)))) (.bad))) (.bad)) (.br (true) (.go (IntKind.wrap IntKind.i64 (y1 + (1 : Int)))) (.bad))) (.bad)))) (.bad))) (.bad)) (.br (true) (.out (.inl false)) (.br (true) (.br (byteAt (at_ (Ty.pair Ty.str (Ty.sl (nat_lit 3) (Ty.int IntKind.i64))) y2 (Int.toNat y1)).1 (nat_lit 0) != (97 : Int)) (.br (true) (.br ((↑(ByteArray.size (at_ (Ty.pair Ty.str (Ty.sl (nat_lit 3) (Ty.int IntKind.i64))) y2 (Int.toNat y1)).1) : Int) != (2 : Int)) (.out (.inl false)) (.br (true) (.go (IntKind.wrap IntKind.i64 (y1 + (1 : Int)))) (.bad))) (.bad)) (.br (true) (.go (IntKind.wrap IntKind.i64 (y1 + (1 : Int)))) (.bad))) (.bad)))) (.bad)) (.br (true) (.out (.inl false)) (.br (true) (.br (byteAt (at_ (Ty.pair Ty.str (Ty.sl (nat_lit 3) (Ty.int IntKind.i64))) y2 (Int.toNat y1)).1 (nat_lit 0) != (97 : Int)) (.br (true) (.br ((↑(ByteArray.size (at_ (Ty.pair Ty.str (Ty.sl (nat_lit 3) (Ty.int IntKind.i64))) y2 (Int.toNat y1)).1) : Int) != (2 : Int)) (.out (.inl false)) (.br (true) (.go (IntKind.wrap IntKind.i64 (y1 + (1 : Int)))) (.bad))) (.bad)) (.br (true) (.go (IntKind.wrap IntKind.i64 (y1 + (1 : Int)))) (.bad))) (.bad)))) (.bad))) (.bad)) (.br (true) (.br (y0 == (2 : Int)) (.br (true) (.br (decide (at_ (Ty.int IntKind.i64) (at_ (Ty.pair Ty.str (Ty.sl (nat_lit 3) (Ty.int IntKind.i64))) y2 (Int.toNat y1)).2 (nat_lit 0) ≤ (9 : Int))) (.br (true) (.br (byteAt (at_ (Ty.pair Ty.str (Ty.sl (nat_lit 3) (Ty.int IntKind.i64))) y2 (Int.toNat y1)).1 (nat_lit 0) == (99 : Int)) (.br (true) (.br ((↑(List.length (at_ (Ty.pair Ty.str (Ty.sl (nat_lit 3) (Ty.int IntKind.i64))) y2 (Int.toNat y1)).2) : Int) == (2 : Int)) (.br (false) (.out (.inl false)) (.br (true) (.br (byteAt (at_ (Ty.pair Ty.str (Ty.sl (nat_lit 3) (Ty.int IntKind.i64))) y2 (Int.toNat y1)).1 (nat_lit 0) != (97 : Int)) (.br (true) (.br ((↑(ByteArray.size (at_ (Ty.pair Ty.str (Ty.sl (nat_lit 3) (Ty.int IntKind.i64))) y2 (Int.toNat y1)).1) : Int) != (2 : Int)) (.out (.inl false)) (.br (true) (.go (IntKind.wrap IntKind.i64 (y1 + (1 : Int)))) (.bad))) (.bad)) (.br (true) (.go (IntKind.wrap IntKind.i64 (y1 + (1 : Int)))) (.bad))) (.bad))) (.br (true) (.br (byteAt (at_ (Ty.pair Ty.str (Ty.sl (nat_lit 3) (Ty.int IntKind.i64))) y2 (Int.toNat y1)).1 (nat_lit 0) == (102 : Int)) (.br (true) (.br ((↑(List.length (at_ (Ty.pair Ty.str (Ty.sl (nat_lit 3) (Ty.int IntKind.i64))) y2 (Int.toNat y1)).2) : Int) == (3 : Int)) (.br (decide ((0 : Int) ≤ (1 : Int) ∧ (1 : Int) < (↑(List.length (at_ (Ty.pair Ty.str (Ty.sl (nat_lit 3) (Ty.int IntKind.i64))) y2 (Int.toNat y1)).2) : Int))) (.br (g_As_l1In (at_ (Ty.int IntKind.i64) (at_ (Ty.pair Ty.str (Ty.sl (nat_lit 3) (Ty.int IntKind.i64))) y2 (Int.toNat y1)).2 (nat_lit 1)) (1 : Int) (99 : Int)) (.br (g_Vs_l1In_0 (at_ (Ty.int IntKind.i64) (at_ (Ty.pair Ty.str (Ty.sl (nat_lit 3) (Ty.int IntKind.i64))) y2 (Int.toNat y1)).2 (nat_lit 1)) (1 : Int) (99 : Int)) (.br (decide ((0 : Int) ≤ (2 : Int) ∧ (2 : Int) < (↑(List.length (at_ (Ty.pair Ty.str (Ty.sl (nat_lit 3) (Ty.int IntKind.i64))) y2 (Int.toNat y1)).2) : Int))) (.br (true) (.br (!decide (at_ (Ty.int IntKind.i64) (at_ (Ty.pair Ty.str (Ty.sl (nat_lit 3) (Ty.int IntKind.i64))) y2 (Int.toNat y1)).2 (nat_lit 2) ≤ (1 : Int))) (.out (.inl false)) (.br (true) (.br (byteAt (at_ (Ty.pair Ty.str (Ty.sl (nat_lit 3) (Ty.int IntKind.i64))) y2 (Int.toNat y1)).1 (nat_lit 0) != (97 : Int)) (.br (true) (.br ((↑(ByteArray.size (at_ (Ty.pair Ty.str (Ty.sl (nat_lit 3) (Ty.int IntKind.i64))) y2 (Int.toNat y1)).1) : Int) != (2 : Int)) (.out (.inl false)) (.br (true) (.go (IntKind.wrap IntKind.i64 (y1 + (1 : Int)))) (.bad))) (.bad)) (.br (true) (.go (IntKind.wrap IntKind.i64 (y1 + (1 : Int)))) (.bad))) (.bad))) (.bad)) (.bad)) (.br (true) (.out (.inl false)) (.br (true) (.br (byteAt (at_ (Ty.pair Ty.str (Ty.sl (nat_lit 3) (Ty.int IntKind.i64))) y2 (Int.toNat y1)).1 (nat_lit 0) != (97 : Int)) (.br (true) (.br ((↑(ByteArray.size (at_ (Ty.pair Ty.str (Ty.sl (nat_lit 3) (Ty.int IntKind.i64))) y2 (Int.toNat y1)).1) : Int) != (2 : Int)) (.out (.inl false)) (.br (true) (.go (IntKind.wrap IntKind.i64 (y1 + (1 : Int)))) (.bad))) (.bad)) (.br (true) (.go (IntKind.wrap IntKind.i64 (y1 + (1 : Int)))) (.bad))) (.bad)))) (.bad)) (.bad)) (.br (true) (.out (.inl false)) (.br (true) (.br (byteAt (at_ (Ty.pair Ty.str (Ty.sl (nat_lit 3) (Ty.int IntKind.i64))) y2 (Int.toNat y1)).1 (nat_lit 0) != (97 : Int)) (.br (true) (.br ((↑(ByteArray.size (at_ (Ty.pair Ty.str (Ty.sl (nat_lit 3) (Ty.int IntKind.i64))) y2 (Int.toNat y1)).1) : Int) != (2 : Int)) (.out (.inl false)) (.br (true) (.go (IntKind.wrap IntKind.i64 (y1 + (1 : Int)))) (.bad))) (.bad)) (.br (true) (.go (IntKind.wrap IntKind.i64 (y1 + (1 : Int)))) (.bad))) (.bad)))) (.bad)) (.br (true) (.out (.inl false)) (.br (true) (.br (byteAt (at_ (Ty.pair Ty.str (Ty.sl (nat_lit 3) (Ty.int IntKind.i64))) y2 (Int.toNat y1)).1 (nat_lit 0) != (97 : Int)) (.br (true) (.br ((↑(ByteArray.size (at_ (Ty.pair Ty.str (Ty.sl (nat_lit 3) (Ty.int IntKind.i64))) y2 (Int.toNat y1)).1) : Int) != (2 : Int)) (.out (.inl false)) (.br (true) (.go (IntKind.wrap IntKind.i64 (y1 + (1 : Int)))) (.bad))) (.bad)) (.br (true) (.go (IntKind.wrap IntKind.i64 (y1 + (1 : Int)))) (.bad))) (.bad)))) (.bad))) (.bad)) (.br (true) (.br (byteAt (at_ (Ty.pair Ty.str (Ty.sl (nat_lit 3) (Ty.int IntKind.i64))) y2 (Int.toNat y1)).1 (nat_lit 0) == (102 : Int)) (.br (true) (.br ((↑(List.length (at_ (Ty.pair Ty.str (Ty.sl (nat_lit 3) (Ty.int IntKind.i64))) y2 (Int.toNat y1)).2) : Int) == (3 : Int)) (.br (decide ((0 : Int) ≤ (1 : Int) ∧ (1 : Int) < (↑(List.length (at_ (Ty.pair Ty.str (Ty.sl (nat_lit 3) (Ty.int IntKind.i64))) y2 (Int.toNat y1)).2) : Int))) (.br (g_As_l1In (at_ (Ty.int IntKind.i64) (at_ (Ty.pair Ty.str (Ty.sl (nat_lit 3) (Ty.int IntKind.i64))) y2 (Int.toNat y1)).2 (nat_lit 1)) (1 : Int) (99 : Int)) (.br (g_Vs_l1In_0 (at_ (Ty.int IntKind.i64) (at_ (Ty.pair Ty.str (Ty.sl (nat_lit 3) (Ty.int IntKind.i64))) y2 (Int.toNat y1)).2 (nat_lit 1)) (1 : Int) (99 : Int)) (.br (decide ((0 : Int) ≤ (2 : Int) ∧ (2 : Int) < (↑(List.length (at_ (Ty.pair Ty.str (Ty.sl (nat_lit 3) (Ty.int IntKind.i64))) y2 (Int.toNat y1)).2) : Int))) (.br (true) (.br (!decide (at_ (Ty.int IntKind.i64) (at_ (Ty.pair Ty.str (Ty.sl (nat_lit 3) (Ty.int IntKind.i64))) y2 (Int.toNat y1)).2 (nat_lit 2) ≤ (1 : Int))) (.out (.inl false)) (.br (true) (.br (byteAt (at_ (Ty.pair Ty.str (Ty.sl (nat_lit 3) (Ty.int IntKind.i64))) y2 (Int.toNat y1)).1 (nat_lit 0) != (97 : Int)) (.br (true) (.br ((↑(ByteArray.size (at_ (Ty.pair Ty.str (Ty.sl (nat_lit 3) (Ty.int IntKind.i64))) y2 (Int.toNat y1)).1) : Int) != (2 : Int)) (.out (.inl false)) (.br (true) (.go (IntKind.wrap IntKind.i64 (y1 + (1 : Int)))) (.bad))) (.bad)) (.br (true) (.go (IntKind.wrap IntKind.i64 (y1 + (1 : Int)))) (.bad))) (.bad))) (.bad)) (.bad)) (.br (true) (.out (.inl false)) (.br (true) (.br (byteAt (at_ (Ty.pair Ty.str (Ty.sl (nat_lit 3) (Ty.int IntKind.i64))) y2 (Int.toNat y1)).1 (nat_lit 0) != (97 : Int)) (.br (true) (.br ((↑(ByteArray.size (at_ (Ty.pair Ty.str (Ty.sl (nat_lit 3) (Ty.int IntKind.i64))) y2 (Int.toNat y1)).1) : Int) != (2 : Int)) (.out (.inl false)) (.br (true) (.go (IntKind.wrap IntKind.i64 (y1 + (1 : Int)))) (.bad))) (.bad)) (.br (true) (.go (IntKind.wrap IntKind.i64 (y1 + (1 : Int)))) (.bad))) (.bad)))) (.bad)) (.bad)) (.br (true) (.out (.inl false)) (.br (true) (.br (byteAt (at_ (Ty.pair Ty.str (Ty.sl (nat_lit 3) (Ty.int IntKind.i64))) y2 (Int.toNat y1)).1 (nat_lit 0) != (97 : Int)) (.br (true) (.br ((↑(ByteArray.size (at_ (Ty.pair Ty.str (Ty.sl (nat_lit 3) (Ty.int IntKind.i64))) y2 (Int.toNat y1)).1) : Int) != (2 : Int)) (.out (.inl false)) (.br (true) (.go (IntKind.wrap IntKind.i64 (y1 + (1 : Int)))) (.bad))) (.bad)) (.br (true) (.go (IntKind.wrap IntKind.i64 (y1 + (1 : Int)))) (.bad))) (.bad)))) (.bad)) (.br (true) (.out (.inl false)) (.br (true) (.br (byteAt (at_ (Ty.pair Ty.str (Ty.sl (nat_lit 3) (Ty.int IntKind.i64))) y2 (Int.toNat y1)).1 (nat_lit 0) != (97 : Int)) (.br (true) (.br ((↑(ByteArray.size (at_ (Ty.pair Ty.str (Ty.sl (nat_lit 3) (Ty.int IntKind.i64))) y2 (Int.toNat y1)).1) : Int) != (2 : Int)) (.out (.inl false)) (.br (true) (.go (IntKind.wrap IntKind.i64 (y1 + (1 : Int)))) (.bad))) (.bad)) (.br (true) (.go (IntKind.wrap IntKind.i64 (y1 + (1 : Int)))) (.bad))) (.bad)))) (.bad))) (.bad)) (.br (true) (.out (.inl false)) (.br (true) (.br (byteAt (at_ (Ty.pair Ty.str (Ty.sl (nat_lit 3) (Ty.int IntKind.i64))) y2 (Int.toNat y1)).1 (nat_lit 0) != (97 : Int)) (.br (true) (.br ((↑(ByteArray.size (at_ (Ty.pair Ty.str (Ty.sl (nat_lit 3) (Ty.int IntKind.i64))) y2 (Int.toNat y1)).1) : Int) != (2 : Int)) (.out (.inl false)) (.br (true) (.go (IntKind.wrap IntKind.i64 (y1 + (1 : Int)))) (.bad))) (.bad)) (.br (true) (.go (IntKind.wrap IntKind.i64 (y1 + (1 : Int)))) (.bad))) (.bad)))) (.bad)) (.br (true) (.out (.inl false)) (.br (true) (.br (byteAt (at_ (Ty.pair Ty.str (Ty.sl (nat_lit 3) (Ty.int IntKind.i64))) y2 (Int.toNat y1)).1 (nat_lit 0) != (97 : Int)) (.br (true) (.br ((↑(ByteArray.size (at_ (Ty.pair Ty.str (Ty.sl (nat_lit 3) (Ty.int IntKind.i64))) y2 (Int.toNat y1)).1) : Int) != (2 : Int)) (.out (.inl false)) (.br (true) (.go (IntKind.wrap IntKind.i64 (y1 + (1 : Int)))) (.bad))) (.bad)) (.br (true) (.go (IntKind.wrap IntKind.i64 (y1 + (1 : Int)))) (.bad))) (.bad)))) (.bad))) (.bad))) (.bad)) (.br (true) (.br (y0 == (3 : Int)) (.br (true) (.br (byteAt (at_ (Ty.pair Ty.str (Ty.sl (nat_lit 3) (Ty.int IntKind.i64))) y2 (Int.toNat y1)).1 (nat_lit 0) == (97 : Int)) (.br (true) (.br ((↑(List.length (at_ (Ty.pair Ty.str (Ty.sl (nat_lit 3) (Ty.int IntKind.i64))) y2 (Int.toNat y1)).2) : Int) == (1 : Int)) (.br (false) (.out (.inl false)) (.br (true) (.br (byteAt (at_ (Ty.pair Ty.str (Ty.sl (nat_lit 3) (Ty.int IntKind.i64))) y2 (Int.toNat y1)).1 (nat_lit 0) != (97 : Int)) (.br (true) (.br ((↑(ByteArray.size (at_ (Ty.pair Ty.str (Ty.sl (nat_lit 3) (Ty.int IntKind.i64))) y2 (Int.toNat y1)).1) : Int) != (2 : Int)) (.out (.inl false)) (.br (true) (.go (IntKind.wrap IntKind.i64 (y1 + (1 : Int)))) (.bad))) (.bad)) (.br (true) (.go (IntKind.wrap IntKind.i64 (y1 + (1 : Int)))) (.bad))) (.bad))) (.br (true) (.br (y0 == (2 : Int)) (.br (true) (.br (decide (at_ (Ty.int IntKind.i64) (at_ (Ty.pair Ty.str (Ty.sl (nat_lit 3) (Ty.int IntKind.i64))) y2 (Int.toNat y1)).2 (nat_lit 0) ≤ (9 : Int))) (.br (true) (.br (byteAt (at_ (Ty.pair Ty.str (Ty.sl (nat_lit 3) (Ty.int IntKind.i64))) y2 (Int.toNat y1)).1 (nat_lit 0) == (99 : Int)) (.br (true) (.br ((↑(List.length (at_ (Ty.pair Ty.str (Ty.sl (nat_lit 3) (Ty.int IntKind.i64))) y2 (Int.toNat y1)).2) : Int) == (2 : Int)) (.br (false) (.out (.inl false)) (.br (true) (.br (byteAt (at_ (Ty.pair Ty.str (Ty.sl (nat_lit 3) (Ty.int IntKind.i64))) y2 (Int.toNat y1)).1 (nat_lit 0) != (97 : Int)) (.br (true) (.br ((↑(ByteArray.size (at_ (Ty.pair Ty.str (Ty.sl (nat_lit 3) (Ty.int IntKind.i64))) y2 (Int.toNat y1)).1) : Int) != (2 : Int)) (.out (.inl false)) (.br (true) (.go (IntKind.wrap IntKind.i64 (y1 + (1 : Int)))) (.bad))) (.bad)) (.br (true) (.go (IntKind.wrap IntKind.i64 (y1 + (1 : Int)))) (.bad))) (.bad))) (.br (true) (.br (byteAt (at_ (Ty.pair Ty.str (Ty.sl (nat_lit 3) (Ty.int IntKind.i64))) y2 (Int.toNat y1)).1 (nat_lit 0) == (102 : Int)) (.br (true) (.br ((↑(List.length (at_ (Ty.pair Ty.str (Ty.sl (nat_lit 3) (Ty.int IntKind.i64))) y2 (Int.toNat y1)).2) : Int) == (3 : Int)) (.br (decide ((0 : Int) ≤ (1 : Int) ∧ (1 : Int) < (↑(List.length (at_ (Ty.pair Ty.str (Ty.sl (nat_lit 3) (Ty.int IntKind.i64))) y2 (Int.toNat y1)).2) : Int))) (.br (g_As_l1In (at_ (Ty.int IntKind.i64) (at_ (Ty.pair Ty.str (Ty.sl (nat_lit 3) (Ty.int IntKind.i64))) y2 (Int.toNat y1)).2 (nat_lit 1)) (1 : Int) (99 : Int)) (.br (g_Vs_l1In_0 (at_ (Ty.int IntKind.i64) (at_ (Ty.pair Ty.str (Ty.sl (nat_lit 3) (Ty.int IntKind.i64))) y2 (Int.toNat y1)).2 (nat_lit 1)) (1 : Int) (99 : Int)) (.br (decide ((0 : Int) ≤ (2 : Int) ∧ (2 : Int) < (↑(List.length (at_ (Ty.pair Ty.str (Ty.sl (nat_lit 3) (Ty.int IntKind.i64))) y2 (Int.toNat y1)).2) : Int))) (.br (true) (.br (!decide (at_ (Ty.int IntKind.i64) (at_ (Ty.pair Ty.str (Ty.sl (nat_lit 3) (Ty.int IntKind.i64))) y2 (Int.toNat y1)).2 (nat_lit 2) ≤ (1 : Int))) (.out (.inl false)) (.br (true) (.br (byteAt (at_ (Ty.pair Ty.str (Ty.sl (nat_lit 3) (Ty.int IntKind.i64))) y2 (Int.toNat y1)).1 (nat_lit 0) != (97 : Int)) (.br (true) (.br ((↑(ByteArray.size (at_ (Ty.pair Ty.str (Ty.sl (nat_lit 3) (Ty.int IntKind.i64))) y2 (Int.toNat y1)).1) : Int) != (2 : Int)) (.out (.inl false)) (.br (true) (.go (IntKind.wrap IntKind.i64 (y1 + (1 : Int)))) (.bad))) (.bad)) (.br (true) (.go (IntKind.wrap IntKind.i64 (y1 + (1 : Int)))) (.bad))) (.bad))) (.bad)) (.bad)) (.br (true) (.out (.inl false)) (.br (true) (.br (byteAt (at_ (Ty.pair Ty.str (Ty.sl (nat_lit 3) (Ty.int IntKind.i64))) y2 (Int.toNat y1)).1 (nat_lit 0) != (97 : Int)) (.br (true) (.br ((↑(ByteArray.size (at_ (Ty.pair Ty.str (Ty.sl (nat_lit 3) (Ty.int IntKind.i64))) y2 (Int.toNat y1)).1) : Int) != (2 : Int)) (.out (.inl false)) (.br (true) (.go (IntKind.wrap IntKind.i64 (y1 + (1 : Int)))) (.bad))) (.bad)) (.br (true) (.go (IntKind.wrap IntKind.i64 (y1 + (1 : Int)))) (.bad))) (.bad)))) (.bad)) (.bad)) (.br (true) (.out (.inl false)) (.br (true) (.br (byteAt (at_ (Ty.pair Ty.str (Ty.sl (nat_lit 3) (Ty.int IntKind.i64))) y2 (Int.toNat y1)).1 (nat_lit 0) != (97 : Int)) (.br (true) (.br ((↑(ByteArray.size (at_ (Ty.pair Ty.str (Ty.sl (nat_lit 3) (Ty.int IntKind.i64))) y2 (Int.toNat y1)).1) : Int) != (2 : Int)) (.out (.inl false)) (.br (true) (.go (IntKind.wrap IntKind.i64 (y1 + (1 : Int)))) (.bad))) (.bad)) (.br (true) (.go (IntKind.wrap IntKind.i64 (y1 + (1 : Int)))) (.bad))) (.bad)))) (.bad)) (.br (true) (.out (.inl false)) (.br (true) (.br (byteAt (at_ (Ty.pair Ty.str (Ty.sl (nat_lit 3) (Ty.int IntKind.i64))) y2 (Int.toNat y1)).1 (nat_lit 0) != (97 : Int)) (.br (true) (.br ((↑(ByteArray.size (at_ (Ty.pair Ty.str (Ty.sl (nat_lit 3) (Ty.int IntKind.i64))) y2 (Int.toNat y1)).1) : Int) != (2 : Int)) (.out (.inl false)) (.br (true) (.go (IntKind.wrap IntKind.i64 (y1 + (1 : Int)))) (.bad))) (.bad)) (.br (true) (.go (IntKind.wrap IntKind.i64 (y1 + (1 : Int)))) (.bad))) (.bad)))) (.bad))) (.bad)) (.br (true) (.br (byteAt (at_ (Ty.pair Ty.str (Ty.sl (nat_lit 3) (Ty.int IntKind.i64))) y2 (Int.toNat y1)).1 (nat_lit 0) == (102 : Int)) (.br (true) (.br ((↑(List.length (at_ (Ty.pair Ty.str (Ty.sl (nat_lit 3) (Ty.int IntKind.i64))) y2 (Int.toNat y1)).2) : Int) == (3 : Int)) (.br (decide ((0 : Int) ≤ (1 : Int) ∧ (1 : Int) < (↑(List.length (at_ (Ty.pair Ty.str (Ty.sl (nat_lit 3) (Ty.int IntKind.i64))) y2 (Int.toNat y1)).2) : Int))) (.br (g_As_l1In (at_ (Ty.int IntKind.i64) (at_ (Ty.pair Ty.str (Ty.sl (nat_lit 3) (Ty.int IntKind.i64))) y2 (Int.toNat y1)).2 (nat_lit 1)) (1 : Int) (99 : Int)) (.br (g_Vs_l1In_0 (at_ (Ty.int IntKind.i64) (at_ (Ty.pair Ty.str (Ty.sl (nat_lit 3) (Ty.int IntKind.i64))) y2 (Int.toNat y1)).2 (nat_lit 1)) (1 : Int) (99 : Int)) (.br (decide ((0 : Int) ≤ (2 : Int) ∧ (2 : Int) < (↑(List.length (at_ (Ty.pair Ty.str (Ty.sl (nat_lit 3) (Ty.int IntKind.i64))) y2 (Int.toNat y1)).2) : Int))) (.br (true) (.br (!decide (at_ (Ty.int IntKind.i64) (at_ (Ty.pair Ty.str (Ty.sl (nat_lit 3) (Ty.int IntKind.i64))) y2 (Int.toNat y1)).2 (nat_lit 2) ≤ (1 : Int))) (.out (.inl false)) (.br (true) (.br (byteAt (at_ (Ty.pair Ty.str (Ty.sl (nat_lit 3) (Ty.int IntKind.i64))) y2 (Int.toNat y1)).1 (nat_lit 0) != (97 : Int)) (.br (true) (.br ((↑(ByteArray.size (at_ (Ty.pair Ty.str (Ty.sl (nat_lit 3) (Ty.int IntKind.i64))) y2 (Int.toNat y1)).1) : Int) != (2 : Int)) (.out (.inl false)) (.br (true) (.go (IntKind.wrap IntKind.i64 (y1 + (1 : Int)))) (.bad))) (.bad)) (.br (true) (.go (IntKind.wrap IntKind.i64 (y1 + (1 : Int)))) (.bad))) (.bad))) (.bad)) (.bad)) (.br (true) (.out (.inl false)) (.br (true) (.br (byteAt (at_ (Ty.pair Ty.str (Ty.sl (nat_lit 3) (Ty.int IntKind.i64))) y2 (Int.toNat y1)).1 (nat_lit 0) != (97 : Int)) (.br (true) (.br ((↑(ByteArray.size (at_ (Ty.pair Ty.str (Ty.sl (nat_lit 3) (Ty.int IntKind.i64))) y2 (Int.toNat y1)).1) : Int) != (2 : Int)) (.out (.inl false)) (.br (true) (.go (IntKind.wrap IntKind.i64 (y1 + (1 : Int)))) (.bad))) (.bad)) (.br (true) (.go (IntKind.wrap IntKind.i64 (y1 + (1 : Int)))) (.bad))) (.bad)))) (.bad)) (.bad)) (.br (true) (.out (.inl false)) (.br (true) (.br (byteAt (at_ (Ty.pair Ty.str (Ty.sl (nat_lit 3) (Ty.int IntKind.i64))) y2 (Int.toNat y1)).1 (nat_lit 0) != (97 : Int)) (.br (true) (.br ((↑(ByteArray.size (at_ (Ty.pair Ty.str (Ty.sl (nat_lit 3) (Ty.int IntKind.i64))) y2 (Int.toNat y1)).1) : Int) != (2 : Int)) (.out (.inl false)) (.br (true) (.go (IntKind.wrap IntKind.i64 (y1 + (1 : Int)))) (.bad))) (.bad)) (.br (true) (.go (IntKind.wrap IntKind.i64 (y1 + (1 : Int)))) (.bad))) (.bad)))) (.bad)) (.br (true) (.out (.inl false)) (.br (true) (.br (byteAt (at_ (Ty.pair Ty.str (Ty.sl (nat_lit 3) (Ty.int IntKind.i64))) y2 (Int.toNat y1)).1 (nat_lit 0) != (97 : Int)) (.br (true) (.br ((↑(ByteArray.size (at_ (Ty.pair Ty.str (Ty.sl (nat_lit 3) (Ty.int IntKind.i64))) y2 (Int.toNat y1)).1) : Int) != (2 : Int)) (.out (.inl false)) (.br (true) (.go (IntKind.wrap IntKind.i64 (y1 + (1 : Int)))) (.bad))) (.bad)) (.br (true) (.go (IntKind.wrap IntKind.i64 (y1 + (1 : Int)))) (.bad))) (.bad)))) (.bad))) (.bad)) (.br (true) (.out (.inl false)) (.br (true) (.br (byteAt (at_ (Ty.pair Ty.str (Ty.sl (nat_lit 3) (Ty.int IntKind.i64))) y2 (Int.toNat y1)).1 (nat_lit 0) != (97 : Int)) (.br (true) (.br ((↑(ByteArray.size (at_ (Ty.pair Ty.str (Ty.sl (nat_lit 3) (Ty.int IntKind.i64))) y2 (Int.toNat y1)).1) : Int) != (2 : Int)) (.out (.inl false)) (.br (true) (.go (IntKind.wrap IntKind.i64 (y1 + (1 : Int)))) (.bad))) (.bad)) (.br (true) (.go (IntKind.wrap IntKind.i64 (y1 + (1 : Int)))) (.bad))) (.bad)))) (.bad)) (.br (true) (.out (.inl false)) (.br (true) (.br (byteAt (at_ (Ty.pair Ty.str (Ty.sl (nat_lit 3) (Ty.int IntKind.i64))) y2 (Int.toNat y1)).1 (nat_lit 0) != (97 : Int)) (.br (true) (.br ((↑(ByteArray.size (at_ (Ty.pair Ty.str (Ty.sl (nat_lit 3) (Ty.int IntKind.i64))) y2 (Int.toNat y1)).1) : Int) != (2 : Int)) (.out (.inl false)) (.br (true) (.go (IntKind.wrap IntKind.i64 (y1 + (1 : Int)))) (.bad))) (.bad)) (.br (true) (.go (IntKind.wrap IntKind.i64 (y1 + (1 : Int)))) (.bad))) (.bad)))) (.bad))) (.bad)) (.br (true) (.br (y0 == (2 : Int)) (.br (true) (.br (decide (at_ (Ty.int IntKind.i64) (at_ (Ty.pair Ty.str (Ty.sl (nat_lit 3) (Ty.int IntKind.i64))) y2 (Int.toNat y1)).2 (nat_lit 0) ≤ (9 : Int))) (.br (true) (.br (byteAt (at_ (Ty.pair Ty.str (Ty.sl (nat_lit 3) (Ty.int IntKind.i64))) y2 (Int.toNat y1)).1 (nat_lit 0) == (99 : Int)) (.br (true) (.br ((↑(List.length (at_ (Ty.pair Ty.str (Ty.sl (nat_lit 3) (Ty.int IntKind.i64))) y2 (Int.toNat y1)).2) : Int) == (2 : Int)) (.br (false) (.out (.inl false)) (.br (true) (.br (byteAt (at_ (Ty.pair Ty.str (Ty.sl (nat_lit 3) (Ty.int IntKind.i64))) y2 (Int.toNat y1)).1 (nat_lit 0) != (97 : Int)) (.br (true) (.br ((↑(ByteArray.size (at_ (Ty.pair Ty.str (Ty.sl (nat_lit 3) (Ty.int IntKind.i64))) y2 (Int.toNat y1)).1) : Int) != (2 : Int)) (.out (.inl false)) (.br (true) (.go (IntKind.wrap IntKind.i64 (y1 + (1 : Int)))) (.bad))) (.bad)) (.br (true) (.go (IntKind.wrap IntKind.i64 (y1 + (1 : Int)))) (.bad))) (.bad))) (.br (true) (.br (byteAt (at_ (Ty.pair Ty.str (Ty.sl (nat_lit 3) (Ty.int IntKind.i64))) y2 (Int.toNat y1)).1 (nat_lit 0) == (102 : Int)) (.br (true) (.br ((↑(List.length (at_ (Ty.pair Ty.str (Ty.sl (nat_lit 3) (Ty.int IntKind.i64))) y2 (Int.toNat y1)).2) : Int) == (3 : Int)) (.br (decide ((0 : Int) ≤ (1 : Int) ∧ (1 : Int) < (↑(List.length (at_ (Ty.pair Ty.str (Ty.sl (nat_lit 3) (Ty.int IntKind.i64))) y2 (Int.toNat y1)).2) : Int))) (.br (g_As_l1In (at_ (Ty.int IntKind.i64) (at_ (Ty.pair Ty.str (Ty.sl (nat_lit 3) (Ty.int IntKind.i64))) y2 (Int.toNat y1)).2 (nat_lit 1)) (1 : Int) (99 : Int)) (.br (g_Vs_l1In_0 (at_ (Ty.int IntKind.i64) (at_ (Ty.pair Ty.str (Ty.sl (nat_lit 3) (Ty.int IntKind.i64))) y2 (Int.toNat y1)).2 (nat_lit 1)) (1 : Int) (99 : Int)) (.br (decide ((0 : Int) ≤ (2 : Int) ∧ (2 : Int) < (↑(List.length (at_ (Ty.pair Ty.str (Ty.sl (nat_lit 3) (Ty.int IntKind.i64))) y2 (Int.toNat y1)).2) : Int))) (.br (true) (.br (!decide (at_ (Ty.int IntKind.i64) (at_ (Ty.pair Ty.str (Ty.sl (nat_lit 3) (Ty.int IntKind.i64))) y2 (Int.toNat y1)).2 (nat_lit 2) ≤ (1 : Int))) (.out (.inl false)) (.br (true) (.br (byteAt (at_ (Ty.pair Ty.str (Ty.sl (nat_lit 3) (Ty.int IntKind.i64))) y2 (Int.toNat y1)).1 (nat_lit 0) != (97 : Int)) (.br (true) (.br ((↑(ByteArray.size (at_ (Ty.pair Ty.str (Ty.sl (nat_lit 3) (Ty.int IntKind.i64))) y2 (Int.toNat y1)).1) : Int) != (2 : Int)) (.out (.inl false)) (.br (true) (.go (IntKind.wrap IntKind.i64 (y1 + (1 : Int)))) (.bad))) (.bad)) (.br (true) (.go (IntKind.wrap IntKind.i64 (y1 + (1 : Int)))) (.bad))) (.bad))) (.bad)) (.bad)) (.br (true) (.out (.inl false)) (.br (true) (.br (byteAt (at_ (Ty.pair Ty.str (Ty.sl (nat_lit 3) (Ty.int IntKind.i64))) y2 (Int.toNat y1)).1 (nat_lit 0) != (97 : Int)) (.br (true) (.br ((↑(ByteArray.size (at_ (Ty.pair Ty.str (Ty.sl (nat_lit 3) (Ty.int IntKind.i64))) y2 (Int.toNat y1)).1) : Int) != (2 : Int)) (.out (.inl false)) (.br (true) (.go (IntKind.wrap IntKind.i64 (y1 + (1 : Int)))) (.bad))) (.bad)) (.br (true) (.go (IntKind.wrap IntKind.i64 (y1 + (1 : Int)))) (.bad))) (.bad)))) (.bad)) (.bad)) (.br (true) (.out (.inl false)) (.br (true) (.br (byteAt (at_ (Ty.pair Ty.str (Ty.sl (nat_lit 3) (Ty.int IntKind.i64))) y2 (Int.toNat y1)).1 (nat_lit 0) != (97 : Int)) (.br (true) (.br ((↑(ByteArray.size (at_ (Ty.pair Ty.str (Ty.sl (nat_lit 3) (Ty.int IntKind.i64))) y2 (Int.toNat y1)).1) : Int) != (2 : Int)) (.out (.inl false)) (.br (true) (.go (IntKind.wrap IntKind.i64 (y1 + (1 : Int)))) (.bad))) (.bad)) (.br (true) (.go (IntKind.wrap IntKind.i64 (y1 + (1 : Int)))) (.bad))) (.bad)))) (.bad)) (.br (true) (.out (.inl false)) (.br (true) (.br (byteAt (at_ (Ty.pair Ty.str (Ty.sl (nat_lit 3) (Ty.int IntKind.i64))) y2 (Int.toNat y1)).1 (nat_lit 0) != (97 : Int)) (.br (true) (.br ((↑(ByteArray.size (at_ (Ty.pair Ty.str (Ty.sl (nat_lit 3) (Ty.int IntKind.i64))) y2 (Int.toNat y1)).1) : Int) != (2 : Int)) (.out (.inl false)) (.br (true) (.go (IntKind.wrap IntKind.i64 (y1 + (1 : Int)))) (.bad))) (.bad)) (.br (true) (.go (IntKind.wrap IntKind.i64 (y1 + (1 : Int)))) (.bad))) (.bad)))) (.bad))) (.bad)) (.br (true) (.br (byteAt (at_ (Ty.pair Ty.str (Ty.sl (nat_lit 3) (Ty.int IntKind.i64))) y2 (Int.toNat y1)).1 (nat_lit 0) == (102 : Int)) (.br (true) (.br ((↑(List.length (at_ (Ty.pair Ty.str (Ty.sl (nat_lit 3) (Ty.int IntKind.i64))) y2 (Int.toNat y1)).2) : Int) == (3 : Int)) (.br (decide ((0 : Int) ≤ (1 : Int) ∧ (1 : Int) < (↑(List.length (at_ (Ty.pair Ty.str (Ty.sl (nat_lit 3) (Ty.int IntKind.i64))) y2 (Int.toNat y1)).2) : Int))) (.br (g_As_l1In (at_ (Ty.int IntKind.i64) (at_ (Ty.pair Ty.str (Ty.sl (nat_lit 3) (Ty.int IntKind.i64))) y2 (Int.toNat y1)).2 (nat_lit 1)) (1 : Int) (99 : Int)) (.br (g_Vs_l1In_0 (at_ (Ty.int IntKind.i64) (at_ (Ty.pair Ty.str (Ty.sl (nat_lit 3) (Ty.int IntKind.i64))) y2 (Int.toNat y1)).2 (nat_lit 1)) (1 : Int) (99 : Int)) (.br (decide ((0 : Int) ≤ (2 : Int) ∧ (2 : Int) < (↑(List.length (at_ (Ty.pair Ty.str (Ty.sl (nat_lit 3) (Ty.int IntKind.i64))) y2 (Int.toNat y1)).2) : Int))) (.br (true) (.br (!decide (at_ (Ty.int IntKind.i64) (at_ (Ty.pair Ty.str (Ty.sl (nat_lit 3) (Ty.int IntKind.i64))) y2 (Int.toNat y1)).2 (nat_lit 2) ≤ (1 : Int))) (.out (.inl false)) (.br (true) (.br (byteAt (at_ (Ty.pair Ty.str (Ty.sl (nat_lit 3) (Ty.int IntKind.i64))) y2 (Int.toNat y1)).1 (nat_lit 0) != (97 : Int)) (.br (true) (.br ((↑(ByteArray.size (at_ (Ty.pair Ty.str (Ty.sl (nat_lit 3) (Ty.int IntKind.i64))) y2 (Int.toNat y1)).1) : Int) != (2 : Int)) (.out (.inl false)) (.br (true) (.go (IntKind.wrap IntKind.i64 (y1 + (1 : Int)))) (.bad))) (.bad)) (.br (true) (.go (IntKind.wrap IntKind.i64 (y1 + (1 : Int)))) (.bad))) (.bad))) (.bad)) (.bad)) (.br (true) (.out (.inl false)) (.br (true) (.br (byteAt (at_ (Ty.pair Ty.str (Ty.sl (nat_lit 3) (Ty.int IntKind.i64))) y2 (Int.toNat y1)).1 (nat_lit 0) != (97 : Int)) (.br (true) (.br ((↑(ByteArray.size (at_ (Ty.pair Ty.str (Ty.sl (nat_lit 3) (Ty.int IntKind.i64))) y2 (Int.toNat y1)).1) : Int) != (2 : Int)) (.out (.inl false)) (.br (true) (.go (IntKind.wrap IntKind.i64 (y1 + (1 : Int)))) (.bad))) (.bad)) (.br (true) (.go (IntKind.wrap IntKind.i64 (y1 + (1 : Int)))) (.bad))) (.bad)))) (.bad)) (.bad)) (.br (true) (.out (.inl false)) (.br (true) (.br (byteAt (at_ (Ty.pair Ty.str (Ty.sl (nat_lit 3) (Ty.int IntKind.i64))) y2 (Int.toNat y1)).1 (nat_lit 0) != (97 : Int)) (.br (true) (.br ((↑(ByteArray.size (at_ (Ty.pair Ty.str (Ty.sl (nat_lit 3) (Ty.int IntKind.i64))) y2 (Int.toNat y1)).1) : Int) != (2 : Int)) (.out (.inl false)) (.br (true) (.go (IntKind.wrap IntKind.i64 (y1 + (1 : Int)))) (.bad))) (.bad)) (.br (true) (.go (IntKind.wrap IntKind.i64 (y1 + (1 : Int)))) (.bad))) (.bad)))) (.bad)) (.br (true) (.out (.inl false)) (.br (true) (.br (byteAt (at_ (Ty.pair Ty.str (Ty.sl (nat_lit 3) (Ty.int IntKind.i64))) y2 (Int.toNat y1)).1 (nat_lit 0) != (97 : Int)) (.br (true) (.br ((↑(ByteArray.size (at_ (Ty.pair Ty.str (Ty.sl (nat_lit 3) (Ty.int IntKind.i64))) y2 (Int.toNat y1)).1) : Int) != (2 : Int)) (.out (.inl false)) (.br (true) (.go (IntKind.wrap IntKind.i64 (y1 + (1 : Int)))) (.bad))) (.bad)) (.br (true) (.go (IntKind.wrap IntKind.i64 (y1 + (1 : Int)))) (.bad))) (.bad)))) (.bad))) (.bad)) (.br (true) (.out (.inl false)) (.br (true) (.br (byteAt (at_ (Ty.pair Ty.str (Ty.sl (nat_lit 3) (Ty.int IntKind.i64))) y2 (Int.toNat y1)).1 (nat_lit 0) != (97 : Int)) (.br (true) (.br ((↑(ByteArray.size (at_ (Ty.pair Ty.str (Ty.sl (nat_lit 3) (Ty.int IntKind.i64))) y2 (Int.toNat y1)).1) : Int) != (2 : Int)) (.out (.inl false)) (.br (true) (.go (IntKind.wrap IntKind.i64 (y1 + (1 : Int)))) (.bad))) (.bad)) (.br (true) (.go (IntKind.wrap IntKind.i64 (y1 + (1 : Int)))) (.bad))) (.bad)))) (.bad)) (.br (true) (.out (.inl false)) (.br (true) (.br (byteAt (at_ (Ty.pair Ty.str (Ty.sl (nat_lit 3) (Ty.int IntKind.i64))) y2 (Int.toNat y1)).1 (nat_lit 0) != (97 : Int)) (.br (true) (.br ((↑(ByteArray.size (at_ (Ty.pair Ty.str (Ty.sl (nat_lit 3) (Ty.int IntKind.i64))) y2 (Int.toNat y1)).1) : Int) != (2 : Int)) (.out (.inl false)) (.br (true) (.go (IntKind.wrap IntKind.i64 (y1 + (1 : Int)))) (.bad))) (.bad)) (.br (true) (.go (IntKind.wrap IntKind.i64 (y1 + (1 : Int)))) (.bad))) (.bad)))) (.bad))) (.bad)) (.br (true) (.br (y0 == (2 : Int)) (.br (true) (.br (decide (at_ (Ty.int IntKind.i64) (at_ (Ty.pair Ty.str (Ty.sl (nat_lit 3) (Ty.int IntKind.i64))) y2 (Int.toNat y1)).2 (nat_lit 0) ≤ (9 : Int))) (.br (true) (.br (byteAt (at_ (Ty.pair Ty.str (Ty.sl (nat_lit 3) (Ty.int IntKind.i64))) y2 (Int.toNat y1)).1 (nat_lit 0) == (99 : Int)) (.br (true) (.br ((↑(List.length (at_ (Ty.pair Ty.str (Ty.sl (nat_lit 3) (Ty.int IntKind.i64))) y2 (Int.toNat y1)).2) : Int) == (2 : Int)) (.br (false) (.out (.inl false)) (.br (true) (.br (byteAt (at_ (Ty.pair Ty.str (Ty.sl (nat_lit 3) (Ty.int IntKind.i64))) y2 (Int.toNat y1)).1 (nat_lit 0) != (97 : Int)) (.br (true) (.br ((↑(ByteArray.size (at_ (Ty.pair Ty.str (Ty.sl (nat_lit 3) (Ty.int IntKind.i64))) y2 (Int.toNat y1)).1) : Int) != (2 : Int)) (.out (.inl false)) (.br (true) (.go (IntKind.wrap IntKind.i64 (y1 + (1 : Int)))) (.bad))) (.bad)) (.br (true) (.go (IntKind.wrap IntKind.i64 (y1 + (1 : Int)))) (.bad))) (.bad))) (.br (true) (.br (byteAt (at_ (Ty.pair Ty.str (Ty.sl (nat_lit 3) (Ty.int IntKind.i64))) y2 (Int.toNat y1)).1 (nat_lit 0) == (102 : Int)) (.br (true) (.br ((↑(List.length (at_ (Ty.pair Ty.str (Ty.sl (nat_lit 3) (Ty.int IntKind.i64))) y2 (Int.toNat y1)).2) : Int) == (3 : Int)) (.br (decide ((0 : Int) ≤ (1 : Int) ∧ (1 : Int) < (↑(List.length (at_ (Ty.pair Ty.str (Ty.sl (nat_lit 3) (Ty.int IntKind.i64))) y2 (Int.toNat y1)).2) : Int))) (.br (g_As_l1In (at_ (Ty.int IntKind.i64) (at_ (Ty.pair Ty.str (Ty.sl (nat_lit 3) (Ty.int IntKind.i64))) y2 (Int.toNat y1)).2 (nat_lit 1)) (1 : Int) (99 : Int)) (.br (g_Vs_l1In_0 (at_ (Ty.int IntKind.i64) (at_ (Ty.pair Ty.str (Ty.sl (nat_lit 3) (Ty.int IntKind.i64))) y2 (Int.toNat y1)).2 (nat_lit 1)) (1 : Int) (99 : Int)) (.br (decide ((0 : Int) ≤ (2 : Int) ∧ (2 : Int) < (↑(List.length (at_ (Ty.pair Ty.str (Ty.sl (nat_lit 3) (Ty.int IntKind.i64))) y2 (Int.toNat y1)).2) : Int))) (.br (true) (.br (!decide (at_ (Ty.int IntKind.i64) (at_ (Ty.pair Ty.str (Ty.sl (nat_lit 3) (Ty.int IntKind.i64))) y2 (Int.toNat y1)).2 (nat_lit 2) ≤ (1 : Int))) (.out (.inl false)) (.br (true) (.br (byteAt (at_ (Ty.pair Ty.str (Ty.sl (nat_lit 3) (Ty.int IntKind.i64))) y2 (Int.toNat y1)).1 (nat_lit 0) != (97 : Int)) (.br (true) (.br ((↑(ByteArray.size (at_ (Ty.pair Ty.str (Ty.sl (nat_lit 3) (Ty.int IntKind.i64))) y2 (Int.toNat y1)).1) : Int) != (2 : Int)) (.out (.inl false)) (.br (true) (.go (IntKind.wrap IntKind.i64 (y1 + (1 : Int)))) (.bad))) (.bad)) (.br (true) (.go (IntKind.wrap IntKind.i64 (y1 + (1 : Int)))) (.bad))) (.bad))) (.bad)) (.bad)) (.br (true) (.out (.inl false)) (.br (true) (.br (byteAt (at_ (Ty.pair Ty.str (Ty.sl (nat_lit 3) (Ty.int IntKind.i64))) y2 (Int.toNat y1)).1 (nat_lit 0) != (97 : Int)) (.br (true) (.br ((↑(ByteArray.size (at_ (Ty.pair Ty.str (Ty.sl (nat_lit 3) (Ty.int IntKind.i64))) y2 (Int.toNat y1)).1) : Int) != (2 : Int)) (.out (.inl false)) (.br (true) (.go (IntKind.wrap IntKind.i64 (y1 + (1 : Int)))) (.bad))) (.bad)) (.br (true) (.go (IntKind.wrap IntKind.i64 (y1 + (1 : Int)))) (.bad))) (.bad)))) (.bad)) (.bad)) (.br (true) (.out (.inl false)) (.br (true) (.br (byteAt (at_ (Ty.pair Ty.str (Ty.sl (nat_lit 3) (Ty.int IntKind.i64))) y2 (Int.toNat y1)).1 (nat_lit 0) != (97 : Int)) (.br (true) (.br ((↑(ByteArray.size (at_ (Ty.pair Ty.str (Ty.sl (nat_lit 3) (Ty.int IntKind.i64))) y2 (Int.toNat y1)).1) : Int) != (2 : Int)) (.out (.inl false)) (.br (true) (.go (IntKind.wrap IntKind.i64 (y1 + (1 : Int)))) (.bad))) (.bad)) (.br (true) (.go (IntKind.wrap IntKind.i64 (y1 + (1 : Int)))) (.bad))) (.bad)))) (.bad)) (.br (true) (.out (.inl false)) (.br (true) (.br (byteAt (at_ (Ty.pair Ty.str (Ty.sl (nat_lit 3) (Ty.int IntKind.i64))) y2 (Int.toNat y1)).1 (nat_lit 0) != (97 : Int)) (.br (true) (.br ((↑(ByteArray.size (at_ (Ty.pair Ty.str (Ty.sl (nat_lit 3) (Ty.int IntKind.i64))) y2 (Int.toNat y1)).1) : Int) != (2 : Int)) (.out (.inl false)) (.br (true) (.go (IntKind.wrap IntKind.i64 (y1 + (1 : Int)))) (.bad))) (.bad)) (.br (true) (.go (IntKind.wrap IntKind.i64 (y1 + (1 : Int)))) (.bad))) (.bad)))) (.bad))) (.bad)) (.br (true) (.br (byteAt (at_ (Ty.pair Ty.str (Ty.sl (nat_lit 3) (Ty.int IntKind.i64))) y2 (Int.toNat y1)).1 (nat_lit 0) == (102 : Int)) (.br (true) (.br ((↑(List.length (at_ (Ty.pair Ty.str (Ty.sl (nat_lit 3) (Ty.int IntKind.i64))) y2 (Int.toNat y1)).2) : Int) == (3 : Int)) (.br (decide ((0 : Int) ≤ (1 : Int) ∧ (1 : Int) < (↑(List.length (at_ (Ty.pair Ty.str (Ty.sl (nat_lit 3) (Ty.int IntKind.i64))) y2 (Int.toNat y1)).2) : Int))) (.br (g_As_l1In (at_ (Ty.int IntKind.i64) (at_ (Ty.pair Ty.str (Ty.sl (nat_lit 3) (Ty.int IntKind.i64))) y2 (Int.toNat y1)).2 (nat_lit 1)) (1 : Int) (99 : Int)) (.br (g_Vs_l1In_0 (at_ (Ty.int IntKind.i64) (at_ (Ty.pair Ty.str (Ty.sl (nat_lit 3) (Ty.int IntKind.i64))) y2 (Int.toNat y1)).2 (nat_lit 1)) (1 : Int) (99 : Int)) (.br (decide ((0 : Int) ≤ (2 : Int) ∧ (2 : Int) < (↑(List.length (at_ (Ty.pair Ty.str (Ty.sl (nat_lit 3) (Ty.int IntKind.i64))) y2 (Int.toNat y1)).2) : Int))) (.br (true) (.br (!decide (at_ (Ty.int IntKind.i64) (at_ (Ty.pair Ty.str (Ty.sl (nat_lit 3) (Ty.int IntKind.i64))) y2 (Int.toNat y1)).2 (nat_lit 2) ≤ (1 : Int))) (.out (.inl false)) (.br (true) (.br (byteAt (at_ (Ty.pair Ty.str (Ty.sl (nat_lit 3) (Ty.int IntKind.i64))) y2 (Int.toNat y1)).1 (nat_lit 0) != (97 : Int)) (.br (true) (.br ((↑(ByteArray.size (at_ (Ty.pair Ty.str (Ty.sl (nat_lit 3) (Ty.int IntKind.i64))) y2 (Int.toNat y1)).1) : Int) != (2 : Int)) (.out (.inl false)) (.br (true) (.go (IntKind.wrap IntKind.i64 (y1 + (1 : Int)))) (.bad))) (.bad)) (.br (true) (.go (IntKind.wrap IntKind.i64 (y1 + (1 : Int)))) (.bad))) (.bad))) (.bad)) (.bad)) (.br (true) (.out (.inl false)) (.br (true) (.br (byteAt (at_ (Ty.pair Ty.str (Ty.sl (nat_lit 3) (Ty.int IntKind.i64))) y2 (Int.toNat y1)).1 (nat_lit 0) != (97 : Int)) (.br (true) (.br ((↑(ByteArray.size (at_ (Ty.pair Ty.str (Ty.sl (nat_lit 3) (Ty.int IntKind.i64))) y2 (Int.toNat y1)).1) : Int) != (2 : Int)) (.out (.inl false)) (.br (true) (.go (IntKind.wrap IntKind.i64 (y1 + (1 : Int)))) (.bad))) (.bad)) (.br (true) (.go (IntKind.wrap IntKind.i64 (y1 + (1 : Int)))) (.bad))) (.bad)))) (.bad)) (.bad)) (.br (true) (.out (.inl false)) (.br (true) (.br (byteAt (at_ (Ty.pair Ty.str (Ty.sl (nat_lit 3) (Ty.int IntKind.i64))) y2 (Int.toNat y1)).1 (nat_lit 0) != (97 : Int)) (.br (true) (.br ((↑(ByteArray.size (at_ (Ty.pair Ty.str (Ty.sl (nat_lit 3) (Ty.int IntKind.i64))) y2 (Int.toNat y1)).1) : Int) != (2 : Int)) (.out (.inl false)) (.br (true) (.go (IntKind.wrap IntKind.i64 (y1 + (1 : Int)))) (.bad))) (.bad)) (.br (true) (.go (IntKind.wrap IntKind.i64 (y1 + (1 : Int)))) (.bad))) (.bad)))) (.bad)) (.br (true) (.out (.inl false)) (.br (true) (.br (byteAt (at_ (Ty.pair Ty.str (Ty.sl (nat_lit 3) (Ty.int IntKind.i64))) y2 (Int.toNat y1)).1 (nat_lit 0) != (97 : Int)) (.br (true) (.br ((↑(ByteArray.size (at_ (Ty.pair Ty.str (Ty.sl (nat_lit 3) (Ty.int IntKind.i64))) y2 (Int.toNat y1)).1) : Int) != (2 : Int)) (.out (.inl false)) (.br (true) (.go (IntKind.wrap IntKind.i64 (y1 + (1 : Int)))) (.bad))) (.bad)) (.br (true) (.go (IntKind.wrap IntKind.i64 (y1 + (1 : Int)))) (.bad))) (.bad)))) (.bad))) (.bad)) (.br (true) (.out (.inl false)) (.br (true) (.br (byteAt (at_ (Ty.pair Ty.str (Ty.sl (nat_lit 3) (Ty.int IntKind.i64))) y2 (Int.toNat y1)).1 (nat_lit 0) != (97 : Int)) (.br (true) (.br ((↑(ByteArray.size (at_ (Ty.pair Ty.str (Ty.sl (nat_lit 3) (Ty.int IntKind.i64))) y2 (Int.toNat y1)).1) : Int) != (2 : Int)) (.out (.inl false)) (.br (true) (.go (IntKind.wrap IntKind.i64 (y1 + (1 : Int)))) (.bad))) (.bad)) (.br (true) (.go (IntKind.wrap IntKind.i64 (y1 + (1 : Int)))) (.bad))) (.bad)))) (.bad)) (.br (true) (.out (.inl false)) (.br (true) (.br (byteAt (at_ (Ty.pair Ty.str (Ty.sl (nat_lit 3) (Ty.int IntKind.i64))) y2 (Int.toNat y1)).1 (nat_lit 0) != (97 : Int)) (.br (true) (.br ((↑(ByteArray.size (at_ (Ty.pair Ty.str (Ty.sl (nat_lit 3) (Ty.int IntKind.i64))) y2 (Int.toNat y1)).1) : Int) != (2 : Int)) (.out (.inl false)) (.br (true) (.go (IntKind.wrap IntKind.i64 (y1 + (1 : Int)))) (.bad))) (.bad)) (.br (true) (.go (IntKind.wrap IntKind.i64 (y1 + (1 : Int)))) (.bad))) (.bad)))) (.bad))) (.bad))) (.bad)) (.bad)) (.bad)) (.bad)) (.out (.inr (())))) (.bad)
noncomputable def g_Ls_l3Form_0 (y0 : Int) (y2 : List ((ByteArray) × (List (Int)))) (x : (Int)) : Option (((Bool)) ⊕ (Unit)) := loopO (g_Ss_l3Form_0 y0 y2) x
noncomputable def xs_l3Form_0 (y0 : Int) (y2 : List ((ByteArray) × (List (Int)))) : (((Bool)) ⊕ (Unit)) → Ex × List (Pl × LV) := fun
  | .inl r => (.ret, [(.T 4, .t (.val false [.bool r]))])
  | .inr (r) => (.exit 0, [(.T 4, .t (.val false [.undef]))])
noncomputable def Os_l3Form_1 : Orc := fun b h => match b, h with
  | 0, [(.T 0, .t (.val false [.int .i64 y0])), (.T 3, .t (.val false [.ptr 3 0 0])), (.T 5, .t (.val false [.int .i64 y1])), (.B 3, .b 0 false [.sl .any 42 (.pair .str (.sl 3 (.int .i64))) y2])] => some (okO (g_Ls_l3Form_0 y0 y2 y1), (.br (isL (valO (g_Ls_l3Form_0 y0 y2 y1))) (.leaf .ret [(.T 4, .t (.val false [.bool (getL (valO (g_Ls_l3Form_0 y0 y2 y1)))]))]) (.leaf (.exit 0) [(.T 4, .t (.val false [.undef]))])))
  | b, h => Os_l3Form_0 b h
theorem bs_l3Form_0 (y0 : Int) (y1 : Int) (y2 : List ((ByteArray) × (List (Int)))) : Tr.bt Es_l3Form Os_l3Form_0 (exec Es_l3Form 0 cs_l3Form_0 (St.of (hs_l3Form_0 y0 y1 y2)) (leafRd Es_l3Form 0)) = (g_Ss_l3Form_0 y0 y2 y1).bt (fun (y1 : (Int)) => (hs_l3Form_0 y0 y1 y2)) (xs_l3Form_0 y0 y2) := by kernel_rfl
theorem ks_l3Form_1 : OrcOk Es_l3Form Os_l3Form_1 lss_l3Form 1 := orc_add ks_l3Form_0 (fun n p hp h ex h' ho => by
  obtain ⟨b, c⟩ := p
  obtain ⟨xt, h1, h2⟩ := ho
  have h1 : Os_l3Form_1 b h = some (true, xt) := h1
  unfold Os_l3Form_1 at h1
  split at h1
  · injection h1 with h1
    injection h1 with e1 e2
    subst e2
    have hc : c = cs_l3Form_0 := ms_l3Form_0 _ hp rfl
    subst hc
    right
    rename_i y0 y1 y2
    have key := LT_step ks_l3Form_0 hp (fun q hq => loopsAll_in _ _ _ _ hp hq) (fun (y1 : (Int)) => (hs_l3Form_0 y0 y1 y2)) (xs_l3Form_0 y0 y2) (g_Ss_l3Form_0 y0 y2) (fun x => by first | exact bs_l3Form_0 y0 x y2) n (x := y1) (okO_some e1)
    have hx : ∀ r, XT.sel (.br (isL r) (.leaf .ret [(.T 4, .t (.val false [.bool (getL r)]))]) (.leaf (.exit 0) [(.T 4, .t (.val false [.undef]))])) = xs_l3Form_0 y0 y2 r := fun r => by first | rfl | (rcases r with r | r <;> rfl) | (rcases r with r | r | r <;> rfl) | (rcases r with r | r | r | r <;> rfl)
    have h3 := (hx (valO (g_Ls_l3Form_0 y0 y2 y1))).symm.trans h2
    have e3 := congrArg Prod.fst h3
    have e4 := congrArg Prod.snd h3
    simp only at e3 e4
    rw [← e3, ← e4]
    exact key
  · exact .inl ⟨xt, h1, h2⟩)
noncomputable def g_As_l3Form (a0 : Int) (a1 : List ((ByteArray) × (List (Int)))) : Bool := okO (g_Ls_l3Form_0 a0 a1 (0 : Int))
noncomputable def g_Vs_l3Form_0 (a0 : Int) (a1 : List ((ByteArray) × (List (Int)))) : Bool := bif isL (valO (g_Ls_l3Form_0 a0 a1 (0 : Int))) then getL (valO (g_Ls_l3Form_0 a0 a1 (0 : Int))) else true
noncomputable def Fs_l3Form : FSem := fun ys => match ys with
  | [.val false [.int .i64 a0], .val true [.sl .any 42 (.pair .str (.sl 3 (.int .i64))) a1]] => some ((g_As_l3Form a0 a1), .val false [.bool (g_Vs_l3Form_0 a0 a1)], [])
  | _ => none
theorem vs_l3Form (a0 : Int) (a1 : List ((ByteArray) × (List (Int)))) : collapseH .std Es_l3Form Os_l3Form_1 (execFn Es_l3Form Go.Proofs.Tryd.f30 mss_l3Form [.val false [.int .i64 a0], .val true [.sl .any 42 (.pair .str (.sl 3 (.int .i64))) a1]]) = some ((g_As_l3Form a0 a1), .val false [.bool (g_Vs_l3Form_0 a0 a1)], []) := by kernel_rfl
theorem ss_l3Form : Sound Go.Proofs.Tryd.prog 30 mss_l3Form Fs_l3Form := by
  refine fn_gen goods_l3Form (by kernel_rfl) .std (fn := Go.Proofs.Tryd.f30) (c := (Go.Proofs.Tryd.f30.body.getD .skip)) (o := Os_l3Form_1) (k := 1) (by kernel_rfl) (by kernel_rfl) (by kernel_rfl) (by kernel_rfl) (by decide) ks_l3Form_1 ?_
  intro ys r outs h
  unfold Fs_l3Form at h
  split at h
  · exact (vs_l3Form _ _).trans h
  · cases h
end Go.Proofs.YtnbcdkbjmpadmaaDoor.E
end
section
namespace Go.Proofs.YtnbcdkbjmpadmaaDoor.E
open Go
set_option maxRecDepth 100000
set_option maxHeartbeats 0
set_option linter.all false
noncomputable def Es_PlcOk : Env where
  tt := mkTI Go.Proofs.Tryd.prog
  fn := fun f => match f with
    | 28 => some (mss_l1In, FSem.wk mss_l1In Fs_l1In)
    | 29 => some (mss_StoOk, FSem.wk mss_StoOk Fs_StoOk)
    | 30 => some (mss_l3Form, FSem.wk mss_l3Form Fs_l3Form)
    | _ => none
  bxf := fun _ => none
  mv := []
  keep := fun _ => []
  keepB := fun _ => []
  keepX := fun _ => []
  keepXB := fun _ => []
theorem goodFs_PlcOk : ∀ f ms F, Es_PlcOk.fn f = some (ms, F) → Sound Go.Proofs.Tryd.prog f ms F := fun f ms F h => by
  unfold Es_PlcOk at h
  dsimp only at h
  split at h
  · injection h with h; injection h with e1 e2; subst e1 e2; exact Sound.wk ss_l1In
  · injection h with h; injection h with e1 e2; subst e1 e2; exact Sound.wk ss_StoOk
  · injection h with h; injection h with e1 e2; subst e1 e2; exact Sound.wk ss_l3Form
  · cases h
theorem goodBs_PlcOk : ∀ f ms F, Es_PlcOk.bxf f = some (ms, F) → SoundB Go.Proofs.Tryd.prog f ms F := fun f ms F h => by cases h
theorem goods_PlcOk : Good Go.Proofs.Tryd.prog Es_PlcOk := ⟨rfl, goodFs_PlcOk, goodBs_PlcOk⟩
noncomputable def Os_PlcOk_0 : Orc := fun _ _ => none
noncomputable def mss_PlcOk : List PM := [.own, .rd]
noncomputable def lss_PlcOk : List (Nat × Code) := loopsAll 0 (Go.Proofs.Tryd.f16.body.getD .skip)

theorem ks_PlcOk_0 : OrcOk Es_PlcOk Os_PlcOk_0 lss_PlcOk 0 := orcOk_none
noncomputable def g_As_PlcOk (a0 : Int) (a1 : List ((ByteArray) × (List (Int)))) : Bool := g_As_l1In a0 (1 : Int) (3 : Int) && (!g_Vs_l1In_0 a0 (1 : Int) (3 : Int) || g_As_StoOk a1 && (!g_Vs_StoOk_0 a1 || g_As_l3Form a0 a1))
noncomputable def g_Vs_PlcOk_0 (a0 : Int) (a1 : List ((ByteArray) × (List (Int)))) : Bool := bif g_Vs_l1In_0 a0 (1 : Int) (3 : Int) then bif g_Vs_StoOk_0 a1 then g_Vs_l3Form_0 a0 a1 else false else false
noncomputable def Fs_PlcOk : FSem := fun ys => match ys with
  | [.val false [.int .i64 a0], .val true [.sl .any 42 (.pair .str (.sl 3 (.int .i64))) a1]] => some ((g_As_PlcOk a0 a1), .val false [.bool (g_Vs_PlcOk_0 a0 a1)], [])
  | _ => none
theorem vs_PlcOk (a0 : Int) (a1 : List ((ByteArray) × (List (Int)))) : collapseH .std Es_PlcOk Os_PlcOk_0 (execFn Es_PlcOk Go.Proofs.Tryd.f16 mss_PlcOk [.val false [.int .i64 a0], .val true [.sl .any 42 (.pair .str (.sl 3 (.int .i64))) a1]]) = some ((g_As_PlcOk a0 a1), .val false [.bool (g_Vs_PlcOk_0 a0 a1)], []) := by kernel_rfl
theorem ss_PlcOk : Sound Go.Proofs.Tryd.prog 16 mss_PlcOk Fs_PlcOk := by
  refine fn_gen goods_PlcOk (by kernel_rfl) .std (fn := Go.Proofs.Tryd.f16) (c := (Go.Proofs.Tryd.f16.body.getD .skip)) (o := Os_PlcOk_0) (k := 0) (by kernel_rfl) (by kernel_rfl) (by kernel_rfl) (by kernel_rfl) (by decide) ks_PlcOk_0 ?_
  intro ys r outs h
  unfold Fs_PlcOk at h
  split at h
  · exact (vs_PlcOk _ _).trans h
  · cases h
end Go.Proofs.YtnbcdkbjmpadmaaDoor.E
end
section
namespace Go.Proofs.YtnbcdkbjmpadmaaDoor.E
open Go
set_option maxRecDepth 100000
set_option maxHeartbeats 0
set_option linter.all false
noncomputable def Es_GloOk : Env where
  tt := mkTI Go.Proofs.Tryd.prog
  fn := fun f => match f with
    | 16 => some (mss_PlcOk, FSem.wk mss_PlcOk Fs_PlcOk)
    | _ => none
  bxf := fun _ => none
  mv := []
  keep := fun b => match b with
    | 0 => [(0, false), (3, false)]
    | _ => []
  keepB := fun b => match b with
    | 0 => []
    | _ => []
  keepX := fun b => match b with
    | 0 => [(2, false)]
    | _ => []
  keepXB := fun b => match b with
    | 0 => []
    | _ => []
theorem goodFs_GloOk : ∀ f ms F, Es_GloOk.fn f = some (ms, F) → Sound Go.Proofs.Tryd.prog f ms F := fun f ms F h => by
  unfold Es_GloOk at h
  dsimp only at h
  split at h
  · injection h with h; injection h with e1 e2; subst e1 e2; exact Sound.wk ss_PlcOk
  · cases h
theorem goodBs_GloOk : ∀ f ms F, Es_GloOk.bxf f = some (ms, F) → SoundB Go.Proofs.Tryd.prog f ms F := fun f ms F h => by cases h
theorem goods_GloOk : Good Go.Proofs.Tryd.prog Es_GloOk := ⟨rfl, goodFs_GloOk, goodBs_GloOk⟩
noncomputable def Os_GloOk_0 : Orc := fun _ _ => none
noncomputable def mss_GloOk : List PM := [.rd]
noncomputable def lss_GloOk : List (Nat × Code) := loopsAll 0 (Go.Proofs.Tryd.f6.body.getD .skip)
noncomputable def cs_GloOk_0 : Code := (loopOf 0 (Go.Proofs.Tryd.f6.body.getD .skip)).getD .skip
theorem lseqs_GloOk : lss_GloOk = [(0, cs_GloOk_0)] := by kernel_rfl
theorem ms_GloOk_0 : ∀ p, p ∈ lss_GloOk → p.1 = 0 → p.2 = cs_GloOk_0 := by
  intro p hp
  rw [lseqs_GloOk] at hp
  simp only [List.mem_cons, List.not_mem_nil, or_false] at hp
  subst hp; simp
theorem ks_GloOk_0 : OrcOk Es_GloOk Os_GloOk_0 lss_GloOk 0 := orcOk_none
noncomputable def hs_GloOk_0 (y0 : List (List ((ByteArray) × (List (Int))))) (y1 : Int) : List (Pl × LV) := [(.T 0, .t (.val false [.sl .any 30 (.sl 42 (.pair .str (.sl 3 (.int .i64)))) y0])), (.T 3, .t (.val false [.int .i64 y1]))]
noncomputable def g_Ss_GloOk_0 (y0 : List (List ((ByteArray) × (List (Int))))) : ((Int)) → RT ((Int)) (((Bool)) ⊕ (Unit))
  | y1 => .br (true) (.br (decide (y1 < (↑(List.length y0) : Int))) (.br (true) (.br (decide ((0 : Int) ≤ y1 ∧ y1 < (↑(List.length y0) : Int))) (.br (g_As_PlcOk (IntKind.wrap IntKind.i64 (y1 + (1 : Int))) (at_ (Ty.sl (nat_lit 42) (Ty.pair Ty.str (Ty.sl (nat_lit 3) (Ty.int IntKind.i64)))) y0 (Int.toNat y1))) (.br (!g_Vs_PlcOk_0 (IntKind.wrap IntKind.i64 (y1 + (1 : Int))) (at_ (Ty.sl (nat_lit 42) (Ty.pair Ty.str (Ty.sl (nat_lit 3) (Ty.int IntKind.i64)))) y0 (Int.toNat y1))) (.out (.inl false)) (.br (true) (.go (IntKind.wrap IntKind.i64 (y1 + (1 : Int)))) (.bad))) (.bad)) (.bad)) (.bad)) (.out (.inr (())))) (.bad)
noncomputable def g_Ls_GloOk_0 (y0 : List (List ((ByteArray) × (List (Int))))) (x : (Int)) : Option (((Bool)) ⊕ (Unit)) := loopO (g_Ss_GloOk_0 y0) x
noncomputable def xs_GloOk_0 (y0 : List (List ((ByteArray) × (List (Int))))) : (((Bool)) ⊕ (Unit)) → Ex × List (Pl × LV) := fun
  | .inl r => (.ret, [(.T 2, .t (.val false [.bool r]))])
  | .inr (r) => (.exit 0, [(.T 2, .t (.val false [.undef]))])
noncomputable def Os_GloOk_1 : Orc := fun b h => match b, h with
  | 0, [(.T 0, .t (.val false [.sl .any 30 (.sl 42 (.pair .str (.sl 3 (.int .i64)))) y0])), (.T 3, .t (.val false [.int .i64 y1]))] => some (okO (g_Ls_GloOk_0 y0 y1), (.br (isL (valO (g_Ls_GloOk_0 y0 y1))) (.leaf .ret [(.T 2, .t (.val false [.bool (getL (valO (g_Ls_GloOk_0 y0 y1)))]))]) (.leaf (.exit 0) [(.T 2, .t (.val false [.undef]))])))
  | b, h => Os_GloOk_0 b h
theorem bs_GloOk_0 (y0 : List (List ((ByteArray) × (List (Int))))) (y1 : Int) : Tr.bt Es_GloOk Os_GloOk_0 (exec Es_GloOk 0 cs_GloOk_0 (St.of (hs_GloOk_0 y0 y1)) (leafRd Es_GloOk 0)) = (g_Ss_GloOk_0 y0 y1).bt (fun (y1 : (Int)) => (hs_GloOk_0 y0 y1)) (xs_GloOk_0 y0) := by kernel_rfl
theorem ks_GloOk_1 : OrcOk Es_GloOk Os_GloOk_1 lss_GloOk 1 := orc_add ks_GloOk_0 (fun n p hp h ex h' ho => by
  obtain ⟨b, c⟩ := p
  obtain ⟨xt, h1, h2⟩ := ho
  have h1 : Os_GloOk_1 b h = some (true, xt) := h1
  unfold Os_GloOk_1 at h1
  split at h1
  · injection h1 with h1
    injection h1 with e1 e2
    subst e2
    have hc : c = cs_GloOk_0 := ms_GloOk_0 _ hp rfl
    subst hc
    right
    rename_i y0 y1
    have key := LT_step ks_GloOk_0 hp (fun q hq => loopsAll_in _ _ _ _ hp hq) (fun (y1 : (Int)) => (hs_GloOk_0 y0 y1)) (xs_GloOk_0 y0) (g_Ss_GloOk_0 y0) (fun x => by first | exact bs_GloOk_0 y0 x) n (x := y1) (okO_some e1)
    have hx : ∀ r, XT.sel (.br (isL r) (.leaf .ret [(.T 2, .t (.val false [.bool (getL r)]))]) (.leaf (.exit 0) [(.T 2, .t (.val false [.undef]))])) = xs_GloOk_0 y0 r := fun r => by first | rfl | (rcases r with r | r <;> rfl) | (rcases r with r | r | r <;> rfl) | (rcases r with r | r | r | r <;> rfl)
    have h3 := (hx (valO (g_Ls_GloOk_0 y0 y1))).symm.trans h2
    have e3 := congrArg Prod.fst h3
    have e4 := congrArg Prod.snd h3
    simp only at e3 e4
    rw [← e3, ← e4]
    exact key
  · exact .inl ⟨xt, h1, h2⟩)
noncomputable def g_As_GloOk (a0 : List (List ((ByteArray) × (List (Int))))) : Bool := (↑(List.length a0) : Int) != (3 : Int) || okO (g_Ls_GloOk_0 a0 (0 : Int))
noncomputable def g_Vs_GloOk_0 (a0 : List (List ((ByteArray) × (List (Int))))) : Bool := bif (↑(List.length a0) : Int) != (3 : Int) then false else bif isL (valO (g_Ls_GloOk_0 a0 (0 : Int))) then getL (valO (g_Ls_GloOk_0 a0 (0 : Int))) else true
noncomputable def Fs_GloOk : FSem := fun ys => match ys with
  | [.val false [.sl .any 30 (.sl 42 (.pair .str (.sl 3 (.int .i64)))) a0]] => some ((g_As_GloOk a0), .val false [.bool (g_Vs_GloOk_0 a0)], [])
  | _ => none
theorem vs_GloOk (a0 : List (List ((ByteArray) × (List (Int))))) : collapseH .std Es_GloOk Os_GloOk_1 (execFn Es_GloOk Go.Proofs.Tryd.f6 mss_GloOk [.val false [.sl .any 30 (.sl 42 (.pair .str (.sl 3 (.int .i64)))) a0]]) = some ((g_As_GloOk a0), .val false [.bool (g_Vs_GloOk_0 a0)], []) := by kernel_rfl
theorem ss_GloOk : Sound Go.Proofs.Tryd.prog 6 mss_GloOk Fs_GloOk := by
  refine fn_gen goods_GloOk (by kernel_rfl) .std (fn := Go.Proofs.Tryd.f6) (c := (Go.Proofs.Tryd.f6.body.getD .skip)) (o := Os_GloOk_1) (k := 1) (by kernel_rfl) (by kernel_rfl) (by kernel_rfl) (by kernel_rfl) (by decide) ks_GloOk_1 ?_
  intro ys r outs h
  unfold Fs_GloOk at h
  split at h
  · exact (vs_GloOk _).trans h
  · cases h
end Go.Proofs.YtnbcdkbjmpadmaaDoor.E
end
section
namespace Go.Proofs.YtnbcdkbjmpadmaaDoor.E
open Go
set_option maxRecDepth 100000
set_option maxHeartbeats 0
set_option linter.all false
noncomputable def Es_OpOk : Env where
  tt := mkTI Go.Proofs.Tryd.prog
  fn := fun f => match f with
    | 28 => some (mss_l1In, FSem.wk mss_l1In Fs_l1In)
    | _ => none
  bxf := fun _ => none
  mv := []
  keep := fun _ => []
  keepB := fun _ => []
  keepX := fun _ => []
  keepXB := fun _ => []
theorem goodFs_OpOk : ∀ f ms F, Es_OpOk.fn f = some (ms, F) → Sound Go.Proofs.Tryd.prog f ms F := fun f ms F h => by
  unfold Es_OpOk at h
  dsimp only at h
  split at h
  · injection h with h; injection h with e1 e2; subst e1 e2; exact Sound.wk ss_l1In
  · cases h
theorem goodBs_OpOk : ∀ f ms F, Es_OpOk.bxf f = some (ms, F) → SoundB Go.Proofs.Tryd.prog f ms F := fun f ms F h => by cases h
theorem goods_OpOk : Good Go.Proofs.Tryd.prog Es_OpOk := ⟨rfl, goodFs_OpOk, goodBs_OpOk⟩
noncomputable def Os_OpOk_0 : Orc := fun _ _ => none
noncomputable def mss_OpOk : List PM := [.own]
noncomputable def lss_OpOk : List (Nat × Code) := loopsAll 0 (Go.Proofs.Tryd.f36.body.getD .skip)

theorem ks_OpOk_0 : OrcOk Es_OpOk Os_OpOk_0 lss_OpOk 0 := orcOk_none
noncomputable def g_As_OpOk (a0 : Int) (a1 : Int) (a2 : Int) (a3 : Int) (a4 : Int) (a5 : Int) (a6 : Int) : Bool := g_As_l1In a1 (0 : Int) (9 : Int) && (!g_Vs_l1In_0 a1 (0 : Int) (9 : Int) || g_As_l1In a2 (0 : Int) (9 : Int) && (!g_Vs_l1In_0 a2 (0 : Int) (9 : Int) || g_As_l1In a3 (0 : Int) (9 : Int) && (!g_Vs_l1In_0 a3 (0 : Int) (9 : Int) || g_As_l1In a4 (0 : Int) (99 : Int) && (!g_Vs_l1In_0 a4 (0 : Int) (99 : Int) || g_As_l1In a5 (0 : Int) (9 : Int) && (!g_Vs_l1In_0 a5 (0 : Int) (9 : Int) || g_As_l1In a6 (0 : Int) (99 : Int) && (!g_Vs_l1In_0 a6 (0 : Int) (99 : Int) || bif a0 == (1 : Int) then bif a0 == (1 : Int) then !a3 == (0 : Int) || (!a4 == (0 : Int) || (!a5 == (0 : Int) || true)) else bif a0 == (2 : Int) then !a5 == (0 : Int) || true else bif a0 == (3 : Int) then !a1 == (0 : Int) || (!a2 == (0 : Int) || true) else !a0 == (4 : Int) || (!a1 == (0 : Int) || (!a2 == (0 : Int) || (!a3 == (0 : Int) || true))) else bif a0 == (5 : Int) then !a3 == (0 : Int) || (!a4 == (0 : Int) || (!a5 == (0 : Int) || true)) else bif a0 == (2 : Int) then !a5 == (0 : Int) || true else bif a0 == (3 : Int) then !a1 == (0 : Int) || (!a2 == (0 : Int) || true) else !a0 == (4 : Int) || (!a1 == (0 : Int) || (!a2 == (0 : Int) || (!a3 == (0 : Int) || true)))))))))
noncomputable def g_Vs_OpOk_0 (a0 : Int) (a1 : Int) (a2 : Int) (a3 : Int) (a4 : Int) (a5 : Int) (a6 : Int) : Bool := bif !g_Vs_l1In_0 a1 (0 : Int) (9 : Int) then false else bif !g_Vs_l1In_0 a2 (0 : Int) (9 : Int) then false else bif !g_Vs_l1In_0 a3 (0 : Int) (9 : Int) then false else bif !g_Vs_l1In_0 a4 (0 : Int) (99 : Int) then false else bif !g_Vs_l1In_0 a5 (0 : Int) (9 : Int) then false else bif !g_Vs_l1In_0 a6 (0 : Int) (99 : Int) then false else bif a0 == (1 : Int) then bif a0 == (1 : Int) then bif a3 == (0 : Int) then bif a4 == (0 : Int) then bif a5 == (0 : Int) then a6 == (0 : Int) else false else false else false else bif a0 == (2 : Int) then bif a5 == (0 : Int) then a6 == (0 : Int) else false else bif a0 == (3 : Int) then bif a1 == (0 : Int) then bif a2 == (0 : Int) then a6 == (0 : Int) else false else false else bif a0 == (4 : Int) then bif a1 == (0 : Int) then bif a2 == (0 : Int) then bif a3 == (0 : Int) then a4 == (0 : Int) else false else false else false else false else bif a0 == (5 : Int) then bif a3 == (0 : Int) then bif a4 == (0 : Int) then bif a5 == (0 : Int) then a6 == (0 : Int) else false else false else false else bif a0 == (2 : Int) then bif a5 == (0 : Int) then a6 == (0 : Int) else false else bif a0 == (3 : Int) then bif a1 == (0 : Int) then bif a2 == (0 : Int) then a6 == (0 : Int) else false else false else bif a0 == (4 : Int) then bif a1 == (0 : Int) then bif a2 == (0 : Int) then bif a3 == (0 : Int) then a4 == (0 : Int) else false else false else false else false
noncomputable def Fs_OpOk : FSem := fun ys => match ys with
  | [.val true [.int .i64 a0, .int .i64 a1, .int .i64 a2, .int .i64 a3, .int .i64 a4, .int .i64 a5, .int .i64 a6]] => some ((g_As_OpOk a0 a1 a2 a3 a4 a5 a6), .val false [.bool (g_Vs_OpOk_0 a0 a1 a2 a3 a4 a5 a6)], [])
  | _ => none
theorem vs_OpOk (a0 : Int) (a1 : Int) (a2 : Int) (a3 : Int) (a4 : Int) (a5 : Int) (a6 : Int) : collapseH .std Es_OpOk Os_OpOk_0 (execFn Es_OpOk Go.Proofs.Tryd.f36 mss_OpOk [.val true [.int .i64 a0, .int .i64 a1, .int .i64 a2, .int .i64 a3, .int .i64 a4, .int .i64 a5, .int .i64 a6]]) = some ((g_As_OpOk a0 a1 a2 a3 a4 a5 a6), .val false [.bool (g_Vs_OpOk_0 a0 a1 a2 a3 a4 a5 a6)], []) := by kernel_rfl
theorem ss_OpOk : Sound Go.Proofs.Tryd.prog 36 mss_OpOk Fs_OpOk := by
  refine fn_gen goods_OpOk (by kernel_rfl) .std (fn := Go.Proofs.Tryd.f36) (c := (Go.Proofs.Tryd.f36.body.getD .skip)) (o := Os_OpOk_0) (k := 0) (by kernel_rfl) (by kernel_rfl) (by kernel_rfl) (by kernel_rfl) (by decide) ks_OpOk_0 ?_
  intro ys r outs h
  unfold Fs_OpOk at h
  split at h
  · exact (vs_OpOk _ _ _ _ _ _ _).trans h
  · cases h
end Go.Proofs.YtnbcdkbjmpadmaaDoor.E
end
section
namespace Go.Proofs.YtnbcdkbjmpadmaaDoor.E
open Go
set_option maxRecDepth 100000
set_option maxHeartbeats 0
set_option linter.all false
noncomputable def Es_l1Copy : Env where
  tt := mkTI Go.Proofs.Tryd.prog
  fn := fun _ => none
  bxf := fun _ => none
  mv := []
  keep := fun b => match b with
    | 0 => [(1, false), (2, false), (3, false), (4, false)]
    | _ => []
  keepB := fun b => match b with
    | 0 => [(1, false), (2, false), (3, false)]
    | _ => []
  keepX := fun b => match b with
    | 0 => [(2, false), (3, false)]
    | _ => []
  keepXB := fun b => match b with
    | 0 => [(2, false), (3, false)]
    | _ => []
theorem goodFs_l1Copy : ∀ f ms F, Es_l1Copy.fn f = some (ms, F) → Sound Go.Proofs.Tryd.prog f ms F := fun f ms F h => by cases h
theorem goodBs_l1Copy : ∀ f ms F, Es_l1Copy.bxf f = some (ms, F) → SoundB Go.Proofs.Tryd.prog f ms F := fun f ms F h => by cases h
theorem goods_l1Copy : Good Go.Proofs.Tryd.prog Es_l1Copy := ⟨rfl, goodFs_l1Copy, goodBs_l1Copy⟩
noncomputable def Os_l1Copy_0 : Orc := fun _ _ => none
noncomputable def mss_l1Copy : List PM := [.rd]
noncomputable def lss_l1Copy : List (Nat × Code) := loopsAll 0 (Go.Proofs.Tryd.f39.body.getD .skip)
noncomputable def cs_l1Copy_0 : Code := (loopOf 0 (Go.Proofs.Tryd.f39.body.getD .skip)).getD .skip
theorem lseqs_l1Copy : lss_l1Copy = [(0, cs_l1Copy_0)] := by kernel_rfl
theorem ms_l1Copy_0 : ∀ p, p ∈ lss_l1Copy → p.1 = 0 → p.2 = cs_l1Copy_0 := by
  intro p hp
  rw [lseqs_l1Copy] at hp
  simp only [List.mem_cons, List.not_mem_nil, or_false] at hp
  subst hp; simp
theorem ks_l1Copy_0 : OrcOk Es_l1Copy Os_l1Copy_0 lss_l1Copy 0 := orcOk_none
noncomputable def hs_l1Copy_0 (y0 : Int) (y1 : List ((ByteArray) × (List (Int)))) (y2 : List ((ByteArray) × (List (Int)))) (y3 : List ((ByteArray) × (List (Int)))) : List (Pl × LV) := [(.T 1, .t (.val false [.ptr 1 0 0])), (.T 2, .t (.val false [.ptr 2 0 0])), (.T 3, .t (.val false [.ptr 3 0 0])), (.T 4, .t (.val false [.int .i64 y0])), (.B 1, .b 0 false [.sl .any 42 (.pair .str (.sl 3 (.int .i64))) y1]), (.B 2, .b 0 false [.row 2 1 0]), (.R 2 1, .r 0 (some ⟨false, .any, true, 42, (.pair .str (.sl 3 (.int .i64))), y2⟩)), (.B 3, .b 0 false [.row 3 1 0]), (.R 3 1, .r 0 (some ⟨false, .any, true, 42, (.pair .str (.sl 3 (.int .i64))), y3⟩))]
noncomputable def g_Ss_l1Copy_0 (y1 : List ((ByteArray) × (List (Int)))) (y2 : List ((ByteArray) × (List (Int)))) : ((Int) × (List ((ByteArray) × (List (Int))))) → RT ((Int) × (List ((ByteArray) × (List (Int))))) (((List ((ByteArray) × (List (Int))))))
  | (y0, y3) => .br (true) (.br (decide (y0 < (↑(List.length y1) : Int))) (.br (decide ((0 : Int) ≤ y0 ∧ y0 < (↑(List.length y1) : Int))) (.br (decide ((0 : Int) ≤ y0 ∧ y0 < (↑(List.length y1) : Int))) (.br (decide ((nat_lit 0 + List.length (at_ (Ty.pair Ty.str (Ty.sl (nat_lit 3) (Ty.int IntKind.i64))) y1 (Int.toNat y0)).2) * nat_lit 8 ≤ nat_lit 140737488355328 ∧ nat_lit 0 + List.length (at_ (Ty.pair Ty.str (Ty.sl (nat_lit 3) (Ty.int IntKind.i64))) y1 (Int.toNat y0)).2 ≤ nat_lit 9223372036854775807)) (.br (decide ((List.length y3 + List.length [((at_ (Ty.pair Ty.str (Ty.sl (nat_lit 3) (Ty.int IntKind.i64))) y1 (Int.toNat y0)).1, [] ++ (at_ (Ty.pair Ty.str (Ty.sl (nat_lit 3) (Ty.int IntKind.i64))) y1 (Int.toNat y0)).2)]) * nat_lit 40 ≤ nat_lit 140737488355328 ∧ List.length y3 + List.length [((at_ (Ty.pair Ty.str (Ty.sl (nat_lit 3) (Ty.int IntKind.i64))) y1 (Int.toNat y0)).1, [] ++ (at_ (Ty.pair Ty.str (Ty.sl (nat_lit 3) (Ty.int IntKind.i64))) y1 (Int.toNat y0)).2)] ≤ nat_lit 9223372036854775807)) (.br (true) (.go ((IntKind.wrap IntKind.i64 (y0 + (1 : Int)), y3 ++ [((at_ (Ty.pair Ty.str (Ty.sl (nat_lit 3) (Ty.int IntKind.i64))) y1 (Int.toNat y0)).1, [] ++ (at_ (Ty.pair Ty.str (Ty.sl (nat_lit 3) (Ty.int IntKind.i64))) y1 (Int.toNat y0)).2)]))) (.bad)) (.bad)) (.bad)) (.bad)) (.bad)) (.out (y3))) (.bad)
noncomputable def g_Ls_l1Copy_0 (y1 : List ((ByteArray) × (List (Int)))) (y2 : List ((ByteArray) × (List (Int)))) (x : (Int) × (List ((ByteArray) × (List (Int))))) : Option (((List ((ByteArray) × (List (Int)))))) := loopO (g_Ss_l1Copy_0 y1 y2) x
noncomputable def xs_l1Copy_0 (y1 : List ((ByteArray) × (List (Int)))) (y2 : List ((ByteArray) × (List (Int)))) : (((List ((ByteArray) × (List (Int)))))) → Ex × List (Pl × LV) := fun r => (.exit 0, [(.T 2, .t (.val false [.ptr 2 0 0])), (.T 3, .t (.val false [.ptr 3 0 0])), (.B 2, .b 0 false [.row 2 1 0]), (.R 2 1, .r 0 (some ⟨false, .any, true, 42, (.pair .str (.sl 3 (.int .i64))), y2⟩)), (.B 3, .b 0 false [.row 3 1 0]), (.R 3 1, .r 0 (some ⟨false, .any, true, 42, (.pair .str (.sl 3 (.int .i64))), r⟩))])
noncomputable def Os_l1Copy_1 : Orc := fun b h => match b, h with
  | 0, [(.T 1, .t (.val false [.ptr 1 0 0])), (.T 2, .t (.val false [.ptr 2 0 0])), (.T 3, .t (.val false [.ptr 3 0 0])), (.T 4, .t (.val false [.int .i64 y0])), (.B 1, .b 0 false [.sl .any 42 (.pair .str (.sl 3 (.int .i64))) y1]), (.B 2, .b 0 false [.row 2 1 0]), (.R 2 1, .r 0 (some ⟨false, .any, true, 42, (.pair .str (.sl 3 (.int .i64))), y2⟩)), (.B 3, .b 0 false [.row 3 1 0]), (.R 3 1, .r 0 (some ⟨false, .any, true, 42, (.pair .str (.sl 3 (.int .i64))), y3⟩))] => some (okO (g_Ls_l1Copy_0 y1 y2 (y0, y3)), (.leaf (.exit 0) [(.T 2, .t (.val false [.ptr 2 0 0])), (.T 3, .t (.val false [.ptr 3 0 0])), (.B 2, .b 0 false [.row 2 1 0]), (.R 2 1, .r 0 (some ⟨false, .any, true, 42, (.pair .str (.sl 3 (.int .i64))), y2⟩)), (.B 3, .b 0 false [.row 3 1 0]), (.R 3 1, .r 0 (some ⟨false, .any, true, 42, (.pair .str (.sl 3 (.int .i64))), (valO (g_Ls_l1Copy_0 y1 y2 (y0, y3)))⟩))]))
  | b, h => Os_l1Copy_0 b h
theorem bs_l1Copy_0 (y0 : Int) (y1 : List ((ByteArray) × (List (Int)))) (y2 : List ((ByteArray) × (List (Int)))) (y3 : List ((ByteArray) × (List (Int)))) : Tr.bt Es_l1Copy Os_l1Copy_0 (exec Es_l1Copy 0 cs_l1Copy_0 (St.of (hs_l1Copy_0 y0 y1 y2 y3)) (leafRd Es_l1Copy 0)) = (g_Ss_l1Copy_0 y1 y2 (y0, y3)).bt (fun ((y0, y3) : (Int) × (List ((ByteArray) × (List (Int))))) => (hs_l1Copy_0 y0 y1 y2 y3)) (xs_l1Copy_0 y1 y2) := by kernel_rfl
theorem ks_l1Copy_1 : OrcOk Es_l1Copy Os_l1Copy_1 lss_l1Copy 1 := orc_add ks_l1Copy_0 (fun n p hp h ex h' ho => by
  obtain ⟨b, c⟩ := p
  obtain ⟨xt, h1, h2⟩ := ho
  have h1 : Os_l1Copy_1 b h = some (true, xt) := h1
  unfold Os_l1Copy_1 at h1
  split at h1
  · injection h1 with h1
    injection h1 with e1 e2
    subst e2
    have hc : c = cs_l1Copy_0 := ms_l1Copy_0 _ hp rfl
    subst hc
    right
    rename_i y0 y1 y2 y3
    have key := LT_step ks_l1Copy_0 hp (fun q hq => loopsAll_in _ _ _ _ hp hq) (fun ((y0, y3) : (Int) × (List ((ByteArray) × (List (Int))))) => (hs_l1Copy_0 y0 y1 y2 y3)) (xs_l1Copy_0 y1 y2) (g_Ss_l1Copy_0 y1 y2) (fun x => by first | exact bs_l1Copy_0 x.1 y1 y2 x.2) n (x := (y0, y3)) (okO_some e1)
    have hx : ∀ r, XT.sel (.leaf (.exit 0) [(.T 2, .t (.val false [.ptr 2 0 0])), (.T 3, .t (.val false [.ptr 3 0 0])), (.B 2, .b 0 false [.row 2 1 0]), (.R 2 1, .r 0 (some ⟨false, .any, true, 42, (.pair .str (.sl 3 (.int .i64))), y2⟩)), (.B 3, .b 0 false [.row 3 1 0]), (.R 3 1, .r 0 (some ⟨false, .any, true, 42, (.pair .str (.sl 3 (.int .i64))), r⟩))]) = xs_l1Copy_0 y1 y2 r := fun r => by first | rfl | (rcases r with r | r <;> rfl) | (rcases r with r | r | r <;> rfl) | (rcases r with r | r | r | r <;> rfl)
    have h3 := (hx (valO (g_Ls_l1Copy_0 y1 y2 (y0, y3)))).symm.trans h2
    have e3 := congrArg Prod.fst h3
    have e4 := congrArg Prod.snd h3
    simp only at e3 e4
    rw [← e3, ← e4]
    exact key
  · exact .inl ⟨xt, h1, h2⟩)
noncomputable def g_As_l1Copy (a0 : List ((ByteArray) × (List (Int)))) : Bool := okO (g_Ls_l1Copy_0 a0 [] ((0 : Int), []))
noncomputable def g_Vs_l1Copy_0 (a0 : List ((ByteArray) × (List (Int)))) : List ((ByteArray) × (List (Int))) := valO (g_Ls_l1Copy_0 a0 [] ((0 : Int), []))
noncomputable def Fs_l1Copy : FSem := fun ys => match ys with
  | [.val true [.sl .any 42 (.pair .str (.sl 3 (.int .i64))) a0]] => some ((g_As_l1Copy a0), .val true [.own .any true 42 (.pair .str (.sl 3 (.int .i64))) (g_Vs_l1Copy_0 a0)], [])
  | _ => none
theorem vs_l1Copy (a0 : List ((ByteArray) × (List (Int)))) : collapseH .std Es_l1Copy Os_l1Copy_1 (execFn Es_l1Copy Go.Proofs.Tryd.f39 mss_l1Copy [.val true [.sl .any 42 (.pair .str (.sl 3 (.int .i64))) a0]]) = some ((g_As_l1Copy a0), .val true [.own .any true 42 (.pair .str (.sl 3 (.int .i64))) (g_Vs_l1Copy_0 a0)], []) := by kernel_rfl
theorem ss_l1Copy : Sound Go.Proofs.Tryd.prog 39 mss_l1Copy Fs_l1Copy := by
  refine fn_gen goods_l1Copy (by kernel_rfl) .std (fn := Go.Proofs.Tryd.f39) (c := (Go.Proofs.Tryd.f39.body.getD .skip)) (o := Os_l1Copy_1) (k := 1) (by kernel_rfl) (by kernel_rfl) (by kernel_rfl) (by kernel_rfl) (by decide) ks_l1Copy_1 ?_
  intro ys r outs h
  unfold Fs_l1Copy at h
  split at h
  · exact (vs_l1Copy _).trans h
  · cases h
end Go.Proofs.YtnbcdkbjmpadmaaDoor.E
end
section
namespace Go.Proofs.YtnbcdkbjmpadmaaDoor.E
open Go
set_option maxRecDepth 100000
set_option maxHeartbeats 0
set_option linter.all false
noncomputable def Es_l4Copy : Env where
  tt := mkTI Go.Proofs.Tryd.prog
  fn := fun f => match f with
    | 39 => some (mss_l1Copy, FSem.wk mss_l1Copy Fs_l1Copy)
    | _ => none
  bxf := fun _ => none
  mv := []
  keep := fun b => match b with
    | 0 => [(0, false), (3, false), (4, false)]
    | _ => []
  keepB := fun b => match b with
    | 0 => []
    | _ => []
  keepX := fun b => match b with
    | 0 => [(3, false)]
    | _ => []
  keepXB := fun b => match b with
    | 0 => []
    | _ => []
theorem goodFs_l4Copy : ∀ f ms F, Es_l4Copy.fn f = some (ms, F) → Sound Go.Proofs.Tryd.prog f ms F := fun f ms F h => by
  unfold Es_l4Copy at h
  dsimp only at h
  split at h
  · injection h with h; injection h with e1 e2; subst e1 e2; exact Sound.wk ss_l1Copy
  · cases h
theorem goodBs_l4Copy : ∀ f ms F, Es_l4Copy.bxf f = some (ms, F) → SoundB Go.Proofs.Tryd.prog f ms F := fun f ms F h => by cases h
theorem goods_l4Copy : Good Go.Proofs.Tryd.prog Es_l4Copy := ⟨rfl, goodFs_l4Copy, goodBs_l4Copy⟩
noncomputable def Os_l4Copy_0 : Orc := fun _ _ => none
noncomputable def mss_l4Copy : List PM := [.rd]
noncomputable def lss_l4Copy : List (Nat × Code) := loopsAll 0 (Go.Proofs.Tryd.f38.body.getD .skip)
noncomputable def cs_l4Copy_0 : Code := (loopOf 0 (Go.Proofs.Tryd.f38.body.getD .skip)).getD .skip
theorem lseqs_l4Copy : lss_l4Copy = [(0, cs_l4Copy_0)] := by kernel_rfl
theorem ms_l4Copy_0 : ∀ p, p ∈ lss_l4Copy → p.1 = 0 → p.2 = cs_l4Copy_0 := by
  intro p hp
  rw [lseqs_l4Copy] at hp
  simp only [List.mem_cons, List.not_mem_nil, or_false] at hp
  subst hp; simp
theorem ks_l4Copy_0 : OrcOk Es_l4Copy Os_l4Copy_0 lss_l4Copy 0 := orcOk_none
noncomputable def hs_l4Copy_0 (y0 : List (List ((ByteArray) × (List (Int))))) (y1 : List (List ((ByteArray) × (List (Int))))) (y2 : Int) : List (Pl × LV) := [(.T 0, .t (.val false [.sl .any 30 (.sl 42 (.pair .str (.sl 3 (.int .i64)))) y0])), (.T 3, .t (.val false [.row 3 0 0])), (.R 3 0, .r 0 (some ⟨false, .non, true, 30, (.sl 42 (.pair .str (.sl 3 (.int .i64)))), y1⟩)), (.T 4, .t (.val false [.int .i64 y2]))]
noncomputable def g_Ss_l4Copy_0 (y0 : List (List ((ByteArray) × (List (Int))))) : ((List (List ((ByteArray) × (List (Int))))) × (Int)) → RT ((List (List ((ByteArray) × (List (Int))))) × (Int)) (((List (List ((ByteArray) × (List (Int)))))))
  | (y1, y2) => .br (true) (.br (decide (y2 < (↑(List.length y0) : Int))) (.br (decide ((0 : Int) ≤ y2 ∧ y2 < (↑(List.length y0) : Int))) (.br (g_As_l1Copy (at_ (Ty.sl (nat_lit 42) (Ty.pair Ty.str (Ty.sl (nat_lit 3) (Ty.int IntKind.i64)))) y0 (Int.toNat y2))) (.br (decide ((List.length y1 + List.length [g_Vs_l1Copy_0 (at_ (Ty.sl (nat_lit 42) (Ty.pair Ty.str (Ty.sl (nat_lit 3) (Ty.int IntKind.i64)))) y0 (Int.toNat y2))]) * nat_lit 24 ≤ nat_lit 140737488355328 ∧ List.length y1 + List.length [g_Vs_l1Copy_0 (at_ (Ty.sl (nat_lit 42) (Ty.pair Ty.str (Ty.sl (nat_lit 3) (Ty.int IntKind.i64)))) y0 (Int.toNat y2))] ≤ nat_lit 9223372036854775807)) (.br (true) (.go ((y1 ++ [g_Vs_l1Copy_0 (at_ (Ty.sl (nat_lit 42) (Ty.pair Ty.str (Ty.sl (nat_lit 3) (Ty.int IntKind.i64)))) y0 (Int.toNat y2))], IntKind.wrap IntKind.i64 (y2 + (1 : Int))))) (.bad)) (.bad)) (.bad)) (.bad)) (.out (y1))) (.bad)
noncomputable def g_Ls_l4Copy_0 (y0 : List (List ((ByteArray) × (List (Int))))) (x : (List (List ((ByteArray) × (List (Int))))) × (Int)) : Option (((List (List ((ByteArray) × (List (Int))))))) := loopO (g_Ss_l4Copy_0 y0) x
noncomputable def xs_l4Copy_0 (y0 : List (List ((ByteArray) × (List (Int))))) : (((List (List ((ByteArray) × (List (Int))))))) → Ex × List (Pl × LV) := fun r => (.exit 0, [(.T 3, .t (.val false [.row 3 0 0])), (.R 3 0, .r 0 (some ⟨false, .non, true, 30, (.sl 42 (.pair .str (.sl 3 (.int .i64)))), r⟩))])
noncomputable def Os_l4Copy_1 : Orc := fun b h => match b, h with
  | 0, [(.T 0, .t (.val false [.sl .any 30 (.sl 42 (.pair .str (.sl 3 (.int .i64)))) y0])), (.T 3, .t (.val false [.row 3 0 0])), (.R 3 0, .r 0 (some ⟨false, .non, true, 30, (.sl 42 (.pair .str (.sl 3 (.int .i64)))), y1⟩)), (.T 4, .t (.val false [.int .i64 y2]))] => some (okO (g_Ls_l4Copy_0 y0 (y1, y2)), (.leaf (.exit 0) [(.T 3, .t (.val false [.row 3 0 0])), (.R 3 0, .r 0 (some ⟨false, .non, true, 30, (.sl 42 (.pair .str (.sl 3 (.int .i64)))), (valO (g_Ls_l4Copy_0 y0 (y1, y2)))⟩))]))
  | b, h => Os_l4Copy_0 b h
theorem bs_l4Copy_0 (y0 : List (List ((ByteArray) × (List (Int))))) (y1 : List (List ((ByteArray) × (List (Int))))) (y2 : Int) : Tr.bt Es_l4Copy Os_l4Copy_0 (exec Es_l4Copy 0 cs_l4Copy_0 (St.of (hs_l4Copy_0 y0 y1 y2)) (leafRd Es_l4Copy 0)) = (g_Ss_l4Copy_0 y0 (y1, y2)).bt (fun ((y1, y2) : (List (List ((ByteArray) × (List (Int))))) × (Int)) => (hs_l4Copy_0 y0 y1 y2)) (xs_l4Copy_0 y0) := by kernel_rfl
theorem ks_l4Copy_1 : OrcOk Es_l4Copy Os_l4Copy_1 lss_l4Copy 1 := orc_add ks_l4Copy_0 (fun n p hp h ex h' ho => by
  obtain ⟨b, c⟩ := p
  obtain ⟨xt, h1, h2⟩ := ho
  have h1 : Os_l4Copy_1 b h = some (true, xt) := h1
  unfold Os_l4Copy_1 at h1
  split at h1
  · injection h1 with h1
    injection h1 with e1 e2
    subst e2
    have hc : c = cs_l4Copy_0 := ms_l4Copy_0 _ hp rfl
    subst hc
    right
    rename_i y0 y1 y2
    have key := LT_step ks_l4Copy_0 hp (fun q hq => loopsAll_in _ _ _ _ hp hq) (fun ((y1, y2) : (List (List ((ByteArray) × (List (Int))))) × (Int)) => (hs_l4Copy_0 y0 y1 y2)) (xs_l4Copy_0 y0) (g_Ss_l4Copy_0 y0) (fun x => by first | exact bs_l4Copy_0 y0 x.1 x.2) n (x := (y1, y2)) (okO_some e1)
    have hx : ∀ r, XT.sel (.leaf (.exit 0) [(.T 3, .t (.val false [.row 3 0 0])), (.R 3 0, .r 0 (some ⟨false, .non, true, 30, (.sl 42 (.pair .str (.sl 3 (.int .i64)))), r⟩))]) = xs_l4Copy_0 y0 r := fun r => by first | rfl | (rcases r with r | r <;> rfl) | (rcases r with r | r | r <;> rfl) | (rcases r with r | r | r | r <;> rfl)
    have h3 := (hx (valO (g_Ls_l4Copy_0 y0 (y1, y2)))).symm.trans h2
    have e3 := congrArg Prod.fst h3
    have e4 := congrArg Prod.snd h3
    simp only at e3 e4
    rw [← e3, ← e4]
    exact key
  · exact .inl ⟨xt, h1, h2⟩)
noncomputable def g_As_l4Copy (a0 : List (List ((ByteArray) × (List (Int))))) : Bool := okO (g_Ls_l4Copy_0 a0 ([], (0 : Int)))
noncomputable def g_Vs_l4Copy_0 (a0 : List (List ((ByteArray) × (List (Int))))) : List (List ((ByteArray) × (List (Int)))) := valO (g_Ls_l4Copy_0 a0 ([], (0 : Int)))
noncomputable def Fs_l4Copy : FSem := fun ys => match ys with
  | [.val false [.sl .any 30 (.sl 42 (.pair .str (.sl 3 (.int .i64)))) a0]] => some ((g_As_l4Copy a0), .val false [.own .any true 30 (.sl 42 (.pair .str (.sl 3 (.int .i64)))) (g_Vs_l4Copy_0 a0)], [])
  | _ => none
theorem vs_l4Copy (a0 : List (List ((ByteArray) × (List (Int))))) : collapseH .std Es_l4Copy Os_l4Copy_1 (execFn Es_l4Copy Go.Proofs.Tryd.f38 mss_l4Copy [.val false [.sl .any 30 (.sl 42 (.pair .str (.sl 3 (.int .i64)))) a0]]) = some ((g_As_l4Copy a0), .val false [.own .any true 30 (.sl 42 (.pair .str (.sl 3 (.int .i64)))) (g_Vs_l4Copy_0 a0)], []) := by kernel_rfl
theorem ss_l4Copy : Sound Go.Proofs.Tryd.prog 38 mss_l4Copy Fs_l4Copy := by
  refine fn_gen goods_l4Copy (by kernel_rfl) .std (fn := Go.Proofs.Tryd.f38) (c := (Go.Proofs.Tryd.f38.body.getD .skip)) (o := Os_l4Copy_1) (k := 1) (by kernel_rfl) (by kernel_rfl) (by kernel_rfl) (by kernel_rfl) (by decide) ks_l4Copy_1 ?_
  intro ys r outs h
  unfold Fs_l4Copy at h
  split at h
  · exact (vs_l4Copy _).trans h
  · cases h
end Go.Proofs.YtnbcdkbjmpadmaaDoor.E
end
section
namespace Go.Proofs.YtnbcdkbjmpadmaaDoor.E
open Go
set_option maxRecDepth 100000
set_option maxHeartbeats 0
set_option linter.all false
noncomputable def Es_OpPlaces : Env where
  tt := mkTI Go.Proofs.Tryd.prog
  fn := fun f => match f with
    | 36 => some (mss_OpOk, FSem.wk mss_OpOk Fs_OpOk)
    | _ => none
  bxf := fun _ => none
  mv := []
  keep := fun _ => []
  keepB := fun _ => []
  keepX := fun _ => []
  keepXB := fun _ => []
theorem goodFs_OpPlaces : ∀ f ms F, Es_OpPlaces.fn f = some (ms, F) → Sound Go.Proofs.Tryd.prog f ms F := fun f ms F h => by
  unfold Es_OpPlaces at h
  dsimp only at h
  split at h
  · injection h with h; injection h with e1 e2; subst e1 e2; exact Sound.wk ss_OpOk
  · cases h
theorem goodBs_OpPlaces : ∀ f ms F, Es_OpPlaces.bxf f = some (ms, F) → SoundB Go.Proofs.Tryd.prog f ms F := fun f ms F h => by cases h
theorem goods_OpPlaces : Good Go.Proofs.Tryd.prog Es_OpPlaces := ⟨rfl, goodFs_OpPlaces, goodBs_OpPlaces⟩
noncomputable def Os_OpPlaces_0 : Orc := fun _ _ => none
noncomputable def mss_OpPlaces : List PM := [.own]
noncomputable def lss_OpPlaces : List (Nat × Code) := loopsAll 0 (Go.Proofs.Tryd.f48.body.getD .skip)

theorem ks_OpPlaces_0 : OrcOk Es_OpPlaces Os_OpPlaces_0 lss_OpPlaces 0 := orcOk_none
noncomputable def g_As_OpPlaces (a0 : Int) (a1 : Int) (a2 : Int) (a3 : Int) (a4 : Int) (a5 : Int) (a6 : Int) : Bool := g_As_OpOk a0 a1 a2 a3 a4 a5 a6 && (!g_Vs_OpOk_0 a0 a1 a2 a3 a4 a5 a6 || (a0 == (1 : Int) || (a0 == (2 : Int) || true)))
noncomputable def g_Vs_OpPlaces_0 (a0 : Int) (a1 : Int) (a2 : Int) (a3 : Int) (a4 : Int) (a5 : Int) (a6 : Int) : List (Int) := bif !g_Vs_OpOk_0 a0 a1 a2 a3 a4 a5 a6 then [] else bif a0 == (1 : Int) then [(1 : Int), (3 : Int)] else bif a0 == (2 : Int) then bif a0 == (2 : Int) then [(1 : Int), (2 : Int), (3 : Int)] else [(2 : Int), (3 : Int)] else bif a0 == (5 : Int) then [(1 : Int), (2 : Int), (3 : Int)] else [(2 : Int), (3 : Int)]
noncomputable def Fs_OpPlaces : FSem := fun ys => match ys with
  | [.val true [.int .i64 a0, .int .i64 a1, .int .i64 a2, .int .i64 a3, .int .i64 a4, .int .i64 a5, .int .i64 a6]] => some ((g_As_OpPlaces a0 a1 a2 a3 a4 a5 a6), .val false [.own .any true 3 (.int .i64) (g_Vs_OpPlaces_0 a0 a1 a2 a3 a4 a5 a6)], [])
  | _ => none
theorem vs_OpPlaces (a0 : Int) (a1 : Int) (a2 : Int) (a3 : Int) (a4 : Int) (a5 : Int) (a6 : Int) : collapseH .std Es_OpPlaces Os_OpPlaces_0 (execFn Es_OpPlaces Go.Proofs.Tryd.f48 mss_OpPlaces [.val true [.int .i64 a0, .int .i64 a1, .int .i64 a2, .int .i64 a3, .int .i64 a4, .int .i64 a5, .int .i64 a6]]) = some ((g_As_OpPlaces a0 a1 a2 a3 a4 a5 a6), .val false [.own .any true 3 (.int .i64) (g_Vs_OpPlaces_0 a0 a1 a2 a3 a4 a5 a6)], []) := by kernel_rfl
theorem ss_OpPlaces : Sound Go.Proofs.Tryd.prog 48 mss_OpPlaces Fs_OpPlaces := by
  refine fn_gen goods_OpPlaces (by kernel_rfl) .std (fn := Go.Proofs.Tryd.f48) (c := (Go.Proofs.Tryd.f48.body.getD .skip)) (o := Os_OpPlaces_0) (k := 0) (by kernel_rfl) (by kernel_rfl) (by kernel_rfl) (by kernel_rfl) (by decide) ks_OpPlaces_0 ?_
  intro ys r outs h
  unfold Fs_OpPlaces at h
  split at h
  · exact (vs_OpPlaces _ _ _ _ _ _ _).trans h
  · cases h
end Go.Proofs.YtnbcdkbjmpadmaaDoor.E
end
section
namespace Go.Proofs.YtnbcdkbjmpadmaaDoor.E
open Go
set_option maxRecDepth 100000
set_option maxHeartbeats 0
set_option linter.all false
noncomputable def Es_WrtOk : Env where
  tt := mkTI Go.Proofs.Tryd.prog
  fn := fun f => match f with
    | 43 => some (mss_l1Key, FSem.wk mss_l1Key Fs_l1Key)
    | 44 => some (mss_l1Val, FSem.wk mss_l1Val Fs_l1Val)
    | _ => none
  bxf := fun _ => none
  mv := []
  keep := fun _ => []
  keepB := fun _ => []
  keepX := fun _ => []
  keepXB := fun _ => []
theorem goodFs_WrtOk : ∀ f ms F, Es_WrtOk.fn f = some (ms, F) → Sound Go.Proofs.Tryd.prog f ms F := fun f ms F h => by
  unfold Es_WrtOk at h
  dsimp only at h
  split at h
  · injection h with h; injection h with e1 e2; subst e1 e2; exact Sound.wk ss_l1Key
  · injection h with h; injection h with e1 e2; subst e1 e2; exact Sound.wk ss_l1Val
  · cases h
theorem goodBs_WrtOk : ∀ f ms F, Es_WrtOk.bxf f = some (ms, F) → SoundB Go.Proofs.Tryd.prog f ms F := fun f ms F h => by cases h
theorem goods_WrtOk : Good Go.Proofs.Tryd.prog Es_WrtOk := ⟨rfl, goodFs_WrtOk, goodBs_WrtOk⟩
noncomputable def Os_WrtOk_0 : Orc := fun _ _ => none
noncomputable def mss_WrtOk : List PM := [.rd]
noncomputable def lss_WrtOk : List (Nat × Code) := loopsAll 0 (Go.Proofs.Tryd.f40.body.getD .skip)

theorem ks_WrtOk_0 : OrcOk Es_WrtOk Os_WrtOk_0 lss_WrtOk 0 := orcOk_none
noncomputable def g_As_WrtOk (a0 : ByteArray) (a1 : Bool) (a2 : List (Int)) : Bool := bif a1 then g_As_l1Key a0 && (!g_Vs_l1Key_0 a0 || true) else g_As_l1Key a0 && (!g_Vs_l1Key_0 a0 || g_As_l1Val a2)
noncomputable def g_Vs_WrtOk_0 (a0 : ByteArray) (a1 : Bool) (a2 : List (Int)) : Bool := bif a1 then bif g_Vs_l1Key_0 a0 then (↑(List.length a2) : Int) == (0 : Int) else false else bif g_Vs_l1Key_0 a0 then g_Vs_l1Val_0 a2 else false
noncomputable def Fs_WrtOk : FSem := fun ys => match ys with
  | [.val true [.str a0, .bool a1, .sl .any 3 (.int .i64) a2]] => some ((g_As_WrtOk a0 a1 a2), .val false [.bool (g_Vs_WrtOk_0 a0 a1 a2)], [])
  | _ => none
theorem vs_WrtOk (a0 : ByteArray) (a1 : Bool) (a2 : List (Int)) : collapseH .std Es_WrtOk Os_WrtOk_0 (execFn Es_WrtOk Go.Proofs.Tryd.f40 mss_WrtOk [.val true [.str a0, .bool a1, .sl .any 3 (.int .i64) a2]]) = some ((g_As_WrtOk a0 a1 a2), .val false [.bool (g_Vs_WrtOk_0 a0 a1 a2)], []) := by kernel_rfl
theorem ss_WrtOk : Sound Go.Proofs.Tryd.prog 40 mss_WrtOk Fs_WrtOk := by
  refine fn_gen goods_WrtOk (by kernel_rfl) .std (fn := Go.Proofs.Tryd.f40) (c := (Go.Proofs.Tryd.f40.body.getD .skip)) (o := Os_WrtOk_0) (k := 0) (by kernel_rfl) (by kernel_rfl) (by kernel_rfl) (by kernel_rfl) (by decide) ks_WrtOk_0 ?_
  intro ys r outs h
  unfold Fs_WrtOk at h
  split at h
  · exact (vs_WrtOk _ _ _).trans h
  · cases h
end Go.Proofs.YtnbcdkbjmpadmaaDoor.E
end
section
namespace Go.Proofs.YtnbcdkbjmpadmaaDoor.E
open Go
set_option maxRecDepth 100000
set_option maxHeartbeats 0
set_option linter.all false
noncomputable def Es_l1Write : Env where
  tt := mkTI Go.Proofs.Tryd.prog
  fn := fun _ => none
  bxf := fun _ => none
  mv := []
  keep := fun b => match b with
    | 0 => [(2, false), (3, false), (4, false), (5, true), (6, false), (7, false)]
    | _ => []
  keepB := fun b => match b with
    | 0 => [(2, false), (3, false), (4, false), (5, true)]
    | _ => []
  keepX := fun b => match b with
    | 0 => [(3, false), (4, false), (5, true), (6, false)]
    | _ => []
  keepXB := fun b => match b with
    | 0 => [(3, false), (4, false), (5, true)]
    | _ => []
theorem goodFs_l1Write : ∀ f ms F, Es_l1Write.fn f = some (ms, F) → Sound Go.Proofs.Tryd.prog f ms F := fun f ms F h => by cases h
theorem goodBs_l1Write : ∀ f ms F, Es_l1Write.bxf f = some (ms, F) → SoundB Go.Proofs.Tryd.prog f ms F := fun f ms F h => by cases h
theorem goods_l1Write : Good Go.Proofs.Tryd.prog Es_l1Write := ⟨rfl, goodFs_l1Write, goodBs_l1Write⟩
noncomputable def Os_l1Write_0 : Orc := fun _ _ => none
noncomputable def mss_l1Write : List PM := [.fz, .fz]
noncomputable def lss_l1Write : List (Nat × Code) := loopsAll 0 (Go.Proofs.Tryd.f41.body.getD .skip)
noncomputable def cs_l1Write_0 : Code := (loopOf 0 (Go.Proofs.Tryd.f41.body.getD .skip)).getD .skip
theorem lseqs_l1Write : lss_l1Write = [(0, cs_l1Write_0)] := by kernel_rfl
theorem ms_l1Write_0 : ∀ p, p ∈ lss_l1Write → p.1 = 0 → p.2 = cs_l1Write_0 := by
  intro p hp
  rw [lseqs_l1Write] at hp
  simp only [List.mem_cons, List.not_mem_nil, or_false] at hp
  subst hp; simp
theorem ks_l1Write_0 : OrcOk Es_l1Write Os_l1Write_0 lss_l1Write 0 := orcOk_none
noncomputable def hs_l1Write_0 (y0 : Bool) (y1 : Int) (y2 : List ((ByteArray) × (List (Int)))) (y3 : ByteArray) (y4 : Bool) (y5 : List (Int)) (y6 : List ((ByteArray) × (List (Int)))) (y7 : List ((ByteArray) × (List (Int)))) : List (Pl × LV) := [(.T 2, .t (.val false [.ptr 2 0 0])), (.T 3, .t (.val false [.ptr 3 0 0])), (.T 4, .t (.val false [.ptr 4 0 0])), (.T 5, .t (.val false [.ptr 5 0 0])), (.T 6, .t (.val false [.bool y0])), (.T 7, .t (.val false [.int .i64 y1])), (.B 2, .b 0 false [.sl .any 42 (.pair .str (.sl 3 (.int .i64))) y2]), (.B 3, .b 0 false [.str y3, .bool y4, .sl .any 3 (.int .i64) y5]), (.B 4, .b 0 false [.row 4 1 0]), (.R 4 1, .r 0 (some ⟨false, .any, true, 42, (.pair .str (.sl 3 (.int .i64))), y6⟩)), (.B 5, .b 0 false [.row 5 1 0]), (.R 5 1, .r 0 (some ⟨false, .any, false, 42, (.pair .str (.sl 3 (.int .i64))), y7⟩))]
noncomputable def g_Ss_l1Write_0 (y2 : List ((ByteArray) × (List (Int)))) (y3 : ByteArray) (y4 : Bool) (y5 : List (Int)) (y6 : List ((ByteArray) × (List (Int)))) : ((Bool) × (Int) × (List ((ByteArray) × (List (Int))))) → RT ((Bool) × (Int) × (List ((ByteArray) × (List (Int))))) (((Bool) × (List ((ByteArray) × (List (Int))))))
  | (y0, y1, y7) => .br (true) (.br (decide (y1 < (↑(List.length y2) : Int))) (.br (decide ((0 : Int) ≤ y1 ∧ y1 < (↑(List.length y2) : Int))) (.br (!y0) (.br (true) (.br (Op.bytesLess (ByteArray.toList y3) (ByteArray.toList (at_ (Ty.pair Ty.str (Ty.sl (nat_lit 3) (Ty.int IntKind.i64))) y2 (Int.toNat y1)).1)) (.br (decide ((nat_lit 0 + List.length y5) * nat_lit 8 ≤ nat_lit 140737488355328 ∧ nat_lit 0 + List.length y5 ≤ nat_lit 9223372036854775807)) (.br (decide ((List.length y7 + List.length [(y3, [] ++ y5)]) * nat_lit 40 ≤ nat_lit 140737488355328 ∧ List.length y7 + List.length [(y3, [] ++ y5)] ≤ nat_lit 9223372036854775807)) (.br (true) (.br (!ByteArray.toList (at_ (Ty.pair Ty.str (Ty.sl (nat_lit 3) (Ty.int IntKind.i64))) y2 (Int.toNat y1)).1 == ByteArray.toList y3) (.br (decide ((List.length (y7 ++ [(y3, [] ++ y5)]) + List.length [((at_ (Ty.pair Ty.str (Ty.sl (nat_lit 3) (Ty.int IntKind.i64))) y2 (Int.toNat y1)).1, (at_ (Ty.pair Ty.str (Ty.sl (nat_lit 3) (Ty.int IntKind.i64))) y2 (Int.toNat y1)).2)]) * nat_lit 40 ≤ nat_lit 140737488355328 ∧ List.length (y7 ++ [(y3, [] ++ y5)]) + List.length [((at_ (Ty.pair Ty.str (Ty.sl (nat_lit 3) (Ty.int IntKind.i64))) y2 (Int.toNat y1)).1, (at_ (Ty.pair Ty.str (Ty.sl (nat_lit 3) (Ty.int IntKind.i64))) y2 (Int.toNat y1)).2)] ≤ nat_lit 9223372036854775807)) (.br (true) (.go ((true, IntKind.wrap IntKind.i64 (y1 + (1 : Int)), y7 ++ [(y3, [] ++ y5)] ++ [((at_ (Ty.pair Ty.str (Ty.sl (nat_lit 3) (Ty.int IntKind.i64))) y2 (Int.toNat y1)).1, (at_ (Ty.pair Ty.str (Ty.sl (nat_lit 3) (Ty.int IntKind.i64))) y2 (Int.toNat y1)).2)]))) (.bad)) (.bad)) (.br (!y4) (.br (decide ((nat_lit 0 + List.length y5) * nat_lit 8 ≤ nat_lit 140737488355328 ∧ nat_lit 0 + List.length y5 ≤ nat_lit 9223372036854775807)) (.br (decide ((List.length (y7 ++ [(y3, [] ++ y5)]) + List.length [(y3, [] ++ y5)]) * nat_lit 40 ≤ nat_lit 140737488355328 ∧ List.length (y7 ++ [(y3, [] ++ y5)]) + List.length [(y3, [] ++ y5)] ≤ nat_lit 9223372036854775807)) (.br (true) (.go ((true, IntKind.wrap IntKind.i64 (y1 + (1 : Int)), y7 ++ [(y3, [] ++ y5)] ++ [(y3, [] ++ y5)]))) (.bad)) (.bad)) (.bad)) (.br (true) (.go ((true, IntKind.wrap IntKind.i64 (y1 + (1 : Int)), y7 ++ [(y3, [] ++ y5)]))) (.bad)))) (.bad)) (.bad)) (.bad)) (.br (true) (.br (!ByteArray.toList (at_ (Ty.pair Ty.str (Ty.sl (nat_lit 3) (Ty.int IntKind.i64))) y2 (Int.toNat y1)).1 == ByteArray.toList y3) (.br (decide ((List.length y7 + List.length [((at_ (Ty.pair Ty.str (Ty.sl (nat_lit 3) (Ty.int IntKind.i64))) y2 (Int.toNat y1)).1, (at_ (Ty.pair Ty.str (Ty.sl (nat_lit 3) (Ty.int IntKind.i64))) y2 (Int.toNat y1)).2)]) * nat_lit 40 ≤ nat_lit 140737488355328 ∧ List.length y7 + List.length [((at_ (Ty.pair Ty.str (Ty.sl (nat_lit 3) (Ty.int IntKind.i64))) y2 (Int.toNat y1)).1, (at_ (Ty.pair Ty.str (Ty.sl (nat_lit 3) (Ty.int IntKind.i64))) y2 (Int.toNat y1)).2)] ≤ nat_lit 9223372036854775807)) (.br (true) (.go ((y0, IntKind.wrap IntKind.i64 (y1 + (1 : Int)), y7 ++ [((at_ (Ty.pair Ty.str (Ty.sl (nat_lit 3) (Ty.int IntKind.i64))) y2 (Int.toNat y1)).1, (at_ (Ty.pair Ty.str (Ty.sl (nat_lit 3) (Ty.int IntKind.i64))) y2 (Int.toNat y1)).2)]))) (.bad)) (.bad)) (.br (!y4) (.br (decide ((nat_lit 0 + List.length y5) * nat_lit 8 ≤ nat_lit 140737488355328 ∧ nat_lit 0 + List.length y5 ≤ nat_lit 9223372036854775807)) (.br (decide ((List.length y7 + List.length [(y3, [] ++ y5)]) * nat_lit 40 ≤ nat_lit 140737488355328 ∧ List.length y7 + List.length [(y3, [] ++ y5)] ≤ nat_lit 9223372036854775807)) (.br (true) (.go ((true, IntKind.wrap IntKind.i64 (y1 + (1 : Int)), y7 ++ [(y3, [] ++ y5)]))) (.bad)) (.bad)) (.bad)) (.br (true) (.go ((y0, IntKind.wrap IntKind.i64 (y1 + (1 : Int)), y7))) (.bad)))) (.bad))) (.bad)) (.br (true) (.br (!ByteArray.toList (at_ (Ty.pair Ty.str (Ty.sl (nat_lit 3) (Ty.int IntKind.i64))) y2 (Int.toNat y1)).1 == ByteArray.toList y3) (.br (decide ((List.length y7 + List.length [((at_ (Ty.pair Ty.str (Ty.sl (nat_lit 3) (Ty.int IntKind.i64))) y2 (Int.toNat y1)).1, (at_ (Ty.pair Ty.str (Ty.sl (nat_lit 3) (Ty.int IntKind.i64))) y2 (Int.toNat y1)).2)]) * nat_lit 40 ≤ nat_lit 140737488355328 ∧ List.length y7 + List.length [((at_ (Ty.pair Ty.str (Ty.sl (nat_lit 3) (Ty.int IntKind.i64))) y2 (Int.toNat y1)).1, (at_ (Ty.pair Ty.str (Ty.sl (nat_lit 3) (Ty.int IntKind.i64))) y2 (Int.toNat y1)).2)] ≤ nat_lit 9223372036854775807)) (.br (true) (.go ((y0, IntKind.wrap IntKind.i64 (y1 + (1 : Int)), y7 ++ [((at_ (Ty.pair Ty.str (Ty.sl (nat_lit 3) (Ty.int IntKind.i64))) y2 (Int.toNat y1)).1, (at_ (Ty.pair Ty.str (Ty.sl (nat_lit 3) (Ty.int IntKind.i64))) y2 (Int.toNat y1)).2)]))) (.bad)) (.bad)) (.br (!y4) (.br (decide ((nat_lit 0 + List.length y5) * nat_lit 8 ≤ nat_lit 140737488355328 ∧ nat_lit 0 + List.length y5 ≤ nat_lit 9223372036854775807)) (.br (decide ((List.length y7 + List.length [(y3, [] ++ y5)]) * nat_lit 40 ≤ nat_lit 140737488355328 ∧ List.length y7 + List.length [(y3, [] ++ y5)] ≤ nat_lit 9223372036854775807)) (.br (true) (.go ((true, IntKind.wrap IntKind.i64 (y1 + (1 : Int)), y7 ++ [(y3, [] ++ y5)]))) (.bad)) (.bad)) (.bad)) (.br (true) (.go ((y0, IntKind.wrap IntKind.i64 (y1 + (1 : Int)), y7))) (.bad)))) (.bad))) (.bad)) (.out ((y0, y7)))) (.bad)
noncomputable def g_Ls_l1Write_0 (y2 : List ((ByteArray) × (List (Int)))) (y3 : ByteArray) (y4 : Bool) (y5 : List (Int)) (y6 : List ((ByteArray) × (List (Int)))) (x : (Bool) × (Int) × (List ((ByteArray) × (List (Int))))) : Option (((Bool) × (List ((ByteArray) × (List (Int)))))) := loopO (g_Ss_l1Write_0 y2 y3 y4 y5 y6) x
noncomputable def xs_l1Write_0 (y2 : List ((ByteArray) × (List (Int)))) (y3 : ByteArray) (y4 : Bool) (y5 : List (Int)) (y6 : List ((ByteArray) × (List (Int)))) : (((Bool) × (List ((ByteArray) × (List (Int)))))) → Ex × List (Pl × LV) := fun r => (.exit 0, [(.T 3, .t (.val false [.ptr 3 0 0])), (.T 4, .t (.val false [.ptr 4 0 0])), (.T 5, .t (.val false [.ptr 5 0 0])), (.T 6, .t (.val false [.bool r.1])), (.B 3, .b 0 false [.str y3, .bool y4, .sl .any 3 (.int .i64) y5]), (.B 4, .b 0 false [.row 4 1 0]), (.R 4 1, .r 0 (some ⟨false, .any, true, 42, (.pair .str (.sl 3 (.int .i64))), y6⟩)), (.B 5, .b 0 false [.row 5 1 0]), (.R 5 1, .r 0 (some ⟨false, .any, false, 42, (.pair .str (.sl 3 (.int .i64))), r.2⟩))])
noncomputable def Os_l1Write_1 : Orc := fun b h => match b, h with
  | 0, [(.T 2, .t (.val false [.ptr 2 0 0])), (.T 3, .t (.val false [.ptr 3 0 0])), (.T 4, .t (.val false [.ptr 4 0 0])), (.T 5, .t (.val false [.ptr 5 0 0])), (.T 6, .t (.val false [.bool y0])), (.T 7, .t (.val false [.int .i64 y1])), (.B 2, .b 0 false [.sl .any 42 (.pair .str (.sl 3 (.int .i64))) y2]), (.B 3, .b 0 false [.str y3, .bool y4, .sl .any 3 (.int .i64) y5]), (.B 4, .b 0 false [.row 4 1 0]), (.R 4 1, .r 0 (some ⟨false, .any, true, 42, (.pair .str (.sl 3 (.int .i64))), y6⟩)), (.B 5, .b 0 false [.row 5 1 0]), (.R 5 1, .r 0 (some ⟨false, .any, false, 42, (.pair .str (.sl 3 (.int .i64))), y7⟩))] => some (okO (g_Ls_l1Write_0 y2 y3 y4 y5 y6 (y0, y1, y7)), (.leaf (.exit 0) [(.T 3, .t (.val false [.ptr 3 0 0])), (.T 4, .t (.val false [.ptr 4 0 0])), (.T 5, .t (.val false [.ptr 5 0 0])), (.T 6, .t (.val false [.bool (valO (g_Ls_l1Write_0 y2 y3 y4 y5 y6 (y0, y1, y7))).1])), (.B 3, .b 0 false [.str y3, .bool y4, .sl .any 3 (.int .i64) y5]), (.B 4, .b 0 false [.row 4 1 0]), (.R 4 1, .r 0 (some ⟨false, .any, true, 42, (.pair .str (.sl 3 (.int .i64))), y6⟩)), (.B 5, .b 0 false [.row 5 1 0]), (.R 5 1, .r 0 (some ⟨false, .any, false, 42, (.pair .str (.sl 3 (.int .i64))), (valO (g_Ls_l1Write_0 y2 y3 y4 y5 y6 (y0, y1, y7))).2⟩))]))
  | b, h => Os_l1Write_0 b h
theorem bs_l1Write_0 (y0 : Bool) (y1 : Int) (y2 : List ((ByteArray) × (List (Int)))) (y3 : ByteArray) (y4 : Bool) (y5 : List (Int)) (y6 : List ((ByteArray) × (List (Int)))) (y7 : List ((ByteArray) × (List (Int)))) : Tr.bt Es_l1Write Os_l1Write_0 (exec Es_l1Write 0 cs_l1Write_0 (St.of (hs_l1Write_0 y0 y1 y2 y3 y4 y5 y6 y7)) (leafRd Es_l1Write 0)) = (g_Ss_l1Write_0 y2 y3 y4 y5 y6 (y0, y1, y7)).bt (fun ((y0, y1, y7) : (Bool) × (Int) × (List ((ByteArray) × (List (Int))))) => (hs_l1Write_0 y0 y1 y2 y3 y4 y5 y6 y7)) (xs_l1Write_0 y2 y3 y4 y5 y6) := by kernel_rfl
theorem ks_l1Write_1 : OrcOk Es_l1Write Os_l1Write_1 lss_l1Write 1 := orc_add ks_l1Write_0 (fun n p hp h ex h' ho => by
  obtain ⟨b, c⟩ := p
  obtain ⟨xt, h1, h2⟩ := ho
  have h1 : Os_l1Write_1 b h = some (true, xt) := h1
  unfold Os_l1Write_1 at h1
  split at h1
  · injection h1 with h1
    injection h1 with e1 e2
    subst e2
    have hc : c = cs_l1Write_0 := ms_l1Write_0 _ hp rfl
    subst hc
    right
    rename_i y0 y1 y2 y3 y4 y5 y6 y7
    have key := LT_step ks_l1Write_0 hp (fun q hq => loopsAll_in _ _ _ _ hp hq) (fun ((y0, y1, y7) : (Bool) × (Int) × (List ((ByteArray) × (List (Int))))) => (hs_l1Write_0 y0 y1 y2 y3 y4 y5 y6 y7)) (xs_l1Write_0 y2 y3 y4 y5 y6) (g_Ss_l1Write_0 y2 y3 y4 y5 y6) (fun x => by first | exact bs_l1Write_0 x.1 x.2.1 y2 y3 y4 y5 y6 x.2.2) n (x := (y0, y1, y7)) (okO_some e1)
    have hx : ∀ r, XT.sel (.leaf (.exit 0) [(.T 3, .t (.val false [.ptr 3 0 0])), (.T 4, .t (.val false [.ptr 4 0 0])), (.T 5, .t (.val false [.ptr 5 0 0])), (.T 6, .t (.val false [.bool r.1])), (.B 3, .b 0 false [.str y3, .bool y4, .sl .any 3 (.int .i64) y5]), (.B 4, .b 0 false [.row 4 1 0]), (.R 4 1, .r 0 (some ⟨false, .any, true, 42, (.pair .str (.sl 3 (.int .i64))), y6⟩)), (.B 5, .b 0 false [.row 5 1 0]), (.R 5 1, .r 0 (some ⟨false, .any, false, 42, (.pair .str (.sl 3 (.int .i64))), r.2⟩))]) = xs_l1Write_0 y2 y3 y4 y5 y6 r := fun r => by first | rfl | (rcases r with r | r <;> rfl) | (rcases r with r | r | r <;> rfl) | (rcases r with r | r | r | r <;> rfl)
    have h3 := (hx (valO (g_Ls_l1Write_0 y2 y3 y4 y5 y6 (y0, y1, y7)))).symm.trans h2
    have e3 := congrArg Prod.fst h3
    have e4 := congrArg Prod.snd h3
    simp only at e3 e4
    rw [← e3, ← e4]
    exact key
  · exact .inl ⟨xt, h1, h2⟩)
noncomputable def g_As_l1Write (a0 : List ((ByteArray) × (List (Int)))) (a1 : ByteArray) (a2 : Bool) (a3 : List (Int)) : Bool := okO (g_Ls_l1Write_0 a0 a1 a2 a3 [] (a2, (0 : Int), [])) && (!!(valO (g_Ls_l1Write_0 a0 a1 a2 a3 [] (a2, (0 : Int), []))).1 || decide ((nat_lit 0 + List.length a3) * nat_lit 8 ≤ nat_lit 140737488355328 ∧ nat_lit 0 + List.length a3 ≤ nat_lit 9223372036854775807) && decide ((List.length (valO (g_Ls_l1Write_0 a0 a1 a2 a3 [] (a2, (0 : Int), []))).2 + List.length [(a1, [] ++ a3)]) * nat_lit 40 ≤ nat_lit 140737488355328 ∧ List.length (valO (g_Ls_l1Write_0 a0 a1 a2 a3 [] (a2, (0 : Int), []))).2 + List.length [(a1, [] ++ a3)] ≤ nat_lit 9223372036854775807))
noncomputable def g_Vs_l1Write_0 (a0 : List ((ByteArray) × (List (Int)))) (a1 : ByteArray) (a2 : Bool) (a3 : List (Int)) : List ((ByteArray) × (List (Int))) := bif !(valO (g_Ls_l1Write_0 a0 a1 a2 a3 [] (a2, (0 : Int), []))).1 then (valO (g_Ls_l1Write_0 a0 a1 a2 a3 [] (a2, (0 : Int), []))).2 ++ [(a1, [] ++ a3)] else (valO (g_Ls_l1Write_0 a0 a1 a2 a3 [] (a2, (0 : Int), []))).2
noncomputable def Fs_l1Write : FSem := fun ys => match ys with
  | [.val true [.sl .any 42 (.pair .str (.sl 3 (.int .i64))) a0], .val true [.str a1, .bool a2, .sl .any 3 (.int .i64) a3]] => some ((g_As_l1Write a0 a1 a2 a3), .val true [.own .any false 42 (.pair .str (.sl 3 (.int .i64))) (g_Vs_l1Write_0 a0 a1 a2 a3)], [])
  | _ => none
theorem vs_l1Write (a0 : List ((ByteArray) × (List (Int)))) (a1 : ByteArray) (a2 : Bool) (a3 : List (Int)) : collapseH .std Es_l1Write Os_l1Write_1 (execFn Es_l1Write Go.Proofs.Tryd.f41 mss_l1Write [.val true [.sl .any 42 (.pair .str (.sl 3 (.int .i64))) a0], .val true [.str a1, .bool a2, .sl .any 3 (.int .i64) a3]]) = some ((g_As_l1Write a0 a1 a2 a3), .val true [.own .any false 42 (.pair .str (.sl 3 (.int .i64))) (g_Vs_l1Write_0 a0 a1 a2 a3)], []) := by kernel_rfl
theorem ss_l1Write : Sound Go.Proofs.Tryd.prog 41 mss_l1Write Fs_l1Write := by
  refine fn_gen goods_l1Write (by kernel_rfl) .std (fn := Go.Proofs.Tryd.f41) (c := (Go.Proofs.Tryd.f41.body.getD .skip)) (o := Os_l1Write_1) (k := 1) (by kernel_rfl) (by kernel_rfl) (by kernel_rfl) (by kernel_rfl) (by decide) ks_l1Write_1 ?_
  intro ys r outs h
  unfold Fs_l1Write at h
  split at h
  · exact (vs_l1Write _ _ _ _).trans h
  · cases h
end Go.Proofs.YtnbcdkbjmpadmaaDoor.E
end
section
namespace Go.Proofs.YtnbcdkbjmpadmaaDoor.E
open Go
set_option maxRecDepth 100000
set_option maxHeartbeats 0
set_option linter.all false
noncomputable def Es_StoDo : Env where
  tt := mkTI Go.Proofs.Tryd.prog
  fn := fun f => match f with
    | 29 => some (mss_StoOk, FSem.wk mss_StoOk Fs_StoOk)
    | 39 => some (mss_l1Copy, FSem.wk mss_l1Copy Fs_l1Copy)
    | 40 => some (mss_WrtOk, FSem.wk mss_WrtOk Fs_WrtOk)
    | 41 => some (mss_l1Write, FSem.wk mss_l1Write Fs_l1Write)
    | _ => none
  bxf := fun _ => none
  mv := []
  keep := fun b => match b with
    | 0 => [(1, false), (4, false), (5, true), (6, false)]
    | _ => []
  keepB := fun b => match b with
    | 0 => [(4, false), (5, true)]
    | _ => []
  keepX := fun b => match b with
    | 0 => [(4, false), (5, true)]
    | _ => []
  keepXB := fun b => match b with
    | 0 => [(4, false), (5, true)]
    | _ => []
theorem goodFs_StoDo : ∀ f ms F, Es_StoDo.fn f = some (ms, F) → Sound Go.Proofs.Tryd.prog f ms F := fun f ms F h => by
  unfold Es_StoDo at h
  dsimp only at h
  split at h
  · injection h with h; injection h with e1 e2; subst e1 e2; exact Sound.wk ss_StoOk
  · injection h with h; injection h with e1 e2; subst e1 e2; exact Sound.wk ss_l1Copy
  · injection h with h; injection h with e1 e2; subst e1 e2; exact Sound.wk ss_WrtOk
  · injection h with h; injection h with e1 e2; subst e1 e2; exact Sound.wk ss_l1Write
  · cases h
theorem goodBs_StoDo : ∀ f ms F, Es_StoDo.bxf f = some (ms, F) → SoundB Go.Proofs.Tryd.prog f ms F := fun f ms F h => by cases h
theorem goods_StoDo : Good Go.Proofs.Tryd.prog Es_StoDo := ⟨rfl, goodFs_StoDo, goodBs_StoDo⟩
noncomputable def Os_StoDo_0 : Orc := fun _ _ => none
noncomputable def mss_StoDo : List PM := [.rd, .rd]
noncomputable def lss_StoDo : List (Nat × Code) := loopsAll 0 (Go.Proofs.Tryd.f25.body.getD .skip)
noncomputable def cs_StoDo_0 : Code := (loopOf 0 (Go.Proofs.Tryd.f25.body.getD .skip)).getD .skip
theorem lseqs_StoDo : lss_StoDo = [(0, cs_StoDo_0)] := by kernel_rfl
theorem ms_StoDo_0 : ∀ p, p ∈ lss_StoDo → p.1 = 0 → p.2 = cs_StoDo_0 := by
  intro p hp
  rw [lseqs_StoDo] at hp
  simp only [List.mem_cons, List.not_mem_nil, or_false] at hp
  subst hp; simp
theorem ks_StoDo_0 : OrcOk Es_StoDo Os_StoDo_0 lss_StoDo 0 := orcOk_none
noncomputable def hs_StoDo_0 (y0 : List ((ByteArray) × ((Bool) × (List (Int))))) (y1 : Int) (y2 : List ((ByteArray) × (List (Int)))) (y3 : List ((ByteArray) × (List (Int)))) : List (Pl × LV) := [(.T 1, .t (.val false [.sl .any 68 (.pair .str (.pair .bool (.sl 3 (.int .i64)))) y0])), (.T 4, .t (.val false [.ptr 4 0 0])), (.T 5, .t (.val false [.ptr 5 0 0])), (.T 6, .t (.val false [.int .i64 y1])), (.B 4, .b 0 false [.row 4 1 0]), (.R 4 1, .r 0 (some ⟨false, .any, true, 42, (.pair .str (.sl 3 (.int .i64))), y2⟩)), (.B 5, .b 0 false [.row 5 1 0]), (.R 5 1, .r 0 (some ⟨false, .any, false, 42, (.pair .str (.sl 3 (.int .i64))), y3⟩))]
noncomputable def g_Ss_StoDo_0 (y0 : List ((ByteArray) × ((Bool) × (List (Int))))) (y2 : List ((ByteArray) × (List (Int)))) : ((Int) × (List ((ByteArray) × (List (Int))))) → RT ((Int) × (List ((ByteArray) × (List (Int))))) (((List ((ByteArray) × (List (Int)))) × (List ((ByteArray) × (List (Int))))) ⊕ ((List ((ByteArray) × (List (Int))))))
  | (y1, y3) => .br (true) (.br (decide (y1 < (↑(List.length y0) : Int))) (.br (decide ((0 : Int) ≤ y1 ∧ y1 < (↑(List.length y0) : Int))) (.br (g_As_WrtOk (at_ (Ty.pair Ty.str (Ty.pair Ty.bool (Ty.sl (nat_lit 3) (Ty.int IntKind.i64)))) y0 (Int.toNat y1)).1 (at_ (Ty.pair Ty.str (Ty.pair Ty.bool (Ty.sl (nat_lit 3) (Ty.int IntKind.i64)))) y0 (Int.toNat y1)).2.1 (at_ (Ty.pair Ty.str (Ty.pair Ty.bool (Ty.sl (nat_lit 3) (Ty.int IntKind.i64)))) y0 (Int.toNat y1)).2.2) (.br (!g_Vs_WrtOk_0 (at_ (Ty.pair Ty.str (Ty.pair Ty.bool (Ty.sl (nat_lit 3) (Ty.int IntKind.i64)))) y0 (Int.toNat y1)).1 (at_ (Ty.pair Ty.str (Ty.pair Ty.bool (Ty.sl (nat_lit 3) (Ty.int IntKind.i64)))) y0 (Int.toNat y1)).2.1 (at_ (Ty.pair Ty.str (Ty.pair Ty.bool (Ty.sl (nat_lit 3) (Ty.int IntKind.i64)))) y0 (Int.toNat y1)).2.2) (.out (.inl (([], y3)))) (.br (decide ((0 : Int) ≤ y1 ∧ y1 < (↑(List.length y0) : Int))) (.br (g_As_l1Write y3 (at_ (Ty.pair Ty.str (Ty.pair Ty.bool (Ty.sl (nat_lit 3) (Ty.int IntKind.i64)))) y0 (Int.toNat y1)).1 (at_ (Ty.pair Ty.str (Ty.pair Ty.bool (Ty.sl (nat_lit 3) (Ty.int IntKind.i64)))) y0 (Int.toNat y1)).2.1 (at_ (Ty.pair Ty.str (Ty.pair Ty.bool (Ty.sl (nat_lit 3) (Ty.int IntKind.i64)))) y0 (Int.toNat y1)).2.2) (.br (true) (.br (decide ((↑(List.length (g_Vs_l1Write_0 y3 (at_ (Ty.pair Ty.str (Ty.pair Ty.bool (Ty.sl (nat_lit 3) (Ty.int IntKind.i64)))) y0 (Int.toNat y1)).1 (at_ (Ty.pair Ty.str (Ty.pair Ty.bool (Ty.sl (nat_lit 3) (Ty.int IntKind.i64)))) y0 (Int.toNat y1)).2.1 (at_ (Ty.pair Ty.str (Ty.pair Ty.bool (Ty.sl (nat_lit 3) (Ty.int IntKind.i64)))) y0 (Int.toNat y1)).2.2)) : Int) > (40 : Int))) (.out (.inl (([], g_Vs_l1Write_0 y3 (at_ (Ty.pair Ty.str (Ty.pair Ty.bool (Ty.sl (nat_lit 3) (Ty.int IntKind.i64)))) y0 (Int.toNat y1)).1 (at_ (Ty.pair Ty.str (Ty.pair Ty.bool (Ty.sl (nat_lit 3) (Ty.int IntKind.i64)))) y0 (Int.toNat y1)).2.1 (at_ (Ty.pair Ty.str (Ty.pair Ty.bool (Ty.sl (nat_lit 3) (Ty.int IntKind.i64)))) y0 (Int.toNat y1)).2.2)))) (.br (true) (.go ((IntKind.wrap IntKind.i64 (y1 + (1 : Int)), g_Vs_l1Write_0 y3 (at_ (Ty.pair Ty.str (Ty.pair Ty.bool (Ty.sl (nat_lit 3) (Ty.int IntKind.i64)))) y0 (Int.toNat y1)).1 (at_ (Ty.pair Ty.str (Ty.pair Ty.bool (Ty.sl (nat_lit 3) (Ty.int IntKind.i64)))) y0 (Int.toNat y1)).2.1 (at_ (Ty.pair Ty.str (Ty.pair Ty.bool (Ty.sl (nat_lit 3) (Ty.int IntKind.i64)))) y0 (Int.toNat y1)).2.2))) (.bad))) (.bad)) (.bad)) (.bad))) (.bad)) (.bad)) (.out (.inr (y3)))) (.bad)
noncomputable def g_Ls_StoDo_0 (y0 : List ((ByteArray) × ((Bool) × (List (Int))))) (y2 : List ((ByteArray) × (List (Int)))) (x : (Int) × (List ((ByteArray) × (List (Int))))) : Option (((List ((ByteArray) × (List (Int)))) × (List ((ByteArray) × (List (Int))))) ⊕ ((List ((ByteArray) × (List (Int)))))) := loopO (g_Ss_StoDo_0 y0 y2) x
noncomputable def xs_StoDo_0 (y0 : List ((ByteArray) × ((Bool) × (List (Int))))) (y2 : List ((ByteArray) × (List (Int)))) : (((List ((ByteArray) × (List (Int)))) × (List ((ByteArray) × (List (Int))))) ⊕ ((List ((ByteArray) × (List (Int)))))) → Ex × List (Pl × LV) := fun
  | .inl r => (.ret, [(.T 4, .t (.val false [.ptr 4 0 0])), (.T 5, .t (.val false [.ptr 5 0 0])), (.B 4, .b 0 false [.row 4 1 0]), (.R 4 1, .r 0 (some ⟨false, .any, true, 42, (.pair .str (.sl 3 (.int .i64))), r.1⟩)), (.B 5, .b 0 false [.row 5 1 0]), (.R 5 1, .r 0 (some ⟨false, .any, false, 42, (.pair .str (.sl 3 (.int .i64))), r.2⟩))])
  | .inr (r) => (.exit 0, [(.T 4, .t (.val false [.ptr 4 0 0])), (.T 5, .t (.val false [.ptr 5 0 0])), (.B 4, .b 0 false [.row 4 1 0]), (.R 4 1, .r 0 (some ⟨false, .any, true, 42, (.pair .str (.sl 3 (.int .i64))), y2⟩)), (.B 5, .b 0 false [.row 5 1 0]), (.R 5 1, .r 0 (some ⟨false, .any, false, 42, (.pair .str (.sl 3 (.int .i64))), r⟩))])
noncomputable def Os_StoDo_1 : Orc := fun b h => match b, h with
  | 0, [(.T 1, .t (.val false [.sl .any 68 (.pair .str (.pair .bool (.sl 3 (.int .i64)))) y0])), (.T 4, .t (.val false [.ptr 4 0 0])), (.T 5, .t (.val false [.ptr 5 0 0])), (.T 6, .t (.val false [.int .i64 y1])), (.B 4, .b 0 false [.row 4 1 0]), (.R 4 1, .r 0 (some ⟨false, .any, true, 42, (.pair .str (.sl 3 (.int .i64))), y2⟩)), (.B 5, .b 0 false [.row 5 1 0]), (.R 5 1, .r 0 (some ⟨false, .any, false, 42, (.pair .str (.sl 3 (.int .i64))), y3⟩))] => some (okO (g_Ls_StoDo_0 y0 y2 (y1, y3)), (.br (isL (valO (g_Ls_StoDo_0 y0 y2 (y1, y3)))) (.leaf .ret [(.T 4, .t (.val false [.ptr 4 0 0])), (.T 5, .t (.val false [.ptr 5 0 0])), (.B 4, .b 0 false [.row 4 1 0]), (.R 4 1, .r 0 (some ⟨false, .any, true, 42, (.pair .str (.sl 3 (.int .i64))), (getL (valO (g_Ls_StoDo_0 y0 y2 (y1, y3)))).1⟩)), (.B 5, .b 0 false [.row 5 1 0]), (.R 5 1, .r 0 (some ⟨false, .any, false, 42, (.pair .str (.sl 3 (.int .i64))), (getL (valO (g_Ls_StoDo_0 y0 y2 (y1, y3)))).2⟩))]) (.leaf (.exit 0) [(.T 4, .t (.val false [.ptr 4 0 0])), (.T 5, .t (.val false [.ptr 5 0 0])), (.B 4, .b 0 false [.row 4 1 0]), (.R 4 1, .r 0 (some ⟨false, .any, true, 42, (.pair .str (.sl 3 (.int .i64))), y2⟩)), (.B 5, .b 0 false [.row 5 1 0]), (.R 5 1, .r 0 (some ⟨false, .any, false, 42, (.pair .str (.sl 3 (.int .i64))), (getR (valO (g_Ls_StoDo_0 y0 y2 (y1, y3))))⟩))])))
  | b, h => Os_StoDo_0 b h
theorem bs_StoDo_0 (y0 : List ((ByteArray) × ((Bool) × (List (Int))))) (y1 : Int) (y2 : List ((ByteArray) × (List (Int)))) (y3 : List ((ByteArray) × (List (Int)))) : Tr.bt Es_StoDo Os_StoDo_0 (exec Es_StoDo 0 cs_StoDo_0 (St.of (hs_StoDo_0 y0 y1 y2 y3)) (leafRd Es_StoDo 0)) = (g_Ss_StoDo_0 y0 y2 (y1, y3)).bt (fun ((y1, y3) : (Int) × (List ((ByteArray) × (List (Int))))) => (hs_StoDo_0 y0 y1 y2 y3)) (xs_StoDo_0 y0 y2) := by kernel_rfl
theorem ks_StoDo_1 : OrcOk Es_StoDo Os_StoDo_1 lss_StoDo 1 := orc_add ks_StoDo_0 (fun n p hp h ex h' ho => by
  obtain ⟨b, c⟩ := p
  obtain ⟨xt, h1, h2⟩ := ho
  have h1 : Os_StoDo_1 b h = some (true, xt) := h1
  unfold Os_StoDo_1 at h1
  split at h1
  · injection h1 with h1
    injection h1 with e1 e2
    subst e2
    have hc : c = cs_StoDo_0 := ms_StoDo_0 _ hp rfl
    subst hc
    right
    rename_i y0 y1 y2 y3
    have key := LT_step ks_StoDo_0 hp (fun q hq => loopsAll_in _ _ _ _ hp hq) (fun ((y1, y3) : (Int) × (List ((ByteArray) × (List (Int))))) => (hs_StoDo_0 y0 y1 y2 y3)) (xs_StoDo_0 y0 y2) (g_Ss_StoDo_0 y0 y2) (fun x => by first | exact bs_StoDo_0 y0 x.1 y2 x.2) n (x := (y1, y3)) (okO_some e1)
    have hx : ∀ r, XT.sel (.br (isL r) (.leaf .ret [(.T 4, .t (.val false [.ptr 4 0 0])), (.T 5, .t (.val false [.ptr 5 0 0])), (.B 4, .b 0 false [.row 4 1 0]), (.R 4 1, .r 0 (some ⟨false, .any, true, 42, (.pair .str (.sl 3 (.int .i64))), (getL r).1⟩)), (.B 5, .b 0 false [.row 5 1 0]), (.R 5 1, .r 0 (some ⟨false, .any, false, 42, (.pair .str (.sl 3 (.int .i64))), (getL r).2⟩))]) (.leaf (.exit 0) [(.T 4, .t (.val false [.ptr 4 0 0])), (.T 5, .t (.val false [.ptr 5 0 0])), (.B 4, .b 0 false [.row 4 1 0]), (.R 4 1, .r 0 (some ⟨false, .any, true, 42, (.pair .str (.sl 3 (.int .i64))), y2⟩)), (.B 5, .b 0 false [.row 5 1 0]), (.R 5 1, .r 0 (some ⟨false, .any, false, 42, (.pair .str (.sl 3 (.int .i64))), (getR r)⟩))])) = xs_StoDo_0 y0 y2 r := fun r => by first | rfl | (rcases r with r | r <;> rfl) | (rcases r with r | r | r <;> rfl) | (rcases r with r | r | r | r <;> rfl)
    have h3 := (hx (valO (g_Ls_StoDo_0 y0 y2 (y1, y3)))).symm.trans h2
    have e3 := congrArg Prod.fst h3
    have e4 := congrArg Prod.snd h3
    simp only at e3 e4
    rw [← e3, ← e4]
    exact key
  · exact .inl ⟨xt, h1, h2⟩)
noncomputable def g_As_StoDo (a0 : List ((ByteArray) × (List (Int)))) (a1 : List ((ByteArray) × ((Bool) × (List (Int))))) : Bool := g_As_StoOk a0 && (!g_Vs_StoOk_0 a0 || g_As_l1Copy a0 && (okO (g_Ls_StoDo_0 a1 [] ((0 : Int), g_Vs_l1Copy_0 a0)) && (isL (valO (g_Ls_StoDo_0 a1 [] ((0 : Int), g_Vs_l1Copy_0 a0))) || g_As_l1Copy (getR (valO (g_Ls_StoDo_0 a1 [] ((0 : Int), g_Vs_l1Copy_0 a0)))))))
noncomputable def g_Vs_StoDo_0 (a0 : List ((ByteArray) × (List (Int)))) (a1 : List ((ByteArray) × ((Bool) × (List (Int))))) : List ((ByteArray) × (List (Int))) := bif !g_Vs_StoOk_0 a0 then [] else bif isL (valO (g_Ls_StoDo_0 a1 [] ((0 : Int), g_Vs_l1Copy_0 a0))) then (getL (valO (g_Ls_StoDo_0 a1 [] ((0 : Int), g_Vs_l1Copy_0 a0)))).1 else g_Vs_l1Copy_0 (getR (valO (g_Ls_StoDo_0 a1 [] ((0 : Int), g_Vs_l1Copy_0 a0))))
noncomputable def Fs_StoDo : FSem := fun ys => match ys with
  | [.val true [.sl .any 42 (.pair .str (.sl 3 (.int .i64))) a0], .val false [.sl .any 68 (.pair .str (.pair .bool (.sl 3 (.int .i64)))) a1]] => some ((g_As_StoDo a0 a1), .val true [.own .any true 42 (.pair .str (.sl 3 (.int .i64))) (g_Vs_StoDo_0 a0 a1)], [])
  | _ => none
theorem vs_StoDo (a0 : List ((ByteArray) × (List (Int)))) (a1 : List ((ByteArray) × ((Bool) × (List (Int))))) : collapseH .std Es_StoDo Os_StoDo_1 (execFn Es_StoDo Go.Proofs.Tryd.f25 mss_StoDo [.val true [.sl .any 42 (.pair .str (.sl 3 (.int .i64))) a0], .val false [.sl .any 68 (.pair .str (.pair .bool (.sl 3 (.int .i64)))) a1]]) = some ((g_As_StoDo a0 a1), .val true [.own .any true 42 (.pair .str (.sl 3 (.int .i64))) (g_Vs_StoDo_0 a0 a1)], []) := by kernel_rfl
theorem ss_StoDo : Sound Go.Proofs.Tryd.prog 25 mss_StoDo Fs_StoDo := by
  refine fn_gen goods_StoDo (by kernel_rfl) .std (fn := Go.Proofs.Tryd.f25) (c := (Go.Proofs.Tryd.f25.body.getD .skip)) (o := Os_StoDo_1) (k := 1) (by kernel_rfl) (by kernel_rfl) (by kernel_rfl) (by kernel_rfl) (by decide) ks_StoDo_1 ?_
  intro ys r outs h
  unfold Fs_StoDo at h
  split at h
  · exact (vs_StoDo _ _).trans h
  · cases h
end Go.Proofs.YtnbcdkbjmpadmaaDoor.E
end
section
namespace Go.Proofs.YtnbcdkbjmpadmaaDoor.E
open Go
set_option maxRecDepth 100000
set_option maxHeartbeats 0
set_option linter.all false
noncomputable def Es_l1Get : Env where
  tt := mkTI Go.Proofs.Tryd.prog
  fn := fun _ => none
  bxf := fun _ => none
  mv := []
  keep := fun b => match b with
    | 0 => [(1, false), (2, false), (6, false)]
    | _ => []
  keepB := fun b => match b with
    | 0 => [(2, false)]
    | _ => []
  keepX := fun b => match b with
    | 0 => [(4, false), (5, false)]
    | _ => []
  keepXB := fun b => match b with
    | 0 => []
    | _ => []
theorem goodFs_l1Get : ∀ f ms F, Es_l1Get.fn f = some (ms, F) → Sound Go.Proofs.Tryd.prog f ms F := fun f ms F h => by cases h
theorem goodBs_l1Get : ∀ f ms F, Es_l1Get.bxf f = some (ms, F) → SoundB Go.Proofs.Tryd.prog f ms F := fun f ms F h => by cases h
theorem goods_l1Get : Good Go.Proofs.Tryd.prog Es_l1Get := ⟨rfl, goodFs_l1Get, goodBs_l1Get⟩
noncomputable def Os_l1Get_0 : Orc := fun _ _ => none
noncomputable def mss_l1Get : List PM := [.rd, .own]
noncomputable def lss_l1Get : List (Nat × Code) := loopsAll 0 (Go.Proofs.Tryd.f62.body.getD .skip)
noncomputable def cs_l1Get_0 : Code := (loopOf 0 (Go.Proofs.Tryd.f62.body.getD .skip)).getD .skip
theorem lseqs_l1Get : lss_l1Get = [(0, cs_l1Get_0)] := by kernel_rfl
theorem ms_l1Get_0 : ∀ p, p ∈ lss_l1Get → p.1 = 0 → p.2 = cs_l1Get_0 := by
  intro p hp
  rw [lseqs_l1Get] at hp
  simp only [List.mem_cons, List.not_mem_nil, or_false] at hp
  subst hp; simp
theorem ks_l1Get_0 : OrcOk Es_l1Get Os_l1Get_0 lss_l1Get 0 := orcOk_none
noncomputable def hs_l1Get_0 (y0 : ByteArray) (y1 : Int) (y2 : List ((ByteArray) × (List (Int)))) : List (Pl × LV) := [(.T 1, .t (.val false [.str y0])), (.T 2, .t (.val false [.ptr 2 0 0])), (.T 6, .t (.val false [.int .i64 y1])), (.B 2, .b 0 false [.sl .any 42 (.pair .str (.sl 3 (.int .i64))) y2])]
noncomputable def g_Ss_l1Get_0 (y0 : ByteArray) (y2 : List ((ByteArray) × (List (Int)))) : ((Int)) → RT ((Int)) (((List (Int)) × (Bool)) ⊕ (Unit))
  | y1 => .br (true) (.br (decide (y1 < (↑(List.length y2) : Int))) (.br (decide ((0 : Int) ≤ y1 ∧ y1 < (↑(List.length y2) : Int))) (.br (true) (.br (ByteArray.toList (at_ (Ty.pair Ty.str (Ty.sl (nat_lit 3) (Ty.int IntKind.i64))) y2 (Int.toNat y1)).1 == ByteArray.toList y0) (.br (decide ((0 : Int) ≤ y1 ∧ y1 < (↑(List.length y2) : Int))) (.br (decide ((nat_lit 0 + List.length (at_ (Ty.pair Ty.str (Ty.sl (nat_lit 3) (Ty.int IntKind.i64))) y2 (Int.toNat y1)).2) * nat_lit 8 ≤ nat_lit 140737488355328 ∧ nat_lit 0 + List.length (at_ (Ty.pair Ty.str (Ty.sl (nat_lit 3) (Ty.int IntKind.i64))) y2 (Int.toNat y1)).2 ≤ nat_lit 9223372036854775807)) (.out (.inl (([] ++ (at_ (Ty.pair Ty.str (Ty.sl (nat_lit 3) (Ty.int IntKind.i64))) y2 (Int.toNat y1)).2, true)))) (.bad)) (.bad)) (.br (true) (.go (IntKind.wrap IntKind.i64 (y1 + (1 : Int)))) (.bad))) (.bad)) (.bad)) (.out (.inr (())))) (.bad)
noncomputable def g_Ls_l1Get_0 (y0 : ByteArray) (y2 : List ((ByteArray) × (List (Int)))) (x : (Int)) : Option (((List (Int)) × (Bool)) ⊕ (Unit)) := loopO (g_Ss_l1Get_0 y0 y2) x
noncomputable def xs_l1Get_0 (y0 : ByteArray) (y2 : List ((ByteArray) × (List (Int)))) : (((List (Int)) × (Bool)) ⊕ (Unit)) → Ex × List (Pl × LV) := fun
  | .inl r => (.ret, [(.T 4, .t (.val false [.row 4 0 0])), (.R 4 0, .r 0 (some ⟨false, .non, true, 3, (.int .i64), r.1⟩)), (.T 5, .t (.val false [.bool r.2]))])
  | .inr (r) => (.exit 0, [(.T 4, .t (.val false [.undef])), (.T 5, .t (.val false [.undef]))])
noncomputable def Os_l1Get_1 : Orc := fun b h => match b, h with
  | 0, [(.T 1, .t (.val false [.str y0])), (.T 2, .t (.val false [.ptr 2 0 0])), (.T 6, .t (.val false [.int .i64 y1])), (.B 2, .b 0 false [.sl .any 42 (.pair .str (.sl 3 (.int .i64))) y2])] => some (okO (g_Ls_l1Get_0 y0 y2 y1), (.br (isL (valO (g_Ls_l1Get_0 y0 y2 y1))) (.leaf .ret [(.T 4, .t (.val false [.row 4 0 0])), (.R 4 0, .r 0 (some ⟨false, .non, true, 3, (.int .i64), (getL (valO (g_Ls_l1Get_0 y0 y2 y1))).1⟩)), (.T 5, .t (.val false [.bool (getL (valO (g_Ls_l1Get_0 y0 y2 y1))).2]))]) (.leaf (.exit 0) [(.T 4, .t (.val false [.undef])), (.T 5, .t (.val false [.undef]))])))
  | b, h => Os_l1Get_0 b h
theorem bs_l1Get_0 (y0 : ByteArray) (y1 : Int) (y2 : List ((ByteArray) × (List (Int)))) : Tr.bt Es_l1Get Os_l1Get_0 (exec Es_l1Get 0 cs_l1Get_0 (St.of (hs_l1Get_0 y0 y1 y2)) (leafRd Es_l1Get 0)) = (g_Ss_l1Get_0 y0 y2 y1).bt (fun (y1 : (Int)) => (hs_l1Get_0 y0 y1 y2)) (xs_l1Get_0 y0 y2) := by kernel_rfl
theorem ks_l1Get_1 : OrcOk Es_l1Get Os_l1Get_1 lss_l1Get 1 := orc_add ks_l1Get_0 (fun n p hp h ex h' ho => by
  obtain ⟨b, c⟩ := p
  obtain ⟨xt, h1, h2⟩ := ho
  have h1 : Os_l1Get_1 b h = some (true, xt) := h1
  unfold Os_l1Get_1 at h1
  split at h1
  · injection h1 with h1
    injection h1 with e1 e2
    subst e2
    have hc : c = cs_l1Get_0 := ms_l1Get_0 _ hp rfl
    subst hc
    right
    rename_i y0 y1 y2
    have key := LT_step ks_l1Get_0 hp (fun q hq => loopsAll_in _ _ _ _ hp hq) (fun (y1 : (Int)) => (hs_l1Get_0 y0 y1 y2)) (xs_l1Get_0 y0 y2) (g_Ss_l1Get_0 y0 y2) (fun x => by first | exact bs_l1Get_0 y0 x y2) n (x := y1) (okO_some e1)
    have hx : ∀ r, XT.sel (.br (isL r) (.leaf .ret [(.T 4, .t (.val false [.row 4 0 0])), (.R 4 0, .r 0 (some ⟨false, .non, true, 3, (.int .i64), (getL r).1⟩)), (.T 5, .t (.val false [.bool (getL r).2]))]) (.leaf (.exit 0) [(.T 4, .t (.val false [.undef])), (.T 5, .t (.val false [.undef]))])) = xs_l1Get_0 y0 y2 r := fun r => by first | rfl | (rcases r with r | r <;> rfl) | (rcases r with r | r | r <;> rfl) | (rcases r with r | r | r | r <;> rfl)
    have h3 := (hx (valO (g_Ls_l1Get_0 y0 y2 y1))).symm.trans h2
    have e3 := congrArg Prod.fst h3
    have e4 := congrArg Prod.snd h3
    simp only at e3 e4
    rw [← e3, ← e4]
    exact key
  · exact .inl ⟨xt, h1, h2⟩)
noncomputable def g_As_l1Get (a0 : List ((ByteArray) × (List (Int)))) (a1 : ByteArray) : Bool := okO (g_Ls_l1Get_0 a1 a0 (0 : Int))
noncomputable def g_Vs_l1Get_0 (a0 : List ((ByteArray) × (List (Int)))) (a1 : ByteArray) : List (Int) := bif isL (valO (g_Ls_l1Get_0 a1 a0 (0 : Int))) then (getL (valO (g_Ls_l1Get_0 a1 a0 (0 : Int)))).1 else []
noncomputable def g_Vs_l1Get_1 (a0 : List ((ByteArray) × (List (Int)))) (a1 : ByteArray) : Bool := bif isL (valO (g_Ls_l1Get_0 a1 a0 (0 : Int))) then (getL (valO (g_Ls_l1Get_0 a1 a0 (0 : Int)))).2 else false
noncomputable def Fs_l1Get : FSem := fun ys => match ys with
  | [.val true [.sl .any 42 (.pair .str (.sl 3 (.int .i64))) a0], .val false [.str a1]] => some ((g_As_l1Get a0 a1), .tup [(false, [.own .any true 3 (.int .i64) (g_Vs_l1Get_0 a0 a1)]), (false, [.bool (g_Vs_l1Get_1 a0 a1)])], [])
  | _ => none
theorem vs_l1Get (a0 : List ((ByteArray) × (List (Int)))) (a1 : ByteArray) : collapseH .std Es_l1Get Os_l1Get_1 (execFn Es_l1Get Go.Proofs.Tryd.f62 mss_l1Get [.val true [.sl .any 42 (.pair .str (.sl 3 (.int .i64))) a0], .val false [.str a1]]) = some ((g_As_l1Get a0 a1), .tup [(false, [.own .any true 3 (.int .i64) (g_Vs_l1Get_0 a0 a1)]), (false, [.bool (g_Vs_l1Get_1 a0 a1)])], []) := by kernel_rfl
theorem ss_l1Get : Sound Go.Proofs.Tryd.prog 62 mss_l1Get Fs_l1Get := by
  refine fn_gen goods_l1Get (by kernel_rfl) .std (fn := Go.Proofs.Tryd.f62) (c := (Go.Proofs.Tryd.f62.body.getD .skip)) (o := Os_l1Get_1) (k := 1) (by kernel_rfl) (by kernel_rfl) (by kernel_rfl) (by kernel_rfl) (by decide) ks_l1Get_1 ?_
  intro ys r outs h
  unfold Fs_l1Get at h
  split at h
  · exact (vs_l1Get _ _).trans h
  · cases h
end Go.Proofs.YtnbcdkbjmpadmaaDoor.E
end
section
namespace Go.Proofs.YtnbcdkbjmpadmaaDoor.E
open Go
set_option maxRecDepth 100000
set_option maxHeartbeats 0
set_option linter.all false
noncomputable def Es_l3Digit : Env where
  tt := mkTI Go.Proofs.Tryd.prog
  fn := fun _ => none
  bxf := fun _ => none
  mv := []
  keep := fun _ => []
  keepB := fun _ => []
  keepX := fun _ => []
  keepXB := fun _ => []
theorem goodFs_l3Digit : ∀ f ms F, Es_l3Digit.fn f = some (ms, F) → Sound Go.Proofs.Tryd.prog f ms F := fun f ms F h => by cases h
theorem goodBs_l3Digit : ∀ f ms F, Es_l3Digit.bxf f = some (ms, F) → SoundB Go.Proofs.Tryd.prog f ms F := fun f ms F h => by cases h
theorem goods_l3Digit : Good Go.Proofs.Tryd.prog Es_l3Digit := ⟨rfl, goodFs_l3Digit, goodBs_l3Digit⟩
noncomputable def Os_l3Digit_0 : Orc := fun _ _ => none
noncomputable def mss_l3Digit : List PM := [.own]
noncomputable def lss_l3Digit : List (Nat × Code) := loopsAll 0 (Go.Proofs.Tryd.f68.body.getD .skip)

theorem ks_l3Digit_0 : OrcOk Es_l3Digit Os_l3Digit_0 lss_l3Digit 0 := orcOk_none
noncomputable def g_Vs_l3Digit_0 (a0 : Int) : ByteArray := { data := List.toArray (List.map (fun n => UInt8.ofNat (Int.toNat n)) [IntKind.wrap IntKind.u8 (IntKind.wrap IntKind.i64 ((48 : Int) + a0))]) }
noncomputable def Fs_l3Digit : FSem := fun ys => match ys with
  | [.val false [.int .i64 a0]] => some (true, .val false [.str (g_Vs_l3Digit_0 a0)], [])
  | _ => none
theorem vs_l3Digit (a0 : Int) : collapseH .std Es_l3Digit Os_l3Digit_0 (execFn Es_l3Digit Go.Proofs.Tryd.f68 mss_l3Digit [.val false [.int .i64 a0]]) = some (true, .val false [.str (g_Vs_l3Digit_0 a0)], []) := by kernel_rfl
theorem ss_l3Digit : Sound Go.Proofs.Tryd.prog 68 mss_l3Digit Fs_l3Digit := by
  refine fn_gen goods_l3Digit (by kernel_rfl) .std (fn := Go.Proofs.Tryd.f68) (c := (Go.Proofs.Tryd.f68.body.getD .skip)) (o := Os_l3Digit_0) (k := 0) (by kernel_rfl) (by kernel_rfl) (by kernel_rfl) (by kernel_rfl) (by decide) ks_l3Digit_0 ?_
  intro ys r outs h
  unfold Fs_l3Digit at h
  split at h
  · exact (vs_l3Digit _).trans h
  · cases h
end Go.Proofs.YtnbcdkbjmpadmaaDoor.E
end
section
namespace Go.Proofs.YtnbcdkbjmpadmaaDoor.E
open Go
set_option maxRecDepth 100000
set_option maxHeartbeats 0
set_option linter.all false
noncomputable def Es_l3No : Env where
  tt := mkTI Go.Proofs.Tryd.prog
  fn := fun _ => none
  bxf := fun _ => none
  mv := []
  keep := fun _ => []
  keepB := fun _ => []
  keepX := fun _ => []
  keepXB := fun _ => []
theorem goodFs_l3No : ∀ f ms F, Es_l3No.fn f = some (ms, F) → Sound Go.Proofs.Tryd.prog f ms F := fun f ms F h => by cases h
theorem goodBs_l3No : ∀ f ms F, Es_l3No.bxf f = some (ms, F) → SoundB Go.Proofs.Tryd.prog f ms F := fun f ms F h => by cases h
theorem goods_l3No : Good Go.Proofs.Tryd.prog Es_l3No := ⟨rfl, goodFs_l3No, goodBs_l3No⟩
noncomputable def Os_l3No_0 : Orc := fun _ _ => none
noncomputable def mss_l3No : List PM := [.rd]
noncomputable def lss_l3No : List (Nat × Code) := loopsAll 0 (Go.Proofs.Tryd.f63.body.getD .skip)

theorem ks_l3No_0 : OrcOk Es_l3No Os_l3No_0 lss_l3No 0 := orcOk_none
noncomputable def g_As_l3No (a0 : List (ByteArray)) : Bool := decide ((nat_lit 0 + List.length a0) * nat_lit 16 ≤ nat_lit 140737488355328 ∧ nat_lit 0 + List.length a0 ≤ nat_lit 9223372036854775807)
noncomputable def g_Vs_l3No_0 (a0 : List (ByteArray)) : List (ByteArray) := [] ++ a0
noncomputable def g_Vs_l3No_1 (a0 : List (ByteArray)) : List ((ByteArray) × ((Bool) × (List (Int)))) := []
noncomputable def Fs_l3No : FSem := fun ys => match ys with
  | [.val false [.sl .any 9 .str a0]] => some ((g_As_l3No a0), .val true [.bool false, .own .any true 9 .str (g_Vs_l3No_0 a0), .own .any true 68 (.pair .str (.pair .bool (.sl 3 (.int .i64)))) (g_Vs_l3No_1 a0)], [])
  | _ => none
theorem vs_l3No (a0 : List (ByteArray)) : collapseH .std Es_l3No Os_l3No_0 (execFn Es_l3No Go.Proofs.Tryd.f63 mss_l3No [.val false [.sl .any 9 .str a0]]) = some ((g_As_l3No a0), .val true [.bool false, .own .any true 9 .str (g_Vs_l3No_0 a0), .own .any true 68 (.pair .str (.pair .bool (.sl 3 (.int .i64)))) (g_Vs_l3No_1 a0)], []) := by kernel_rfl
theorem ss_l3No : Sound Go.Proofs.Tryd.prog 63 mss_l3No Fs_l3No := by
  refine fn_gen goods_l3No (by kernel_rfl) .std (fn := Go.Proofs.Tryd.f63) (c := (Go.Proofs.Tryd.f63.body.getD .skip)) (o := Os_l3No_0) (k := 0) (by kernel_rfl) (by kernel_rfl) (by kernel_rfl) (by kernel_rfl) (by decide) ks_l3No_0 ?_
  intro ys r outs h
  unfold Fs_l3No at h
  split at h
  · exact (vs_l3No _).trans h
  · cases h
end Go.Proofs.YtnbcdkbjmpadmaaDoor.E
end
