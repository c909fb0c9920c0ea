/- What the functions that are reached do, by the engine: for the proof (laws.FnStoDo): part 1. No conditions. -/
import Derived.Test.YtjoggjjjlafdmaaDoorEc
import Derived.Test.YtjoggjjjlafdmaaDoorProg
import Derived.Test.YtjoggjjjlafdmaaDoorShelf
import Derived.Lib.AppendZerosOnto
import Derived.Lib.Overlaps
import Derived.Deep.RegionLaw
import Derived.WalkKit
import Derived.Shelf.RegionOpenPlain
import Derived.Deep.LoopGhost
import Derived.Lib.Walk
import Derived.Laws.NewBlocks
import Derived.Laws.Externs
set_option linter.all false
section
namespace Go.Proofs.YtjoggjjjlafdmaaDoor.E
open Go
set_option maxRecDepth 100000
set_option maxHeartbeats 0
set_option linter.all false
noncomputable def Ei_in : Env where
  tt := mkTI Go.Proofs.Tryd.prog
  fn := fun _ => none
  bxf := fun _ => none
  mv := []
  keep := fun _ => []
  keepB := fun _ => []
  keepX := fun _ => []
  keepXB := fun _ => []
theorem goodFi_in : ∀ f ms F, Ei_in.fn f = some (ms, F) → Sound Go.Proofs.Tryd.prog f ms F := fun f ms F h => by cases h
theorem goodBi_in : ∀ f ms F, Ei_in.bxf f = some (ms, F) → SoundB Go.Proofs.Tryd.prog f ms F := fun f ms F h => by cases h
theorem goodi_in : Good Go.Proofs.Tryd.prog Ei_in := ⟨rfl, goodFi_in, goodBi_in⟩
noncomputable def Oi_in_0 : Orc := fun _ _ => none
noncomputable def msi_in : List PM := [.own, .own, .own]
noncomputable def lsi_in : List (Nat × Code) := loopsAll 0 (Go.Proofs.Tryd.f73.body.getD .skip)

theorem ki_in_0 : OrcOk Ei_in Oi_in_0 lsi_in 0 := orcOk_none
noncomputable def g_Ai_in (a0 : Int) (a1 : Int) (a2 : Int) : Bool := !decide (a0 ≥ a1) || true
noncomputable def g_Vi_in_0 (a0 : Int) (a1 : Int) (a2 : Int) : Bool := bif decide (a0 ≥ a1) then decide (a0 ≤ a2) else false
noncomputable def Fi_in : FSem := fun ys => match ys with
  | [.val false [.int .i64 a0], .val false [.int .i64 a1], .val false [.int .i64 a2]] => some ((g_Ai_in a0 a1 a2), .val false [.bool (g_Vi_in_0 a0 a1 a2)], [])
  | _ => none
theorem vi_in (a0 : Int) (a1 : Int) (a2 : Int) : collapseH .std Ei_in Oi_in_0 (execFn Ei_in Go.Proofs.Tryd.f73 msi_in [.val false [.int .i64 a0], .val false [.int .i64 a1], .val false [.int .i64 a2]]) = some ((g_Ai_in a0 a1 a2), .val false [.bool (g_Vi_in_0 a0 a1 a2)], []) := by kernel_rfl
theorem si_in : Sound Go.Proofs.Tryd.prog 73 msi_in Fi_in := by
  refine fn_gen goodi_in (by kernel_rfl) .std (fn := Go.Proofs.Tryd.f73) (c := (Go.Proofs.Tryd.f73.body.getD .skip)) (o := Oi_in_0) (k := 0) (by kernel_rfl) (by kernel_rfl) (by kernel_rfl) (by kernel_rfl) (by decide) ki_in_0 ?_
  intro ys r outs h
  unfold Fi_in at h
  split at h
  · exact (vi_in _ _ _).trans h
  · cases h
end Go.Proofs.YtjoggjjjlafdmaaDoor.E
end
section
namespace Go.Proofs.YtjoggjjjlafdmaaDoor.E
open Go
set_option maxRecDepth 100000
set_option linter.all false
def msstrings_Trim : List PM := [.own, .own]
def g_trim (s c : ByteArray) : ByteArray := ⟨(Lib.trimS s.data.toList c.data.toList).toArray⟩
def g_ascii (c : ByteArray) : Bool := c.data.toList.all fun b => decide (b.toNat < 128)
def Fstrings_Trim : FSem := fun ys => match ys with
  | [.val false [.str s], .val false [.str c]] => some (decide (s.size ≤ 9223372036854775807) && (decide (c.size < 4294967281) && g_ascii c), .val false [.str (g_trim s c)], [])
  | _ => none
theorem sstrings_Trim : Sound Go.Proofs.Tryd.prog 74 msstrings_Trim Fstrings_Trim := by
  refine sound_plain (by simp [msstrings_Trim]) ⟨_, Tryd.func74, by kernel_rfl, by kernel_rfl⟩ (fun w ys r outs h => ?_)
  unfold Fstrings_Trim at h
  split at h
  · rename_i s c
    simp only [Option.some.injEq, Prod.mk.injEq, Bool.and_eq_true, decide_eq_true_eq] at h
    obtain ⟨⟨h1, h2, h3⟩, rfl, rfl⟩ := h
    refine ⟨rfl, [.string s, .string c], .string (g_trim s c), rfl, rfl, ?_⟩
    exact Tryd.strings_Trim_laid s c w h1 h2 (fun j b hb => by
      have := List.all_eq_true.1 h3 b (List.mem_of_getElem? hb)
      simpa using this)
  · cases h
end Go.Proofs.YtjoggjjjlafdmaaDoor.E
end
section
namespace Go.Proofs.YtjoggjjjlafdmaaDoor.E
open Go
set_option maxRecDepth 100000
set_option maxHeartbeats 0
set_option linter.all false
noncomputable def Ei_keyOk : Env where
  tt := mkTI Go.Proofs.Tryd.prog
  fn := fun f => match f with
    | 73 => some (msi_in, FSem.wk msi_in Fi_in)
    | 74 => some (msstrings_Trim, FSem.wk msstrings_Trim Fstrings_Trim)
    | _ => none
  bxf := fun _ => none
  mv := []
  keep := fun _ => []
  keepB := fun _ => []
  keepX := fun _ => []
  keepXB := fun _ => []
theorem goodFi_keyOk : ∀ f ms F, Ei_keyOk.fn f = some (ms, F) → Sound Go.Proofs.Tryd.prog f ms F := fun f ms F h => by
  unfold Ei_keyOk at h
  dsimp only at h
  split at h
  · injection h with h; injection h with e1 e2; subst e1 e2; exact Sound.wk si_in
  · injection h with h; injection h with e1 e2; subst e1 e2; exact Sound.wk sstrings_Trim
  · cases h
theorem goodBi_keyOk : ∀ f ms F, Ei_keyOk.bxf f = some (ms, F) → SoundB Go.Proofs.Tryd.prog f ms F := fun f ms F h => by cases h
theorem goodi_keyOk : Good Go.Proofs.Tryd.prog Ei_keyOk := ⟨rfl, goodFi_keyOk, goodBi_keyOk⟩
noncomputable def Oi_keyOk_0 : Orc := fun _ _ => none
noncomputable def msi_keyOk : List PM := [.own]
noncomputable def lsi_keyOk : List (Nat × Code) := loopsAll 0 (Go.Proofs.Tryd.f45.body.getD .skip)

theorem ki_keyOk_0 : OrcOk Ei_keyOk Oi_keyOk_0 lsi_keyOk 0 := orcOk_none
noncomputable def g_Ai_keyOk (a0 : ByteArray) : Bool := g_Ai_in (↑(ByteArray.size a0) : Int) (2 : Int) (3 : Int) && (!g_Vi_in_0 (↑(ByteArray.size a0) : Int) (2 : Int) (3 : Int) || decide ((0 : Int) ≤ (0 : Int) ∧ (0 : Int) < (↑(ByteArray.size a0) : Int)) && (g_Ai_in (IntKind.wrap IntKind.i64 (byteAt a0 (nat_lit 0))) (97 : Int) (122 : Int) && (!g_Vi_in_0 (IntKind.wrap IntKind.i64 (byteAt a0 (nat_lit 0))) (97 : Int) (122 : Int) || decide ((0 : Int) ≤ (1 : Int) ∧ (1 : Int) ≤ (↑(ByteArray.size a0) : Int)) && (decide (ByteArray.size (ByteArray.extract a0 (nat_lit 1) (ByteArray.size a0)) ≤ nat_lit 9223372036854775807) && g_ascii (lit [(48 : Nat), (49 : Nat), (50 : Nat), (51 : Nat), (52 : Nat), (53 : Nat), (54 : Nat), (55 : Nat), (56 : Nat), (57 : Nat)]) && true))))
noncomputable def g_Vi_keyOk_0 (a0 : ByteArray) : Bool := bif g_Vi_in_0 (↑(ByteArray.size a0) : Int) (2 : Int) (3 : Int) then bif g_Vi_in_0 (IntKind.wrap IntKind.i64 (byteAt a0 (nat_lit 0))) (97 : Int) (122 : Int) then ByteArray.toList (g_trim (ByteArray.extract a0 (nat_lit 1) (ByteArray.size a0)) (lit [(48 : Nat), (49 : Nat), (50 : Nat), (51 : Nat), (52 : Nat), (53 : Nat), (54 : Nat), (55 : Nat), (56 : Nat), (57 : Nat)])) == [] else false else false
noncomputable def Fi_keyOk : FSem := fun ys => match ys with
  | [.val false [.str a0]] => some ((g_Ai_keyOk a0), .val false [.bool (g_Vi_keyOk_0 a0)], [])
  | _ => none
theorem vi_keyOk (a0 : ByteArray) : collapseH .std Ei_keyOk Oi_keyOk_0 (execFn Ei_keyOk Go.Proofs.Tryd.f45 msi_keyOk [.val false [.str a0]]) = some ((g_Ai_keyOk a0), .val false [.bool (g_Vi_keyOk_0 a0)], []) := by kernel_rfl
theorem si_keyOk : Sound Go.Proofs.Tryd.prog 45 msi_keyOk Fi_keyOk := by
  refine fn_gen goodi_keyOk (by kernel_rfl) .std (fn := Go.Proofs.Tryd.f45) (c := (Go.Proofs.Tryd.f45.body.getD .skip)) (o := Oi_keyOk_0) (k := 0) (by kernel_rfl) (by kernel_rfl) (by kernel_rfl) (by kernel_rfl) (by decide) ki_keyOk_0 ?_
  intro ys r outs h
  unfold Fi_keyOk at h
  split at h
  · exact (vi_keyOk _).trans h
  · cases h
end Go.Proofs.YtjoggjjjlafdmaaDoor.E
end
section
namespace Go.Proofs.YtjoggjjjlafdmaaDoor.E
open Go
set_option maxRecDepth 100000
set_option maxHeartbeats 0
set_option linter.all false
noncomputable def Ei_valOk_1 : Env where
  tt := mkTI Go.Proofs.Tryd.prog
  fn := fun f => match f with
    | 73 => some (msi_in, FSem.wk msi_in Fi_in)
    | _ => none
  bxf := fun _ => none
  mv := []
  keep := fun _ => []
  keepB := fun _ => []
  keepX := fun _ => []
  keepXB := fun _ => []
theorem goodFi_valOk_1 : ∀ f ms F, Ei_valOk_1.fn f = some (ms, F) → Sound Go.Proofs.Tryd.prog f ms F := fun f ms F h => by
  unfold Ei_valOk_1 at h
  dsimp only at h
  split at h
  · injection h with h; injection h with e1 e2; subst e1 e2; exact Sound.wk si_in
  · cases h
theorem goodBi_valOk_1 : ∀ f ms F, Ei_valOk_1.bxf f = some (ms, F) → SoundB Go.Proofs.Tryd.prog f ms F := fun f ms F h => by cases h
theorem goodi_valOk_1 : Good Go.Proofs.Tryd.prog Ei_valOk_1 := ⟨rfl, goodFi_valOk_1, goodBi_valOk_1⟩
noncomputable def Oi_valOk_1_0 : Orc := fun _ _ => none
noncomputable def msi_valOk_1 : List PM := [.own]
noncomputable def lsi_valOk_1 : List (Nat × Code) := loopsAll 0 (Go.Proofs.Tryd.f76.body.getD .skip)

theorem ki_valOk_1_0 : OrcOk Ei_valOk_1 Oi_valOk_1_0 lsi_valOk_1 0 := orcOk_none
noncomputable def g_Ai_valOk_1 (a0 : Int) : Bool := g_Ai_in a0 (0 : Int) (9999 : Int)
noncomputable def g_Vi_valOk_1_0 (a0 : Int) : Bool := !g_Vi_in_0 a0 (0 : Int) (9999 : Int)
noncomputable def Fi_valOk_1 : FSem := fun ys => match ys with
  | [.val false [.int .i64 a0]] => some ((g_Ai_valOk_1 a0), .val false [.bool (g_Vi_valOk_1_0 a0)], [])
  | _ => none
theorem vi_valOk_1 (a0 : Int) : collapseH .std Ei_valOk_1 Oi_valOk_1_0 (execFn Ei_valOk_1 Go.Proofs.Tryd.f76 msi_valOk_1 [.val false [.int .i64 a0]]) = some ((g_Ai_valOk_1 a0), .val false [.bool (g_Vi_valOk_1_0 a0)], []) := by kernel_rfl
theorem si_valOk_1 : Sound Go.Proofs.Tryd.prog 76 msi_valOk_1 Fi_valOk_1 := by
  refine fn_gen goodi_valOk_1 (by kernel_rfl) .std (fn := Go.Proofs.Tryd.f76) (c := (Go.Proofs.Tryd.f76.body.getD .skip)) (o := Oi_valOk_1_0) (k := 0) (by kernel_rfl) (by kernel_rfl) (by kernel_rfl) (by kernel_rfl) (by decide) ki_valOk_1_0 ?_
  intro ys r outs h
  unfold Fi_valOk_1 at h
  split at h
  · exact (vi_valOk_1 _).trans h
  · cases h
end Go.Proofs.YtjoggjjjlafdmaaDoor.E
end
section
namespace Go.Proofs.YtjoggjjjlafdmaaDoor.E
open Go
set_option maxRecDepth 100000
set_option maxHeartbeats 0
set_option linter.all false
noncomputable def Eslices_IndexFunc_int_int__i_valOk_1 : Env where
  tt := mkTI Go.Proofs.Tryd.prog
  fn := fun f => match f with
    | 76 => some (msi_valOk_1, FSem.wk msi_valOk_1 Fi_valOk_1)
    | _ => none
  bxf := fun _ => none
  mv := []
  keep := fun b => match b with
    | 0 => [(0, false), (1, false), (7, false), (8, false)]
    | _ => []
  keepB := fun b => match b with
    | 0 => []
    | _ => []
  keepX := fun b => match b with
    | 0 => [(4, false)]
    | _ => []
  keepXB := fun b => match b with
    | 0 => []
    | _ => []
theorem goodFslices_IndexFunc_int_int__i_valOk_1 : ∀ f ms F, Eslices_IndexFunc_int_int__i_valOk_1.fn f = some (ms, F) → Sound Go.Proofs.Tryd.prog f ms F := fun f ms F h => by
  unfold Eslices_IndexFunc_int_int__i_valOk_1 at h
  dsimp only at h
  split at h
  · injection h with h; injection h with e1 e2; subst e1 e2; exact Sound.wk si_valOk_1
  · cases h
theorem goodBslices_IndexFunc_int_int__i_valOk_1 : ∀ f ms F, Eslices_IndexFunc_int_int__i_valOk_1.bxf f = some (ms, F) → SoundB Go.Proofs.Tryd.prog f ms F := fun f ms F h => by cases h
theorem goodslices_IndexFunc_int_int__i_valOk_1 : Good Go.Proofs.Tryd.prog Eslices_IndexFunc_int_int__i_valOk_1 := ⟨rfl, goodFslices_IndexFunc_int_int__i_valOk_1, goodBslices_IndexFunc_int_int__i_valOk_1⟩
noncomputable def Oslices_IndexFunc_int_int__i_valOk_1_0 : Orc := fun _ _ => none
noncomputable def msslices_IndexFunc_int_int__i_valOk_1 : List PM := [.rd, .rd]
noncomputable def lsslices_IndexFunc_int_int__i_valOk_1 : List (Nat × Code) := loopsAll 0 (Go.Proofs.Tryd.f104.body.getD .skip)
noncomputable def cslices_IndexFunc_int_int__i_valOk_1_0 : Code := (loopOf 0 (Go.Proofs.Tryd.f104.body.getD .skip)).getD .skip
theorem lseqslices_IndexFunc_int_int__i_valOk_1 : lsslices_IndexFunc_int_int__i_valOk_1 = [(0, cslices_IndexFunc_int_int__i_valOk_1_0)] := by kernel_rfl
theorem mslices_IndexFunc_int_int__i_valOk_1_0 : ∀ p, p ∈ lsslices_IndexFunc_int_int__i_valOk_1 → p.1 = 0 → p.2 = cslices_IndexFunc_int_int__i_valOk_1_0 := by
  intro p hp
  rw [lseqslices_IndexFunc_int_int__i_valOk_1] at hp
  simp only [List.mem_cons, List.not_mem_nil, or_false] at hp
  subst hp; simp
theorem kslices_IndexFunc_int_int__i_valOk_1_0 : OrcOk Eslices_IndexFunc_int_int__i_valOk_1 Oslices_IndexFunc_int_int__i_valOk_1_0 lsslices_IndexFunc_int_int__i_valOk_1 0 := orcOk_none
noncomputable def hslices_IndexFunc_int_int__i_valOk_1_0 (y0 : List (Int)) (y1 : Int) (y2 : Int) : List (Pl × LV) := [(.T 0, .t (.val false [.sl .any 3 (.int .i64) y0])), (.T 1, .t (.val false [.fn 76 []])), (.T 7, .t (.val false [.int .i64 y1])), (.T 8, .t (.val false [.int .i64 y2]))]
noncomputable def g_Sslices_IndexFunc_int_int__i_valOk_1_0 (y0 : List (Int)) (y1 : Int) : ((Int)) → RT ((Int)) (((Int)) ⊕ (Unit))
  | y2 => .br (true) (.br (decide (y2 < y1)) (.br (decide ((0 : Int) ≤ y2 ∧ y2 < (↑(List.length y0) : Int))) (.br (g_Ai_valOk_1 (at_ (Ty.int IntKind.i64) y0 (Int.toNat y2))) (.br (g_Vi_valOk_1_0 (at_ (Ty.int IntKind.i64) y0 (Int.toNat y2))) (.out (.inl y2)) (.br (true) (.go (IntKind.wrap IntKind.i64 (y2 + (1 : Int)))) (.bad))) (.bad)) (.bad)) (.out (.inr (())))) (.bad)
noncomputable def g_Lslices_IndexFunc_int_int__i_valOk_1_0 (y0 : List (Int)) (y1 : Int) (x : (Int)) : Option (((Int)) ⊕ (Unit)) := loopO (g_Sslices_IndexFunc_int_int__i_valOk_1_0 y0 y1) x
noncomputable def xslices_IndexFunc_int_int__i_valOk_1_0 (y0 : List (Int)) (y1 : Int) : (((Int)) ⊕ (Unit)) → Ex × List (Pl × LV) := fun
  | .inl r => (.ret, [(.T 4, .t (.val false [.int .i64 r]))])
  | .inr (r) => (.exit 0, [(.T 4, .t (.val false [.undef]))])
noncomputable def Oslices_IndexFunc_int_int__i_valOk_1_1 : Orc := fun b h => match b, h with
  | 0, [(.T 0, .t (.val false [.sl .any 3 (.int .i64) y0])), (.T 1, .t (.val false [.fn 76 []])), (.T 7, .t (.val false [.int .i64 y1])), (.T 8, .t (.val false [.int .i64 y2]))] => some (okO (g_Lslices_IndexFunc_int_int__i_valOk_1_0 y0 y1 y2), (.br (isL (valO (g_Lslices_IndexFunc_int_int__i_valOk_1_0 y0 y1 y2))) (.leaf .ret [(.T 4, .t (.val false [.int .i64 (getL (valO (g_Lslices_IndexFunc_int_int__i_valOk_1_0 y0 y1 y2)))]))]) (.leaf (.exit 0) [(.T 4, .t (.val false [.undef]))])))
  | b, h => Oslices_IndexFunc_int_int__i_valOk_1_0 b h
theorem bslices_IndexFunc_int_int__i_valOk_1_0 (y0 : List (Int)) (y1 : Int) (y2 : Int) : Tr.bt Eslices_IndexFunc_int_int__i_valOk_1 Oslices_IndexFunc_int_int__i_valOk_1_0 (exec Eslices_IndexFunc_int_int__i_valOk_1 0 cslices_IndexFunc_int_int__i_valOk_1_0 (St.of (hslices_IndexFunc_int_int__i_valOk_1_0 y0 y1 y2)) (leafRd Eslices_IndexFunc_int_int__i_valOk_1 0)) = (g_Sslices_IndexFunc_int_int__i_valOk_1_0 y0 y1 y2).bt (fun (y2 : (Int)) => (hslices_IndexFunc_int_int__i_valOk_1_0 y0 y1 y2)) (xslices_IndexFunc_int_int__i_valOk_1_0 y0 y1) := by kernel_rfl
theorem kslices_IndexFunc_int_int__i_valOk_1_1 : OrcOk Eslices_IndexFunc_int_int__i_valOk_1 Oslices_IndexFunc_int_int__i_valOk_1_1 lsslices_IndexFunc_int_int__i_valOk_1 1 := orc_add kslices_IndexFunc_int_int__i_valOk_1_0 (fun n p hp h ex h' ho => by
  obtain ⟨b, c⟩ := p
  obtain ⟨xt, h1, h2⟩ := ho
  have h1 : Oslices_IndexFunc_int_int__i_valOk_1_1 b h = some (true, xt) := h1
  unfold Oslices_IndexFunc_int_int__i_valOk_1_1 at h1
  split at h1
  · injection h1 with h1
    injection h1 with e1 e2
    subst e2
    have hc : c = cslices_IndexFunc_int_int__i_valOk_1_0 := mslices_IndexFunc_int_int__i_valOk_1_0 _ hp rfl
    subst hc
    right
    rename_i y0 y1 y2
    have key := LT_step kslices_IndexFunc_int_int__i_valOk_1_0 hp (fun q hq => loopsAll_in _ _ _ _ hp hq) (fun (y2 : (Int)) => (hslices_IndexFunc_int_int__i_valOk_1_0 y0 y1 y2)) (xslices_IndexFunc_int_int__i_valOk_1_0 y0 y1) (g_Sslices_IndexFunc_int_int__i_valOk_1_0 y0 y1) (fun x => by first | exact bslices_IndexFunc_int_int__i_valOk_1_0 y0 y1 x) n (x := y2) (okO_some e1)
    have hx : ∀ r, XT.sel (.br (isL r) (.leaf .ret [(.T 4, .t (.val false [.int .i64 (getL r)]))]) (.leaf (.exit 0) [(.T 4, .t (.val false [.undef]))])) = xslices_IndexFunc_int_int__i_valOk_1_0 y0 y1 r := fun r => by first | rfl | (rcases r with r | r <;> rfl) | (rcases r with r | r | r <;> rfl) | (rcases r with r | r | r | r <;> rfl)
    have h3 := (hx (valO (g_Lslices_IndexFunc_int_int__i_valOk_1_0 y0 y1 y2))).symm.trans h2
    have e3 := congrArg Prod.fst h3
    have e4 := congrArg Prod.snd h3
    simp only at e3 e4
    rw [← e3, ← e4]
    exact key
  · exact .inl ⟨xt, h1, h2⟩)
noncomputable def g_Aslices_IndexFunc_int_int__i_valOk_1 (a0 : List (Int)) : Bool := okO (g_Lslices_IndexFunc_int_int__i_valOk_1_0 a0 (↑(List.length a0) : Int) (0 : Int))
noncomputable def g_Vslices_IndexFunc_int_int__i_valOk_1_0 (a0 : List (Int)) : Int := bif isL (valO (g_Lslices_IndexFunc_int_int__i_valOk_1_0 a0 (↑(List.length a0) : Int) (0 : Int))) then getL (valO (g_Lslices_IndexFunc_int_int__i_valOk_1_0 a0 (↑(List.length a0) : Int) (0 : Int))) else (-1 : Int)
noncomputable def Fslices_IndexFunc_int_int__i_valOk_1 : FSem := fun ys => match ys with
  | [.val false [.sl .any 3 (.int .i64) a0], .val false [.fn 76 []]] => some ((g_Aslices_IndexFunc_int_int__i_valOk_1 a0), .val false [.int .i64 (g_Vslices_IndexFunc_int_int__i_valOk_1_0 a0)], [])
  | _ => none
theorem vslices_IndexFunc_int_int__i_valOk_1 (a0 : List (Int)) : collapseH .std Eslices_IndexFunc_int_int__i_valOk_1 Oslices_IndexFunc_int_int__i_valOk_1_1 (execFn Eslices_IndexFunc_int_int__i_valOk_1 Go.Proofs.Tryd.f104 msslices_IndexFunc_int_int__i_valOk_1 [.val false [.sl .any 3 (.int .i64) a0], .val false [.fn 76 []]]) = some ((g_Aslices_IndexFunc_int_int__i_valOk_1 a0), .val false [.int .i64 (g_Vslices_IndexFunc_int_int__i_valOk_1_0 a0)], []) := by kernel_rfl
theorem sslices_IndexFunc_int_int__i_valOk_1 : Sound Go.Proofs.Tryd.prog 104 msslices_IndexFunc_int_int__i_valOk_1 Fslices_IndexFunc_int_int__i_valOk_1 := by
  refine fn_gen goodslices_IndexFunc_int_int__i_valOk_1 (by kernel_rfl) .std (fn := Go.Proofs.Tryd.f104) (c := (Go.Proofs.Tryd.f104.body.getD .skip)) (o := Oslices_IndexFunc_int_int__i_valOk_1_1) (k := 1) (by kernel_rfl) (by kernel_rfl) (by kernel_rfl) (by kernel_rfl) (by decide) kslices_IndexFunc_int_int__i_valOk_1_1 ?_
  intro ys r outs h
  unfold Fslices_IndexFunc_int_int__i_valOk_1 at h
  split at h
  · exact (vslices_IndexFunc_int_int__i_valOk_1 _).trans h
  · cases h
end Go.Proofs.YtjoggjjjlafdmaaDoor.E
end
section
namespace Go.Proofs.YtjoggjjjlafdmaaDoor.E
open Go
set_option maxRecDepth 100000
set_option maxHeartbeats 0
set_option linter.all false
noncomputable def Eslices_ContainsFunc_int_int__i_valOk_1 : Env where
  tt := mkTI Go.Proofs.Tryd.prog
  fn := fun f => match f with
    | 76 => some (msi_valOk_1, FSem.wk msi_valOk_1 Fi_valOk_1)
    | 104 => some (msslices_IndexFunc_int_int__i_valOk_1, FSem.wk msslices_IndexFunc_int_int__i_valOk_1 Fslices_IndexFunc_int_int__i_valOk_1)
    | _ => none
  bxf := fun _ => none
  mv := []
  keep := fun _ => []
  keepB := fun _ => []
  keepX := fun _ => []
  keepXB := fun _ => []
theorem goodFslices_ContainsFunc_int_int__i_valOk_1 : ∀ f ms F, Eslices_ContainsFunc_int_int__i_valOk_1.fn f = some (ms, F) → Sound Go.Proofs.Tryd.prog f ms F := fun f ms F h => by
  unfold Eslices_ContainsFunc_int_int__i_valOk_1 at h
  dsimp only at h
  split at h
  · injection h with h; injection h with e1 e2; subst e1 e2; exact Sound.wk si_valOk_1
  · injection h with h; injection h with e1 e2; subst e1 e2; exact Sound.wk sslices_IndexFunc_int_int__i_valOk_1
  · cases h
theorem goodBslices_ContainsFunc_int_int__i_valOk_1 : ∀ f ms F, Eslices_ContainsFunc_int_int__i_valOk_1.bxf f = some (ms, F) → SoundB Go.Proofs.Tryd.prog f ms F := fun f ms F h => by cases h
theorem goodslices_ContainsFunc_int_int__i_valOk_1 : Good Go.Proofs.Tryd.prog Eslices_ContainsFunc_int_int__i_valOk_1 := ⟨rfl, goodFslices_ContainsFunc_int_int__i_valOk_1, goodBslices_ContainsFunc_int_int__i_valOk_1⟩
noncomputable def Oslices_ContainsFunc_int_int__i_valOk_1_0 : Orc := fun _ _ => none
noncomputable def msslices_ContainsFunc_int_int__i_valOk_1 : List PM := [.rd, .rd]
noncomputable def lsslices_ContainsFunc_int_int__i_valOk_1 : List (Nat × Code) := loopsAll 0 (Go.Proofs.Tryd.f75.body.getD .skip)

theorem kslices_ContainsFunc_int_int__i_valOk_1_0 : OrcOk Eslices_ContainsFunc_int_int__i_valOk_1 Oslices_ContainsFunc_int_int__i_valOk_1_0 lsslices_ContainsFunc_int_int__i_valOk_1 0 := orcOk_none
noncomputable def g_Aslices_ContainsFunc_int_int__i_valOk_1 (a0 : List (Int)) : Bool := g_Aslices_IndexFunc_int_int__i_valOk_1 a0 && true
noncomputable def g_Vslices_ContainsFunc_int_int__i_valOk_1_0 (a0 : List (Int)) : Bool := decide (g_Vslices_IndexFunc_int_int__i_valOk_1_0 a0 ≥ (0 : Int))
noncomputable def Fslices_ContainsFunc_int_int__i_valOk_1 : FSem := fun ys => match ys with
  | [.val false [.sl .any 3 (.int .i64) a0], .val false [.fn 76 []]] => some ((g_Aslices_ContainsFunc_int_int__i_valOk_1 a0), .val false [.bool (g_Vslices_ContainsFunc_int_int__i_valOk_1_0 a0)], [])
  | _ => none
theorem vslices_ContainsFunc_int_int__i_valOk_1 (a0 : List (Int)) : collapseH .std Eslices_ContainsFunc_int_int__i_valOk_1 Oslices_ContainsFunc_int_int__i_valOk_1_0 (execFn Eslices_ContainsFunc_int_int__i_valOk_1 Go.Proofs.Tryd.f75 msslices_ContainsFunc_int_int__i_valOk_1 [.val false [.sl .any 3 (.int .i64) a0], .val false [.fn 76 []]]) = some ((g_Aslices_ContainsFunc_int_int__i_valOk_1 a0), .val false [.bool (g_Vslices_ContainsFunc_int_int__i_valOk_1_0 a0)], []) := by kernel_rfl
theorem sslices_ContainsFunc_int_int__i_valOk_1 : Sound Go.Proofs.Tryd.prog 75 msslices_ContainsFunc_int_int__i_valOk_1 Fslices_ContainsFunc_int_int__i_valOk_1 := by
  refine fn_gen goodslices_ContainsFunc_int_int__i_valOk_1 (by kernel_rfl) .std (fn := Go.Proofs.Tryd.f75) (c := (Go.Proofs.Tryd.f75.body.getD .skip)) (o := Oslices_ContainsFunc_int_int__i_valOk_1_0) (k := 0) (by kernel_rfl) (by kernel_rfl) (by kernel_rfl) (by kernel_rfl) (by decide) kslices_ContainsFunc_int_int__i_valOk_1_0 ?_
  intro ys r outs h
  unfold Fslices_ContainsFunc_int_int__i_valOk_1 at h
  split at h
  · exact (vslices_ContainsFunc_int_int__i_valOk_1 _).trans h
  · cases h
end Go.Proofs.YtjoggjjjlafdmaaDoor.E
end
section
namespace Go.Proofs.YtjoggjjjlafdmaaDoor.E
open Go
set_option maxRecDepth 100000
set_option maxHeartbeats 0
set_option linter.all false
noncomputable def Ei_valOk : Env where
  tt := mkTI Go.Proofs.Tryd.prog
  fn := fun f => match f with
    | 73 => some (msi_in, FSem.wk msi_in Fi_in)
    | 75 => some (msslices_ContainsFunc_int_int__i_valOk_1, FSem.wk msslices_ContainsFunc_int_int__i_valOk_1 Fslices_ContainsFunc_int_int__i_valOk_1)
    | _ => none
  bxf := fun _ => none
  mv := []
  keep := fun _ => []
  keepB := fun _ => []
  keepX := fun _ => []
  keepXB := fun _ => []
theorem goodFi_valOk : ∀ f ms F, Ei_valOk.fn f = some (ms, F) → Sound Go.Proofs.Tryd.prog f ms F := fun f ms F h => by
  unfold Ei_valOk at h
  dsimp only at h
  split at h
  · injection h with h; injection h with e1 e2; subst e1 e2; exact Sound.wk si_in
  · injection h with h; injection h with e1 e2; subst e1 e2; exact Sound.wk sslices_ContainsFunc_int_int__i_valOk_1
  · cases h
theorem goodBi_valOk : ∀ f ms F, Ei_valOk.bxf f = some (ms, F) → SoundB Go.Proofs.Tryd.prog f ms F := fun f ms F h => by cases h
theorem goodi_valOk : Good Go.Proofs.Tryd.prog Ei_valOk := ⟨rfl, goodFi_valOk, goodBi_valOk⟩
noncomputable def Oi_valOk_0 : Orc := fun _ _ => none
noncomputable def msi_valOk : List PM := [.rd]
noncomputable def lsi_valOk : List (Nat × Code) := loopsAll 0 (Go.Proofs.Tryd.f46.body.getD .skip)

theorem ki_valOk_0 : OrcOk Ei_valOk Oi_valOk_0 lsi_valOk 0 := orcOk_none
noncomputable def g_Ai_valOk (a0 : List (Int)) : Bool := g_Ai_in (↑(List.length a0) : Int) (1 : Int) (3 : Int) && (!g_Vi_in_0 (↑(List.length a0) : Int) (1 : Int) (3 : Int) || g_Aslices_ContainsFunc_int_int__i_valOk_1 a0)
noncomputable def g_Vi_valOk_0 (a0 : List (Int)) : Bool := bif g_Vi_in_0 (↑(List.length a0) : Int) (1 : Int) (3 : Int) then !g_Vslices_ContainsFunc_int_int__i_valOk_1_0 a0 else false
noncomputable def Fi_valOk : FSem := fun ys => match ys with
  | [.val false [.sl .any 3 (.int .i64) a0]] => some ((g_Ai_valOk a0), .val false [.bool (g_Vi_valOk_0 a0)], [])
  | _ => none
theorem vi_valOk (a0 : List (Int)) : collapseH .std Ei_valOk Oi_valOk_0 (execFn Ei_valOk Go.Proofs.Tryd.f46 msi_valOk [.val false [.sl .any 3 (.int .i64) a0]]) = some ((g_Ai_valOk a0), .val false [.bool (g_Vi_valOk_0 a0)], []) := by kernel_rfl
theorem si_valOk : Sound Go.Proofs.Tryd.prog 46 msi_valOk Fi_valOk := by
  refine fn_gen goodi_valOk (by kernel_rfl) .std (fn := Go.Proofs.Tryd.f46) (c := (Go.Proofs.Tryd.f46.body.getD .skip)) (o := Oi_valOk_0) (k := 0) (by kernel_rfl) (by kernel_rfl) (by kernel_rfl) (by kernel_rfl) (by decide) ki_valOk_0 ?_
  intro ys r outs h
  unfold Fi_valOk at h
  split at h
  · exact (vi_valOk _).trans h
  · cases h
end Go.Proofs.YtjoggjjjlafdmaaDoor.E
end
section
namespace Go.Proofs.YtjoggjjjlafdmaaDoor.E
open Go
set_option maxRecDepth 100000
set_option maxHeartbeats 0
set_option linter.all false
noncomputable def Ei_StoOk : Env where
  tt := mkTI Go.Proofs.Tryd.prog
  fn := fun f => match f with
    | 45 => some (msi_keyOk, FSem.wk msi_keyOk Fi_keyOk)
    | 46 => some (msi_valOk, FSem.wk msi_valOk Fi_valOk)
    | _ => none
  bxf := fun _ => none
  mv := []
  keep := fun b => match b with
    | 0 => [(1, false), (6, false), (7, false), (8, false)]
    | _ => []
  keepB := fun b => match b with
    | 0 => [(1, false)]
    | _ => []
  keepX := fun b => match b with
    | 0 => [(1, false), (2, false)]
    | _ => []
  keepXB := fun b => match b with
    | 0 => [(1, false)]
    | _ => []
theorem goodFi_StoOk : ∀ f ms F, Ei_StoOk.fn f = some (ms, F) → Sound Go.Proofs.Tryd.prog f ms F := fun f ms F h => by
  unfold Ei_StoOk at h
  dsimp only at h
  split at h
  · injection h with h; injection h with e1 e2; subst e1 e2; exact Sound.wk si_keyOk
  · injection h with h; injection h with e1 e2; subst e1 e2; exact Sound.wk si_valOk
  · cases h
theorem goodBi_StoOk : ∀ f ms F, Ei_StoOk.bxf f = some (ms, F) → SoundB Go.Proofs.Tryd.prog f ms F := fun f ms F h => by cases h
theorem goodi_StoOk : Good Go.Proofs.Tryd.prog Ei_StoOk := ⟨rfl, goodFi_StoOk, goodBi_StoOk⟩
noncomputable def Oi_StoOk_0 : Orc := fun _ _ => none
noncomputable def msi_StoOk : List PM := [.rd]
noncomputable def lsi_StoOk : List (Nat × Code) := loopsAll 0 (Go.Proofs.Tryd.f15.body.getD .skip)
noncomputable def ci_StoOk_0 : Code := (loopOf 0 (Go.Proofs.Tryd.f15.body.getD .skip)).getD .skip
theorem lseqi_StoOk : lsi_StoOk = [(0, ci_StoOk_0)] := by kernel_rfl
theorem mi_StoOk_0 : ∀ p, p ∈ lsi_StoOk → p.1 = 0 → p.2 = ci_StoOk_0 := by
  intro p hp
  rw [lseqi_StoOk] at hp
  simp only [List.mem_cons, List.not_mem_nil, or_false] at hp
  subst hp; simp
theorem ki_StoOk_0 : OrcOk Ei_StoOk Oi_StoOk_0 lsi_StoOk 0 := orcOk_none
noncomputable def hi_StoOk_0 (y0 : List ((ByteArray) × (List (Int)))) (y1 : Int) (y2 : Int) (y3 : List ((ByteArray) × (List (Int)))) : List (Pl × LV) := [(.T 1, .t (.val false [.ptr 1 0 0])), (.T 6, .t (.val false [.sl .any 41 (.pair .str (.sl 3 (.int .i64))) y0])), (.T 7, .t (.val false [.int .i64 y1])), (.T 8, .t (.val false [.int .i64 y2])), (.B 1, .b 0 false [.sl .any 41 (.pair .str (.sl 3 (.int .i64))) y3])]
noncomputable def g_Si_StoOk_0 (y0 : List ((ByteArray) × (List (Int)))) (y1 : Int) (y3 : List ((ByteArray) × (List (Int)))) : ((Int)) → RT ((Int)) (((Bool)) ⊕ (Unit))
  | y2 => .br (true) (.br (decide (y2 < y1)) (.br (decide ((0 : Int) ≤ y2 ∧ y2 < (↑(List.length y0) : Int))) (.br (g_Ai_keyOk (at_ (Ty.pair Ty.str (Ty.sl (nat_lit 3) (Ty.int IntKind.i64))) y0 (Int.toNat y2)).1) (.br (!g_Vi_keyOk_0 (at_ (Ty.pair Ty.str (Ty.sl (nat_lit 3) (Ty.int IntKind.i64))) y0 (Int.toNat y2)).1) (.out (.inl false)) (.br (g_Ai_valOk (at_ (Ty.pair Ty.str (Ty.sl (nat_lit 3) (Ty.int IntKind.i64))) y0 (Int.toNat y2)).2) (.br (!g_Vi_valOk_0 (at_ (Ty.pair Ty.str (Ty.sl (nat_lit 3) (Ty.int IntKind.i64))) y0 (Int.toNat y2)).2) (.out (.inl false)) (.br (true) (.br (decide (y2 > (0 : Int))) (.br (true) (.br (decide ((0 : Int) ≤ IntKind.wrap IntKind.i64 (y2 - (1 : Int)) ∧ IntKind.wrap IntKind.i64 (y2 - (1 : Int)) < (↑(List.length y3) : Int))) (.br (true) (.br (Op.bytesLess (ByteArray.toList (at_ (Ty.pair Ty.str (Ty.sl (nat_lit 3) (Ty.int IntKind.i64))) y0 (Int.toNat y2)).1) (ByteArray.toList (at_ (Ty.pair Ty.str (Ty.sl (nat_lit 3) (Ty.int IntKind.i64))) y3 (Int.toNat (IntKind.wrap IntKind.i64 (y2 - (1 : Int))))).1) || ByteArray.toList (at_ (Ty.pair Ty.str (Ty.sl (nat_lit 3) (Ty.int IntKind.i64))) y0 (Int.toNat y2)).1 == ByteArray.toList (at_ (Ty.pair Ty.str (Ty.sl (nat_lit 3) (Ty.int IntKind.i64))) y3 (Int.toNat (IntKind.wrap IntKind.i64 (y2 - (1 : Int))))).1) (.out (.inl false)) (.br (true) (.go (IntKind.wrap IntKind.i64 (y2 + (1 : Int)))) (.bad))) (.bad)) (.bad)) (.bad)) (.br (true) (.go (IntKind.wrap IntKind.i64 (y2 + (1 : Int)))) (.bad))) (.bad))) (.bad))) (.bad)) (.bad)) (.out (.inr (())))) (.bad)
noncomputable def g_Li_StoOk_0 (y0 : List ((ByteArray) × (List (Int)))) (y1 : Int) (y3 : List ((ByteArray) × (List (Int)))) (x : (Int)) : Option (((Bool)) ⊕ (Unit)) := loopO (g_Si_StoOk_0 y0 y1 y3) x
noncomputable def xi_StoOk_0 (y0 : List ((ByteArray) × (List (Int)))) (y1 : Int) (y3 : List ((ByteArray) × (List (Int)))) : (((Bool)) ⊕ (Unit)) → Ex × List (Pl × LV) := fun
  | .inl r => (.ret, [(.T 1, .t (.val false [.ptr 1 0 0])), (.T 2, .t (.val false [.bool r])), (.B 1, .b 0 false [.sl .any 41 (.pair .str (.sl 3 (.int .i64))) y3])])
  | .inr (r) => (.exit 0, [(.T 1, .t (.val false [.ptr 1 0 0])), (.T 2, .t (.val false [.undef])), (.B 1, .b 0 false [.sl .any 41 (.pair .str (.sl 3 (.int .i64))) y3])])
noncomputable def Oi_StoOk_1 : Orc := fun b h => match b, h with
  | 0, [(.T 1, .t (.val false [.ptr 1 0 0])), (.T 6, .t (.val false [.sl .any 41 (.pair .str (.sl 3 (.int .i64))) y0])), (.T 7, .t (.val false [.int .i64 y1])), (.T 8, .t (.val false [.int .i64 y2])), (.B 1, .b 0 false [.sl .any 41 (.pair .str (.sl 3 (.int .i64))) y3])] => some (okO (g_Li_StoOk_0 y0 y1 y3 y2), (.br (isL (valO (g_Li_StoOk_0 y0 y1 y3 y2))) (.leaf .ret [(.T 1, .t (.val false [.ptr 1 0 0])), (.T 2, .t (.val false [.bool (getL (valO (g_Li_StoOk_0 y0 y1 y3 y2)))])), (.B 1, .b 0 false [.sl .any 41 (.pair .str (.sl 3 (.int .i64))) y3])]) (.leaf (.exit 0) [(.T 1, .t (.val false [.ptr 1 0 0])), (.T 2, .t (.val false [.undef])), (.B 1, .b 0 false [.sl .any 41 (.pair .str (.sl 3 (.int .i64))) y3])])))
  | b, h => Oi_StoOk_0 b h
theorem bi_StoOk_0 (y0 : List ((ByteArray) × (List (Int)))) (y1 : Int) (y2 : Int) (y3 : List ((ByteArray) × (List (Int)))) : Tr.bt Ei_StoOk Oi_StoOk_0 (exec Ei_StoOk 0 ci_StoOk_0 (St.of (hi_StoOk_0 y0 y1 y2 y3)) (leafRd Ei_StoOk 0)) = (g_Si_StoOk_0 y0 y1 y3 y2).bt (fun (y2 : (Int)) => (hi_StoOk_0 y0 y1 y2 y3)) (xi_StoOk_0 y0 y1 y3) := by kernel_rfl
theorem ki_StoOk_1 : OrcOk Ei_StoOk Oi_StoOk_1 lsi_StoOk 1 := orc_add ki_StoOk_0 (fun n p hp h ex h' ho => by
  obtain ⟨b, c⟩ := p
  obtain ⟨xt, h1, h2⟩ := ho
  have h1 : Oi_StoOk_1 b h = some (true, xt) := h1
  unfold Oi_StoOk_1 at h1
  split at h1
  · injection h1 with h1
    injection h1 with e1 e2
    subst e2
    have hc : c = ci_StoOk_0 := mi_StoOk_0 _ hp rfl
    subst hc
    right
    rename_i y0 y1 y2 y3
    have key := LT_step ki_StoOk_0 hp (fun q hq => loopsAll_in _ _ _ _ hp hq) (fun (y2 : (Int)) => (hi_StoOk_0 y0 y1 y2 y3)) (xi_StoOk_0 y0 y1 y3) (g_Si_StoOk_0 y0 y1 y3) (fun x => by first | exact bi_StoOk_0 y0 y1 x y3) n (x := y2) (okO_some e1)
    have hx : ∀ r, XT.sel (.br (isL r) (.leaf .ret [(.T 1, .t (.val false [.ptr 1 0 0])), (.T 2, .t (.val false [.bool (getL r)])), (.B 1, .b 0 false [.sl .any 41 (.pair .str (.sl 3 (.int .i64))) y3])]) (.leaf (.exit 0) [(.T 1, .t (.val false [.ptr 1 0 0])), (.T 2, .t (.val false [.undef])), (.B 1, .b 0 false [.sl .any 41 (.pair .str (.sl 3 (.int .i64))) y3])])) = xi_StoOk_0 y0 y1 y3 r := fun r => by first | rfl | (rcases r with r | r <;> rfl) | (rcases r with r | r | r <;> rfl) | (rcases r with r | r | r | r <;> rfl)
    have h3 := (hx (valO (g_Li_StoOk_0 y0 y1 y3 y2))).symm.trans h2
    have e3 := congrArg Prod.fst h3
    have e4 := congrArg Prod.snd h3
    simp only at e3 e4
    rw [← e3, ← e4]
    exact key
  · exact .inl ⟨xt, h1, h2⟩)
noncomputable def g_Ai_StoOk (a0 : List ((ByteArray) × (List (Int)))) : Bool := okO (g_Li_StoOk_0 a0 (↑(List.length a0) : Int) a0 (0 : Int)) && (isL (valO (g_Li_StoOk_0 a0 (↑(List.length a0) : Int) a0 (0 : Int))) || true)
noncomputable def g_Vi_StoOk_0 (a0 : List ((ByteArray) × (List (Int)))) : Bool := bif isL (valO (g_Li_StoOk_0 a0 (↑(List.length a0) : Int) a0 (0 : Int))) then getL (valO (g_Li_StoOk_0 a0 (↑(List.length a0) : Int) a0 (0 : Int))) else decide ((↑(List.length a0) : Int) ≤ (40 : Int))
noncomputable def Fi_StoOk : FSem := fun ys => match ys with
  | [.val true [.sl .any 41 (.pair .str (.sl 3 (.int .i64))) a0]] => some ((g_Ai_StoOk a0), .val false [.bool (g_Vi_StoOk_0 a0)], [])
  | _ => none
theorem vi_StoOk (a0 : List ((ByteArray) × (List (Int)))) : collapseH .std Ei_StoOk Oi_StoOk_1 (execFn Ei_StoOk Go.Proofs.Tryd.f15 msi_StoOk [.val true [.sl .any 41 (.pair .str (.sl 3 (.int .i64))) a0]]) = some ((g_Ai_StoOk a0), .val false [.bool (g_Vi_StoOk_0 a0)], []) := by kernel_rfl
theorem si_StoOk : Sound Go.Proofs.Tryd.prog 15 msi_StoOk Fi_StoOk := by
  refine fn_gen goodi_StoOk (by kernel_rfl) .std (fn := Go.Proofs.Tryd.f15) (c := (Go.Proofs.Tryd.f15.body.getD .skip)) (o := Oi_StoOk_1) (k := 1) (by kernel_rfl) (by kernel_rfl) (by kernel_rfl) (by kernel_rfl) (by decide) ki_StoOk_1 ?_
  intro ys r outs h
  unfold Fi_StoOk at h
  split at h
  · exact (vi_StoOk _).trans h
  · cases h
end Go.Proofs.YtjoggjjjlafdmaaDoor.E
end
section
namespace Go.Proofs.YtjoggjjjlafdmaaDoor.E
open Go
set_option maxRecDepth 100000
set_option maxHeartbeats 0
set_option linter.all false
noncomputable def Eslices_Clone_int_int_a : Env where
  tt := mkTI Go.Proofs.Tryd.prog
  fn := fun _ => none
  bxf := fun _ => none
  mv := []
  keep := fun _ => []
  keepB := fun _ => []
  keepX := fun _ => []
  keepXB := fun _ => []
theorem goodFslices_Clone_int_int_a : ∀ f ms F, Eslices_Clone_int_int_a.fn f = some (ms, F) → Sound Go.Proofs.Tryd.prog f ms F := fun f ms F h => by cases h
theorem goodBslices_Clone_int_int_a : ∀ f ms F, Eslices_Clone_int_int_a.bxf f = some (ms, F) → SoundB Go.Proofs.Tryd.prog f ms F := fun f ms F h => by cases h
theorem goodslices_Clone_int_int_a : Good Go.Proofs.Tryd.prog Eslices_Clone_int_int_a := ⟨rfl, goodFslices_Clone_int_int_a, goodBslices_Clone_int_int_a⟩
noncomputable def Oslices_Clone_int_int_a_0 : Orc := fun _ _ => none
noncomputable def msslices_Clone_int_int_a : List PM := [.rd]
noncomputable def lsslices_Clone_int_int_a : List (Nat × Code) := loopsAll 0 (Go.Proofs.Tryd.f69.body.getD .skip)

theorem kslices_Clone_int_int_a_0 : OrcOk Eslices_Clone_int_int_a Oslices_Clone_int_int_a_0 lsslices_Clone_int_int_a 0 := orcOk_none
noncomputable def g_Vslices_Clone_int_int_a_0 : List (Int) := []
noncomputable def Fslices_Clone_int_int_a : FSem := fun ys => match ys with
  | [.val false [.nil 3 (.int .i64)]] => some (true, .val false [.own .any true 3 (.int .i64) g_Vslices_Clone_int_int_a_0], [])
  | _ => none
theorem vslices_Clone_int_int_a : collapseH .std Eslices_Clone_int_int_a Oslices_Clone_int_int_a_0 (execFn Eslices_Clone_int_int_a Go.Proofs.Tryd.f69 msslices_Clone_int_int_a [.val false [.nil 3 (.int .i64)]]) = some (true, .val false [.own .any true 3 (.int .i64) g_Vslices_Clone_int_int_a_0], []) := by kernel_rfl
theorem sslices_Clone_int_int_a : Sound Go.Proofs.Tryd.prog 69 msslices_Clone_int_int_a Fslices_Clone_int_int_a := by
  refine fn_gen goodslices_Clone_int_int_a (by kernel_rfl) .std (fn := Go.Proofs.Tryd.f69) (c := (Go.Proofs.Tryd.f69.body.getD .skip)) (o := Oslices_Clone_int_int_a_0) (k := 0) (by kernel_rfl) (by kernel_rfl) (by kernel_rfl) (by kernel_rfl) (by decide) kslices_Clone_int_int_a_0 ?_
  intro ys r outs h
  unfold Fslices_Clone_int_int_a at h
  split at h
  · exact (vslices_Clone_int_int_a).trans h
  · cases h
end Go.Proofs.YtjoggjjjlafdmaaDoor.E
end
section
namespace Go.Proofs.YtjoggjjjlafdmaaDoor.E
open Go
set_option maxRecDepth 100000
set_option maxHeartbeats 0
set_option linter.all false
noncomputable def Eslices_Clone_int_int_b : Env where
  tt := mkTI Go.Proofs.Tryd.prog
  fn := fun _ => none
  bxf := fun _ => none
  mv := []
  keep := fun _ => []
  keepB := fun _ => []
  keepX := fun _ => []
  keepXB := fun _ => []
theorem goodFslices_Clone_int_int_b : ∀ f ms F, Eslices_Clone_int_int_b.fn f = some (ms, F) → Sound Go.Proofs.Tryd.prog f ms F := fun f ms F h => by cases h
theorem goodBslices_Clone_int_int_b : ∀ f ms F, Eslices_Clone_int_int_b.bxf f = some (ms, F) → SoundB Go.Proofs.Tryd.prog f ms F := fun f ms F h => by cases h
theorem goodslices_Clone_int_int_b : Good Go.Proofs.Tryd.prog Eslices_Clone_int_int_b := ⟨rfl, goodFslices_Clone_int_int_b, goodBslices_Clone_int_int_b⟩
noncomputable def Oslices_Clone_int_int_b_0 : Orc := fun _ _ => none
noncomputable def msslices_Clone_int_int_b : List PM := [.rd]
noncomputable def lsslices_Clone_int_int_b : List (Nat × Code) := loopsAll 0 (Go.Proofs.Tryd.f69.body.getD .skip)

theorem kslices_Clone_int_int_b_0 : OrcOk Eslices_Clone_int_int_b Oslices_Clone_int_int_b_0 lsslices_Clone_int_int_b 0 := orcOk_none
noncomputable def g_Aslices_Clone_int_int_b (a0 : List (Int)) : Bool := decide ((nat_lit 0 + List.length a0) * nat_lit 8 ≤ nat_lit 140737488355328 ∧ nat_lit 0 + List.length a0 ≤ nat_lit 9223372036854775807)
noncomputable def g_Vslices_Clone_int_int_b_0 (a0 : List (Int)) : List (Int) := [] ++ a0
noncomputable def Fslices_Clone_int_int_b : FSem := fun ys => match ys with
  | [.val false [.sl .non 3 (.int .i64) a0]] => some ((g_Aslices_Clone_int_int_b a0), .val false [.own .any true 3 (.int .i64) (g_Vslices_Clone_int_int_b_0 a0)], [])
  | _ => none
theorem vslices_Clone_int_int_b (a0 : List (Int)) : collapseH .std Eslices_Clone_int_int_b Oslices_Clone_int_int_b_0 (execFn Eslices_Clone_int_int_b Go.Proofs.Tryd.f69 msslices_Clone_int_int_b [.val false [.sl .non 3 (.int .i64) a0]]) = some ((g_Aslices_Clone_int_int_b a0), .val false [.own .any true 3 (.int .i64) (g_Vslices_Clone_int_int_b_0 a0)], []) := by kernel_rfl
theorem sslices_Clone_int_int_b : Sound Go.Proofs.Tryd.prog 69 msslices_Clone_int_int_b Fslices_Clone_int_int_b := by
  refine fn_gen goodslices_Clone_int_int_b (by kernel_rfl) .std (fn := Go.Proofs.Tryd.f69) (c := (Go.Proofs.Tryd.f69.body.getD .skip)) (o := Oslices_Clone_int_int_b_0) (k := 0) (by kernel_rfl) (by kernel_rfl) (by kernel_rfl) (by kernel_rfl) (by decide) kslices_Clone_int_int_b_0 ?_
  intro ys r outs h
  unfold Fslices_Clone_int_int_b at h
  split at h
  · exact (vslices_Clone_int_int_b _).trans h
  · cases h
end Go.Proofs.YtjoggjjjlafdmaaDoor.E
end
section
namespace Go.Proofs.YtjoggjjjlafdmaaDoor.E
open Go
set_option maxRecDepth 100000
set_option linter.all false
def msslices_Clone_int_int : List PM := [.rd]
noncomputable def Fslices_Clone_int_int : FSem := fun ys => match ys with
  | [.val false [.sl .any 3 (.int .i64) a0]] => some ((g_Aslices_Clone_int_int_b a0), .val false [.own .any true 3 (.int .i64) a0], [])
  | _ => none
theorem sslices_Clone_int_int : Sound Go.Proofs.Tryd.prog 69 msslices_Clone_int_int Fslices_Clone_int_int := by
  refine sound_cases (el := 3) (e := (.int .i64)) sslices_Clone_int_int_a sslices_Clone_int_int_b (fun ys r outs h => ?_)
  unfold Fslices_Clone_int_int at h
  split at h
  · rename_i a0
    simp only [Option.some.injEq, Prod.mk.injEq] at h
    obtain ⟨h1, rfl, rfl⟩ := h
    refine ⟨a0, rfl, fun e => ?_, ?_⟩
    · subst e
      rfl
    · show some ((g_Aslices_Clone_int_int_b a0), RV.val false [Cell.own .any true 3 (.int .i64) ([] ++ a0)], []) = _
      rw [h1, List.nil_append]
  · cases h
end Go.Proofs.YtjoggjjjlafdmaaDoor.E
end
section
namespace Go.Proofs.YtjoggjjjlafdmaaDoor.E
open Go
set_option maxRecDepth 100000
set_option maxHeartbeats 0
set_option linter.all false
noncomputable def Ei_StoStore_copied : Env where
  tt := mkTI Go.Proofs.Tryd.prog
  fn := fun f => match f with
    | 69 => some (msslices_Clone_int_int, FSem.wk msslices_Clone_int_int Fslices_Clone_int_int)
    | _ => none
  bxf := fun _ => none
  mv := []
  keep := fun b => match b with
    | 0 => [(2, false), (3, false), (7, false), (8, false), (9, false)]
    | _ => []
  keepB := fun b => match b with
    | 0 => [(2, false), (3, false)]
    | _ => []
  keepX := fun b => match b with
    | 0 => [(2, false), (3, false)]
    | _ => []
  keepXB := fun b => match b with
    | 0 => [(2, false), (3, false)]
    | _ => []
theorem goodFi_StoStore_copied : ∀ f ms F, Ei_StoStore_copied.fn f = some (ms, F) → Sound Go.Proofs.Tryd.prog f ms F := fun f ms F h => by
  unfold Ei_StoStore_copied at h
  dsimp only at h
  split at h
  · injection h with h; injection h with e1 e2; subst e1 e2; exact Sound.wk sslices_Clone_int_int
  · cases h
theorem goodBi_StoStore_copied : ∀ f ms F, Ei_StoStore_copied.bxf f = some (ms, F) → SoundB Go.Proofs.Tryd.prog f ms F := fun f ms F h => by cases h
theorem goodi_StoStore_copied : Good Go.Proofs.Tryd.prog Ei_StoStore_copied := ⟨rfl, goodFi_StoStore_copied, goodBi_StoStore_copied⟩
noncomputable def Oi_StoStore_copied_0 : Orc := fun _ _ => none
noncomputable def msi_StoStore_copied : List PM := [.rd]
noncomputable def lsi_StoStore_copied : List (Nat × Code) := loopsAll 0 (Go.Proofs.Tryd.f39.body.getD .skip)
noncomputable def ci_StoStore_copied_0 : Code := (loopOf 0 (Go.Proofs.Tryd.f39.body.getD .skip)).getD .skip
theorem lseqi_StoStore_copied : lsi_StoStore_copied = [(0, ci_StoStore_copied_0)] := by kernel_rfl
theorem mi_StoStore_copied_0 : ∀ p, p ∈ lsi_StoStore_copied → p.1 = 0 → p.2 = ci_StoStore_copied_0 := by
  intro p hp
  rw [lseqi_StoStore_copied] at hp
  simp only [List.mem_cons, List.not_mem_nil, or_false] at hp
  subst hp; simp
theorem ki_StoStore_copied_0 : OrcOk Ei_StoStore_copied Oi_StoStore_copied_0 lsi_StoStore_copied 0 := orcOk_none
noncomputable def hi_StoStore_copied_0 (y0 : List ((ByteArray) × (List (Int)))) (y1 : Int) (y2 : Int) (y3 : List ((ByteArray) × (List (Int)))) (y4 : List ((ByteArray) × (List (Int)))) : List (Pl × LV) := [(.T 2, .t (.val false [.ptr 2 0 0])), (.T 3, .t (.val false [.ptr 3 0 0])), (.T 7, .t (.val false [.sl .any 41 (.pair .str (.sl 3 (.int .i64))) y0])), (.T 8, .t (.val false [.int .i64 y1])), (.T 9, .t (.val false [.int .i64 y2])), (.B 2, .b 0 false [.row 2 1 0]), (.R 2 1, .r 0 (some ⟨false, .any, true, 41, (.pair .str (.sl 3 (.int .i64))), y3⟩)), (.B 3, .b 0 false [.row 3 1 0]), (.R 3 1, .r 0 (some ⟨false, .any, true, 41, (.pair .str (.sl 3 (.int .i64))), y4⟩))]
noncomputable def g_Si_StoStore_copied_0 (y0 : List ((ByteArray) × (List (Int)))) (y1 : Int) (y3 : List ((ByteArray) × (List (Int)))) : ((Int) × (List ((ByteArray) × (List (Int))))) → RT ((Int) × (List ((ByteArray) × (List (Int))))) (((List ((ByteArray) × (List (Int))))))
  | (y2, y4) => .br (true) (.br (decide (y2 < y1)) (.br (decide ((0 : Int) ≤ y2 ∧ y2 < (↑(List.length y0) : Int))) (.br (g_Aslices_Clone_int_int_b (at_ (Ty.pair Ty.str (Ty.sl (nat_lit 3) (Ty.int IntKind.i64))) y0 (Int.toNat y2)).2) (.br (decide ((List.length y4 + List.length [((at_ (Ty.pair Ty.str (Ty.sl (nat_lit 3) (Ty.int IntKind.i64))) y0 (Int.toNat y2)).1, (at_ (Ty.pair Ty.str (Ty.sl (nat_lit 3) (Ty.int IntKind.i64))) y0 (Int.toNat y2)).2)]) * nat_lit 40 ≤ nat_lit 140737488355328 ∧ List.length y4 + List.length [((at_ (Ty.pair Ty.str (Ty.sl (nat_lit 3) (Ty.int IntKind.i64))) y0 (Int.toNat y2)).1, (at_ (Ty.pair Ty.str (Ty.sl (nat_lit 3) (Ty.int IntKind.i64))) y0 (Int.toNat y2)).2)] ≤ nat_lit 9223372036854775807)) (.br (true) (.go ((IntKind.wrap IntKind.i64 (y2 + (1 : Int)), y4 ++ [((at_ (Ty.pair Ty.str (Ty.sl (nat_lit 3) (Ty.int IntKind.i64))) y0 (Int.toNat y2)).1, (at_ (Ty.pair Ty.str (Ty.sl (nat_lit 3) (Ty.int IntKind.i64))) y0 (Int.toNat y2)).2)]))) (.bad)) (.bad)) (.bad)) (.bad)) (.out (y4))) (.bad)
noncomputable def g_Li_StoStore_copied_0 (y0 : List ((ByteArray) × (List (Int)))) (y1 : Int) (y3 : List ((ByteArray) × (List (Int)))) (x : (Int) × (List ((ByteArray) × (List (Int))))) : Option (((List ((ByteArray) × (List (Int)))))) := loopO (g_Si_StoStore_copied_0 y0 y1 y3) x
noncomputable def xi_StoStore_copied_0 (y0 : List ((ByteArray) × (List (Int)))) (y1 : Int) (y3 : List ((ByteArray) × (List (Int)))) : (((List ((ByteArray) × (List (Int)))))) → Ex × List (Pl × LV) := fun r => (.exit 0, [(.T 2, .t (.val false [.ptr 2 0 0])), (.T 3, .t (.val false [.ptr 3 0 0])), (.B 2, .b 0 false [.row 2 1 0]), (.R 2 1, .r 0 (some ⟨false, .any, true, 41, (.pair .str (.sl 3 (.int .i64))), y3⟩)), (.B 3, .b 0 false [.row 3 1 0]), (.R 3 1, .r 0 (some ⟨false, .any, true, 41, (.pair .str (.sl 3 (.int .i64))), r⟩))])
noncomputable def Oi_StoStore_copied_1 : Orc := fun b h => match b, h with
  | 0, [(.T 2, .t (.val false [.ptr 2 0 0])), (.T 3, .t (.val false [.ptr 3 0 0])), (.T 7, .t (.val false [.sl .any 41 (.pair .str (.sl 3 (.int .i64))) y0])), (.T 8, .t (.val false [.int .i64 y1])), (.T 9, .t (.val false [.int .i64 y2])), (.B 2, .b 0 false [.row 2 1 0]), (.R 2 1, .r 0 (some ⟨false, .any, true, 41, (.pair .str (.sl 3 (.int .i64))), y3⟩)), (.B 3, .b 0 false [.row 3 1 0]), (.R 3 1, .r 0 (some ⟨false, .any, true, 41, (.pair .str (.sl 3 (.int .i64))), y4⟩))] => some (okO (g_Li_StoStore_copied_0 y0 y1 y3 (y2, y4)), (.leaf (.exit 0) [(.T 2, .t (.val false [.ptr 2 0 0])), (.T 3, .t (.val false [.ptr 3 0 0])), (.B 2, .b 0 false [.row 2 1 0]), (.R 2 1, .r 0 (some ⟨false, .any, true, 41, (.pair .str (.sl 3 (.int .i64))), y3⟩)), (.B 3, .b 0 false [.row 3 1 0]), (.R 3 1, .r 0 (some ⟨false, .any, true, 41, (.pair .str (.sl 3 (.int .i64))), (valO (g_Li_StoStore_copied_0 y0 y1 y3 (y2, y4)))⟩))]))
  | b, h => Oi_StoStore_copied_0 b h
theorem bi_StoStore_copied_0 (y0 : List ((ByteArray) × (List (Int)))) (y1 : Int) (y2 : Int) (y3 : List ((ByteArray) × (List (Int)))) (y4 : List ((ByteArray) × (List (Int)))) : Tr.bt Ei_StoStore_copied Oi_StoStore_copied_0 (exec Ei_StoStore_copied 0 ci_StoStore_copied_0 (St.of (hi_StoStore_copied_0 y0 y1 y2 y3 y4)) (leafRd Ei_StoStore_copied 0)) = (g_Si_StoStore_copied_0 y0 y1 y3 (y2, y4)).bt (fun ((y2, y4) : (Int) × (List ((ByteArray) × (List (Int))))) => (hi_StoStore_copied_0 y0 y1 y2 y3 y4)) (xi_StoStore_copied_0 y0 y1 y3) := by kernel_rfl
theorem ki_StoStore_copied_1 : OrcOk Ei_StoStore_copied Oi_StoStore_copied_1 lsi_StoStore_copied 1 := orc_add ki_StoStore_copied_0 (fun n p hp h ex h' ho => by
  obtain ⟨b, c⟩ := p
  obtain ⟨xt, h1, h2⟩ := ho
  have h1 : Oi_StoStore_copied_1 b h = some (true, xt) := h1
  unfold Oi_StoStore_copied_1 at h1
  split at h1
  · injection h1 with h1
    injection h1 with e1 e2
    subst e2
    have hc : c = ci_StoStore_copied_0 := mi_StoStore_copied_0 _ hp rfl
    subst hc
    right
    rename_i y0 y1 y2 y3 y4
    have key := LT_step ki_StoStore_copied_0 hp (fun q hq => loopsAll_in _ _ _ _ hp hq) (fun ((y2, y4) : (Int) × (List ((ByteArray) × (List (Int))))) => (hi_StoStore_copied_0 y0 y1 y2 y3 y4)) (xi_StoStore_copied_0 y0 y1 y3) (g_Si_StoStore_copied_0 y0 y1 y3) (fun x => by first | exact bi_StoStore_copied_0 y0 y1 x.1 y3 x.2) n (x := (y2, y4)) (okO_some e1)
    have hx : ∀ r, XT.sel (.leaf (.exit 0) [(.T 2, .t (.val false [.ptr 2 0 0])), (.T 3, .t (.val false [.ptr 3 0 0])), (.B 2, .b 0 false [.row 2 1 0]), (.R 2 1, .r 0 (some ⟨false, .any, true, 41, (.pair .str (.sl 3 (.int .i64))), y3⟩)), (.B 3, .b 0 false [.row 3 1 0]), (.R 3 1, .r 0 (some ⟨false, .any, true, 41, (.pair .str (.sl 3 (.int .i64))), r⟩))]) = xi_StoStore_copied_0 y0 y1 y3 r := fun r => by first | rfl | (rcases r with r | r <;> rfl) | (rcases r with r | r | r <;> rfl) | (rcases r with r | r | r | r <;> rfl)
    have h3 := (hx (valO (g_Li_StoStore_copied_0 y0 y1 y3 (y2, y4)))).symm.trans h2
    have e3 := congrArg Prod.fst h3
    have e4 := congrArg Prod.snd h3
    simp only at e3 e4
    rw [← e3, ← e4]
    exact key
  · exact .inl ⟨xt, h1, h2⟩)
noncomputable def g_Ai_StoStore_copied (a0 : List ((ByteArray) × (List (Int)))) : Bool := okO (g_Li_StoStore_copied_0 a0 (↑(List.length a0) : Int) [] ((0 : Int), []))
noncomputable def g_Vi_StoStore_copied_0 (a0 : List ((ByteArray) × (List (Int)))) : List ((ByteArray) × (List (Int))) := valO (g_Li_StoStore_copied_0 a0 (↑(List.length a0) : Int) [] ((0 : Int), []))
noncomputable def Fi_StoStore_copied : FSem := fun ys => match ys with
  | [.val true [.sl .any 41 (.pair .str (.sl 3 (.int .i64))) a0]] => some ((g_Ai_StoStore_copied a0), .val true [.own .any true 41 (.pair .str (.sl 3 (.int .i64))) (g_Vi_StoStore_copied_0 a0)], [])
  | _ => none
theorem vi_StoStore_copied (a0 : List ((ByteArray) × (List (Int)))) : collapseH .std Ei_StoStore_copied Oi_StoStore_copied_1 (execFn Ei_StoStore_copied Go.Proofs.Tryd.f39 msi_StoStore_copied [.val true [.sl .any 41 (.pair .str (.sl 3 (.int .i64))) a0]]) = some ((g_Ai_StoStore_copied a0), .val true [.own .any true 41 (.pair .str (.sl 3 (.int .i64))) (g_Vi_StoStore_copied_0 a0)], []) := by kernel_rfl
theorem si_StoStore_copied : Sound Go.Proofs.Tryd.prog 39 msi_StoStore_copied Fi_StoStore_copied := by
  refine fn_gen goodi_StoStore_copied (by kernel_rfl) .std (fn := Go.Proofs.Tryd.f39) (c := (Go.Proofs.Tryd.f39.body.getD .skip)) (o := Oi_StoStore_copied_1) (k := 1) (by kernel_rfl) (by kernel_rfl) (by kernel_rfl) (by kernel_rfl) (by decide) ki_StoStore_copied_1 ?_
  intro ys r outs h
  unfold Fi_StoStore_copied at h
  split at h
  · exact (vi_StoStore_copied _).trans h
  · cases h
end Go.Proofs.YtjoggjjjlafdmaaDoor.E
end
section
namespace Go.Proofs.YtjoggjjjlafdmaaDoor.E
open Go
set_option maxRecDepth 100000
set_option linter.all false
def msstrings_Compare : List PM := [.own, .own]
def g_compare (a b : ByteArray) : Int := Lib.compareBytes a.data.toList b.data.toList
def Fstrings_Compare : FSem := fun ys => match ys with
  | [.val false [.str a], .val false [.str b]] => some (true, .val false [.int .i64 (g_compare a b)], [])
  | _ => none
theorem sstrings_Compare : Sound Go.Proofs.Tryd.prog 94 msstrings_Compare Fstrings_Compare := by
  refine sound_plain (by simp [msstrings_Compare]) ⟨_, Tryd.func94, by kernel_rfl, by kernel_rfl⟩ (fun w ys r outs h => ?_)
  unfold Fstrings_Compare at h
  split at h
  · rename_i a b
    simp only [Option.some.injEq, Prod.mk.injEq, true_and] at h
    obtain ⟨rfl, rfl⟩ := h
    refine ⟨rfl, [.string a, .string b], .int .i64 (g_compare a b), rfl, rfl, ?_⟩
    exact Calls.mono (Tryd.strings_Compare a b w) (fun e w' h => ⟨h.1, by rw [h.2]; exact RowKit.Below.refl _ _⟩)
  · cases h
end Go.Proofs.YtjoggjjjlafdmaaDoor.E
end
section
namespace Go.Proofs.YtjoggjjjlafdmaaDoor.E
open Go
set_option maxRecDepth 100000
set_option maxHeartbeats 0
set_option linter.all false
noncomputable def Ei_StoStore_find_1 : Env where
  tt := mkTI Go.Proofs.Tryd.prog
  fn := fun f => match f with
    | 94 => some (msstrings_Compare, FSem.wk msstrings_Compare Fstrings_Compare)
    | _ => none
  bxf := fun _ => none
  mv := []
  keep := fun _ => []
  keepB := fun _ => []
  keepX := fun _ => []
  keepXB := fun _ => []
theorem goodFi_StoStore_find_1 : ∀ f ms F, Ei_StoStore_find_1.fn f = some (ms, F) → Sound Go.Proofs.Tryd.prog f ms F := fun f ms F h => by
  unfold Ei_StoStore_find_1 at h
  dsimp only at h
  split at h
  · injection h with h; injection h with e1 e2; subst e1 e2; exact Sound.wk sstrings_Compare
  · cases h
theorem goodBi_StoStore_find_1 : ∀ f ms F, Ei_StoStore_find_1.bxf f = some (ms, F) → SoundB Go.Proofs.Tryd.prog f ms F := fun f ms F h => by cases h
theorem goodi_StoStore_find_1 : Good Go.Proofs.Tryd.prog Ei_StoStore_find_1 := ⟨rfl, goodFi_StoStore_find_1, goodBi_StoStore_find_1⟩
noncomputable def Oi_StoStore_find_1_0 : Orc := fun _ _ => none
noncomputable def msi_StoStore_find_1 : List PM := [.rd, .own]
noncomputable def lsi_StoStore_find_1 : List (Nat × Code) := loopsAll 0 (Go.Proofs.Tryd.f93.body.getD .skip)

theorem ki_StoStore_find_1_0 : OrcOk Ei_StoStore_find_1 Oi_StoStore_find_1_0 lsi_StoStore_find_1 0 := orcOk_none
noncomputable def Fi_StoStore_find_1 : FSem := fun ys => match ys with
  | [.val true [.str a0, .sl .any 3 (.int .i64) a1], .val false [.str a2]] => some (true, .val false [.int .i64 (g_compare a0 a2)], [])
  | _ => none
theorem vi_StoStore_find_1 (a0 : ByteArray) (a1 : List (Int)) (a2 : ByteArray) : collapseH .std Ei_StoStore_find_1 Oi_StoStore_find_1_0 (execFn Ei_StoStore_find_1 Go.Proofs.Tryd.f93 msi_StoStore_find_1 [.val true [.str a0, .sl .any 3 (.int .i64) a1], .val false [.str a2]]) = some (true, .val false [.int .i64 (g_compare a0 a2)], []) := by kernel_rfl
theorem si_StoStore_find_1 : Sound Go.Proofs.Tryd.prog 93 msi_StoStore_find_1 Fi_StoStore_find_1 := by
  refine fn_gen goodi_StoStore_find_1 (by kernel_rfl) .std (fn := Go.Proofs.Tryd.f93) (c := (Go.Proofs.Tryd.f93.body.getD .skip)) (o := Oi_StoStore_find_1_0) (k := 0) (by kernel_rfl) (by kernel_rfl) (by kernel_rfl) (by kernel_rfl) (by decide) ki_StoStore_find_1_0 ?_
  intro ys r outs h
  unfold Fi_StoStore_find_1 at h
  split at h
  · exact (vi_StoStore_find_1 _ _ _).trans h
  · cases h
end Go.Proofs.YtjoggjjjlafdmaaDoor.E
end
section
namespace Go.Proofs.YtjoggjjjlafdmaaDoor.E
open Go
set_option maxRecDepth 100000
set_option maxHeartbeats 0
set_option linter.all false
noncomputable def Eslices_BinarySearchFunc_i_StoItem_i_StoItem_string__i_StoStore_find_1 : Env where
  tt := mkTI Go.Proofs.Tryd.prog
  fn := fun f => match f with
    | 93 => some (msi_StoStore_find_1, FSem.wk msi_StoStore_find_1 Fi_StoStore_find_1)
    | _ => none
  bxf := fun _ => none
  mv := []
  keep := fun b => match b with
    | 0 => [(0, false), (1, false), (2, false), (8, false), (9, false), (10, false)]
    | _ => []
  keepB := fun b => match b with
    | 0 => []
    | _ => []
  keepX := fun b => match b with
    | 0 => [(0, false), (1, false), (2, false), (8, false), (9, false)]
    | _ => []
  keepXB := fun b => match b with
    | 0 => []
    | _ => []
theorem goodFslices_BinarySearchFunc_i_StoItem_i_StoItem_string__i_StoStore_find_1 : ∀ f ms F, Eslices_BinarySearchFunc_i_StoItem_i_StoItem_string__i_StoStore_find_1.fn f = some (ms, F) → Sound Go.Proofs.Tryd.prog f ms F := fun f ms F h => by
  unfold Eslices_BinarySearchFunc_i_StoItem_i_StoItem_string__i_StoStore_find_1 at h
  dsimp only at h
  split at h
  · injection h with h; injection h with e1 e2; subst e1 e2; exact Sound.wk si_StoStore_find_1
  · cases h
theorem goodBslices_BinarySearchFunc_i_StoItem_i_StoItem_string__i_StoStore_find_1 : ∀ f ms F, Eslices_BinarySearchFunc_i_StoItem_i_StoItem_string__i_StoStore_find_1.bxf f = some (ms, F) → SoundB Go.Proofs.Tryd.prog f ms F := fun f ms F h => by cases h
theorem goodslices_BinarySearchFunc_i_StoItem_i_StoItem_string__i_StoStore_find_1 : Good Go.Proofs.Tryd.prog Eslices_BinarySearchFunc_i_StoItem_i_StoItem_string__i_StoStore_find_1 := ⟨rfl, goodFslices_BinarySearchFunc_i_StoItem_i_StoItem_string__i_StoStore_find_1, goodBslices_BinarySearchFunc_i_StoItem_i_StoItem_string__i_StoStore_find_1⟩
noncomputable def Oslices_BinarySearchFunc_i_StoItem_i_StoItem_string__i_StoStore_find_1_0 : Orc := fun _ _ => none
noncomputable def msslices_BinarySearchFunc_i_StoItem_i_StoItem_string__i_StoStore_find_1 : List PM := [.rd, .own, .rd]
noncomputable def lsslices_BinarySearchFunc_i_StoItem_i_StoItem_string__i_StoStore_find_1 : List (Nat × Code) := loopsAll 0 (Go.Proofs.Tryd.f92.body.getD .skip)
noncomputable def cslices_BinarySearchFunc_i_StoItem_i_StoItem_string__i_StoStore_find_1_0 : Code := (loopOf 0 (Go.Proofs.Tryd.f92.body.getD .skip)).getD .skip
theorem lseqslices_BinarySearchFunc_i_StoItem_i_StoItem_string__i_StoStore_find_1 : lsslices_BinarySearchFunc_i_StoItem_i_StoItem_string__i_StoStore_find_1 = [(0, cslices_BinarySearchFunc_i_StoItem_i_StoItem_string__i_StoStore_find_1_0)] := by kernel_rfl
theorem mslices_BinarySearchFunc_i_StoItem_i_StoItem_string__i_StoStore_find_1_0 : ∀ p, p ∈ lsslices_BinarySearchFunc_i_StoItem_i_StoItem_string__i_StoStore_find_1 → p.1 = 0 → p.2 = cslices_BinarySearchFunc_i_StoItem_i_StoItem_string__i_StoStore_find_1_0 := by
  intro p hp
  rw [lseqslices_BinarySearchFunc_i_StoItem_i_StoItem_string__i_StoStore_find_1] at hp
  simp only [List.mem_cons, List.not_mem_nil, or_false] at hp
  subst hp; simp
theorem kslices_BinarySearchFunc_i_StoItem_i_StoItem_string__i_StoStore_find_1_0 : OrcOk Eslices_BinarySearchFunc_i_StoItem_i_StoItem_string__i_StoStore_find_1 Oslices_BinarySearchFunc_i_StoItem_i_StoItem_string__i_StoStore_find_1_0 lsslices_BinarySearchFunc_i_StoItem_i_StoItem_string__i_StoStore_find_1 0 := orcOk_none
noncomputable def hslices_BinarySearchFunc_i_StoItem_i_StoItem_string__i_StoStore_find_1_0 (y0 : List ((ByteArray) × (List (Int)))) (y1 : ByteArray) (y2 : Int) (y3 : Int) (y4 : Int) : List (Pl × LV) := [(.T 0, .t (.val false [.sl .any 41 (.pair .str (.sl 3 (.int .i64))) y0])), (.T 1, .t (.val false [.str y1])), (.T 2, .t (.val false [.fn 93 []])), (.T 8, .t (.val false [.int .i64 y2])), (.T 9, .t (.val false [.int .i64 y3])), (.T 10, .t (.val false [.int .i64 y4]))]
noncomputable def g_Sslices_BinarySearchFunc_i_StoItem_i_StoItem_string__i_StoStore_find_1_0 (y0 : List ((ByteArray) × (List (Int)))) (y1 : ByteArray) (y2 : Int) : ((Int) × (Int)) → RT ((Int) × (Int)) (((Int)))
  | (y3, y4) => .br (true) (.br (decide (y3 < y4)) (.br (true) (.br (true) (.br (decide ((0 : Int) ≤ IntKind.wrap IntKind.i64 (Int.fdiv (IntKind.wrap IntKind.u64 (IntKind.wrap IntKind.i64 (y3 + y4))) (2 : Int)) ∧ IntKind.wrap IntKind.i64 (Int.fdiv (IntKind.wrap IntKind.u64 (IntKind.wrap IntKind.i64 (y3 + y4))) (2 : Int)) < (↑(List.length y0) : Int))) (.br (true) (.br (true) (.br (decide (g_compare (at_ (Ty.pair Ty.str (Ty.sl (nat_lit 3) (Ty.int IntKind.i64))) y0 (Int.toNat (IntKind.wrap IntKind.i64 (Int.fdiv (IntKind.wrap IntKind.u64 (IntKind.wrap IntKind.i64 (y3 + y4))) (2 : Int))))).1 y1 < (0 : Int))) (.br (true) (.go ((IntKind.wrap IntKind.i64 (IntKind.wrap IntKind.i64 (Int.fdiv (IntKind.wrap IntKind.u64 (IntKind.wrap IntKind.i64 (y3 + y4))) (2 : Int)) + (1 : Int)), y4))) (.bad)) (.go ((y3, IntKind.wrap IntKind.i64 (Int.fdiv (IntKind.wrap IntKind.u64 (IntKind.wrap IntKind.i64 (y3 + y4))) (2 : Int)))))) (.bad)) (.bad)) (.bad)) (.bad)) (.bad)) (.out (y3))) (.bad)
noncomputable def g_Lslices_BinarySearchFunc_i_StoItem_i_StoItem_string__i_StoStore_find_1_0 (y0 : List ((ByteArray) × (List (Int)))) (y1 : ByteArray) (y2 : Int) (x : (Int) × (Int)) : Option (((Int))) := loopO (g_Sslices_BinarySearchFunc_i_StoItem_i_StoItem_string__i_StoStore_find_1_0 y0 y1 y2) x
noncomputable def xslices_BinarySearchFunc_i_StoItem_i_StoItem_string__i_StoStore_find_1_0 (y0 : List ((ByteArray) × (List (Int)))) (y1 : ByteArray) (y2 : Int) : (((Int))) → Ex × List (Pl × LV) := fun r => (.exit 0, [(.T 0, .t (.val false [.sl .any 41 (.pair .str (.sl 3 (.int .i64))) y0])), (.T 1, .t (.val false [.str y1])), (.T 2, .t (.val false [.fn 93 []])), (.T 8, .t (.val false [.int .i64 y2])), (.T 9, .t (.val false [.int .i64 r]))])
noncomputable def Oslices_BinarySearchFunc_i_StoItem_i_StoItem_string__i_StoStore_find_1_1 : Orc := fun b h => match b, h with
  | 0, [(.T 0, .t (.val false [.sl .any 41 (.pair .str (.sl 3 (.int .i64))) y0])), (.T 1, .t (.val false [.str y1])), (.T 2, .t (.val false [.fn 93 []])), (.T 8, .t (.val false [.int .i64 y2])), (.T 9, .t (.val false [.int .i64 y3])), (.T 10, .t (.val false [.int .i64 y4]))] => some (okO (g_Lslices_BinarySearchFunc_i_StoItem_i_StoItem_string__i_StoStore_find_1_0 y0 y1 y2 (y3, y4)), (.leaf (.exit 0) [(.T 0, .t (.val false [.sl .any 41 (.pair .str (.sl 3 (.int .i64))) y0])), (.T 1, .t (.val false [.str y1])), (.T 2, .t (.val false [.fn 93 []])), (.T 8, .t (.val false [.int .i64 y2])), (.T 9, .t (.val false [.int .i64 (valO (g_Lslices_BinarySearchFunc_i_StoItem_i_StoItem_string__i_StoStore_find_1_0 y0 y1 y2 (y3, y4)))]))]))
  | b, h => Oslices_BinarySearchFunc_i_StoItem_i_StoItem_string__i_StoStore_find_1_0 b h
theorem bslices_BinarySearchFunc_i_StoItem_i_StoItem_string__i_StoStore_find_1_0 (y0 : List ((ByteArray) × (List (Int)))) (y1 : ByteArray) (y2 : Int) (y3 : Int) (y4 : Int) : Tr.bt Eslices_BinarySearchFunc_i_StoItem_i_StoItem_string__i_StoStore_find_1 Oslices_BinarySearchFunc_i_StoItem_i_StoItem_string__i_StoStore_find_1_0 (exec Eslices_BinarySearchFunc_i_StoItem_i_StoItem_string__i_StoStore_find_1 0 cslices_BinarySearchFunc_i_StoItem_i_StoItem_string__i_StoStore_find_1_0 (St.of (hslices_BinarySearchFunc_i_StoItem_i_StoItem_string__i_StoStore_find_1_0 y0 y1 y2 y3 y4)) (leafRd Eslices_BinarySearchFunc_i_StoItem_i_StoItem_string__i_StoStore_find_1 0)) = (g_Sslices_BinarySearchFunc_i_StoItem_i_StoItem_string__i_StoStore_find_1_0 y0 y1 y2 (y3, y4)).bt (fun ((y3, y4) : (Int) × (Int)) => (hslices_BinarySearchFunc_i_StoItem_i_StoItem_string__i_StoStore_find_1_0 y0 y1 y2 y3 y4)) (xslices_BinarySearchFunc_i_StoItem_i_StoItem_string__i_StoStore_find_1_0 y0 y1 y2) := by kernel_rfl
theorem kslices_BinarySearchFunc_i_StoItem_i_StoItem_string__i_StoStore_find_1_1 : OrcOk Eslices_BinarySearchFunc_i_StoItem_i_StoItem_string__i_StoStore_find_1 Oslices_BinarySearchFunc_i_StoItem_i_StoItem_string__i_StoStore_find_1_1 lsslices_BinarySearchFunc_i_StoItem_i_StoItem_string__i_StoStore_find_1 1 := orc_add kslices_BinarySearchFunc_i_StoItem_i_StoItem_string__i_StoStore_find_1_0 (fun n p hp h ex h' ho => by
  obtain ⟨b, c⟩ := p
  obtain ⟨xt, h1, h2⟩ := ho
  have h1 : Oslices_BinarySearchFunc_i_StoItem_i_StoItem_string__i_StoStore_find_1_1 b h = some (true, xt) := h1
  unfold Oslices_BinarySearchFunc_i_StoItem_i_StoItem_string__i_StoStore_find_1_1 at h1
  split at h1
  · injection h1 with h1
    injection h1 with e1 e2
    subst e2
    have hc : c = cslices_BinarySearchFunc_i_StoItem_i_StoItem_string__i_StoStore_find_1_0 := mslices_BinarySearchFunc_i_StoItem_i_StoItem_string__i_StoStore_find_1_0 _ hp rfl
    subst hc
    right
    rename_i y0 y1 y2 y3 y4
    have key := LT_step kslices_BinarySearchFunc_i_StoItem_i_StoItem_string__i_StoStore_find_1_0 hp (fun q hq => loopsAll_in _ _ _ _ hp hq) (fun ((y3, y4) : (Int) × (Int)) => (hslices_BinarySearchFunc_i_StoItem_i_StoItem_string__i_StoStore_find_1_0 y0 y1 y2 y3 y4)) (xslices_BinarySearchFunc_i_StoItem_i_StoItem_string__i_StoStore_find_1_0 y0 y1 y2) (g_Sslices_BinarySearchFunc_i_StoItem_i_StoItem_string__i_StoStore_find_1_0 y0 y1 y2) (fun x => by first | exact bslices_BinarySearchFunc_i_StoItem_i_StoItem_string__i_StoStore_find_1_0 y0 y1 y2 x.1 x.2) n (x := (y3, y4)) (okO_some e1)
    have hx : ∀ r, XT.sel (.leaf (.exit 0) [(.T 0, .t (.val false [.sl .any 41 (.pair .str (.sl 3 (.int .i64))) y0])), (.T 1, .t (.val false [.str y1])), (.T 2, .t (.val false [.fn 93 []])), (.T 8, .t (.val false [.int .i64 y2])), (.T 9, .t (.val false [.int .i64 r]))]) = xslices_BinarySearchFunc_i_StoItem_i_StoItem_string__i_StoStore_find_1_0 y0 y1 y2 r := fun r => by first | rfl | (rcases r with r | r <;> rfl) | (rcases r with r | r | r <;> rfl) | (rcases r with r | r | r | r <;> rfl)
    have h3 := (hx (valO (g_Lslices_BinarySearchFunc_i_StoItem_i_StoItem_string__i_StoStore_find_1_0 y0 y1 y2 (y3, y4)))).symm.trans h2
    have e3 := congrArg Prod.fst h3
    have e4 := congrArg Prod.snd h3
    simp only at e3 e4
    rw [← e3, ← e4]
    exact key
  · exact .inl ⟨xt, h1, h2⟩)
noncomputable def g_Aslices_BinarySearchFunc_i_StoItem_i_StoItem_string__i_StoStore_find_1 (a0 : List ((ByteArray) × (List (Int)))) (a1 : ByteArray) : Bool := okO (g_Lslices_BinarySearchFunc_i_StoItem_i_StoItem_string__i_StoStore_find_1_0 a0 a1 (↑(List.length a0) : Int) ((0 : Int), (↑(List.length a0) : Int))) && (!decide (valO (g_Lslices_BinarySearchFunc_i_StoItem_i_StoItem_string__i_StoStore_find_1_0 a0 a1 (↑(List.length a0) : Int) ((0 : Int), (↑(List.length a0) : Int))) < (↑(List.length a0) : Int)) || decide ((0 : Int) ≤ valO (g_Lslices_BinarySearchFunc_i_StoItem_i_StoItem_string__i_StoStore_find_1_0 a0 a1 (↑(List.length a0) : Int) ((0 : Int), (↑(List.length a0) : Int))) ∧ valO (g_Lslices_BinarySearchFunc_i_StoItem_i_StoItem_string__i_StoStore_find_1_0 a0 a1 (↑(List.length a0) : Int) ((0 : Int), (↑(List.length a0) : Int))) < (↑(List.length a0) : Int)) && true)
noncomputable def g_Vslices_BinarySearchFunc_i_StoItem_i_StoItem_string__i_StoStore_find_1_0 (a0 : List ((ByteArray) × (List (Int)))) (a1 : ByteArray) : Int := bif decide (valO (g_Lslices_BinarySearchFunc_i_StoItem_i_StoItem_string__i_StoStore_find_1_0 a0 a1 (↑(List.length a0) : Int) ((0 : Int), (↑(List.length a0) : Int))) < (↑(List.length a0) : Int)) then valO (g_Lslices_BinarySearchFunc_i_StoItem_i_StoItem_string__i_StoStore_find_1_0 a0 a1 (↑(List.length a0) : Int) ((0 : Int), (↑(List.length a0) : Int))) else valO (g_Lslices_BinarySearchFunc_i_StoItem_i_StoItem_string__i_StoStore_find_1_0 a0 a1 (↑(List.length a0) : Int) ((0 : Int), (↑(List.length a0) : Int)))
noncomputable def g_Vslices_BinarySearchFunc_i_StoItem_i_StoItem_string__i_StoStore_find_1_1 (a0 : List ((ByteArray) × (List (Int)))) (a1 : ByteArray) : Bool := bif decide (valO (g_Lslices_BinarySearchFunc_i_StoItem_i_StoItem_string__i_StoStore_find_1_0 a0 a1 (↑(List.length a0) : Int) ((0 : Int), (↑(List.length a0) : Int))) < (↑(List.length a0) : Int)) then g_compare (at_ (Ty.pair Ty.str (Ty.sl (nat_lit 3) (Ty.int IntKind.i64))) a0 (Int.toNat (valO (g_Lslices_BinarySearchFunc_i_StoItem_i_StoItem_string__i_StoStore_find_1_0 a0 a1 (↑(List.length a0) : Int) ((0 : Int), (↑(List.length a0) : Int)))))).1 a1 == (0 : Int) else false
noncomputable def Fslices_BinarySearchFunc_i_StoItem_i_StoItem_string__i_StoStore_find_1 : FSem := fun ys => match ys with
  | [.val false [.sl .any 41 (.pair .str (.sl 3 (.int .i64))) a0], .val false [.str a1], .val false [.fn 93 []]] => some ((g_Aslices_BinarySearchFunc_i_StoItem_i_StoItem_string__i_StoStore_find_1 a0 a1), .tup [(false, [.int .i64 (g_Vslices_BinarySearchFunc_i_StoItem_i_StoItem_string__i_StoStore_find_1_0 a0 a1)]), (false, [.bool (g_Vslices_BinarySearchFunc_i_StoItem_i_StoItem_string__i_StoStore_find_1_1 a0 a1)])], [])
  | _ => none
theorem vslices_BinarySearchFunc_i_StoItem_i_StoItem_string__i_StoStore_find_1 (a0 : List ((ByteArray) × (List (Int)))) (a1 : ByteArray) : collapseH .std Eslices_BinarySearchFunc_i_StoItem_i_StoItem_string__i_StoStore_find_1 Oslices_BinarySearchFunc_i_StoItem_i_StoItem_string__i_StoStore_find_1_1 (execFn Eslices_BinarySearchFunc_i_StoItem_i_StoItem_string__i_StoStore_find_1 Go.Proofs.Tryd.f92 msslices_BinarySearchFunc_i_StoItem_i_StoItem_string__i_StoStore_find_1 [.val false [.sl .any 41 (.pair .str (.sl 3 (.int .i64))) a0], .val false [.str a1], .val false [.fn 93 []]]) = some ((g_Aslices_BinarySearchFunc_i_StoItem_i_StoItem_string__i_StoStore_find_1 a0 a1), .tup [(false, [.int .i64 (g_Vslices_BinarySearchFunc_i_StoItem_i_StoItem_string__i_StoStore_find_1_0 a0 a1)]), (false, [.bool (g_Vslices_BinarySearchFunc_i_StoItem_i_StoItem_string__i_StoStore_find_1_1 a0 a1)])], []) := by kernel_rfl
theorem sslices_BinarySearchFunc_i_StoItem_i_StoItem_string__i_StoStore_find_1 : Sound Go.Proofs.Tryd.prog 92 msslices_BinarySearchFunc_i_StoItem_i_StoItem_string__i_StoStore_find_1 Fslices_BinarySearchFunc_i_StoItem_i_StoItem_string__i_StoStore_find_1 := by
  refine fn_gen goodslices_BinarySearchFunc_i_StoItem_i_StoItem_string__i_StoStore_find_1 (by kernel_rfl) .std (fn := Go.Proofs.Tryd.f92) (c := (Go.Proofs.Tryd.f92.body.getD .skip)) (o := Oslices_BinarySearchFunc_i_StoItem_i_StoItem_string__i_StoStore_find_1_1) (k := 1) (by kernel_rfl) (by kernel_rfl) (by kernel_rfl) (by kernel_rfl) (by decide) kslices_BinarySearchFunc_i_StoItem_i_StoItem_string__i_StoStore_find_1_1 ?_
  intro ys r outs h
  unfold Fslices_BinarySearchFunc_i_StoItem_i_StoItem_string__i_StoStore_find_1 at h
  split at h
  · exact (vslices_BinarySearchFunc_i_StoItem_i_StoItem_string__i_StoStore_find_1 _ _).trans h
  · cases h
end Go.Proofs.YtjoggjjjlafdmaaDoor.E
end
section
namespace Go.Proofs.YtjoggjjjlafdmaaDoor.E
open Go
set_option maxRecDepth 100000
set_option maxHeartbeats 0
set_option linter.all false
noncomputable def Ei_StoStore_find : Env where
  tt := mkTI Go.Proofs.Tryd.prog
  fn := fun f => match f with
    | 92 => some (msslices_BinarySearchFunc_i_StoItem_i_StoItem_string__i_StoStore_find_1, FSem.wk msslices_BinarySearchFunc_i_StoItem_i_StoItem_string__i_StoStore_find_1 Fslices_BinarySearchFunc_i_StoItem_i_StoItem_string__i_StoStore_find_1)
    | _ => none
  bxf := fun _ => none
  mv := []
  keep := fun _ => []
  keepB := fun _ => []
  keepX := fun _ => []
  keepXB := fun _ => []
theorem goodFi_StoStore_find : ∀ f ms F, Ei_StoStore_find.fn f = some (ms, F) → Sound Go.Proofs.Tryd.prog f ms F := fun f ms F h => by
  unfold Ei_StoStore_find at h
  dsimp only at h
  split at h
  · injection h with h; injection h with e1 e2; subst e1 e2; exact Sound.wk sslices_BinarySearchFunc_i_StoItem_i_StoItem_string__i_StoStore_find_1
  · cases h
theorem goodBi_StoStore_find : ∀ f ms F, Ei_StoStore_find.bxf f = some (ms, F) → SoundB Go.Proofs.Tryd.prog f ms F := fun f ms F h => by cases h
theorem goodi_StoStore_find : Good Go.Proofs.Tryd.prog Ei_StoStore_find := ⟨rfl, goodFi_StoStore_find, goodBi_StoStore_find⟩
noncomputable def Oi_StoStore_find_0 : Orc := fun _ _ => none
noncomputable def msi_StoStore_find : List PM := [.rd, .own]
noncomputable def lsi_StoStore_find : List (Nat × Code) := loopsAll 0 (Go.Proofs.Tryd.f70.body.getD .skip)

theorem ki_StoStore_find_0 : OrcOk Ei_StoStore_find Oi_StoStore_find_0 lsi_StoStore_find 0 := orcOk_none
noncomputable def g_Ai_StoStore_find (a0 : List ((ByteArray) × (List (Int)))) (a1 : ByteArray) : Bool := g_Aslices_BinarySearchFunc_i_StoItem_i_StoItem_string__i_StoStore_find_1 a0 a1
noncomputable def Fi_StoStore_find : FSem := fun ys => match ys with
  | [.val true [.sl .any 41 (.pair .str (.sl 3 (.int .i64))) a0], .val false [.str a1]] => some ((g_Ai_StoStore_find a0 a1), .tup [(false, [.int .i64 (g_Vslices_BinarySearchFunc_i_StoItem_i_StoItem_string__i_StoStore_find_1_0 a0 a1)]), (false, [.bool (g_Vslices_BinarySearchFunc_i_StoItem_i_StoItem_string__i_StoStore_find_1_1 a0 a1)])], [])
  | _ => none
theorem vi_StoStore_find (a0 : List ((ByteArray) × (List (Int)))) (a1 : ByteArray) : collapseH .std Ei_StoStore_find Oi_StoStore_find_0 (execFn Ei_StoStore_find Go.Proofs.Tryd.f70 msi_StoStore_find [.val true [.sl .any 41 (.pair .str (.sl 3 (.int .i64))) a0], .val false [.str a1]]) = some ((g_Ai_StoStore_find a0 a1), .tup [(false, [.int .i64 (g_Vslices_BinarySearchFunc_i_StoItem_i_StoItem_string__i_StoStore_find_1_0 a0 a1)]), (false, [.bool (g_Vslices_BinarySearchFunc_i_StoItem_i_StoItem_string__i_StoStore_find_1_1 a0 a1)])], []) := by kernel_rfl
theorem si_StoStore_find : Sound Go.Proofs.Tryd.prog 70 msi_StoStore_find Fi_StoStore_find := by
  refine fn_gen goodi_StoStore_find (by kernel_rfl) .std (fn := Go.Proofs.Tryd.f70) (c := (Go.Proofs.Tryd.f70.body.getD .skip)) (o := Oi_StoStore_find_0) (k := 0) (by kernel_rfl) (by kernel_rfl) (by kernel_rfl) (by kernel_rfl) (by decide) ki_StoStore_find_0 ?_
  intro ys r outs h
  unfold Fi_StoStore_find at h
  split at h
  · exact (vi_StoStore_find _ _).trans h
  · cases h
end Go.Proofs.YtjoggjjjlafdmaaDoor.E
end
section
namespace Go.Proofs.YtjoggjjjlafdmaaDoor.E
open Go
set_option maxRecDepth 100000
set_option linter.all false
/-! Rows that are cut, and laid anew: for slices.Insert and slices.Delete -/
section
variable {P : Program}
/-- copy, cells of any number: all is read before anything is written. -/
theorem run_copy_rowN (w : World) (dT sT ty elem : TypeId) (sz : Nat) (g o dLen dCap : Nat) (a : Addr) (sLen sCap : Nat) (cur : Array Value) (t : TypeId) (cs : List Value)
    (hu : P.underlying dT = some (.slice elem)) (hs : (P.info? elem).map (·.size) = some sz)
    (hg : w.heap[g]? = some (.cells cur t (0, 0))) (hn : cs.length = Nat.min sLen dLen * sz)
    (hsrc : ∀ j v, cs[j]? = some v → w.cell? (a.add j) = some v) (hfit : o + cs.length ≤ cur.size) (h1 : ∀ v ∈ cs, v.oneCell' = true) :
    (Builtin.copy_ #[dT, sT] ty #[.slice (some ⟨g, o, none⟩) dLen dCap, .slice (some a) sLen sCap]).run P w =
      .ok (goInt (Nat.min sLen dLen)) (w.setRow g (cur.toList.take o ++ cs ++ cur.toList.drop (o + cs.length)).toArray) := by
  have hl := run_loadCells_list (P := P) w a cs hsrc
  have hst := run_storeCells_at P g o t cs 0 cur w hg (by simpa using hfit) h1
  cases hq : P.info? elem with
  | none => simp [hq] at hs
  | some i =>
    have hi : i.size = sz := by simpa [hq] using hs
    simp only [Nat.add_zero] at hst
    simp [Builtin.copy_, run_underlying hu, Builtin.lenOf, Builtin.firstCells, sizeOf, typeInfo, hq, hi, ← hn, hl, hst]
/-- clear, cells of any number. -/
theorem run_clear_rowN (w : World) (t e ty : TypeId) (z : Value) (ht : P.underlying t = some (.slice e)) (hv : ∀ w, (zeroValue e).run P w = .ok z w) (h1 : ∀ u ∈ z.cells.toList, u.oneCell' = true) (g o n c : Nat) (hn : 0 < n) (cur : Array Value) (te : TypeId)
    (hg : w.heap[g]? = some (.cells cur te (0, 0))) (hfit : o + n * z.cells.size ≤ cur.size) (hz : 0 < z.cells.size) :
    ∃ cs : List Value, cs.length = n * z.cells.size ∧ (Builtin.clear_ #[t] ty #[.slice (some ⟨g, o, none⟩) n c]).run P w = .ok (.tuple #[]) (w.setRow g (cur.toList.take o ++ cs ++ cur.toList.drop (o + cs.length)).toArray) := by
  have hlen : (Builtin.zeroCells z.cells n).toList.length = n * z.cells.size := by simp [Builtin.zeroCells]
  refine ⟨(Builtin.zeroCells z.cells n).toList, hlen, ?_⟩
  have hst := run_storeCells_at P g o te (Builtin.zeroCells z.cells n).toList 0 cur w hg (by rw [hlen]; omega) (by
    intro u hu
    simp only [Builtin.zeroCells, Array.toList_map, List.mem_map] at hu
    obtain ⟨i, _, rfl⟩ := hu
    have hi : i % z.cells.size < z.cells.size := Nat.mod_lt _ hz
    rw [getElem!_pos z.cells _ hi]
    exact h1 _ (Array.getElem_mem_toList hi))
  simp only [Nat.add_zero] at hst
  obtain ⟨m, rfl⟩ : ∃ m, n = m + 1 := ⟨n - 1, by omega⟩
  simp only [Builtin.clear_, run_underlying ht, hv, Sem.run_bind, Result.andThen_ok, hst]
  simp [run_underlying ht, hv, hst]
end
section
variable {α : Type}
theorem ins_low (vals v2 : List α) {a b sz : Nat} (h : a + sz ≤ b) (hb : b ≤ vals.length) : ((vals.take b ++ v2 ++ vals.drop b).drop a).take sz = (vals.drop a).take sz := by
  apply List.ext_getElem?
  intro k
  simp only [List.getElem?_take, List.getElem?_drop, List.append_assoc]
  by_cases hk : k < sz
  · rw [if_pos hk, if_pos hk, List.getElem?_append_left (by rw [List.length_take]; omega), List.getElem?_take, if_pos (by omega)]
  · rw [if_neg hk, if_neg hk]
theorem ins_mid (vals v2 : List α) {a b sz : Nat} (h : a + sz ≤ v2.length) (hb : b ≤ vals.length) : ((vals.take b ++ v2 ++ vals.drop b).drop (b + a)).take sz = (v2.drop a).take sz := by
  have hl : (vals.take b).length = b := by rw [List.length_take]; omega
  apply List.ext_getElem?
  intro k
  simp only [List.getElem?_take, List.getElem?_drop, List.append_assoc]
  by_cases hk : k < sz
  · rw [if_pos hk, if_pos hk, List.getElem?_append_right (by omega), List.getElem?_append_left (by omega)]
    congr 1
    omega
  · rw [if_neg hk, if_neg hk]
theorem ins_high (vals v2 : List α) {a b sz : Nat} (h : b ≤ a) (hb : b ≤ vals.length) : ((vals.take b ++ v2 ++ vals.drop b).drop (a + v2.length)).take sz = (vals.drop a).take sz := by
  have hl : (vals.take b).length = b := by rw [List.length_take]; omega
  apply List.ext_getElem?
  intro k
  simp only [List.getElem?_take, List.getElem?_drop, List.append_assoc]
  by_cases hk : k < sz
  · rw [if_pos hk, if_pos hk, List.getElem?_append_right (by omega), List.getElem?_append_right (by omega), List.getElem?_drop]
    congr 1
    omega
  · rw [if_neg hk, if_neg hk]
theorem del_low (vals : List α) {a b c sz : Nat} (h : a + sz ≤ b) (hb : b ≤ vals.length) : ((vals.take b ++ vals.drop c).drop a).take sz = (vals.drop a).take sz := by
  apply List.ext_getElem?
  intro k
  simp only [List.getElem?_take, List.getElem?_drop]
  by_cases hk : k < sz
  · rw [if_pos hk, if_pos hk, List.getElem?_append_left (by rw [List.length_take]; omega), List.getElem?_take, if_pos (by omega)]
  · rw [if_neg hk, if_neg hk]
theorem del_high (vals : List α) {a b c sz : Nat} (hb : b ≤ vals.length) : ((vals.take b ++ vals.drop c).drop (b + a)).take sz = (vals.drop (c + a)).take sz := by
  have hl : (vals.take b).length = b := by rw [List.length_take]; omega
  apply List.ext_getElem?
  intro k
  simp only [List.getElem?_take, List.getElem?_drop]
  by_cases hk : k < sz
  · rw [if_pos hk, if_pos hk, List.getElem?_append_right (by omega), List.getElem?_drop]
    congr 1
    omega
  · rw [if_neg hk, if_neg hk]
/-- A row behind the two copies of slices.Insert, in place. -/
theorem row_shift (cur vs : List α) {b n m : Nat} (hb : b ≤ n) (hm : vs.length = m) (hn : n + m ≤ cur.length) (A : List α)
    (hA : A = cur.take (b + m) ++ (cur.drop b).take (n - b) ++ cur.drop (b + m + (n - b))) :
    (A.take b ++ vs ++ A.drop (b + m)).take (n + m) = (cur.take n).take b ++ vs ++ (cur.take n).drop b := by
  subst hA
  apply List.ext_getElem?
  intro k
  have l1 : (cur.take (b + m)).length = b + m := by rw [List.length_take]; omega
  have l2 : ((cur.drop b).take (n - b)).length = n - b := by rw [List.length_take, List.length_drop]; omega
  have l3 : (cur.take b).length = b := by rw [List.length_take]; omega
  have e1 : (cur.take (b + m) ++ (cur.drop b).take (n - b) ++ cur.drop (b + m + (n - b))).take b = cur.take b := by
    rw [List.append_assoc, List.take_append_of_le_length (by omega), List.take_take, Nat.min_eq_left (by omega)]
  have e2 : (cur.take (b + m) ++ (cur.drop b).take (n - b) ++ cur.drop (b + m + (n - b))).drop (b + m) = (cur.drop b).take (n - b) ++ cur.drop (b + m + (n - b)) := by
    rw [List.append_assoc]
    exact List.drop_left' l1
  rw [e1, e2, List.take_take, Nat.min_eq_left (by omega), List.append_assoc, ← List.append_assoc vs, ← List.append_assoc, ← List.append_assoc, List.take_left' (by simp only [List.length_append, l2, l3, hm]; omega), List.drop_take]
/-- .. and in a new row. -/
theorem row_grow (vals vs zs : List α) {b n m : Nat} (hb : b ≤ n) (hn : vals.length = n) (hm : vs.length = m) (A : List α) (hz : n + m ≤ b + zs.length)
    (hA : A = (vals.take b ++ zs).take b ++ vs ++ (vals.take b ++ zs).drop (b + m)) :
    (A.take (b + m) ++ vals.drop b ++ A.drop (b + m + (n - b))).take (n + m) = vals.take b ++ vs ++ vals.drop b := by
  subst hA
  have l1 : (vals.take b).length = b := by rw [List.length_take]; omega
  have l2 : (vals.drop b).length = n - b := by rw [List.length_drop]; omega
  have e1 : ((vals.take b ++ zs).take b ++ vs ++ (vals.take b ++ zs).drop (b + m)).take (b + m) = vals.take b ++ vs := by
    rw [List.take_left' (l₁ := (vals.take b ++ zs).take b ++ vs) (by rw [List.length_append, List.length_take, List.length_append]; omega), List.take_left' l1]
  rw [e1]
  rw [List.take_left' (l₁ := vals.take b ++ vs ++ vals.drop b) (by simp only [List.length_append, l1, l2, hm]; omega)]
/-- .. behind slices.Delete. -/
theorem row_del (cur zs : List α) {b c n : Nat} (hb : b ≤ c) (hc : c ≤ n) (hn : n ≤ cur.length) (hz : zs.length = c - b) (A : List α)
    (hA : A = cur.take b ++ (cur.drop c).take (n - c) ++ cur.drop (b + (n - c))) :
    (A.take (b + (n - c)) ++ zs ++ A.drop (b + (n - c) + zs.length)).take (b + (n - c)) = (cur.take n).take b ++ (cur.take n).drop c := by
  subst hA
  have l1 : (cur.take b).length = b := by rw [List.length_take]; omega
  have l2 : ((cur.drop c).take (n - c)).length = n - c := by rw [List.length_take, List.length_drop]; omega
  have e1 : (cur.take b ++ (cur.drop c).take (n - c) ++ cur.drop (b + (n - c))).take (b + (n - c)) = cur.take b ++ (cur.drop c).take (n - c) := List.take_left' (by rw [List.length_append, l1, l2])
  rw [e1, List.append_assoc (cur.take b ++ _), List.take_left' (by rw [List.length_append, l1, l2]), List.take_take, Nat.min_eq_left (by omega), List.drop_take]
end
/-- Cells of rows that are owned, deep, are one cell each. -/
theorem own_one {w : World} {e : Ty} {l : List e.den} {vals : List Value} {ψ : Nat → Nat → Prop} (hz : 0 < e.size) (hl : vals.length = l.length * e.size)
    (h : ∀ (i : Nat) (x : e.den), l[i]? = some x → OWc w e x (ψ i) ((vals.drop (i * e.size)).take e.size)) : ∀ u ∈ vals, u.oneCell' = true := by
  intro u hu
  obtain ⟨k, hk, rfl⟩ := List.getElem_of_mem hu
  have hi : k / e.size < l.length := by rw [Nat.div_lt_iff_lt_mul hz]; omega
  have h1 := h _ _ (List.getElem?_eq_getElem hi)
  have h2 := (cellsOf_rep (X := bare w (fun _ => True)) e _ _ (OWc.ro (S := fun _ => True) (fun _ _ => trivial) _ _ _ h1)).2
  refine h2 _ (List.mem_of_getElem? (i := k % e.size) ?_)
  rw [List.getElem?_take, if_pos (Nat.mod_lt _ hz), List.getElem?_drop, Nat.mul_comm, Nat.div_add_mod, List.getElem?_eq_getElem hk]
/-- A row that is handed on, at the border. -/
theorem given_row {w : World} {S : Nat → Prop} {ψ : Nat → Nat → Prop} {z : NZ} {el : Nat} {e : Ty} {l : List e.den} {v : Value} (h : Given w S ψ .own (.val false [.own z true el e l]) v) : RowRep w S (ψ 1) ⟨false, z, true, el, e, l⟩ v := by
  obtain ⟨vs, ⟨_, h1⟩, h2, _⟩ := h
  match vs, h1 with
  | [x], h1 => rw [h2]; exact h1.1
/-- A row that comes back: the one that was given, or a new one. -/
theorem trip_row {w w' : World} {S : Nat → Prop} {ψ : Nat → Nat → Nat → Prop} (hh : Hands w S ψ) {v v' : Value} {φ : Nat → Prop} (hφ : ∀ g, φ g → ∃ i c, ψ i c g) (hv : ∀ g, v.ownBlock = some g → φ g)
    (hgr : w.grownBy w' v.ownBlock) (hv' : v'.ownBlock = v.ownBlock ∨ v'.ownBlock = some w.heap.size) (hlt : ∀ g, v'.ownBlock = some g → g < w'.heap.size)
    {z : NZ} {el : Nat} {e : Ty} {l : List e.den} (hr : RowRep w' S (fun g => φ g ∨ v'.ownBlock = some g) ⟨false, z, true, el, e, l⟩ v') :
    Trip w S ψ w' S (fun i c g => i = 0 ∧ c = 1 ∧ (φ g ∨ v'.ownBlock = some g)) ∧ ResRep w' S ((fun i c g => i = 0 ∧ c = 1 ∧ (φ g ∨ v'.ownBlock = some g)) 0) (.val false [.own z true el e l]) v' := by
  have old : ∀ g, φ g → g < w.heap.size ∧ ¬ S g := fun g h => by obtain ⟨i, c, h⟩ := hφ g h; exact hh.own i c g h
  have both : ∀ g, φ g ∨ v'.ownBlock = some g → φ g ∨ g = w.heap.size := by
    rintro g (h | h)
    · exact .inl h
    · rcases hv' with e | e
      · exact .inl (hv g (e ▸ h))
      · rw [e] at h; exact .inr (Option.some.inj h).symm
  refine ⟨⟨hgr.os, hgr.tape, hgr.output, hgr.size, fun g hg hn => ⟨hgr.block g hg fun e => hn (hφ g (hv g e.symm)), Iff.rfl, ?_⟩, ⟨fun g hg => Nat.lt_of_lt_of_le (hh.lt g hg) hgr.size, ?_, fun i c i' c' g h1 h2 => ⟨h1.1.trans h2.1.symm, h1.2.1.trans h2.2.1.symm⟩⟩⟩, ?_⟩
  · rintro ⟨_, _, _, _, h⟩
    rcases both g h with h | h
    · exact hn (hφ g h)
    · omega
  · rintro _ _ g ⟨_, _, h⟩
    refine ⟨?_, fun hS => ?_⟩
    · rcases h with h | h
      · exact Nat.lt_of_lt_of_le (old g h).1 hgr.size
      · exact hlt g h
    · rcases both g h with h | h
      · exact (old g h).2 hS
      · have := hh.lt g hS; omega
  · refine ⟨[v'], ⟨rfl, ⟨RowRep.move (fun g hg => ⟨hg, rfl⟩) (fun g hg => ⟨⟨rfl, rfl, hg⟩, rfl⟩) hr, trivial⟩⟩, rfl, fun _ => rfl⟩
/-- .. with some more in it. -/
theorem row_insert {w w' : World} {S φ φ2 : Nat → Prop} {z z2 : NZ} {el : Nat} {e : Ty} {l l2 : List e.den} {v v2 v' : Value} {i : Nat}
    (h : RowRep w S φ ⟨false, z, true, el, e, l⟩ v) (h2 : RowRep w S φ2 ⟨false, z2, true, el, e, l2⟩ v2) (hap : ∀ g, φ g → φ2 g → False) (hlt : ∀ g, φ g ∨ φ2 g → g < w.heap.size) (hi : i ≤ l.length)
    (hgr : w.grownBy w' v.ownBlock) (hv' : v'.ownBlock = v.ownBlock ∨ v'.ownBlock = some w.heap.size)
    (hown : ∀ vals vals2, w.ownsRow 0 el e.size v l.length vals → w.ownsRow 0 el e.size v2 l2.length vals2 → w'.ownsRow 0 el e.size v' (l.length + l2.length) (vals.take (i * e.size) ++ vals2 ++ vals.drop (i * e.size))) :
    RowRep w' S (fun g => (φ g ∨ φ2 g) ∨ v'.ownBlock = some g) ⟨false, .any, true, el, e, l.take i ++ (l2 ++ l.drop i)⟩ v' := by
  obtain ⟨_, h⟩ := h
  obtain ⟨_, h2⟩ := h2
  rw [if_neg (by simp)] at h h2
  obtain ⟨vals, o1, o2, o3⟩ := h
  obtain ⟨vals2, p1, p2, p3⟩ := h2
  rw [if_pos rfl] at o3 p3
  obtain ⟨ψ, a1, a2, a3⟩ := o3
  obtain ⟨ψ2, b1, b2, b3⟩ := p3
  have ho := hown vals vals2 o1 p1
  have hl1 : vals.length = l.length * e.size := o1.1
  have hl2 : vals2.length = l2.length * e.size := p1.1
  have hb : i * e.size ≤ vals.length := by rw [hl1]; exact Nat.mul_le_mul_right _ hi
  have keep : ∀ g, g < w.heap.size → v.ownBlock ≠ some g → w'.heap[g]? = w.heap[g]? := fun g hg hne => hgr.block g hg fun e => hne e.symm
  have new : ∀ g, g < w.heap.size → v.ownBlock ≠ some g → v'.ownBlock ≠ some g := by
    intro g hg hne e
    rcases hv' with h | h
    · exact hne (h ▸ e)
    · rw [h] at e; have := Option.some.inj e; omega
  have f1 : ∀ j g, ψ j g → g < w.heap.size ∧ v.ownBlock ≠ some g := fun j g h => ⟨hlt g (.inl (a1 j g h).1), (a1 j g h).2⟩
  have f2 : ∀ j g, ψ2 j g → g < w.heap.size ∧ v.ownBlock ≠ some g := fun j g h => ⟨hlt g (.inr (b1 j g h).1), fun e => hap g (o2 g e) (b1 j g h).1⟩
  refine ⟨trivial, ?_⟩
  rw [if_neg (by simp)]
  refine ⟨_, by simpa only [List.length_append, List.length_take, List.length_drop, Nat.min_eq_left hi, show i + (l2.length + (l.length - i)) = l.length + l2.length by omega] using ho, fun g hg => .inr hg, ?_⟩
  rw [if_pos rfl]
  refine ⟨fun j => if j < i then ψ j else if j < i + l2.length then ψ2 (j - i) else ψ (j - l2.length), fun j g hg => ?_, fun j k g hj hk => ?_, fun j x hx => ?_⟩
  · dsimp only at hg
    split at hg
    · exact ⟨.inl (.inl (a1 _ _ hg).1), new g (f1 _ _ hg).1 (f1 _ _ hg).2⟩
    · split at hg
      · exact ⟨.inl (.inr (b1 _ _ hg).1), new g (f2 _ _ hg).1 (f2 _ _ hg).2⟩
      · exact ⟨.inl (.inl (a1 _ _ hg).1), new g (f1 _ _ hg).1 (f1 _ _ hg).2⟩
  · dsimp only at hj hk
    split at hj <;> split at hk
    · exact a2 _ _ _ hj hk
    · split at hk
      · exact (hap g (a1 _ _ hj).1 (b1 _ _ hk).1).elim
      · have := a2 _ _ _ hj hk; omega
    · split at hj
      · exact (hap g (a1 _ _ hk).1 (b1 _ _ hj).1).elim
      · have := a2 _ _ _ hj hk; omega
    · split at hj <;> split at hk
      · have := b2 _ _ _ hj hk; omega
      · exact (hap g (a1 _ _ hk).1 (b1 _ _ hj).1).elim
      · exact (hap g (a1 _ _ hj).1 (b1 _ _ hk).1).elim
      · have := a2 _ _ _ hj hk; omega
  · have hx : (l.take i ++ (l2 ++ l.drop i))[j]? = some x := hx
    have hlt' : (l.take i).length = i := by rw [List.length_take]; omega
    dsimp only
    split
    · rename_i hj
      rw [List.getElem?_append_left (by omega), List.getElem?_take, if_pos hj] at hx
      have e1 : j * e.size + e.size ≤ i * e.size := by rw [← Nat.succ_mul]; exact Nat.mul_le_mul_right _ hj
      rw [ins_low vals vals2 e1 hb]
      exact OWc.move (fun g hg => ⟨hg, keep g (f1 _ _ hg).1 (f1 _ _ hg).2⟩) _ _ _ (a3 j x hx)
    · rename_i hj
      rw [List.getElem?_append_right (by omega), hlt'] at hx
      split
      · rename_i hj2
        rw [List.getElem?_append_left (by omega)] at hx
        have e1 : (j - i) * e.size + e.size ≤ vals2.length := by rw [hl2, ← Nat.succ_mul]; exact Nat.mul_le_mul_right _ (by omega)
        have e2 : j * e.size = i * e.size + (j - i) * e.size := by rw [← Nat.add_mul]; congr 1; omega
        rw [e2, ins_mid vals vals2 e1 hb]
        exact OWc.move (fun g hg => ⟨hg, keep g (f2 _ _ hg).1 (f2 _ _ hg).2⟩) _ _ _ (b3 _ x hx)
      · rename_i hj2
        rw [List.getElem?_append_right (by omega), List.getElem?_drop, show i + (j - i - l2.length) = j - l2.length by omega] at hx
        have e2 : j * e.size = (j - l2.length) * e.size + vals2.length := by rw [hl2, ← Nat.add_mul]; congr 1; omega
        have e3 : i * e.size ≤ (j - l2.length) * e.size := Nat.mul_le_mul_right _ (by omega)
        rw [e2, ins_high vals vals2 e3 hb]
        exact OWc.move (fun g hg => ⟨hg, keep g (f1 _ _ hg).1 (f1 _ _ hg).2⟩) _ _ _ (a3 _ x hx)
/-- .. with some less. -/
theorem row_delete {w w' : World} {S φ : Nat → Prop} {z : NZ} {el : Nat} {e : Ty} {l : List e.den} {v v' : Value} {i k : Nat}
    (h : RowRep w S φ ⟨false, z, true, el, e, l⟩ v) (hlt : ∀ g, φ g → g < w.heap.size) (hi : i ≤ k) (hk : k ≤ l.length)
    (hgr : w.grownBy w' v.ownBlock) (hv' : v'.ownBlock = v.ownBlock)
    (hown : ∀ vals, w.ownsRow 0 el e.size v l.length vals → w'.ownsRow 0 el e.size v' (l.length - (k - i)) (vals.take (i * e.size) ++ vals.drop (k * e.size))) :
    RowRep w' S (fun g => φ g ∨ v'.ownBlock = some g) ⟨false, .any, true, el, e, l.take i ++ l.drop k⟩ v' := by
  obtain ⟨_, h⟩ := h
  rw [if_neg (by simp)] at h
  obtain ⟨vals, o1, o2, o3⟩ := h
  rw [if_pos rfl] at o3
  obtain ⟨ψ, a1, a2, a3⟩ := o3
  have ho := hown vals o1
  have hl1 : vals.length = l.length * e.size := o1.1
  have hb : i * e.size ≤ vals.length := by rw [hl1]; exact Nat.mul_le_mul_right _ (by omega)
  have f1 : ∀ j g, ψ j g → g < w.heap.size ∧ v.ownBlock ≠ some g := fun j g h => ⟨hlt g (a1 j g h).1, (a1 j g h).2⟩
  have keep : ∀ j g, ψ j g → w'.heap[g]? = w.heap[g]? := fun j g h => hgr.block g (f1 j g h).1 fun e => (f1 j g h).2 e.symm
  refine ⟨trivial, ?_⟩
  rw [if_neg (by simp)]
  refine ⟨_, by simpa only [List.length_append, List.length_take, List.length_drop, Nat.min_eq_left (show i ≤ l.length by omega), show i + (l.length - k) = l.length - (k - i) by omega] using ho, fun g hg => .inr hg, ?_⟩
  rw [if_pos rfl]
  refine ⟨fun j => if j < i then ψ j else ψ (j + (k - i)), fun j g hg => ?_, fun j m g hj hm => ?_, fun j x hx => ?_⟩
  · dsimp only at hg
    split at hg
    · exact ⟨.inl (a1 _ _ hg).1, by rw [hv']; exact (a1 _ _ hg).2⟩
    · exact ⟨.inl (a1 _ _ hg).1, by rw [hv']; exact (a1 _ _ hg).2⟩
  · dsimp only at hj hm
    split at hj <;> split at hm <;> (have := a2 _ _ _ hj hm; omega)
  · have hx : (l.take i ++ l.drop k)[j]? = some x := hx
    have hlt' : (l.take i).length = i := by rw [List.length_take]; omega
    dsimp only
    split
    · rename_i hj
      rw [List.getElem?_append_left (by omega), List.getElem?_take, if_pos hj] at hx
      have e1 : j * e.size + e.size ≤ i * e.size := by rw [← Nat.succ_mul]; exact Nat.mul_le_mul_right _ hj
      rw [del_low vals e1 hb]
      exact OWc.move (fun g hg => ⟨hg, keep _ g hg⟩) _ _ _ (a3 j x hx)
    · rename_i hj
      rw [List.getElem?_append_right (by omega), hlt', List.getElem?_drop] at hx
      have e2 : j * e.size = i * e.size + (j - i) * e.size := by rw [← Nat.add_mul]; congr 1; omega
      have e3 : k * e.size + (j - i) * e.size = (j + (k - i)) * e.size := by rw [← Nat.add_mul]; congr 1; omega
      rw [e2, del_high vals hb, e3]
      rw [show k + (j - i) = j + (k - i) by omega] at hx
      exact OWc.move (fun g hg => ⟨hg, keep _ g hg⟩) _ _ _ (a3 _ x hx)
end Go.Proofs.YtjoggjjjlafdmaaDoor.E
end
section
namespace Go.Proofs.YtjoggjjjlafdmaaDoor.E
open Go Go.RowKit Go.Shelf Go.Lib
set_option linter.all false
theorem step_append_runQ {P : Program} {ops : Array Oper} {o : Oper} {a : Act} {w : World} {K : Act → World → Prop} {Q : Exit → Act → World → Prop} {E : Prop}
    (hg : o.guard = none) (d x : Operand) (dT sT : TypeId) (hop : o.op = Op.call { callee := Callee.builtin Builtin.append, args := #[d, x], argTypes := #[dT, sT] })
    (v u : Value) (hd : a.eval d = v) (hx : a.eval x = u) {v' : Value} {w' : World} (hr : (Builtin.append_ #[dT, sT] o.type #[v, u]).run P w = .ok v' w') (hK : K (a.put o.dst v') w') :
    if Region.wanted o (yielded ops a.tmps) = true then Oper.wp P o a w K Q else E := by
  have hw : Region.wanted o (yielded ops a.tmps) = true := by simp [Region.wanted, hg]
  rw [if_pos hw]
  unfold Oper.wp
  simp [execOp, hop, resolve, invoke, builtin, hd, hx, hr, Result.andThen]
  exact hK
set_option maxHeartbeats 4000000 in
set_option maxRecDepth 1000000 in
/-- slices.Delete, in place: what is moved, and what is cleared. -/
theorem del_f (g n c i j : Nat) (cur : Array Value) (w : World) (hg : w.heap[g]? = some (.cells cur 41 (0, 0))) (hnc : n ≤ c) (hc63 : c ≤ 9223372036854775807) (hcs : cur.size = c * 2) (hij : i < j) (hj : j ≤ n) (h1 : ∀ v ∈ cur.toList.take (n * 2), v.oneCell' = true) :
    Calls Go.Proofs.Tryd.prog 71 #[.slice (some ⟨g, 0, none⟩) n c, .int .i64 i, .int .i64 j] w fun e w' => e = .returned (.slice (some ⟨g, 0, none⟩) (i + (n - j)) c) ∧
      ∃ (A : List Value) (zs : List Value), A = cur.toList.take (i * 2) ++ (cur.toList.drop (j * 2)).take (n * 2 - j * 2) ++ cur.toList.drop (i * 2 + (n * 2 - j * 2)) ∧ zs.length = j * 2 - i * 2 ∧ w' = (w.drew.setRow g A.toArray).setRow g (A.take (i * 2 + (n * 2 - j * 2)) ++ zs ++ A.drop (i * 2 + (n * 2 - j * 2) + zs.length)).toArray := by
  have t0 : Go.Proofs.Tryd.prog.underlying 23 = some (.slice 41) := by kernel_rfl
  have hsz : (Go.Proofs.Tryd.prog.info? 41).map (·.size) = some 2 := by kernel_rfl
  obtain ⟨i0, hi0, hz0⟩ : ∃ i0, Go.Proofs.Tryd.prog.info? 41 = some i0 ∧ i0.size = 2 := by
    cases h : Go.Proofs.Tryd.prog.info? 41 with
    | none => rw [h] at hsz; cases hsz
    | some i0 => rw [h] at hsz; exact ⟨i0, rfl, by simpa using hsz⟩
  obtain ⟨news, hnews⟩ : ∃ news, news = (cur.toList.drop (j * 2)).take (n * 2 - j * 2) := ⟨_, rfl⟩
  have hcl0 : cur.toList.length = c * 2 := by rw [Array.length_toList]; exact hcs
  have hlen : news.length = n * 2 - j * 2 := by rw [hnews, List.length_take, List.length_drop]; omega
  have hget : ∀ t u, news[t]? = some u → w.drew.cell? ⟨g, j * 2 + t, none⟩ = some u := by
    intro t u hu
    rw [hnews, List.getElem?_take] at hu
    split at hu
    · rw [List.getElem?_drop, Array.getElem?_toList] at hu
      show w.cell? _ = _
      rw [cell_of_row w g (j * 2 + t) cur 41 (0, 0) hg]
      exact hu
    · cases hu
  have hone : ∀ u ∈ news, u.oneCell' = true := by
    intro u hu
    refine h1 u ?_
    rw [hnews, ← List.drop_take] at hu
    exact List.mem_of_mem_drop hu
  have hnl : news.length = (n - j) * 2 := by omega
  obtain ⟨A, hA⟩ : ∃ A : List Value, A = cur.toList.take (i * 2) ++ news ++ cur.toList.drop (i * 2 + news.length) := ⟨_, rfl⟩
  have hAl : A.length = c * 2 := by rw [hA]; simp only [List.length_append, List.length_take, List.length_drop, hcl0]; omega
  obtain ⟨W1, hW1⟩ : ∃ W1, W1 = w.drew.setRow g A.toArray := ⟨_, rfl⟩
  have hap : ∀ (ad : Addr), (∀ t u, news[t]? = some u → w.drew.cell? (ad.add t) = some u) → ∀ ty sc, (Builtin.append_ #[23, 23] ty #[.slice (some ⟨g, 0, none⟩) i c, .slice (some ad) (n - j) sc]).run Go.Proofs.Tryd.prog w.drew = .ok (.slice (some ⟨g, 0, none⟩) (i + (n - j)) c) W1 := by
    intro ad had ty sc
    have := run_append_room (P := Go.Proofs.Tryd.prog) w.drew 23 ty 41 i0 t0 hi0 g i c cur hg ad (n - j) sc news (by rw [hz0]; exact hnl) had hone (by omega) (by rw [hz0, hcs]; omega)
    rw [hz0] at this
    rw [this, hW1, hA]
  have hH1 : W1.heap[g]? = some (.cells A.toArray 41 (0, 0)) := by rw [hW1]; exact setRow_heap w.drew g cur _ 41 _ hg
  obtain ⟨zs, hzl, hcl⟩ := run_clear_rowN (P := Go.Proofs.Tryd.prog) W1 23 41 0 (.agg #[.string ⟨#[]⟩, .slice none 0 0]) t0 (fun _ => by kernel_rfl) (by intro u hu; simp [Value.cells] at hu; rcases hu with rfl | rfl <;> rfl) g ((i + (n - j)) * 2) (n - (i + (n - j))) (c - (i + (n - j))) (by omega) A.toArray 41 hH1 (by simp [Value.cells, hAl]; omega) (by simp [Value.cells])
  have hzl : zs.length = j * 2 - i * 2 := by rw [hzl]; simp [Value.cells]; omega
  obtain ⟨A0, hA0, hsrc⟩ : ∃ A0 : Addr, (if c = j then some (⟨g, 0, none⟩ : Addr) else some ⟨g, j * 2, none⟩) = some A0 ∧ Hid (∀ t u, news[t]? = some u → w.drew.cell? (A0.add t) = some u) := by
    by_cases h : c = j
    · refine ⟨⟨g, 0, none⟩, by simp [h], fun t u hu => ?_⟩
      have h0 : news.length = 0 := by omega
      rw [List.length_eq_zero_iff.1 h0] at hu
      simp at hu
    · exact ⟨⟨g, j * 2, none⟩, by simp [h], fun t u hu => by rw [Addr.add_lit]; exact hget t u hu⟩
  have hic : i ≤ c := by omega
  have hjc : j ≤ c := by omega
  have mixed : Go.Proofs.Tryd.prog.follows .mixedOrders = true := by kernel_rfl
  have X1 : Hid (W1 = w.drew.setRow g A.toArray) := hW1
  have X2 : Hid (A = cur.toList.take (i * 2) ++ (cur.toList.drop (j * 2)).take (n * 2 - j * 2) ++ cur.toList.drop (i * 2 + (n * 2 - j * 2))) := by
    show A = _
    rw [hA, hlen, hnews]
  have X3 : Hid (zs.length = j * 2 - i * 2) := hzl
  have hoff : (i + (n - j)) * 2 = i * 2 + (n * 2 - j * 2) := by omega
  rw [hoff] at hcl
  have X4 : Hid ((i + (n - j)) * 2 = i * 2 + (n * 2 - j * 2)) := hoff
  rw [← hoff] at hcl
  clear hW1 hA hnews hH1 hget hone hcl0 hlen hnl hAl hzl hoff hg hcs h1
  go_enter Go.Proofs.Tryd.func71, Go.Proofs.Tryd.ntmps71
  go_wp2_with fail
  go_region_law_o (refine step_append_runQ rfl (.tmp 22) (.tmp 25) 23 23 rfl (.slice (some ⟨g, 0, none⟩) i c) (.slice (some A0) (n - j) (c - j)) (by simp [Act.eval, Act.put]) (by simp [Act.eval, Act.put]) (hap A0 hsrc.out _ _) ?_)
  go_wp2
  go_ret
  refine ⟨rfl, A, zs, X2.out, X3.out, ?_⟩
  have e : (n - (i + (n - j))) * 2 = zs.length := by rw [X3.out]; omega
  rw [← X1.out, ← X4.out, e, List.append_assoc]
def msslices_Delete_i_StoItem_i_StoItem : List PM := [.own, .own, .own]
/-- Some elements go. -/
def g_Vslices_Delete_i_StoItem_i_StoItem_0 (l : List (ByteArray × List Int)) (i j : Int) : List (ByteArray × List Int) := l.take i.toNat ++ l.drop j.toNat
def g_Aslices_Delete_i_StoItem_i_StoItem (l : List (ByteArray × List Int)) (i j : Int) : Bool := decide (0 ≤ i ∧ i < j ∧ j ≤ l.length)
def Fslices_Delete_i_StoItem_i_StoItem : FSem := fun ys => match ys with
  | [.val false [.own .any true 41 (.pair .str (.sl 3 (.int .i64))) a0], .val false [.int .i64 a1], .val false [.int .i64 a2]] => some (g_Aslices_Delete_i_StoItem_i_StoItem a0 a1 a2, .val false [.own .any true 41 (.pair .str (.sl 3 (.int .i64))) (g_Vslices_Delete_i_StoItem_i_StoItem_0 a0 a1 a2)], [])
  | _ => none
theorem sslices_Delete_i_StoItem_i_StoItem : Sound Go.Proofs.Tryd.prog 71 msslices_Delete_i_StoItem_i_StoItem Fslices_Delete_i_StoItem_i_StoItem := by
  refine ⟨⟨_, Go.Proofs.Tryd.func71, by kernel_rfl, by kernel_rfl⟩, fun w S ψ ys vs r outs hF hh hg => ?_⟩
  unfold Fslices_Delete_i_StoItem_i_StoItem at hF
  split at hF
  · rename_i l i j
    simp only [Option.some.injEq, Prod.mk.injEq, g_Aslices_Delete_i_StoItem_i_StoItem, decide_eq_true_eq] at hF
    obtain ⟨⟨h0, h1, h2⟩, rfl, rfl⟩ := hF
    match vs, hg with
    | [v0, v1, v2], hg =>
    have R := given_row hg.1
    have e1 : v1 = .int .i64 i := given_plain hg.2.1 rfl
    have e2 : v2 = .int .i64 j := given_plain hg.2.2.1 rfl
    subst e1 e2
    obtain ⟨i, rfl⟩ : ∃ k : Nat, i = (k : Int) := ⟨i.toNat, by omega⟩
    obtain ⟨j, rfl⟩ : ∃ k : Nat, j = (k : Int) := ⟨j.toNat, by omega⟩
    have R' := R
    obtain ⟨_, R'⟩ := R'
    rw [if_neg (by simp)] at R'
    obtain ⟨vals, o1, o2, o3⟩ := R'
    rw [if_pos rfl] at o3
    obtain ⟨ψ0, _, _, a3⟩ := o3
    have hone := own_one (e := .pair .str (.sl 3 (.int .i64))) (by decide) o1.1 a3
    have hsz : (Ty.pair .str (.sl 3 (.int .i64))).size = 2 := rfl
    rcases o1.2 with ⟨_, hn⟩ | ⟨g, cap, cur, rfl, _, hgg, hn, hcm, hcs, htake⟩
    · exfalso
      have hn : l.length = 0 := hn
      omega
    · have hn : l.length ≤ cap := hn
      have hcs : cur.size = cap * 2 := hcs
      have htake : cur.toList.take (l.length * 2) = vals := htake
      simp only [maxLen] at hcm
      refine Calls.mono (del_f g l.length cap i j cur w hgg hn hcm hcs (by omega) (by omega) (by rw [htake]; exact hone)) ?_
      rintro e w' ⟨rfl, A, zs, hA, hz, rfl⟩
      have hcl : cur.toList.length = cap * 2 := by rw [Array.length_toList]; exact hcs
      have hAl : A.length = cap * 2 := by rw [hA]; simp only [List.length_append, List.length_take, List.length_drop, hcl]; omega
      have hw1 := setRow_heap w.drew g cur A.toArray 41 _ hgg
      have hw2 := setRow_heap (w.drew.setRow g A.toArray) g A.toArray (A.take (i * 2 + (l.length * 2 - j * 2)) ++ zs ++ A.drop (i * 2 + (l.length * 2 - j * 2) + zs.length)).toArray 41 _ hw1
      have hgr : w.grownBy ((w.drew.setRow g A.toArray).setRow g (A.take (i * 2 + (l.length * 2 - j * 2)) ++ zs ++ A.drop (i * 2 + (l.length * 2 - j * 2) + zs.length)).toArray) (some g) := by
        refine ⟨rfl, rfl, rfl, by simp, fun k _ hk => ?_⟩
        have hk : k ≠ g := fun e => hk (by rw [e])
        rw [setRow_other _ g k _ hk, setRow_other _ g k _ hk]
        rfl
      have hr := row_delete (z := .any) (i := i) (k := j) R (w' := (w.drew.setRow g A.toArray).setRow g (A.take (i * 2 + (l.length * 2 - j * 2)) ++ zs ++ A.drop (i * 2 + (l.length * 2 - j * 2) + zs.length)).toArray) (v' := .slice (some ⟨g, 0, none⟩) (i + (l.length - j)) cap) (fun g hg => (hh.own 0 1 g hg).1) (by omega) (by omega) hgr rfl (fun vals' ho => by
        have hv : vals' = vals := by
          rcases ho.2 with ⟨e, _⟩ | ⟨g', cap', cur', e, _, hg', _, _, _, ht'⟩
          · cases e
          · cases e
            rw [hgg] at hg'
            cases hg'
            rw [← ht', ← htake]
            rfl
        subst hv
        have hl := row_del cur.toList zs (b := i * 2) (c := j * 2) (n := l.length * 2) (by omega) (by omega) (by omega) (by omega) A hA
        refine ⟨?_, .inr ⟨g, cap, _, by rw [show l.length - (j - i) = i + (l.length - j) by omega], Nat.zero_le _, hw2, by omega, by simp only [maxLen]; omega, ?_, ?_⟩⟩
        · rw [hsz, List.length_append, List.length_take, List.length_drop, o1.1, hsz]
          show min (i * 2) (l.length * 2) + (l.length * 2 - j * 2) = (l.length - (j - i)) * 2
          omega
        · rw [hsz]
          simp only [List.size_toArray, List.length_append, List.length_take, List.length_drop, hAl]
          omega
        · rw [hsz, show (l.length - (j - i)) * 2 = i * 2 + (l.length * 2 - j * 2) by omega, ← htake]
          exact hl)
      obtain ⟨t1, t2⟩ := trip_row hh (v := .slice (some ⟨g, 0, none⟩) l.length cap) (v' := .slice (some ⟨g, 0, none⟩) (i + (l.length - j)) cap) (φ := ψ 0 1) (fun g hg => ⟨0, 1, hg⟩) o2 hgr (.inl rfl) (fun g' hg' => by cases hg'; exact (Array.getElem?_eq_some_iff.1 hw2).1) hr
      exact ⟨S, _, t1, t2, rfl⟩
  · cases hF
end Go.Proofs.YtjoggjjjlafdmaaDoor.E
end
section
namespace Go.Proofs.YtjoggjjjlafdmaaDoor.E
open Go Go.RowKit Go.Shelf Go.Lib
set_option linter.all false
section
variable {P : Program}
theorem wp_copy_runQ (w : World) {o : Oper} {a : Act} {K : Act → World → Prop} {Q : Exit → Act → World → Prop} (d s : Operand) (t t' : TypeId)
    (ho : o.op = .call { callee := .builtin .copy, args := #[d, s], argTypes := #[t, t'] }) (v u : Value) (hd : a.eval d = v) (hs : a.eval s = u) {v' : Value} {w' : World}
    (hr : (Builtin.copy_ #[t, t'] o.type #[v, u]).run P w = .ok v' w') (h : K (a.put o.dst v') w') : o.wp P a w K Q := by
  unfold Oper.wp execOp
  simp only [ho, resolve, invoke, builtin, Sem.run_bind, Sem.run_pure, Result.andThen_ok, List.map_toArray, List.map_cons, List.map_nil, hd, hs, hr]
  exact h
theorem wpList_copy_runQ (w : World) {ops : Array Oper} {rest : List Oper} {o : Oper} {a : Act} {Q : Exit → Act → World → Prop} (hgd : o.guard = none) (d s : Operand) (t t' : TypeId)
    (ho : o.op = .call { callee := .builtin .copy, args := #[d, s], argTypes := #[t, t'] }) (v u : Value) (hd : a.eval d = v) (hs : a.eval s = u) {v' : Value} {w' : World}
    (hr : (Builtin.copy_ #[t, t'] o.type #[v, u]).run P w = .ok v' w') (h : wpList P ops Q rest (a.put o.dst v') w') : wpList P ops Q (o :: rest) a w :=
  wpList_plain hgd fun _ hK => wp_copy_runQ w d s t t' ho v u hd hs hr (hK _ _ h)
theorem step_copy_runQ {ops : Array Oper} {o : Oper} {a : Act} {w : World} {K : Act → World → Prop} {Q : Exit → Act → World → Prop} {E : Prop}
    (hg : o.guard = none) (d x : Operand) (dT sT : TypeId) (hop : o.op = Op.call { callee := Callee.builtin Builtin.copy, args := #[d, x], argTypes := #[dT, sT] })
    (v u : Value) (hd : a.eval d = v) (hx : a.eval x = u) {v' : Value} {w' : World} (hr : (Builtin.copy_ #[dT, sT] o.type #[v, u]).run P w = .ok v' w') (hK : K (a.put o.dst v') w') :
    if Region.wanted o (yielded ops a.tmps) = true then Oper.wp P o a w K Q else E := by
  have hw : Region.wanted o (yielded ops a.tmps) = true := by simp [Region.wanted, hg]
  rw [if_pos hw]
  unfold Oper.wp
  simp [execOp, hop, resolve, invoke, builtin, hd, hx, hr, Result.andThen]
  exact hK
end
theorem ins_facts : Go.Proofs.Tryd.prog.underlying 23 = some (.slice 41) ∧ Go.Proofs.Tryd.prog.underlying 3 = some (.int .i64) ∧ (Go.Proofs.Tryd.prog.info? 41).map (fun i => (i.zero, i.size, i.bytes)) = some (some (.agg #[.string ⟨#[]⟩, .slice none 0 0]), 2, 40) ∧ (Go.Proofs.Tryd.prog.info? 41).map (·.size) = some 2 := ⟨by kernel_rfl, by kernel_rfl, by kernel_rfl, by kernel_rfl⟩
set_option maxHeartbeats 4000000 in
set_option maxRecDepth 1000000 in
/-- slices.Insert at the end. -/
theorem ins_end (n vb m vc : Nat) (v : Value) (xs vs : List Value) (w : World) (hown : w.ownsRow 0 41 2 v n xs) (hm : 0 < m) (hvl : vs.length = m * 2) (hvs : ∀ j u, vs[j]? = some u → w.cell? ⟨vb, j, none⟩ = some u) (h1 : ∀ u ∈ vs, u.oneCell' = true) (hbig : n + m ≤ 1000000) :
    Calls Go.Proofs.Tryd.prog 72 #[v, .int .i64 n, .slice (some ⟨vb, 0, none⟩) m vc] w fun e w' => ∃ v', e = .returned v' ∧ w'.ownsRow 0 41 2 v' (n + m) (xs ++ vs) ∧ w.grownBy w' v.ownBlock ∧ (v'.ownBlock = v.ownBlock ∨ v'.ownBlock = some w.heap.size) := by
  obtain ⟨t0, t3, i3, _⟩ := ins_facts
  obtain ⟨i0, hi0, hz0, hzs, hzb⟩ := info_parts i3
  have hz1 : ¬ ((m : Int) = 0) := by omega
  have hrun : ∀ ty, ∃ v' w', (Builtin.append_ #[23, 23] ty #[v, .slice (some ⟨vb, 0, none⟩) m vc]).run Go.Proofs.Tryd.prog w = .ok v' w' ∧ w'.ownsRow 0 41 2 v' (n + m) (xs ++ vs) ∧ w.grownBy w' v.ownBlock ∧ (v'.ownBlock = v.ownBlock ∨ v'.ownBlock = some w.heap.size) := fun ty => by
    have := append_own (P := Go.Proofs.Tryd.prog) (w := w) (ty := ty) t0 hi0 hz0 (by rw [hzs]; rfl) (by rw [hzs]; decide) (by rw [hzs]; exact hown) (ad := ⟨vb, 0, none⟩) (m := m) (c := vc) (news := vs) (by rw [hzs]; exact hvl) (fun j u hu => by rw [Addr.add_lit, Nat.zero_add]; exact hvs j u hu) h1 (by simp only [maxLen]; omega) (by rw [hzb]; omega)
    rw [hzs] at this
    exact this
  have mixed : Go.Proofs.Tryd.prog.follows .mixedOrders = true := by kernel_rfl
  rcases hown.2 with ⟨rfl, rfl⟩ | ⟨g, cap, cur, rfl, _, hgg, hn, hcm, hcs, htake⟩
  · obtain ⟨v', w', hr, k1, k2, k3⟩ := hrun 23
    go_enter Go.Proofs.Tryd.func72, Go.Proofs.Tryd.ntmps72
    go_wp2_with (at_builtin; refine Lib.wpList_append_run _ rfl _ _ _ _ rfl _ _ rfl rfl _ _ hr ?_)
    go_ret
    exact ⟨_, rfl, k1, k2, k3⟩
  · obtain ⟨v', w', hr, k1, k2, k3⟩ := hrun 23
    simp only [maxLen] at hcm
    go_enter Go.Proofs.Tryd.func72, Go.Proofs.Tryd.ntmps72
    go_wp2_with (at_builtin; refine Lib.wpList_append_run _ rfl _ _ _ _ rfl _ _ rfl rfl _ _ hr ?_)
    all_goals (go_ret; exact ⟨_, rfl, k1, k2, k3⟩)
set_option maxHeartbeats 4000000 in
set_option maxRecDepth 1000000 in
/-- .. in place. -/
theorem ins_shift (g n c i vb m vc : Nat) (cur : Array Value) (vs : List Value) (w : World) (hg : w.heap[g]? = some (.cells cur 41 (0, 0))) (hi : i < n) (hm : 0 < m) (hroom : n + m ≤ c) (hc63 : c ≤ 9223372036854775807) (hcs : cur.size = c * 2) (hvb : vb ≠ g)
    (curv : Array Value) (hv : w.heap[vb]? = some (.cells curv 41 (0, 0))) (hvl : vs.length = m * 2) (hvs : ∀ j u, vs[j]? = some u → w.cell? ⟨vb, j, none⟩ = some u) (h1c : ∀ v ∈ cur.toList.take (n * 2), v.oneCell' = true) (h1v : ∀ v ∈ vs, v.oneCell' = true) :
    Calls Go.Proofs.Tryd.prog 72 #[.slice (some ⟨g, 0, none⟩) n c, .int .i64 i, .slice (some ⟨vb, 0, none⟩) m vc] w fun e w' => ∃ v', e = .returned v' ∧ w'.ownsRow 0 41 2 v' (n + m) ((cur.toList.take (n * 2)).take (i * 2) ++ vs ++ (cur.toList.take (n * 2)).drop (i * 2)) ∧ w.grownBy w' (some g) ∧ (v'.ownBlock = some g ∨ v'.ownBlock = some w.heap.size) := by
  obtain ⟨t0, t3, i3, hsz⟩ := ins_facts
  have u0 := run_underlying t0
  have hz1 : ¬ ((m : Int) = 0) := by omega
  have hz2 : ¬ ((i : Int) = (n : Int)) := by omega
  have hcl : cur.toList.length = c * 2 := by rw [Array.length_toList]; exact hcs
  obtain ⟨cs, hcs0⟩ : ∃ cs, cs = (cur.toList.drop (i * 2)).take (n * 2 - i * 2) := ⟨_, rfl⟩
  have hdl : cs.length = n * 2 - i * 2 := by rw [hcs0, List.length_take, List.length_drop]; omega
  have hcsc : ∀ (W : World), W.heap[g]? = w.heap[g]? → ∀ j v, cs[j]? = some v → W.cell? ⟨g, i * 2 + j, none⟩ = some v := fun W hW j v hj => by
    rw [hcs0, List.getElem?_take] at hj
    split at hj
    · rw [List.getElem?_drop, Array.getElem?_toList] at hj
      rw [cell_of_row W g (i * 2 + j) cur 41 (0, 0) (hW.trans hg)]
      exact hj
    · cases hj
  have h1s : ∀ v ∈ cs, v.oneCell' = true := fun v hv => by
    rw [hcs0, ← List.drop_take] at hv
    exact h1c v (List.mem_of_mem_drop hv)
  obtain ⟨A, hA⟩ : ∃ A : List Value, A = cur.toList.take (i * 2 + m * 2) ++ cs ++ cur.toList.drop (i * 2 + m * 2 + cs.length) := ⟨_, rfl⟩
  have hAl : A.length = c * 2 := by rw [hA]; simp only [List.length_append, List.length_take, List.length_drop, hcl]; omega
  have hov : ∀ lb cb, (callFunc 95 #[.slice (some ⟨vb, 0, none⟩) m vc, .slice (some ⟨g, (i + m) * 2, none⟩) lb cb]).run Go.Proofs.Tryd.prog w = .ok (.value (.bool false)) w := fun lb cb => by
    rw [run_callFunc_extern Go.Proofs.Tryd.func95 (by kernel_rfl) (by kernel_rfl) (by kernel_rfl) (e := Extern.SlicesOverlaps.overlaps #[23, 23] #[4]) (by kernel_rfl),
      Lib.run_overlaps_apart w 23 4 41 t0 2 (fun _ => by kernel_rfl) ⟨vb, 0, none⟩ ⟨g, (i + m) * 2, none⟩ m vc lb cb hvb 41 41 curv.size cur.size (by simp [World.shape?, hv]) (by simp [World.shape?, hg]) (by omega) (by simp [World.frozen?, hv]) (by simp [World.frozen?, hv])]
    rfl
  have mixed : Go.Proofs.Tryd.prog.follows .mixedOrders = true := by kernel_rfl
  have hw1 : IntKind.i64.wrap ((i : Int) + (m : Int)) = (i : Int) + (m : Int) := by rw [IntKind.wrap_i64]; omega
  have hb1 : (0 : Int) ≤ (i : Int) + (m : Int) := by omega
  have hin : i ≤ n := by omega
  have htn : ((i : Int) + (m : Int)).toNat = i + m := by omega
  have hb2 : ¬ (c = i + m) := by omega
  have hb3 : (i : Int) ≤ (n : Int) + (m : Int) := by omega
  have hb4 : ¬ (c = i) := by omega
  obtain ⟨k1, hk1⟩ : ∃ k1 : Nat, k1 = Nat.min (n + m - i) (n + m - (i + m)) := ⟨_, rfl⟩
  have hcp1 : ∀ ty dc sc, (Builtin.copy_ #[23, 23] ty #[.slice (some ⟨g, (i + m) * 2, none⟩) (n + m - (i + m)) dc, .slice (some ⟨g, i * 2, none⟩) (n + m - i) sc]).run Go.Proofs.Tryd.prog w.drew = .ok (goInt k1) (w.drew.setRow g A.toArray) := fun ty dc sc => by
    have hmin : Nat.min (n + m - i) (n + m - (i + m)) = n - i := by simp only [Nat.min_def]; split <;> omega
    have := run_copy_rowN (P := Go.Proofs.Tryd.prog) w.drew 23 23 ty 41 2 g ((i + m) * 2) (n + m - (i + m)) dc ⟨g, i * 2, none⟩ (n + m - i) sc cur 41 cs t0 hsz hg (by rw [hmin, hdl]; omega) (fun j v hj => by rw [Addr.add_lit]; exact hcsc w.drew rfl j v hj) (by rw [hdl]; omega) h1s
    rw [this, hk1, hA, show (i + m) * 2 = i * 2 + m * 2 by omega]
  obtain ⟨W1, hW1⟩ : ∃ W1, W1 = w.drew.setRow g A.toArray := ⟨_, rfl⟩
  have hH1 : W1.heap[g]? = some (.cells A.toArray 41 (0, 0)) := by rw [hW1]; exact setRow_heap w.drew g cur _ 41 _ hg
  have hV1 : ∀ x, x.block = vb → W1.cell? x = w.cell? x := fun x hx => by
    rw [hW1]
    exact World.cell?_of_block (by rw [hx, setRow_other _ g vb _ hvb]; rfl)
  obtain ⟨B, hB⟩ : ∃ B : List Value, B = A.take (i * 2) ++ vs ++ A.drop (i * 2 + m * 2) := ⟨_, rfl⟩
  obtain ⟨k2, hk2⟩ : ∃ k2 : Nat, k2 = Nat.min m (n + m - i) := ⟨_, rfl⟩
  have hcp2 : ∀ (W : World), W.heap = W1.heap → ∀ ty dc, (Builtin.copy_ #[23, 23] ty #[.slice (some ⟨g, i * 2, none⟩) (n + m - i) dc, .slice (some ⟨vb, 0, none⟩) m vc]).run Go.Proofs.Tryd.prog W = .ok (goInt k2) (W.setRow g B.toArray) := fun W hW ty dc => by
    have hmin : Nat.min m (n + m - i) = m := by simp only [Nat.min_def]; split <;> omega
    have := run_copy_rowN (P := Go.Proofs.Tryd.prog) W 23 23 ty 41 2 g (i * 2) (n + m - i) dc ⟨vb, 0, none⟩ m vc A.toArray 41 vs t0 hsz (by rw [hW]; exact hH1) (by rw [hmin, hvl]) (fun j v hj => by
      rw [Addr.add_lit, Nat.zero_add, World.cell?_of_block (w := W1) (w' := W) (by rw [hW]), hV1 _ rfl]; exact hvs j v hj) (by rw [hvl, List.size_toArray, hAl]; omega) h1v
    rw [this, hk2, hvl, hB]
  have fin : Hid (∀ (W : World), W.heap = W1.heap → W.os = w.os → W.tape = w.tape → W.output = w.output → (W.setRow g B.toArray).ownsRow 0 41 2 (.slice (some ⟨g, 0, none⟩) (n + m) c) (n + m) ((cur.toList.take (n * 2)).take (i * 2) ++ vs ++ (cur.toList.take (n * 2)).drop (i * 2)) ∧ w.grownBy (W.setRow g B.toArray) (some g)) := by
    intro W e1 e2 e3 e4
    have hBl : B.length = c * 2 := by rw [hB]; simp only [List.length_append, List.length_take, List.length_drop, hAl, hvl]; omega
    have hh := setRow_heap W g A.toArray B.toArray 41 _ (by rw [e1]; exact hH1)
    refine ⟨⟨?_, .inr ⟨g, c, _, rfl, Nat.zero_le _, hh, hroom, by simp only [maxLen]; exact hc63, by rw [List.size_toArray, hBl], ?_⟩⟩, ⟨e2, e3, e4, ?_, fun k _ hk => ?_⟩⟩
    · simp only [List.length_append, List.length_take, List.length_drop, hcl, hvl]; omega
    · rw [show (n + m) * 2 = n * 2 + m * 2 by omega, hB]
      exact row_shift cur.toList vs (b := i * 2) (n := n * 2) (m := m * 2) (by omega) hvl (by omega) A (by rw [hA, hdl, hcs0])
    · have : (W.setRow g B.toArray).heap.size = W.heap.size := by simp
      rw [this, e1, hW1]
      simp
    · have hk : k ≠ g := fun e => hk (by rw [e])
      rw [setRow_other _ g k _ hk, e1, hW1, setRow_other _ g k _ hk]
      rfl
  rw [← hW1] at hcp1
  have X1 : Hid (W1 = w.drew.setRow g A.toArray) := hW1
  clear hW1 hA hB hk1 hk2 hH1 hV1 hcs0 hcsc h1s hcl hdl hAl hvl hvs h1c h1v hcs hg hv
  go_enter Go.Proofs.Tryd.func72, Go.Proofs.Tryd.ntmps72
  go_wp2_with (simp only [hov])
  go_region_law_o (refine step_copy_runQ rfl _ _ 23 23 rfl _ _ (by simp [Act.eval, Act.put]) (by simp [Act.eval, Act.put]) (hcp1 _ _ _) ?_)
  go_wp2_with (at_builtin; refine wpList_copy_runQ _ rfl _ _ 23 23 rfl _ _ rfl rfl (hcp2 _ rfl _ _) ?_)
  go_ret
  obtain ⟨f1, f2⟩ := fin.out W1 rfl (by rw [X1.out]; rfl) (by rw [X1.out]; rfl) (by rw [X1.out]; rfl)
  exact ⟨_, rfl, f1, f2, .inl rfl⟩
set_option maxHeartbeats 4000000 in
set_option maxRecDepth 1000000 in
/-- .. in a new row. -/
theorem ins_grow (g n c i vb m vc : Nat) (cur : Array Value) (vs : List Value) (w : World) (hg : w.heap[g]? = some (.cells cur 41 (0, 0))) (hi : i < n) (hm : 0 < m) (hnc : n ≤ c) (hroom : c < n + m) (hbig : n + m ≤ 1000000) (hcs : cur.size = c * 2)
    (hvw : vb < w.heap.size) (hvl : vs.length = m * 2) (hvs : ∀ j u, vs[j]? = some u → w.cell? ⟨vb, j, none⟩ = some u) (h1c : ∀ v ∈ cur.toList.take (n * 2), v.oneCell' = true) (h1v : ∀ v ∈ vs, v.oneCell' = true) :
    Calls Go.Proofs.Tryd.prog 72 #[.slice (some ⟨g, 0, none⟩) n c, .int .i64 i, .slice (some ⟨vb, 0, none⟩) m vc] w fun e w' => ∃ v', e = .returned v' ∧ w'.ownsRow 0 41 2 v' (n + m) ((cur.toList.take (n * 2)).take (i * 2) ++ vs ++ (cur.toList.take (n * 2)).drop (i * 2)) ∧ w.grownBy w' (some g) ∧ (v'.ownBlock = some g ∨ v'.ownBlock = some w.heap.size) := by
  obtain ⟨t0, t3, i3, hsz⟩ := ins_facts
  obtain ⟨i0, hi0, hz0, hzs, hzb⟩ := info_parts i3
  have u0 := run_underlying t0
  have u3 := run_underlying t3
  have hz1 : ¬ ((m : Int) = 0) := by omega
  have hz2 : ¬ ((i : Int) = (n : Int)) := by omega
  have hz3 : (c : Int) < (n : Int) + (m : Int) := by omega
  have hbw : g < w.heap.size := (Array.getElem?_eq_some_iff.1 hg).1
  have hkk : (n : Int) + (m : Int) - (i : Int) = ((n + m - i : Nat) : Int) := by omega
  have hik : i + (n + m - i) = n + m := by omega
  have hcl : cur.toList.length = c * 2 := by rw [Array.length_toList]; exact hcs
  obtain ⟨vals, hvals⟩ : ∃ vals, vals = cur.toList.take (n * 2) := ⟨_, rfl⟩
  have hvall : vals.length = n * 2 := by rw [hvals, List.length_take]; omega
  have hcell : ∀ (W : World), W.heap[g]? = w.heap[g]? → ∀ j v, vals[j]? = some v → W.cell? ⟨g, j, none⟩ = some v := fun W hW j v hj => by
    rw [hvals, List.getElem?_take] at hj
    split at hj
    · rw [Array.getElem?_toList] at hj
      rw [cell_of_row W g j cur 41 (0, 0) (hW.trans hg)]
      exact hj
    · cases hj
  have hold : (Builtin.firstCells i0.size i (.slice (some ⟨g, 0, none⟩) i c)).run Go.Proofs.Tryd.prog w.drew = .ok (vals.take (i * 2)).toArray w.drew := by
    rw [hzs]
    exact run_firstCells_some w.drew 2 i ⟨g, 0, none⟩ i c (vals.take (i * 2)) (by rw [List.length_take]; omega) (fun j v hj => by
      rw [Addr.add_lit, Nat.zero_add]
      rw [List.getElem?_take] at hj
      split at hj
      · exact hcell w.drew rfl j v hj
      · cases hj)
  have hrz : ∀ ty, (Builtin.append_ #[23, 3] ty #[.slice (some ⟨g, 0, none⟩) i c, .int .i64 ((n : Int) + (m : Int) - (i : Int))]).run Go.Proofs.Tryd.prog w =
      .ok (.slice (some ⟨w.heap.size, 0, none⟩) (n + m) (grownCap w (n + m) c 41)) (w.drew.alloc (.cells ((vals.take (i * 2)).toArray ++ Builtin.zeroCells (Value.agg #[.string ⟨#[]⟩, .slice none 0 0]).cells (n + m - i) ++ Builtin.zeroCells (Value.agg #[.string ⟨#[]⟩, .slice none 0 0]).cells (grownCap w (n + m) c 41 - (n + m))) 41)) := fun ty => by
    have h := Lib.run_append_grow_zeros w 23 3 ty 41 i0 _ .i64 .i64 t0 t3 hi0 hz0 (some ⟨g, 0, none⟩) i c (vals.take (i * 2)) hold (n + m - i) (by omega) (by omega) (by omega) (by omega) (by rw [hzb]; omega) (by rw [hzb, hik]; exact growslice_fits hroom (by omega))
    rw [hik] at h
    rw [hkk]
    exact h
  obtain ⟨G, hG⟩ : ∃ G, G = grownCap w (n + m) c 41 := ⟨_, rfl⟩
  have hGn : n + m ≤ G := by rw [hG]; exact grownCap_ge w _ _ _
  have hG63 : G ≤ 9223372036854775807 := by
    have := grownCap_le_maxLen w (n + m) c 41 (by unfold maxLen; omega)
    rw [← hG] at this
    unfold maxLen at this
    omega
  rw [← hG] at hrz
  have zl : ∀ k, (Builtin.zeroCells (Value.agg #[.string ⟨#[]⟩, .slice none 0 0]).cells k).size = k * 2 := fun k => by simp [Builtin.zeroCells, Value.cells]
  obtain ⟨zs, hzs0⟩ : ∃ zs : List Value, zs = (Builtin.zeroCells (Value.agg #[.string ⟨#[]⟩, .slice none 0 0]).cells (n + m - i) ++ Builtin.zeroCells (Value.agg #[.string ⟨#[]⟩, .slice none 0 0]).cells (G - (n + m))).toList := ⟨_, rfl⟩
  have hzl : zs.length = (G - i) * 2 := by rw [hzs0]; simp only [Array.toList_append, List.length_append, Array.length_toList, zl]; omega
  obtain ⟨ROW, hROW⟩ : ∃ ROW : List Value, ROW = vals.take (i * 2) ++ zs := ⟨_, rfl⟩
  have hRl : ROW.length = G * 2 := by rw [hROW, List.length_append, List.length_take, hzl]; omega
  have hRA : (vals.take (i * 2)).toArray ++ Builtin.zeroCells (Value.agg #[.string ⟨#[]⟩, .slice none 0 0]).cells (n + m - i) ++ Builtin.zeroCells (Value.agg #[.string ⟨#[]⟩, .slice none 0 0]).cells (G - (n + m)) = ROW.toArray := by
    rw [hROW, hzs0]
    apply Array.toList_inj.1
    simp
  rw [hRA] at hrz
  obtain ⟨W1, hW1⟩ : ∃ W1, W1 = w.drew.alloc (.cells ROW.toArray 41) := ⟨_, rfl⟩
  rw [← hW1] at hrz
  have hH1 : W1.heap[w.heap.size]? = some (.cells ROW.toArray 41 (0, 0)) := by rw [hW1]; exact heap_alloc_new w.drew _
  have hold1 : ∀ k, k < w.heap.size → W1.heap[k]? = w.heap[k]? := fun k hk => by rw [hW1]; exact heap_alloc_old w.drew _ hk
  obtain ⟨R1, hR1⟩ : ∃ R1 : List Value, R1 = ROW.take (i * 2) ++ vs ++ ROW.drop (i * 2 + m * 2) := ⟨_, rfl⟩
  have hR1l : R1.length = G * 2 := by rw [hR1]; simp only [List.length_append, List.length_take, List.length_drop, hRl, hvl]; omega
  obtain ⟨k1, hk1⟩ : ∃ k1 : Nat, k1 = Nat.min m (n + m - i) := ⟨_, rfl⟩
  have hcpA : ∀ (W : World), W.heap = W1.heap → ∀ ty dc, (Builtin.copy_ #[23, 23] ty #[.slice (some ⟨w.heap.size, i * 2, none⟩) (n + m - i) dc, .slice (some ⟨vb, 0, none⟩) m vc]).run Go.Proofs.Tryd.prog W = .ok (goInt k1) (W.setRow w.heap.size R1.toArray) := fun W hW ty dc => by
    have hmin : Nat.min m (n + m - i) = m := by simp only [Nat.min_def]; split <;> omega
    have := run_copy_rowN (P := Go.Proofs.Tryd.prog) W 23 23 ty 41 2 w.heap.size (i * 2) (n + m - i) dc ⟨vb, 0, none⟩ m vc ROW.toArray 41 vs t0 hsz (by rw [hW]; exact hH1) (by rw [hmin, hvl]) (fun j v hj => by
      rw [Addr.add_lit, Nat.zero_add, World.cell?_of_block (w := w) (w' := W) (by rw [hW]; exact hold1 vb hvw)]; exact hvs j v hj) (by rw [hvl, List.size_toArray, hRl]; omega) h1v
    rw [this, hk1, hvl, hR1]
  obtain ⟨W2, hW2⟩ : ∃ W2, W2 = W1.setRow w.heap.size R1.toArray := ⟨_, rfl⟩
  have hH2 : W2.heap[w.heap.size]? = some (.cells R1.toArray 41 (0, 0)) := by rw [hW2]; exact setRow_heap W1 _ _ _ 41 _ hH1
  have hold2 : ∀ k, k < w.heap.size → W2.heap[k]? = w.heap[k]? := fun k hk => by rw [hW2, setRow_other _ _ _ _ (by omega)]; exact hold1 k hk
  obtain ⟨cs, hcs0⟩ : ∃ cs, cs = vals.drop (i * 2) := ⟨_, rfl⟩
  have hdl : cs.length = n * 2 - i * 2 := by rw [hcs0, List.length_drop]; omega
  have h1s : ∀ v ∈ cs, v.oneCell' = true := fun v hv => by
    rw [hcs0, hvals] at hv
    exact h1c v (List.mem_of_mem_drop hv)
  obtain ⟨R2, hR2⟩ : ∃ R2 : List Value, R2 = R1.take (i * 2 + m * 2) ++ cs ++ R1.drop (i * 2 + m * 2 + (n * 2 - i * 2)) := ⟨_, rfl⟩
  obtain ⟨k2, hk2⟩ : ∃ k2 : Nat, k2 = Nat.min (n - i) (n + m - (i + m)) := ⟨_, rfl⟩
  have hcpB : ∀ (W : World), W.heap = W2.heap → ∀ ty dc sc, (Builtin.copy_ #[23, 23] ty #[.slice (some ⟨w.heap.size, (i + m) * 2, none⟩) (n + m - (i + m)) dc, .slice (some ⟨g, i * 2, none⟩) (n - i) sc]).run Go.Proofs.Tryd.prog W = .ok (goInt k2) (W.setRow w.heap.size R2.toArray) := fun W hW ty dc sc => by
    have hmin : Nat.min (n - i) (n + m - (i + m)) = n - i := by simp only [Nat.min_def]; split <;> omega
    have := run_copy_rowN (P := Go.Proofs.Tryd.prog) W 23 23 ty 41 2 w.heap.size ((i + m) * 2) (n + m - (i + m)) dc ⟨g, i * 2, none⟩ (n - i) sc R1.toArray 41 cs t0 hsz (by rw [hW]; exact hH2) (by rw [hmin, hdl]; omega) (fun j v hj => by
      rw [Addr.add_lit]
      refine hcell W (by rw [hW]; exact hold2 g hbw) _ v ?_
      rwa [hcs0, List.getElem?_drop] at hj) (by rw [hdl, List.size_toArray, hR1l]; omega) h1s
    rw [this, hk2, hR2, hdl, show (i + m) * 2 = i * 2 + m * 2 by omega]
  have fin : Hid (∀ (W : World), W.heap = W2.heap → W.os = w.os → W.tape = w.tape → W.output = w.output → (W.setRow w.heap.size R2.toArray).ownsRow 0 41 2 (.slice (some ⟨w.heap.size, 0, none⟩) (n + m) G) (n + m) ((cur.toList.take (n * 2)).take (i * 2) ++ vs ++ (cur.toList.take (n * 2)).drop (i * 2)) ∧ w.grownBy (W.setRow w.heap.size R2.toArray) (some g)) := by
    intro W e1 e2 e3 e4
    have hR2l : R2.length = G * 2 := by rw [hR2]; simp only [List.length_append, List.length_take, List.length_drop, hR1l, hdl]; omega
    have hh := setRow_heap W w.heap.size R1.toArray R2.toArray 41 _ (by rw [e1]; exact hH2)
    have hs2 : W2.heap.size = w.heap.size + 1 := by rw [hW2, hW1]; simp
    refine ⟨⟨?_, .inr ⟨w.heap.size, G, _, rfl, Nat.zero_le _, hh, hGn, by simp only [maxLen]; exact hG63, by rw [List.size_toArray, hR2l], ?_⟩⟩, ⟨e2, e3, e4, ?_, fun k hk _ => ?_⟩⟩
    · simp only [List.length_append, List.length_take, List.length_drop, hcl, hvl]; omega
    · rw [show (n + m) * 2 = n * 2 + m * 2 by omega, hR2, hcs0, ← hvals]
      exact row_grow vals vs zs (b := i * 2) (n := n * 2) (m := m * 2) (by omega) hvall hvl R1 (by rw [hzl]; omega) (by rw [hR1, hROW])
    · have : (W.setRow w.heap.size R2.toArray).heap.size = W.heap.size := by simp
      rw [this, e1, hs2]
      omega
    · rw [setRow_other _ _ _ _ (by omega), e1]
      exact hold2 k hk
  have X1 : Hid (W1 = w.drew.alloc (.cells ROW.toArray 41)) := hW1
  have X2 : Hid (W2 = W1.setRow w.heap.size R1.toArray) := hW2
  have hGi : ¬ (G = i) := by omega
  have hGim : ¬ (G = i + m) := by omega
  have hci : ¬ (c = i) := by omega
  have hw1 : IntKind.i64.wrap ((i : Int) + (m : Int)) = (i : Int) + (m : Int) := by rw [IntKind.wrap_i64]; omega
  have hb1 : (0 : Int) ≤ (i : Int) + (m : Int) := by omega
  have hin : i ≤ n := by omega
  have htn : ((i : Int) + (m : Int)).toNat = i + m := by omega
  have hb3 : (i : Int) ≤ (n : Int) := by omega
  have mixed : Go.Proofs.Tryd.prog.follows .mixedOrders = true := by kernel_rfl
  clear hkk hik hold hW1 hW2 hROW hRA hzs0 hzl hRl hG hR1 hR1l hk1 hR2 hk2 hcs0 hdl h1s hH1 hH2 hold1 hold2 hcell hvals hvall hcl hvl hvs h1c h1v hcs zl
  go_enter Go.Proofs.Tryd.func72, Go.Proofs.Tryd.ntmps72
  go_wp2_with (first
    | (at_builtin; refine Lib.wpList_append_run _ rfl _ _ _ _ rfl _ _ rfl rfl _ _ (hrz _) ?_)
    | (at_builtin; refine wpList_copy_runQ _ rfl _ _ 23 23 rfl _ _ rfl rfl (hcpA _ rfl _ _) ?_)
    | (at_builtin; refine wpList_copy_runQ _ rfl _ _ 23 23 rfl _ _ rfl rfl (hcpB _ rfl _ _ _) ?_))
  have e2 : ((W1.setRow w.heap.size R1.toArray).drew).heap = W2.heap := by rw [X2.out]; rfl
  go_region_law_o (refine step_copy_runQ rfl _ _ 23 23 rfl (.slice (some ⟨w.heap.size, (i + m) * 2, none⟩) (n + m - (i + m)) (G - (i + m))) (.slice (some ⟨g, i * 2, none⟩) (n - i) (c - i)) (by simp [Act.eval, Act.put]) (by simp [Act.eval, Act.put]) (hcpB _ e2 3 (G - (i + m)) (c - i)) ?_)
  go_wp2
  go_ret
  obtain ⟨f1, f2⟩ := fin.out ((W1.setRow w.heap.size R1.toArray).drew) e2 (by rw [X1.out]; rfl) (by rw [X1.out]; rfl) (by rw [X1.out]; rfl)
  exact ⟨_, rfl, f1, f2, .inr rfl⟩
def msslices_Insert_i_StoItem_i_StoItem : List PM := [.own, .own, .own]
/-- Some elements more. -/
def g_Vslices_Insert_i_StoItem_i_StoItem_0 (l : List (ByteArray × List Int)) (i : Int) (x : List (ByteArray × List Int)) : List (ByteArray × List Int) := l.take i.toNat ++ (x ++ l.drop i.toNat)
def g_Aslices_Insert_i_StoItem_i_StoItem (l : List (ByteArray × List Int)) (i : Int) (x : List (ByteArray × List Int)) : Bool := decide ((0 ≤ i ∧ i ≤ l.length) ∧ 0 < x.length ∧ l.length + x.length ≤ 1000000)
def Fslices_Insert_i_StoItem_i_StoItem : FSem := fun ys => match ys with
  | [.val false [.own .any true 41 (.pair .str (.sl 3 (.int .i64))) a0], .val false [.int .i64 a1], .val false [.own .any true 41 (.pair .str (.sl 3 (.int .i64))) a2]] => some (g_Aslices_Insert_i_StoItem_i_StoItem a0 a1 a2, .val false [.own .any true 41 (.pair .str (.sl 3 (.int .i64))) (g_Vslices_Insert_i_StoItem_i_StoItem_0 a0 a1 a2)], [])
  | _ => none
theorem sslices_Insert_i_StoItem_i_StoItem : Sound Go.Proofs.Tryd.prog 72 msslices_Insert_i_StoItem_i_StoItem Fslices_Insert_i_StoItem_i_StoItem := by
  refine ⟨⟨_, Go.Proofs.Tryd.func72, by kernel_rfl, by kernel_rfl⟩, fun w S ψ ys vs r outs hF hh hg => ?_⟩
  unfold Fslices_Insert_i_StoItem_i_StoItem at hF
  split at hF
  · rename_i l i x
    simp only [Option.some.injEq, Prod.mk.injEq, g_Aslices_Insert_i_StoItem_i_StoItem, decide_eq_true_eq] at hF
    obtain ⟨⟨⟨h0, h1⟩, h2, h3⟩, rfl, rfl⟩ := hF
    match vs, hg with
    | [v0, v1, v2], hg =>
    have R := given_row hg.1
    have R2 := given_row hg.2.2.1
    have e1 : v1 = .int .i64 i := given_plain hg.2.1 rfl
    subst e1
    obtain ⟨i, rfl⟩ : ∃ k : Nat, i = (k : Int) := ⟨i.toNat, by omega⟩
    have hap : ∀ g, ψ 0 1 g → ψ 2 1 g → False := fun g a b => by have := (hh.apart 0 1 2 1 g a b).1; omega
    have R' := R
    obtain ⟨_, R'⟩ := R'
    rw [if_neg (by simp)] at R'
    obtain ⟨vals, o1, o2, o3⟩ := R'
    rw [if_pos rfl] at o3
    obtain ⟨ψ0, _, _, a3⟩ := o3
    have R2' := R2
    obtain ⟨_, R2'⟩ := R2'
    rw [if_neg (by simp)] at R2'
    obtain ⟨vals2, p1, p2, p3⟩ := R2'
    rw [if_pos rfl] at p3
    obtain ⟨ψ2, _, _, b3⟩ := p3
    have hone := own_one (e := .pair .str (.sl 3 (.int .i64))) (by decide) o1.1 a3
    have hone2 := own_one (e := .pair .str (.sl 3 (.int .i64))) (by decide) p1.1 b3
    have hsz : (Ty.pair .str (.sl 3 (.int .i64))).size = 2 := rfl
    have uniq : ∀ {v : Value} {n : Nat} {a b : List Value}, w.ownsRow 0 41 2 v n a → w.ownsRow 0 41 2 v n b → a = b := by
      intro v n a b ha hb
      rcases ha.2 with ⟨rfl, rfl⟩ | ⟨g, cap, cur, rfl, _, hg', _, _, _, ht⟩
      · have ea : a = [] := List.eq_nil_of_length_eq_zero (by simpa using ha.1)
        have eb : b = [] := List.eq_nil_of_length_eq_zero (by simpa using hb.1)
        rw [ea, eb]
      · rcases hb.2 with ⟨e, _⟩ | ⟨g', cap', cur', e, _, hg2, _, _, _, ht2⟩
        · cases e
        · cases e
          rw [hg'] at hg2
          cases hg2
          rw [← ht, ← ht2]
    rcases p1.2 with ⟨_, hn⟩ | ⟨vb, vc, curv, rfl, _, hvg, hvn, _, hvcs, hvt⟩
    · exfalso
      have hn : x.length = 0 := hn
      omega
    · have hvl : vals2.length = x.length * 2 := p1.1
      have hvs : ∀ j u, vals2[j]? = some u → w.cell? ⟨vb, j, none⟩ = some u := fun j u hu => by
        have := p1.cells (g := vb) rfl j u hu
        rwa [Addr.add_lit, Nat.zero_add] at this
      have hvw : vb < w.heap.size := (Array.getElem?_eq_some_iff.1 hvg).1
      have hx1 : 0 < x.length := h2
      -- what the call leaves
      have key : Calls Go.Proofs.Tryd.prog 72 #[v0, .int .i64 (i : Int), .slice (some ⟨vb, 0, none⟩) x.length vc] w fun e w' => ∃ v', e = .returned v' ∧ w'.ownsRow 0 41 2 v' (l.length + x.length) (vals.take (i * 2) ++ vals2 ++ vals.drop (i * 2)) ∧ w.grownBy w' v0.ownBlock ∧ (v'.ownBlock = v0.ownBlock ∨ v'.ownBlock = some w.heap.size) := by
        by_cases he : i = l.length
        · subst he
          have o1l : vals.length = l.length * 2 := o1.1
          have := ins_end l.length vb x.length vc v0 vals vals2 w o1 hx1 hvl hvs hone2 (by omega)
          refine Calls.mono this ?_
          rintro e w' ⟨v', e1, e2, e3, e4⟩
          refine ⟨v', e1, ?_, e3, e4⟩
          rw [List.take_of_length_le (by omega), List.drop_of_length_le (by omega), List.append_nil]
          exact e2
        · rcases o1.2 with ⟨_, hn⟩ | ⟨g, cap, cur, rfl, _, hgg, hn, hcm, hcs, htake⟩
          · exfalso
            have hn : l.length = 0 := hn
            omega
          · have hn : l.length ≤ cap := hn
            have hcs : cur.size = cap * 2 := hcs
            have htake : cur.toList.take (l.length * 2) = vals := htake
            simp only [maxLen] at hcm
            have hne : vb ≠ g := fun e => hap g (o2 g rfl) (p2 g (by rw [← e]; rfl))
            rw [← htake]
            by_cases hr : l.length + x.length ≤ cap
            · exact ins_shift g l.length cap i vb x.length vc cur vals2 w hgg (by omega) hx1 hr hcm hcs hne curv hvg hvl hvs (by rw [htake]; exact hone) hone2
            · exact ins_grow g l.length cap i vb x.length vc cur vals2 w hgg (by omega) hx1 hn (by omega) (by omega) hcs hvw hvl hvs (by rw [htake]; exact hone) hone2
      refine Calls.mono key ?_
      rintro e w' ⟨v', rfl, k1, k2, k3⟩
      have hr := row_insert (w' := w') (v' := v') (i := i) R R2 hap (fun g hg => hg.elim (fun h => (hh.own 0 1 g h).1) (fun h => (hh.own 2 1 g h).1)) (by show i ≤ l.length; omega) k2 k3 (fun vals' vals2' a b => by
        rw [uniq a o1, uniq b p1]
        exact k1)
      obtain ⟨t1, t2⟩ := trip_row hh (v := v0) (v' := v') (φ := fun g => ψ 0 1 g ∨ ψ 2 1 g) (fun g hg => hg.elim (fun h => ⟨0, 1, h⟩) (fun h => ⟨2, 1, h⟩)) (fun g hg => .inl (o2 g hg)) k2 k3 (fun g' hg' => (k1.lt g' hg').2) hr
      exact ⟨S, _, t1, t2, rfl⟩
  · cases hF
end Go.Proofs.YtjoggjjjlafdmaaDoor.E
end
section
namespace Go.Proofs.YtjoggjjjlafdmaaDoor.E
open Go
set_option maxRecDepth 100000
set_option maxHeartbeats 0
set_option linter.all false
noncomputable def Ei_StoStore_write : Env where
  tt := mkTI Go.Proofs.Tryd.prog
  fn := fun f => match f with
    | 69 => some (msslices_Clone_int_int, FSem.wk msslices_Clone_int_int Fslices_Clone_int_int)
    | 70 => some (msi_StoStore_find, FSem.wk msi_StoStore_find Fi_StoStore_find)
    | 71 => some (msslices_Delete_i_StoItem_i_StoItem, FSem.wk msslices_Delete_i_StoItem_i_StoItem Fslices_Delete_i_StoItem_i_StoItem)
    | 72 => some (msslices_Insert_i_StoItem_i_StoItem, FSem.wk msslices_Insert_i_StoItem_i_StoItem Fslices_Insert_i_StoItem_i_StoItem)
    | _ => none
  bxf := fun _ => none
  mv := []
  keep := fun _ => []
  keepB := fun _ => []
  keepX := fun _ => []
  keepXB := fun _ => []
theorem goodFi_StoStore_write : ∀ f ms F, Ei_StoStore_write.fn f = some (ms, F) → Sound Go.Proofs.Tryd.prog f ms F := fun f ms F h => by
  unfold Ei_StoStore_write at h
  dsimp only at h
  split at h
  · injection h with h; injection h with e1 e2; subst e1 e2; exact Sound.wk sslices_Clone_int_int
  · injection h with h; injection h with e1 e2; subst e1 e2; exact Sound.wk si_StoStore_find
  · injection h with h; injection h with e1 e2; subst e1 e2; exact Sound.wk sslices_Delete_i_StoItem_i_StoItem
  · injection h with h; injection h with e1 e2; subst e1 e2; exact Sound.wk sslices_Insert_i_StoItem_i_StoItem
  · cases h
theorem goodBi_StoStore_write : ∀ f ms F, Ei_StoStore_write.bxf f = some (ms, F) → SoundB Go.Proofs.Tryd.prog f ms F := fun f ms F h => by cases h
theorem goodi_StoStore_write : Good Go.Proofs.Tryd.prog Ei_StoStore_write := ⟨rfl, goodFi_StoStore_write, goodBi_StoStore_write⟩
noncomputable def Oi_StoStore_write_0 : Orc := fun _ _ => none
noncomputable def msi_StoStore_write : List PM := [.bx, .rd]
noncomputable def lsi_StoStore_write : List (Nat × Code) := loopsAll 0 (Go.Proofs.Tryd.f40.body.getD .skip)

theorem ki_StoStore_write_0 : OrcOk Ei_StoStore_write Oi_StoStore_write_0 lsi_StoStore_write 0 := orcOk_none
noncomputable def g_Ai_StoStore_write (a0 : List ((ByteArray) × (List (Int)))) (a1 : ByteArray) (a2 : Bool) (a3 : List (Int)) : Bool := g_Ai_StoStore_find a0 a1 && bif a2 then bif g_Vslices_BinarySearchFunc_i_StoItem_i_StoItem_string__i_StoStore_find_1_1 a0 a1 then g_Aslices_Delete_i_StoItem_i_StoItem a0 (g_Vslices_BinarySearchFunc_i_StoItem_i_StoItem_string__i_StoStore_find_1_0 a0 a1) (IntKind.wrap IntKind.i64 (g_Vslices_BinarySearchFunc_i_StoItem_i_StoItem_string__i_StoStore_find_1_0 a0 a1 + (1 : Int))) else a2 || bif g_Vslices_BinarySearchFunc_i_StoItem_i_StoItem_string__i_StoStore_find_1_1 a0 a1 then g_Aslices_Clone_int_int_b a3 && (decide ((0 : Int) ≤ g_Vslices_BinarySearchFunc_i_StoItem_i_StoItem_string__i_StoStore_find_1_0 a0 a1 ∧ g_Vslices_BinarySearchFunc_i_StoItem_i_StoItem_string__i_StoStore_find_1_0 a0 a1 < (↑(List.length a0) : Int)) && decide (Int.toNat (g_Vslices_BinarySearchFunc_i_StoItem_i_StoItem_string__i_StoStore_find_1_0 a0 a1) < List.length a0)) else g_Aslices_Clone_int_int_b a3 && g_Aslices_Insert_i_StoItem_i_StoItem a0 (g_Vslices_BinarySearchFunc_i_StoItem_i_StoItem_string__i_StoStore_find_1_0 a0 a1) [(a1, a3)] else a2 || bif g_Vslices_BinarySearchFunc_i_StoItem_i_StoItem_string__i_StoStore_find_1_1 a0 a1 then g_Aslices_Clone_int_int_b a3 && (decide ((0 : Int) ≤ g_Vslices_BinarySearchFunc_i_StoItem_i_StoItem_string__i_StoStore_find_1_0 a0 a1 ∧ g_Vslices_BinarySearchFunc_i_StoItem_i_StoItem_string__i_StoStore_find_1_0 a0 a1 < (↑(List.length a0) : Int)) && decide (Int.toNat (g_Vslices_BinarySearchFunc_i_StoItem_i_StoItem_string__i_StoStore_find_1_0 a0 a1) < List.length a0)) else g_Aslices_Clone_int_int_b a3 && g_Aslices_Insert_i_StoItem_i_StoItem a0 (g_Vslices_BinarySearchFunc_i_StoItem_i_StoItem_string__i_StoStore_find_1_0 a0 a1) [(a1, a3)]
noncomputable def g_Vi_StoStore_write_0 (a0 : List ((ByteArray) × (List (Int)))) (a1 : ByteArray) (a2 : Bool) (a3 : List (Int)) : List ((ByteArray) × (List (Int))) := bif a2 then bif g_Vslices_BinarySearchFunc_i_StoItem_i_StoItem_string__i_StoStore_find_1_1 a0 a1 then g_Vslices_Delete_i_StoItem_i_StoItem_0 a0 (g_Vslices_BinarySearchFunc_i_StoItem_i_StoItem_string__i_StoStore_find_1_0 a0 a1) (IntKind.wrap IntKind.i64 (g_Vslices_BinarySearchFunc_i_StoItem_i_StoItem_string__i_StoStore_find_1_0 a0 a1 + (1 : Int))) else bif a2 then a0 else bif g_Vslices_BinarySearchFunc_i_StoItem_i_StoItem_string__i_StoStore_find_1_1 a0 a1 then updE (Ty.pair Ty.str (Ty.sl (nat_lit 3) (Ty.int IntKind.i64))) a0 (Int.toNat (g_Vslices_BinarySearchFunc_i_StoItem_i_StoItem_string__i_StoStore_find_1_0 a0 a1)) fun x => (x.1, a3) else g_Vslices_Insert_i_StoItem_i_StoItem_0 a0 (g_Vslices_BinarySearchFunc_i_StoItem_i_StoItem_string__i_StoStore_find_1_0 a0 a1) [(a1, a3)] else bif a2 then a0 else bif g_Vslices_BinarySearchFunc_i_StoItem_i_StoItem_string__i_StoStore_find_1_1 a0 a1 then updE (Ty.pair Ty.str (Ty.sl (nat_lit 3) (Ty.int IntKind.i64))) a0 (Int.toNat (g_Vslices_BinarySearchFunc_i_StoItem_i_StoItem_string__i_StoStore_find_1_0 a0 a1)) fun x => (x.1, a3) else g_Vslices_Insert_i_StoItem_i_StoItem_0 a0 (g_Vslices_BinarySearchFunc_i_StoItem_i_StoItem_string__i_StoStore_find_1_0 a0 a1) [(a1, a3)]
noncomputable def Fi_StoStore_write : FSem := fun ys => match ys with
  | [.val true [.own .any true 41 (.pair .str (.sl 3 (.int .i64))) a0], .val true [.str a1, .bool a2, .sl .any 3 (.int .i64) a3]] => some ((g_Ai_StoStore_write a0 a1 a2 a3), .tup [], [[.own .any true 41 (.pair .str (.sl 3 (.int .i64))) (g_Vi_StoStore_write_0 a0 a1 a2 a3)]])
  | _ => none
theorem vi_StoStore_write (a0 : List ((ByteArray) × (List (Int)))) (a1 : ByteArray) (a2 : Bool) (a3 : List (Int)) : collapseH .std Ei_StoStore_write Oi_StoStore_write_0 (execFn Ei_StoStore_write Go.Proofs.Tryd.f40 msi_StoStore_write [.val true [.own .any true 41 (.pair .str (.sl 3 (.int .i64))) a0], .val true [.str a1, .bool a2, .sl .any 3 (.int .i64) a3]]) = some ((g_Ai_StoStore_write a0 a1 a2 a3), .tup [], [[.own .any true 41 (.pair .str (.sl 3 (.int .i64))) (g_Vi_StoStore_write_0 a0 a1 a2 a3)]]) := by kernel_rfl
theorem si_StoStore_write : Sound Go.Proofs.Tryd.prog 40 msi_StoStore_write Fi_StoStore_write := by
  refine fn_gen goodi_StoStore_write (by kernel_rfl) .std (fn := Go.Proofs.Tryd.f40) (c := (Go.Proofs.Tryd.f40.body.getD .skip)) (o := Oi_StoStore_write_0) (k := 0) (by kernel_rfl) (by kernel_rfl) (by kernel_rfl) (by kernel_rfl) (by decide) ki_StoStore_write_0 ?_
  intro ys r outs h
  unfold Fi_StoStore_write at h
  split at h
  · exact (vi_StoStore_write _ _ _ _).trans h
  · cases h
end Go.Proofs.YtjoggjjjlafdmaaDoor.E
end
section
namespace Go.Proofs.YtjoggjjjlafdmaaDoor.E
open Go
set_option maxRecDepth 100000
set_option maxHeartbeats 0
set_option linter.all false
noncomputable def Ei_WrtOk : Env where
  tt := mkTI Go.Proofs.Tryd.prog
  fn := fun f => match f with
    | 45 => some (msi_keyOk, FSem.wk msi_keyOk Fi_keyOk)
    | 46 => some (msi_valOk, FSem.wk msi_valOk Fi_valOk)
    | _ => none
  bxf := fun _ => none
  mv := []
  keep := fun _ => []
  keepB := fun _ => []
  keepX := fun _ => []
  keepXB := fun _ => []
theorem goodFi_WrtOk : ∀ f ms F, Ei_WrtOk.fn f = some (ms, F) → Sound Go.Proofs.Tryd.prog f ms F := fun f ms F h => by
  unfold Ei_WrtOk at h
  dsimp only at h
  split at h
  · injection h with h; injection h with e1 e2; subst e1 e2; exact Sound.wk si_keyOk
  · injection h with h; injection h with e1 e2; subst e1 e2; exact Sound.wk si_valOk
  · cases h
theorem goodBi_WrtOk : ∀ f ms F, Ei_WrtOk.bxf f = some (ms, F) → SoundB Go.Proofs.Tryd.prog f ms F := fun f ms F h => by cases h
theorem goodi_WrtOk : Good Go.Proofs.Tryd.prog Ei_WrtOk := ⟨rfl, goodFi_WrtOk, goodBi_WrtOk⟩
noncomputable def Oi_WrtOk_0 : Orc := fun _ _ => none
noncomputable def msi_WrtOk : List PM := [.rd]
noncomputable def lsi_WrtOk : List (Nat × Code) := loopsAll 0 (Go.Proofs.Tryd.f38.body.getD .skip)

theorem ki_WrtOk_0 : OrcOk Ei_WrtOk Oi_WrtOk_0 lsi_WrtOk 0 := orcOk_none
noncomputable def g_Ai_WrtOk (a0 : ByteArray) (a1 : Bool) (a2 : List (Int)) : Bool := bif a1 then g_Ai_keyOk a0 && (!g_Vi_keyOk_0 a0 || true) else g_Ai_keyOk a0 && (!g_Vi_keyOk_0 a0 || g_Ai_valOk a2)
noncomputable def g_Vi_WrtOk_0 (a0 : ByteArray) (a1 : Bool) (a2 : List (Int)) : Bool := bif a1 then bif g_Vi_keyOk_0 a0 then (↑(List.length a2) : Int) == (0 : Int) else false else bif g_Vi_keyOk_0 a0 then g_Vi_valOk_0 a2 else false
noncomputable def Fi_WrtOk : FSem := fun ys => match ys with
  | [.val true [.str a0, .bool a1, .sl .any 3 (.int .i64) a2]] => some ((g_Ai_WrtOk a0 a1 a2), .val false [.bool (g_Vi_WrtOk_0 a0 a1 a2)], [])
  | _ => none
theorem vi_WrtOk (a0 : ByteArray) (a1 : Bool) (a2 : List (Int)) : collapseH .std Ei_WrtOk Oi_WrtOk_0 (execFn Ei_WrtOk Go.Proofs.Tryd.f38 msi_WrtOk [.val true [.str a0, .bool a1, .sl .any 3 (.int .i64) a2]]) = some ((g_Ai_WrtOk a0 a1 a2), .val false [.bool (g_Vi_WrtOk_0 a0 a1 a2)], []) := by kernel_rfl
theorem si_WrtOk : Sound Go.Proofs.Tryd.prog 38 msi_WrtOk Fi_WrtOk := by
  refine fn_gen goodi_WrtOk (by kernel_rfl) .std (fn := Go.Proofs.Tryd.f38) (c := (Go.Proofs.Tryd.f38.body.getD .skip)) (o := Oi_WrtOk_0) (k := 0) (by kernel_rfl) (by kernel_rfl) (by kernel_rfl) (by kernel_rfl) (by decide) ki_WrtOk_0 ?_
  intro ys r outs h
  unfold Fi_WrtOk at h
  split at h
  · exact (vi_WrtOk _ _ _).trans h
  · cases h
end Go.Proofs.YtjoggjjjlafdmaaDoor.E
end
section
namespace Go.Proofs.YtjoggjjjlafdmaaDoor.E
open Go
set_option maxRecDepth 100000
set_option maxHeartbeats 0
set_option linter.all false
noncomputable def Ei_StoDo_1 : Env where
  tt := mkTI Go.Proofs.Tryd.prog
  fn := fun f => match f with
    | 38 => some (msi_WrtOk, FSem.wk msi_WrtOk Fi_WrtOk)
    | _ => none
  bxf := fun _ => none
  mv := []
  keep := fun _ => []
  keepB := fun _ => []
  keepX := fun _ => []
  keepXB := fun _ => []
theorem goodFi_StoDo_1 : ∀ f ms F, Ei_StoDo_1.fn f = some (ms, F) → Sound Go.Proofs.Tryd.prog f ms F := fun f ms F h => by
  unfold Ei_StoDo_1 at h
  dsimp only at h
  split at h
  · injection h with h; injection h with e1 e2; subst e1 e2; exact Sound.wk si_WrtOk
  · cases h
theorem goodBi_StoDo_1 : ∀ f ms F, Ei_StoDo_1.bxf f = some (ms, F) → SoundB Go.Proofs.Tryd.prog f ms F := fun f ms F h => by cases h
theorem goodi_StoDo_1 : Good Go.Proofs.Tryd.prog Ei_StoDo_1 := ⟨rfl, goodFi_StoDo_1, goodBi_StoDo_1⟩
noncomputable def Oi_StoDo_1_0 : Orc := fun _ _ => none
noncomputable def msi_StoDo_1 : List PM := [.rd]
noncomputable def lsi_StoDo_1 : List (Nat × Code) := loopsAll 0 (Go.Proofs.Tryd.f37.body.getD .skip)

theorem ki_StoDo_1_0 : OrcOk Ei_StoDo_1 Oi_StoDo_1_0 lsi_StoDo_1 0 := orcOk_none
noncomputable def g_Ai_StoDo_1 (a0 : ByteArray) (a1 : Bool) (a2 : List (Int)) : Bool := g_Ai_WrtOk a0 a1 a2
noncomputable def Fi_StoDo_1 : FSem := fun ys => match ys with
  | [.val true [.str a0, .bool a1, .sl .any 3 (.int .i64) a2]] => some ((g_Ai_StoDo_1 a0 a1 a2), .val false [.bool (!g_Vi_WrtOk_0 a0 a1 a2)], [])
  | _ => none
theorem vi_StoDo_1 (a0 : ByteArray) (a1 : Bool) (a2 : List (Int)) : collapseH .std Ei_StoDo_1 Oi_StoDo_1_0 (execFn Ei_StoDo_1 Go.Proofs.Tryd.f37 msi_StoDo_1 [.val true [.str a0, .bool a1, .sl .any 3 (.int .i64) a2]]) = some ((g_Ai_StoDo_1 a0 a1 a2), .val false [.bool (!g_Vi_WrtOk_0 a0 a1 a2)], []) := by kernel_rfl
theorem si_StoDo_1 : Sound Go.Proofs.Tryd.prog 37 msi_StoDo_1 Fi_StoDo_1 := by
  refine fn_gen goodi_StoDo_1 (by kernel_rfl) .std (fn := Go.Proofs.Tryd.f37) (c := (Go.Proofs.Tryd.f37.body.getD .skip)) (o := Oi_StoDo_1_0) (k := 0) (by kernel_rfl) (by kernel_rfl) (by kernel_rfl) (by kernel_rfl) (by decide) ki_StoDo_1_0 ?_
  intro ys r outs h
  unfold Fi_StoDo_1 at h
  split at h
  · exact (vi_StoDo_1 _ _ _).trans h
  · cases h
end Go.Proofs.YtjoggjjjlafdmaaDoor.E
end
section
namespace Go.Proofs.YtjoggjjjlafdmaaDoor.E
open Go
set_option maxRecDepth 100000
set_option maxHeartbeats 0
set_option linter.all false
noncomputable def Eslices_IndexFunc_i_StoWrite_i_StoWrite__i_StoDo_1 : Env where
  tt := mkTI Go.Proofs.Tryd.prog
  fn := fun f => match f with
    | 37 => some (msi_StoDo_1, FSem.wk msi_StoDo_1 Fi_StoDo_1)
    | _ => none
  bxf := fun _ => none
  mv := []
  keep := fun b => match b with
    | 0 => [(0, false), (1, false), (7, false), (8, false)]
    | _ => []
  keepB := fun b => match b with
    | 0 => []
    | _ => []
  keepX := fun b => match b with
    | 0 => [(4, false)]
    | _ => []
  keepXB := fun b => match b with
    | 0 => []
    | _ => []
theorem goodFslices_IndexFunc_i_StoWrite_i_StoWrite__i_StoDo_1 : ∀ f ms F, Eslices_IndexFunc_i_StoWrite_i_StoWrite__i_StoDo_1.fn f = some (ms, F) → Sound Go.Proofs.Tryd.prog f ms F := fun f ms F h => by
  unfold Eslices_IndexFunc_i_StoWrite_i_StoWrite__i_StoDo_1 at h
  dsimp only at h
  split at h
  · injection h with h; injection h with e1 e2; subst e1 e2; exact Sound.wk si_StoDo_1
  · cases h
theorem goodBslices_IndexFunc_i_StoWrite_i_StoWrite__i_StoDo_1 : ∀ f ms F, Eslices_IndexFunc_i_StoWrite_i_StoWrite__i_StoDo_1.bxf f = some (ms, F) → SoundB Go.Proofs.Tryd.prog f ms F := fun f ms F h => by cases h
theorem goodslices_IndexFunc_i_StoWrite_i_StoWrite__i_StoDo_1 : Good Go.Proofs.Tryd.prog Eslices_IndexFunc_i_StoWrite_i_StoWrite__i_StoDo_1 := ⟨rfl, goodFslices_IndexFunc_i_StoWrite_i_StoWrite__i_StoDo_1, goodBslices_IndexFunc_i_StoWrite_i_StoWrite__i_StoDo_1⟩
noncomputable def Oslices_IndexFunc_i_StoWrite_i_StoWrite__i_StoDo_1_0 : Orc := fun _ _ => none
noncomputable def msslices_IndexFunc_i_StoWrite_i_StoWrite__i_StoDo_1 : List PM := [.rd, .rd]
noncomputable def lsslices_IndexFunc_i_StoWrite_i_StoWrite__i_StoDo_1 : List (Nat × Code) := loopsAll 0 (Go.Proofs.Tryd.f68.body.getD .skip)
noncomputable def cslices_IndexFunc_i_StoWrite_i_StoWrite__i_StoDo_1_0 : Code := (loopOf 0 (Go.Proofs.Tryd.f68.body.getD .skip)).getD .skip
theorem lseqslices_IndexFunc_i_StoWrite_i_StoWrite__i_StoDo_1 : lsslices_IndexFunc_i_StoWrite_i_StoWrite__i_StoDo_1 = [(0, cslices_IndexFunc_i_StoWrite_i_StoWrite__i_StoDo_1_0)] := by kernel_rfl
theorem mslices_IndexFunc_i_StoWrite_i_StoWrite__i_StoDo_1_0 : ∀ p, p ∈ lsslices_IndexFunc_i_StoWrite_i_StoWrite__i_StoDo_1 → p.1 = 0 → p.2 = cslices_IndexFunc_i_StoWrite_i_StoWrite__i_StoDo_1_0 := by
  intro p hp
  rw [lseqslices_IndexFunc_i_StoWrite_i_StoWrite__i_StoDo_1] at hp
  simp only [List.mem_cons, List.not_mem_nil, or_false] at hp
  subst hp; simp
theorem kslices_IndexFunc_i_StoWrite_i_StoWrite__i_StoDo_1_0 : OrcOk Eslices_IndexFunc_i_StoWrite_i_StoWrite__i_StoDo_1 Oslices_IndexFunc_i_StoWrite_i_StoWrite__i_StoDo_1_0 lsslices_IndexFunc_i_StoWrite_i_StoWrite__i_StoDo_1 0 := orcOk_none
noncomputable def hslices_IndexFunc_i_StoWrite_i_StoWrite__i_StoDo_1_0 (y0 : List ((ByteArray) × ((Bool) × (List (Int))))) (y1 : Int) (y2 : Int) : List (Pl × LV) := [(.T 0, .t (.val false [.sl .any 36 (.pair .str (.pair .bool (.sl 3 (.int .i64)))) y0])), (.T 1, .t (.val false [.fn 37 []])), (.T 7, .t (.val false [.int .i64 y1])), (.T 8, .t (.val false [.int .i64 y2]))]
noncomputable def g_Sslices_IndexFunc_i_StoWrite_i_StoWrite__i_StoDo_1_0 (y0 : List ((ByteArray) × ((Bool) × (List (Int))))) (y1 : Int) : ((Int)) → RT ((Int)) (((Int)) ⊕ (Unit))
  | y2 => .br (true) (.br (decide (y2 < y1)) (.br (decide ((0 : Int) ≤ y2 ∧ y2 < (↑(List.length y0) : Int))) (.br (g_Ai_StoDo_1 (at_ (Ty.pair Ty.str (Ty.pair Ty.bool (Ty.sl (nat_lit 3) (Ty.int IntKind.i64)))) y0 (Int.toNat y2)).1 (at_ (Ty.pair Ty.str (Ty.pair Ty.bool (Ty.sl (nat_lit 3) (Ty.int IntKind.i64)))) y0 (Int.toNat y2)).2.1 (at_ (Ty.pair Ty.str (Ty.pair Ty.bool (Ty.sl (nat_lit 3) (Ty.int IntKind.i64)))) y0 (Int.toNat y2)).2.2) (.br (!g_Vi_WrtOk_0 (at_ (Ty.pair Ty.str (Ty.pair Ty.bool (Ty.sl (nat_lit 3) (Ty.int IntKind.i64)))) y0 (Int.toNat y2)).1 (at_ (Ty.pair Ty.str (Ty.pair Ty.bool (Ty.sl (nat_lit 3) (Ty.int IntKind.i64)))) y0 (Int.toNat y2)).2.1 (at_ (Ty.pair Ty.str (Ty.pair Ty.bool (Ty.sl (nat_lit 3) (Ty.int IntKind.i64)))) y0 (Int.toNat y2)).2.2) (.out (.inl y2)) (.br (true) (.go (IntKind.wrap IntKind.i64 (y2 + (1 : Int)))) (.bad))) (.bad)) (.bad)) (.out (.inr (())))) (.bad)
noncomputable def g_Lslices_IndexFunc_i_StoWrite_i_StoWrite__i_StoDo_1_0 (y0 : List ((ByteArray) × ((Bool) × (List (Int))))) (y1 : Int) (x : (Int)) : Option (((Int)) ⊕ (Unit)) := loopO (g_Sslices_IndexFunc_i_StoWrite_i_StoWrite__i_StoDo_1_0 y0 y1) x
noncomputable def xslices_IndexFunc_i_StoWrite_i_StoWrite__i_StoDo_1_0 (y0 : List ((ByteArray) × ((Bool) × (List (Int))))) (y1 : Int) : (((Int)) ⊕ (Unit)) → Ex × List (Pl × LV) := fun
  | .inl r => (.ret, [(.T 4, .t (.val false [.int .i64 r]))])
  | .inr (r) => (.exit 0, [(.T 4, .t (.val false [.undef]))])
noncomputable def Oslices_IndexFunc_i_StoWrite_i_StoWrite__i_StoDo_1_1 : Orc := fun b h => match b, h with
  | 0, [(.T 0, .t (.val false [.sl .any 36 (.pair .str (.pair .bool (.sl 3 (.int .i64)))) y0])), (.T 1, .t (.val false [.fn 37 []])), (.T 7, .t (.val false [.int .i64 y1])), (.T 8, .t (.val false [.int .i64 y2]))] => some (okO (g_Lslices_IndexFunc_i_StoWrite_i_StoWrite__i_StoDo_1_0 y0 y1 y2), (.br (isL (valO (g_Lslices_IndexFunc_i_StoWrite_i_StoWrite__i_StoDo_1_0 y0 y1 y2))) (.leaf .ret [(.T 4, .t (.val false [.int .i64 (getL (valO (g_Lslices_IndexFunc_i_StoWrite_i_StoWrite__i_StoDo_1_0 y0 y1 y2)))]))]) (.leaf (.exit 0) [(.T 4, .t (.val false [.undef]))])))
  | b, h => Oslices_IndexFunc_i_StoWrite_i_StoWrite__i_StoDo_1_0 b h
theorem bslices_IndexFunc_i_StoWrite_i_StoWrite__i_StoDo_1_0 (y0 : List ((ByteArray) × ((Bool) × (List (Int))))) (y1 : Int) (y2 : Int) : Tr.bt Eslices_IndexFunc_i_StoWrite_i_StoWrite__i_StoDo_1 Oslices_IndexFunc_i_StoWrite_i_StoWrite__i_StoDo_1_0 (exec Eslices_IndexFunc_i_StoWrite_i_StoWrite__i_StoDo_1 0 cslices_IndexFunc_i_StoWrite_i_StoWrite__i_StoDo_1_0 (St.of (hslices_IndexFunc_i_StoWrite_i_StoWrite__i_StoDo_1_0 y0 y1 y2)) (leafRd Eslices_IndexFunc_i_StoWrite_i_StoWrite__i_StoDo_1 0)) = (g_Sslices_IndexFunc_i_StoWrite_i_StoWrite__i_StoDo_1_0 y0 y1 y2).bt (fun (y2 : (Int)) => (hslices_IndexFunc_i_StoWrite_i_StoWrite__i_StoDo_1_0 y0 y1 y2)) (xslices_IndexFunc_i_StoWrite_i_StoWrite__i_StoDo_1_0 y0 y1) := by kernel_rfl
theorem kslices_IndexFunc_i_StoWrite_i_StoWrite__i_StoDo_1_1 : OrcOk Eslices_IndexFunc_i_StoWrite_i_StoWrite__i_StoDo_1 Oslices_IndexFunc_i_StoWrite_i_StoWrite__i_StoDo_1_1 lsslices_IndexFunc_i_StoWrite_i_StoWrite__i_StoDo_1 1 := orc_add kslices_IndexFunc_i_StoWrite_i_StoWrite__i_StoDo_1_0 (fun n p hp h ex h' ho => by
  obtain ⟨b, c⟩ := p
  obtain ⟨xt, h1, h2⟩ := ho
  have h1 : Oslices_IndexFunc_i_StoWrite_i_StoWrite__i_StoDo_1_1 b h = some (true, xt) := h1
  unfold Oslices_IndexFunc_i_StoWrite_i_StoWrite__i_StoDo_1_1 at h1
  split at h1
  · injection h1 with h1
    injection h1 with e1 e2
    subst e2
    have hc : c = cslices_IndexFunc_i_StoWrite_i_StoWrite__i_StoDo_1_0 := mslices_IndexFunc_i_StoWrite_i_StoWrite__i_StoDo_1_0 _ hp rfl
    subst hc
    right
    rename_i y0 y1 y2
    have key := LT_step kslices_IndexFunc_i_StoWrite_i_StoWrite__i_StoDo_1_0 hp (fun q hq => loopsAll_in _ _ _ _ hp hq) (fun (y2 : (Int)) => (hslices_IndexFunc_i_StoWrite_i_StoWrite__i_StoDo_1_0 y0 y1 y2)) (xslices_IndexFunc_i_StoWrite_i_StoWrite__i_StoDo_1_0 y0 y1) (g_Sslices_IndexFunc_i_StoWrite_i_StoWrite__i_StoDo_1_0 y0 y1) (fun x => by first | exact bslices_IndexFunc_i_StoWrite_i_StoWrite__i_StoDo_1_0 y0 y1 x) n (x := y2) (okO_some e1)
    have hx : ∀ r, XT.sel (.br (isL r) (.leaf .ret [(.T 4, .t (.val false [.int .i64 (getL r)]))]) (.leaf (.exit 0) [(.T 4, .t (.val false [.undef]))])) = xslices_IndexFunc_i_StoWrite_i_StoWrite__i_StoDo_1_0 y0 y1 r := fun r => by first | rfl | (rcases r with r | r <;> rfl) | (rcases r with r | r | r <;> rfl) | (rcases r with r | r | r | r <;> rfl)
    have h3 := (hx (valO (g_Lslices_IndexFunc_i_StoWrite_i_StoWrite__i_StoDo_1_0 y0 y1 y2))).symm.trans h2
    have e3 := congrArg Prod.fst h3
    have e4 := congrArg Prod.snd h3
    simp only at e3 e4
    rw [← e3, ← e4]
    exact key
  · exact .inl ⟨xt, h1, h2⟩)
noncomputable def g_Aslices_IndexFunc_i_StoWrite_i_StoWrite__i_StoDo_1 (a0 : List ((ByteArray) × ((Bool) × (List (Int))))) : Bool := okO (g_Lslices_IndexFunc_i_StoWrite_i_StoWrite__i_StoDo_1_0 a0 (↑(List.length a0) : Int) (0 : Int))
noncomputable def g_Vslices_IndexFunc_i_StoWrite_i_StoWrite__i_StoDo_1_0 (a0 : List ((ByteArray) × ((Bool) × (List (Int))))) : Int := bif isL (valO (g_Lslices_IndexFunc_i_StoWrite_i_StoWrite__i_StoDo_1_0 a0 (↑(List.length a0) : Int) (0 : Int))) then getL (valO (g_Lslices_IndexFunc_i_StoWrite_i_StoWrite__i_StoDo_1_0 a0 (↑(List.length a0) : Int) (0 : Int))) else (-1 : Int)
noncomputable def Fslices_IndexFunc_i_StoWrite_i_StoWrite__i_StoDo_1 : FSem := fun ys => match ys with
  | [.val false [.sl .any 36 (.pair .str (.pair .bool (.sl 3 (.int .i64)))) a0], .val false [.fn 37 []]] => some ((g_Aslices_IndexFunc_i_StoWrite_i_StoWrite__i_StoDo_1 a0), .val false [.int .i64 (g_Vslices_IndexFunc_i_StoWrite_i_StoWrite__i_StoDo_1_0 a0)], [])
  | _ => none
theorem vslices_IndexFunc_i_StoWrite_i_StoWrite__i_StoDo_1 (a0 : List ((ByteArray) × ((Bool) × (List (Int))))) : collapseH .std Eslices_IndexFunc_i_StoWrite_i_StoWrite__i_StoDo_1 Oslices_IndexFunc_i_StoWrite_i_StoWrite__i_StoDo_1_1 (execFn Eslices_IndexFunc_i_StoWrite_i_StoWrite__i_StoDo_1 Go.Proofs.Tryd.f68 msslices_IndexFunc_i_StoWrite_i_StoWrite__i_StoDo_1 [.val false [.sl .any 36 (.pair .str (.pair .bool (.sl 3 (.int .i64)))) a0], .val false [.fn 37 []]]) = some ((g_Aslices_IndexFunc_i_StoWrite_i_StoWrite__i_StoDo_1 a0), .val false [.int .i64 (g_Vslices_IndexFunc_i_StoWrite_i_StoWrite__i_StoDo_1_0 a0)], []) := by kernel_rfl
theorem sslices_IndexFunc_i_StoWrite_i_StoWrite__i_StoDo_1 : Sound Go.Proofs.Tryd.prog 68 msslices_IndexFunc_i_StoWrite_i_StoWrite__i_StoDo_1 Fslices_IndexFunc_i_StoWrite_i_StoWrite__i_StoDo_1 := by
  refine fn_gen goodslices_IndexFunc_i_StoWrite_i_StoWrite__i_StoDo_1 (by kernel_rfl) .std (fn := Go.Proofs.Tryd.f68) (c := (Go.Proofs.Tryd.f68.body.getD .skip)) (o := Oslices_IndexFunc_i_StoWrite_i_StoWrite__i_StoDo_1_1) (k := 1) (by kernel_rfl) (by kernel_rfl) (by kernel_rfl) (by kernel_rfl) (by decide) kslices_IndexFunc_i_StoWrite_i_StoWrite__i_StoDo_1_1 ?_
  intro ys r outs h
  unfold Fslices_IndexFunc_i_StoWrite_i_StoWrite__i_StoDo_1 at h
  split at h
  · exact (vslices_IndexFunc_i_StoWrite_i_StoWrite__i_StoDo_1 _).trans h
  · cases h
end Go.Proofs.YtjoggjjjlafdmaaDoor.E
end
section
namespace Go.Proofs.YtjoggjjjlafdmaaDoor.E
open Go
set_option maxRecDepth 100000
set_option maxHeartbeats 0
set_option linter.all false
noncomputable def Eslices_ContainsFunc_i_StoWrite_i_StoWrite__i_StoDo_1 : Env where
  tt := mkTI Go.Proofs.Tryd.prog
  fn := fun f => match f with
    | 37 => some (msi_StoDo_1, FSem.wk msi_StoDo_1 Fi_StoDo_1)
    | 68 => some (msslices_IndexFunc_i_StoWrite_i_StoWrite__i_StoDo_1, FSem.wk msslices_IndexFunc_i_StoWrite_i_StoWrite__i_StoDo_1 Fslices_IndexFunc_i_StoWrite_i_StoWrite__i_StoDo_1)
    | _ => none
  bxf := fun _ => none
  mv := []
  keep := fun _ => []
  keepB := fun _ => []
  keepX := fun _ => []
  keepXB := fun _ => []
theorem goodFslices_ContainsFunc_i_StoWrite_i_StoWrite__i_StoDo_1 : ∀ f ms F, Eslices_ContainsFunc_i_StoWrite_i_StoWrite__i_StoDo_1.fn f = some (ms, F) → Sound Go.Proofs.Tryd.prog f ms F := fun f ms F h => by
  unfold Eslices_ContainsFunc_i_StoWrite_i_StoWrite__i_StoDo_1 at h
  dsimp only at h
  split at h
  · injection h with h; injection h with e1 e2; subst e1 e2; exact Sound.wk si_StoDo_1
  · injection h with h; injection h with e1 e2; subst e1 e2; exact Sound.wk sslices_IndexFunc_i_StoWrite_i_StoWrite__i_StoDo_1
  · cases h
theorem goodBslices_ContainsFunc_i_StoWrite_i_StoWrite__i_StoDo_1 : ∀ f ms F, Eslices_ContainsFunc_i_StoWrite_i_StoWrite__i_StoDo_1.bxf f = some (ms, F) → SoundB Go.Proofs.Tryd.prog f ms F := fun f ms F h => by cases h
theorem goodslices_ContainsFunc_i_StoWrite_i_StoWrite__i_StoDo_1 : Good Go.Proofs.Tryd.prog Eslices_ContainsFunc_i_StoWrite_i_StoWrite__i_StoDo_1 := ⟨rfl, goodFslices_ContainsFunc_i_StoWrite_i_StoWrite__i_StoDo_1, goodBslices_ContainsFunc_i_StoWrite_i_StoWrite__i_StoDo_1⟩
noncomputable def Oslices_ContainsFunc_i_StoWrite_i_StoWrite__i_StoDo_1_0 : Orc := fun _ _ => none
noncomputable def msslices_ContainsFunc_i_StoWrite_i_StoWrite__i_StoDo_1 : List PM := [.rd, .rd]
noncomputable def lsslices_ContainsFunc_i_StoWrite_i_StoWrite__i_StoDo_1 : List (Nat × Code) := loopsAll 0 (Go.Proofs.Tryd.f36.body.getD .skip)

theorem kslices_ContainsFunc_i_StoWrite_i_StoWrite__i_StoDo_1_0 : OrcOk Eslices_ContainsFunc_i_StoWrite_i_StoWrite__i_StoDo_1 Oslices_ContainsFunc_i_StoWrite_i_StoWrite__i_StoDo_1_0 lsslices_ContainsFunc_i_StoWrite_i_StoWrite__i_StoDo_1 0 := orcOk_none
noncomputable def g_Aslices_ContainsFunc_i_StoWrite_i_StoWrite__i_StoDo_1 (a0 : List ((ByteArray) × ((Bool) × (List (Int))))) : Bool := g_Aslices_IndexFunc_i_StoWrite_i_StoWrite__i_StoDo_1 a0 && true
noncomputable def g_Vslices_ContainsFunc_i_StoWrite_i_StoWrite__i_StoDo_1_0 (a0 : List ((ByteArray) × ((Bool) × (List (Int))))) : Bool := decide (g_Vslices_IndexFunc_i_StoWrite_i_StoWrite__i_StoDo_1_0 a0 ≥ (0 : Int))
noncomputable def Fslices_ContainsFunc_i_StoWrite_i_StoWrite__i_StoDo_1 : FSem := fun ys => match ys with
  | [.val false [.sl .any 36 (.pair .str (.pair .bool (.sl 3 (.int .i64)))) a0], .val false [.fn 37 []]] => some ((g_Aslices_ContainsFunc_i_StoWrite_i_StoWrite__i_StoDo_1 a0), .val false [.bool (g_Vslices_ContainsFunc_i_StoWrite_i_StoWrite__i_StoDo_1_0 a0)], [])
  | _ => none
theorem vslices_ContainsFunc_i_StoWrite_i_StoWrite__i_StoDo_1 (a0 : List ((ByteArray) × ((Bool) × (List (Int))))) : collapseH .std Eslices_ContainsFunc_i_StoWrite_i_StoWrite__i_StoDo_1 Oslices_ContainsFunc_i_StoWrite_i_StoWrite__i_StoDo_1_0 (execFn Eslices_ContainsFunc_i_StoWrite_i_StoWrite__i_StoDo_1 Go.Proofs.Tryd.f36 msslices_ContainsFunc_i_StoWrite_i_StoWrite__i_StoDo_1 [.val false [.sl .any 36 (.pair .str (.pair .bool (.sl 3 (.int .i64)))) a0], .val false [.fn 37 []]]) = some ((g_Aslices_ContainsFunc_i_StoWrite_i_StoWrite__i_StoDo_1 a0), .val false [.bool (g_Vslices_ContainsFunc_i_StoWrite_i_StoWrite__i_StoDo_1_0 a0)], []) := by kernel_rfl
theorem sslices_ContainsFunc_i_StoWrite_i_StoWrite__i_StoDo_1 : Sound Go.Proofs.Tryd.prog 36 msslices_ContainsFunc_i_StoWrite_i_StoWrite__i_StoDo_1 Fslices_ContainsFunc_i_StoWrite_i_StoWrite__i_StoDo_1 := by
  refine fn_gen goodslices_ContainsFunc_i_StoWrite_i_StoWrite__i_StoDo_1 (by kernel_rfl) .std (fn := Go.Proofs.Tryd.f36) (c := (Go.Proofs.Tryd.f36.body.getD .skip)) (o := Oslices_ContainsFunc_i_StoWrite_i_StoWrite__i_StoDo_1_0) (k := 0) (by kernel_rfl) (by kernel_rfl) (by kernel_rfl) (by kernel_rfl) (by decide) kslices_ContainsFunc_i_StoWrite_i_StoWrite__i_StoDo_1_0 ?_
  intro ys r outs h
  unfold Fslices_ContainsFunc_i_StoWrite_i_StoWrite__i_StoDo_1 at h
  split at h
  · exact (vslices_ContainsFunc_i_StoWrite_i_StoWrite__i_StoDo_1 _).trans h
  · cases h
end Go.Proofs.YtjoggjjjlafdmaaDoor.E
end
section
namespace Go.Proofs.YtjoggjjjlafdmaaDoor.E
open Go
set_option maxRecDepth 100000
set_option maxHeartbeats 0
set_option linter.all false
noncomputable def Ei_StoDo : Env where
  tt := mkTI Go.Proofs.Tryd.prog
  fn := fun f => match f with
    | 15 => some (msi_StoOk, FSem.wk msi_StoOk Fi_StoOk)
    | 36 => some (msslices_ContainsFunc_i_StoWrite_i_StoWrite__i_StoDo_1, FSem.wk msslices_ContainsFunc_i_StoWrite_i_StoWrite__i_StoDo_1 Fslices_ContainsFunc_i_StoWrite_i_StoWrite__i_StoDo_1)
    | 39 => some (msi_StoStore_copied, FSem.wk msi_StoStore_copied Fi_StoStore_copied)
    | 40 => some (msi_StoStore_write, FSem.wk msi_StoStore_write Fi_StoStore_write)
    | _ => none
  bxf := fun _ => none
  mv := []
  keep := fun b => match b with
    | 0 => [(4, false), (5, false), (18, false), (19, false), (20, false)]
    | _ => []
  keepB := fun b => match b with
    | 0 => [(4, false), (5, false)]
    | _ => []
  keepX := fun b => match b with
    | 0 => [(4, false), (5, false)]
    | _ => []
  keepXB := fun b => match b with
    | 0 => [(4, false), (5, false)]
    | _ => []
theorem goodFi_StoDo : ∀ f ms F, Ei_StoDo.fn f = some (ms, F) → Sound Go.Proofs.Tryd.prog f ms F := fun f ms F h => by
  unfold Ei_StoDo at h
  dsimp only at h
  split at h
  · injection h with h; injection h with e1 e2; subst e1 e2; exact Sound.wk si_StoOk
  · injection h with h; injection h with e1 e2; subst e1 e2; exact Sound.wk sslices_ContainsFunc_i_StoWrite_i_StoWrite__i_StoDo_1
  · injection h with h; injection h with e1 e2; subst e1 e2; exact Sound.wk si_StoStore_copied
  · injection h with h; injection h with e1 e2; subst e1 e2; exact Sound.wk si_StoStore_write
  · cases h
theorem goodBi_StoDo : ∀ f ms F, Ei_StoDo.bxf f = some (ms, F) → SoundB Go.Proofs.Tryd.prog f ms F := fun f ms F h => by cases h
theorem goodi_StoDo : Good Go.Proofs.Tryd.prog Ei_StoDo := ⟨rfl, goodFi_StoDo, goodBi_StoDo⟩
noncomputable def Oi_StoDo_0 : Orc := fun _ _ => none
noncomputable def msi_StoDo : List PM := [.rd, .rd]
noncomputable def lsi_StoDo : List (Nat × Code) := loopsAll 0 (Go.Proofs.Tryd.f9.body.getD .skip)
noncomputable def ci_StoDo_0 : Code := (loopOf 0 (Go.Proofs.Tryd.f9.body.getD .skip)).getD .skip
theorem lseqi_StoDo : lsi_StoDo = [(0, ci_StoDo_0)] := by kernel_rfl
theorem mi_StoDo_0 : ∀ p, p ∈ lsi_StoDo → p.1 = 0 → p.2 = ci_StoDo_0 := by
  intro p hp
  rw [lseqi_StoDo] at hp
  simp only [List.mem_cons, List.not_mem_nil, or_false] at hp
  subst hp; simp
theorem ki_StoDo_0 : OrcOk Ei_StoDo Oi_StoDo_0 lsi_StoDo 0 := orcOk_none
noncomputable def hi_StoDo_0 (y0 : List ((ByteArray) × ((Bool) × (List (Int))))) (y1 : Int) (y2 : Int) (y3 : List ((ByteArray) × (List (Int)))) (y4 : List ((ByteArray) × (List (Int)))) : List (Pl × LV) := [(.T 4, .t (.val false [.ptr 4 0 0])), (.T 5, .t (.val false [.ptr 5 0 0])), (.T 18, .t (.val false [.sl .any 36 (.pair .str (.pair .bool (.sl 3 (.int .i64)))) y0])), (.T 19, .t (.val false [.int .i64 y1])), (.T 20, .t (.val false [.int .i64 y2])), (.B 4, .b 0 false [.row 4 1 0]), (.R 4 1, .r 0 (some ⟨false, .any, true, 41, (.pair .str (.sl 3 (.int .i64))), y3⟩)), (.B 5, .b 0 false [.row 5 1 0]), (.R 5 1, .r 0 (some ⟨false, .any, true, 41, (.pair .str (.sl 3 (.int .i64))), y4⟩))]
noncomputable def g_Si_StoDo_0 (y0 : List ((ByteArray) × ((Bool) × (List (Int))))) (y1 : Int) (y3 : List ((ByteArray) × (List (Int)))) : ((Int) × (List ((ByteArray) × (List (Int))))) → RT ((Int) × (List ((ByteArray) × (List (Int))))) (((List ((ByteArray) × (List (Int)))) × (List ((ByteArray) × (List (Int))))) ⊕ ((List ((ByteArray) × (List (Int))))))
  | (y2, y4) => .br (true) (.br (decide (y2 < y1)) (.br (decide ((0 : Int) ≤ y2 ∧ y2 < (↑(List.length y0) : Int))) (.br (g_Ai_StoStore_write y4 (at_ (Ty.pair Ty.str (Ty.pair Ty.bool (Ty.sl (nat_lit 3) (Ty.int IntKind.i64)))) y0 (Int.toNat y2)).1 (at_ (Ty.pair Ty.str (Ty.pair Ty.bool (Ty.sl (nat_lit 3) (Ty.int IntKind.i64)))) y0 (Int.toNat y2)).2.1 (at_ (Ty.pair Ty.str (Ty.pair Ty.bool (Ty.sl (nat_lit 3) (Ty.int IntKind.i64)))) y0 (Int.toNat y2)).2.2) (.br (true) (.br (decide ((↑(List.length (g_Vi_StoStore_write_0 y4 (at_ (Ty.pair Ty.str (Ty.pair Ty.bool (Ty.sl (nat_lit 3) (Ty.int IntKind.i64)))) y0 (Int.toNat y2)).1 (at_ (Ty.pair Ty.str (Ty.pair Ty.bool (Ty.sl (nat_lit 3) (Ty.int IntKind.i64)))) y0 (Int.toNat y2)).2.1 (at_ (Ty.pair Ty.str (Ty.pair Ty.bool (Ty.sl (nat_lit 3) (Ty.int IntKind.i64)))) y0 (Int.toNat y2)).2.2)) : Int) > (40 : Int))) (.out (.inl (([], g_Vi_StoStore_write_0 y4 (at_ (Ty.pair Ty.str (Ty.pair Ty.bool (Ty.sl (nat_lit 3) (Ty.int IntKind.i64)))) y0 (Int.toNat y2)).1 (at_ (Ty.pair Ty.str (Ty.pair Ty.bool (Ty.sl (nat_lit 3) (Ty.int IntKind.i64)))) y0 (Int.toNat y2)).2.1 (at_ (Ty.pair Ty.str (Ty.pair Ty.bool (Ty.sl (nat_lit 3) (Ty.int IntKind.i64)))) y0 (Int.toNat y2)).2.2)))) (.br (true) (.go ((IntKind.wrap IntKind.i64 (y2 + (1 : Int)), g_Vi_StoStore_write_0 y4 (at_ (Ty.pair Ty.str (Ty.pair Ty.bool (Ty.sl (nat_lit 3) (Ty.int IntKind.i64)))) y0 (Int.toNat y2)).1 (at_ (Ty.pair Ty.str (Ty.pair Ty.bool (Ty.sl (nat_lit 3) (Ty.int IntKind.i64)))) y0 (Int.toNat y2)).2.1 (at_ (Ty.pair Ty.str (Ty.pair Ty.bool (Ty.sl (nat_lit 3) (Ty.int IntKind.i64)))) y0 (Int.toNat y2)).2.2))) (.bad))) (.bad)) (.bad)) (.bad)) (.out (.inr (y4)))) (.bad)
noncomputable def g_Li_StoDo_0 (y0 : List ((ByteArray) × ((Bool) × (List (Int))))) (y1 : Int) (y3 : List ((ByteArray) × (List (Int)))) (x : (Int) × (List ((ByteArray) × (List (Int))))) : Option (((List ((ByteArray) × (List (Int)))) × (List ((ByteArray) × (List (Int))))) ⊕ ((List ((ByteArray) × (List (Int)))))) := loopO (g_Si_StoDo_0 y0 y1 y3) x
noncomputable def xi_StoDo_0 (y0 : List ((ByteArray) × ((Bool) × (List (Int))))) (y1 : Int) (y3 : List ((ByteArray) × (List (Int)))) : (((List ((ByteArray) × (List (Int)))) × (List ((ByteArray) × (List (Int))))) ⊕ ((List ((ByteArray) × (List (Int)))))) → Ex × List (Pl × LV) := fun
  | .inl r => (.ret, [(.T 4, .t (.val false [.ptr 4 0 0])), (.T 5, .t (.val false [.ptr 5 0 0])), (.B 4, .b 0 false [.row 4 1 0]), (.R 4 1, .r 0 (some ⟨false, .any, true, 41, (.pair .str (.sl 3 (.int .i64))), r.1⟩)), (.B 5, .b 0 false [.row 5 1 0]), (.R 5 1, .r 0 (some ⟨false, .any, true, 41, (.pair .str (.sl 3 (.int .i64))), r.2⟩))])
  | .inr (r) => (.exit 0, [(.T 4, .t (.val false [.ptr 4 0 0])), (.T 5, .t (.val false [.ptr 5 0 0])), (.B 4, .b 0 false [.row 4 1 0]), (.R 4 1, .r 0 (some ⟨false, .any, true, 41, (.pair .str (.sl 3 (.int .i64))), y3⟩)), (.B 5, .b 0 false [.row 5 1 0]), (.R 5 1, .r 0 (some ⟨false, .any, true, 41, (.pair .str (.sl 3 (.int .i64))), r⟩))])
noncomputable def Oi_StoDo_1 : Orc := fun b h => match b, h with
  | 0, [(.T 4, .t (.val false [.ptr 4 0 0])), (.T 5, .t (.val false [.ptr 5 0 0])), (.T 18, .t (.val false [.sl .any 36 (.pair .str (.pair .bool (.sl 3 (.int .i64)))) y0])), (.T 19, .t (.val false [.int .i64 y1])), (.T 20, .t (.val false [.int .i64 y2])), (.B 4, .b 0 false [.row 4 1 0]), (.R 4 1, .r 0 (some ⟨false, .any, true, 41, (.pair .str (.sl 3 (.int .i64))), y3⟩)), (.B 5, .b 0 false [.row 5 1 0]), (.R 5 1, .r 0 (some ⟨false, .any, true, 41, (.pair .str (.sl 3 (.int .i64))), y4⟩))] => some (okO (g_Li_StoDo_0 y0 y1 y3 (y2, y4)), (.br (isL (valO (g_Li_StoDo_0 y0 y1 y3 (y2, y4)))) (.leaf .ret [(.T 4, .t (.val false [.ptr 4 0 0])), (.T 5, .t (.val false [.ptr 5 0 0])), (.B 4, .b 0 false [.row 4 1 0]), (.R 4 1, .r 0 (some ⟨false, .any, true, 41, (.pair .str (.sl 3 (.int .i64))), (getL (valO (g_Li_StoDo_0 y0 y1 y3 (y2, y4)))).1⟩)), (.B 5, .b 0 false [.row 5 1 0]), (.R 5 1, .r 0 (some ⟨false, .any, true, 41, (.pair .str (.sl 3 (.int .i64))), (getL (valO (g_Li_StoDo_0 y0 y1 y3 (y2, y4)))).2⟩))]) (.leaf (.exit 0) [(.T 4, .t (.val false [.ptr 4 0 0])), (.T 5, .t (.val false [.ptr 5 0 0])), (.B 4, .b 0 false [.row 4 1 0]), (.R 4 1, .r 0 (some ⟨false, .any, true, 41, (.pair .str (.sl 3 (.int .i64))), y3⟩)), (.B 5, .b 0 false [.row 5 1 0]), (.R 5 1, .r 0 (some ⟨false, .any, true, 41, (.pair .str (.sl 3 (.int .i64))), (getR (valO (g_Li_StoDo_0 y0 y1 y3 (y2, y4))))⟩))])))
  | b, h => Oi_StoDo_0 b h
theorem bi_StoDo_0 (y0 : List ((ByteArray) × ((Bool) × (List (Int))))) (y1 : Int) (y2 : Int) (y3 : List ((ByteArray) × (List (Int)))) (y4 : List ((ByteArray) × (List (Int)))) : Tr.bt Ei_StoDo Oi_StoDo_0 (exec Ei_StoDo 0 ci_StoDo_0 (St.of (hi_StoDo_0 y0 y1 y2 y3 y4)) (leafRd Ei_StoDo 0)) = (g_Si_StoDo_0 y0 y1 y3 (y2, y4)).bt (fun ((y2, y4) : (Int) × (List ((ByteArray) × (List (Int))))) => (hi_StoDo_0 y0 y1 y2 y3 y4)) (xi_StoDo_0 y0 y1 y3) := by kernel_rfl
theorem ki_StoDo_1 : OrcOk Ei_StoDo Oi_StoDo_1 lsi_StoDo 1 := orc_add ki_StoDo_0 (fun n p hp h ex h' ho => by
  obtain ⟨b, c⟩ := p
  obtain ⟨xt, h1, h2⟩ := ho
  have h1 : Oi_StoDo_1 b h = some (true, xt) := h1
  unfold Oi_StoDo_1 at h1
  split at h1
  · injection h1 with h1
    injection h1 with e1 e2
    subst e2
    have hc : c = ci_StoDo_0 := mi_StoDo_0 _ hp rfl
    subst hc
    right
    rename_i y0 y1 y2 y3 y4
    have key := LT_step ki_StoDo_0 hp (fun q hq => loopsAll_in _ _ _ _ hp hq) (fun ((y2, y4) : (Int) × (List ((ByteArray) × (List (Int))))) => (hi_StoDo_0 y0 y1 y2 y3 y4)) (xi_StoDo_0 y0 y1 y3) (g_Si_StoDo_0 y0 y1 y3) (fun x => by first | exact bi_StoDo_0 y0 y1 x.1 y3 x.2) n (x := (y2, y4)) (okO_some e1)
    have hx : ∀ r, XT.sel (.br (isL r) (.leaf .ret [(.T 4, .t (.val false [.ptr 4 0 0])), (.T 5, .t (.val false [.ptr 5 0 0])), (.B 4, .b 0 false [.row 4 1 0]), (.R 4 1, .r 0 (some ⟨false, .any, true, 41, (.pair .str (.sl 3 (.int .i64))), (getL r).1⟩)), (.B 5, .b 0 false [.row 5 1 0]), (.R 5 1, .r 0 (some ⟨false, .any, true, 41, (.pair .str (.sl 3 (.int .i64))), (getL r).2⟩))]) (.leaf (.exit 0) [(.T 4, .t (.val false [.ptr 4 0 0])), (.T 5, .t (.val false [.ptr 5 0 0])), (.B 4, .b 0 false [.row 4 1 0]), (.R 4 1, .r 0 (some ⟨false, .any, true, 41, (.pair .str (.sl 3 (.int .i64))), y3⟩)), (.B 5, .b 0 false [.row 5 1 0]), (.R 5 1, .r 0 (some ⟨false, .any, true, 41, (.pair .str (.sl 3 (.int .i64))), (getR r)⟩))])) = xi_StoDo_0 y0 y1 y3 r := fun r => by first | rfl | (rcases r with r | r <;> rfl) | (rcases r with r | r | r <;> rfl) | (rcases r with r | r | r | r <;> rfl)
    have h3 := (hx (valO (g_Li_StoDo_0 y0 y1 y3 (y2, y4)))).symm.trans h2
    have e3 := congrArg Prod.fst h3
    have e4 := congrArg Prod.snd h3
    simp only at e3 e4
    rw [← e3, ← e4]
    exact key
  · exact .inl ⟨xt, h1, h2⟩)
noncomputable def g_Ai_StoDo (a0 : List ((ByteArray) × (List (Int)))) (a1 : List ((ByteArray) × ((Bool) × (List (Int))))) : Bool := g_Ai_StoOk a0 && (!g_Vi_StoOk_0 a0 || g_Aslices_ContainsFunc_i_StoWrite_i_StoWrite__i_StoDo_1 a1 && (g_Vslices_ContainsFunc_i_StoWrite_i_StoWrite__i_StoDo_1_0 a1 || g_Ai_StoStore_copied a0 && okO (g_Li_StoDo_0 a1 (↑(List.length a1) : Int) [] ((0 : Int), g_Vi_StoStore_copied_0 a0))))
noncomputable def g_Vi_StoDo_0 (a0 : List ((ByteArray) × (List (Int)))) (a1 : List ((ByteArray) × ((Bool) × (List (Int))))) : List ((ByteArray) × (List (Int))) := bif !g_Vi_StoOk_0 a0 then [] else bif g_Vslices_ContainsFunc_i_StoWrite_i_StoWrite__i_StoDo_1_0 a1 then [] else bif isL (valO (g_Li_StoDo_0 a1 (↑(List.length a1) : Int) [] ((0 : Int), g_Vi_StoStore_copied_0 a0))) then (getL (valO (g_Li_StoDo_0 a1 (↑(List.length a1) : Int) [] ((0 : Int), g_Vi_StoStore_copied_0 a0)))).1 else getR (valO (g_Li_StoDo_0 a1 (↑(List.length a1) : Int) [] ((0 : Int), g_Vi_StoStore_copied_0 a0)))
noncomputable def Fi_StoDo : FSem := fun ys => match ys with
  | [.val true [.sl .any 41 (.pair .str (.sl 3 (.int .i64))) a0], .val false [.sl .any 36 (.pair .str (.pair .bool (.sl 3 (.int .i64)))) a1]] => some ((g_Ai_StoDo a0 a1), .val true [.own .any true 41 (.pair .str (.sl 3 (.int .i64))) (g_Vi_StoDo_0 a0 a1)], [])
  | _ => none
theorem vi_StoDo (a0 : List ((ByteArray) × (List (Int)))) (a1 : List ((ByteArray) × ((Bool) × (List (Int))))) : collapseH .std Ei_StoDo Oi_StoDo_1 (execFn Ei_StoDo Go.Proofs.Tryd.f9 msi_StoDo [.val true [.sl .any 41 (.pair .str (.sl 3 (.int .i64))) a0], .val false [.sl .any 36 (.pair .str (.pair .bool (.sl 3 (.int .i64)))) a1]]) = some ((g_Ai_StoDo a0 a1), .val true [.own .any true 41 (.pair .str (.sl 3 (.int .i64))) (g_Vi_StoDo_0 a0 a1)], []) := by kernel_rfl
theorem si_StoDo : Sound Go.Proofs.Tryd.prog 9 msi_StoDo Fi_StoDo := by
  refine fn_gen goodi_StoDo (by kernel_rfl) .std (fn := Go.Proofs.Tryd.f9) (c := (Go.Proofs.Tryd.f9.body.getD .skip)) (o := Oi_StoDo_1) (k := 1) (by kernel_rfl) (by kernel_rfl) (by kernel_rfl) (by kernel_rfl) (by decide) ki_StoDo_1 ?_
  intro ys r outs h
  unfold Fi_StoDo at h
  split at h
  · exact (vi_StoDo _ _).trans h
  · cases h
end Go.Proofs.YtjoggjjjlafdmaaDoor.E
end
section
namespace Go.Proofs.YtjoggjjjlafdmaaDoor.E
open Go
set_option maxRecDepth 100000
set_option maxHeartbeats 0
set_option linter.all false
noncomputable def Eslices_Clone_int_int_nz : Env where
  tt := mkTI Go.Proofs.Tryd.prog
  fn := fun _ => none
  bxf := fun _ => none
  mv := []
  keep := fun _ => []
  keepB := fun _ => []
  keepX := fun _ => []
  keepXB := fun _ => []
theorem goodFslices_Clone_int_int_nz : ∀ f ms F, Eslices_Clone_int_int_nz.fn f = some (ms, F) → Sound Go.Proofs.Tryd.prog f ms F := fun f ms F h => by cases h
theorem goodBslices_Clone_int_int_nz : ∀ f ms F, Eslices_Clone_int_int_nz.bxf f = some (ms, F) → SoundB Go.Proofs.Tryd.prog f ms F := fun f ms F h => by cases h
theorem goodslices_Clone_int_int_nz : Good Go.Proofs.Tryd.prog Eslices_Clone_int_int_nz := ⟨rfl, goodFslices_Clone_int_int_nz, goodBslices_Clone_int_int_nz⟩
noncomputable def Oslices_Clone_int_int_nz_0 : Orc := fun _ _ => none
noncomputable def msslices_Clone_int_int_nz : List PM := [.rd]
noncomputable def lsslices_Clone_int_int_nz : List (Nat × Code) := loopsAll 0 (Go.Proofs.Tryd.f69.body.getD .skip)

theorem kslices_Clone_int_int_nz_0 : OrcOk Eslices_Clone_int_int_nz Oslices_Clone_int_int_nz_0 lsslices_Clone_int_int_nz 0 := orcOk_none
noncomputable def g_Aslices_Clone_int_int_nz (a0 : List (Int)) : Bool := decide (nat_lit 0 < List.length a0) && decide ((nat_lit 0 + List.length a0) * nat_lit 8 ≤ nat_lit 140737488355328 ∧ nat_lit 0 + List.length a0 ≤ nat_lit 9223372036854775807)
noncomputable def g_Vslices_Clone_int_int_nz_0 (a0 : List (Int)) : List (Int) := [] ++ a0
noncomputable def Fslices_Clone_int_int_nz : FSem := fun ys => match ys with
  | [.val false [.sl .any 3 (.int .i64) a0]] => some ((g_Aslices_Clone_int_int_nz a0), .val false [.own (.may false) true 3 (.int .i64) (g_Vslices_Clone_int_int_nz_0 a0)], [])
  | _ => none
theorem vslices_Clone_int_int_nz (a0 : List (Int)) : collapseH .nz Eslices_Clone_int_int_nz Oslices_Clone_int_int_nz_0 (execFn Eslices_Clone_int_int_nz Go.Proofs.Tryd.f69 msslices_Clone_int_int_nz [.val false [.sl .any 3 (.int .i64) a0]]) = some ((g_Aslices_Clone_int_int_nz a0), .val false [.own (.may false) true 3 (.int .i64) (g_Vslices_Clone_int_int_nz_0 a0)], []) := by kernel_rfl
theorem sslices_Clone_int_int_nz : Sound Go.Proofs.Tryd.prog 69 msslices_Clone_int_int_nz Fslices_Clone_int_int_nz := by
  refine fn_gen goodslices_Clone_int_int_nz (by kernel_rfl) .nz (fn := Go.Proofs.Tryd.f69) (c := (Go.Proofs.Tryd.f69.body.getD .skip)) (o := Oslices_Clone_int_int_nz_0) (k := 0) (by kernel_rfl) (by kernel_rfl) (by kernel_rfl) (by kernel_rfl) (by decide) kslices_Clone_int_int_nz_0 ?_
  intro ys r outs h
  unfold Fslices_Clone_int_int_nz at h
  split at h
  · exact (vslices_Clone_int_int_nz _).trans h
  · cases h
end Go.Proofs.YtjoggjjjlafdmaaDoor.E
end
section
namespace Go.Proofs.YtjoggjjjlafdmaaDoor.E
open Go
set_option maxRecDepth 100000
set_option maxHeartbeats 0
set_option linter.all false
noncomputable def Ei_StoStore_get : Env where
  tt := mkTI Go.Proofs.Tryd.prog
  fn := fun f => match f with
    | 69 => some (msslices_Clone_int_int_nz, FSem.wk msslices_Clone_int_int_nz Fslices_Clone_int_int_nz)
    | 70 => some (msi_StoStore_find, FSem.wk msi_StoStore_find Fi_StoStore_find)
    | _ => none
  bxf := fun _ => none
  mv := []
  keep := fun _ => []
  keepB := fun _ => []
  keepX := fun _ => []
  keepXB := fun _ => []
theorem goodFi_StoStore_get : ∀ f ms F, Ei_StoStore_get.fn f = some (ms, F) → Sound Go.Proofs.Tryd.prog f ms F := fun f ms F h => by
  unfold Ei_StoStore_get at h
  dsimp only at h
  split at h
  · injection h with h; injection h with e1 e2; subst e1 e2; exact Sound.wk sslices_Clone_int_int_nz
  · injection h with h; injection h with e1 e2; subst e1 e2; exact Sound.wk si_StoStore_find
  · cases h
theorem goodBi_StoStore_get : ∀ f ms F, Ei_StoStore_get.bxf f = some (ms, F) → SoundB Go.Proofs.Tryd.prog f ms F := fun f ms F h => by cases h
theorem goodi_StoStore_get : Good Go.Proofs.Tryd.prog Ei_StoStore_get := ⟨rfl, goodFi_StoStore_get, goodBi_StoStore_get⟩
noncomputable def Oi_StoStore_get_0 : Orc := fun _ _ => none
noncomputable def msi_StoStore_get : List PM := [.rd, .own]
noncomputable def lsi_StoStore_get : List (Nat × Code) := loopsAll 0 (Go.Proofs.Tryd.f47.body.getD .skip)

theorem ki_StoStore_get_0 : OrcOk Ei_StoStore_get Oi_StoStore_get_0 lsi_StoStore_get 0 := orcOk_none
noncomputable def g_Ai_StoStore_get (a0 : List ((ByteArray) × (List (Int)))) (a1 : ByteArray) : Bool := g_Ai_StoStore_find a0 a1 && (!g_Vslices_BinarySearchFunc_i_StoItem_i_StoItem_string__i_StoStore_find_1_1 a0 a1 || decide ((0 : Int) ≤ g_Vslices_BinarySearchFunc_i_StoItem_i_StoItem_string__i_StoStore_find_1_0 a0 a1 ∧ g_Vslices_BinarySearchFunc_i_StoItem_i_StoItem_string__i_StoStore_find_1_0 a0 a1 < (↑(List.length a0) : Int)) && g_Aslices_Clone_int_int_nz (at_ (Ty.pair Ty.str (Ty.sl (nat_lit 3) (Ty.int IntKind.i64))) a0 (Int.toNat (g_Vslices_BinarySearchFunc_i_StoItem_i_StoItem_string__i_StoStore_find_1_0 a0 a1))).2)
noncomputable def g_Vi_StoStore_get_0 (a0 : List ((ByteArray) × (List (Int)))) (a1 : ByteArray) : Bool := bif !g_Vslices_BinarySearchFunc_i_StoItem_i_StoItem_string__i_StoStore_find_1_1 a0 a1 then true else false
noncomputable def g_Vi_StoStore_get_1 (a0 : List ((ByteArray) × (List (Int)))) (a1 : ByteArray) : List (Int) := bif !g_Vslices_BinarySearchFunc_i_StoItem_i_StoItem_string__i_StoStore_find_1_1 a0 a1 then [] else g_Vslices_Clone_int_int_nz_0 (at_ (Ty.pair Ty.str (Ty.sl (nat_lit 3) (Ty.int IntKind.i64))) a0 (Int.toNat (g_Vslices_BinarySearchFunc_i_StoItem_i_StoItem_string__i_StoStore_find_1_0 a0 a1))).2
noncomputable def Fi_StoStore_get : FSem := fun ys => match ys with
  | [.val true [.sl .any 41 (.pair .str (.sl 3 (.int .i64))) a0], .val false [.str a1]] => some ((g_Ai_StoStore_get a0 a1), .val false [.own (.may (g_Vi_StoStore_get_0 a0 a1)) true 3 (.int .i64) (g_Vi_StoStore_get_1 a0 a1)], [])
  | _ => none
theorem vi_StoStore_get (a0 : List ((ByteArray) × (List (Int)))) (a1 : ByteArray) : collapseH .nz Ei_StoStore_get Oi_StoStore_get_0 (execFn Ei_StoStore_get Go.Proofs.Tryd.f47 msi_StoStore_get [.val true [.sl .any 41 (.pair .str (.sl 3 (.int .i64))) a0], .val false [.str a1]]) = some ((g_Ai_StoStore_get a0 a1), .val false [.own (.may (g_Vi_StoStore_get_0 a0 a1)) true 3 (.int .i64) (g_Vi_StoStore_get_1 a0 a1)], []) := by kernel_rfl
theorem si_StoStore_get : Sound Go.Proofs.Tryd.prog 47 msi_StoStore_get Fi_StoStore_get := by
  refine fn_gen goodi_StoStore_get (by kernel_rfl) .nz (fn := Go.Proofs.Tryd.f47) (c := (Go.Proofs.Tryd.f47.body.getD .skip)) (o := Oi_StoStore_get_0) (k := 0) (by kernel_rfl) (by kernel_rfl) (by kernel_rfl) (by kernel_rfl) (by decide) ki_StoStore_get_0 ?_
  intro ys r outs h
  unfold Fi_StoStore_get at h
  split at h
  · exact (vi_StoStore_get _ _).trans h
  · cases h
end Go.Proofs.YtjoggjjjlafdmaaDoor.E
end
section
namespace Go.Proofs.YtjoggjjjlafdmaaDoor.E
open Go
set_option maxRecDepth 100000
set_option maxHeartbeats 0
set_option linter.all false
noncomputable def Ei_StoGet : Env where
  tt := mkTI Go.Proofs.Tryd.prog
  fn := fun f => match f with
    | 15 => some (msi_StoOk, FSem.wk msi_StoOk Fi_StoOk)
    | 47 => some (msi_StoStore_get, FSem.wk msi_StoStore_get Fi_StoStore_get)
    | _ => none
  bxf := fun _ => none
  mv := []
  keep := fun _ => []
  keepB := fun _ => []
  keepX := fun _ => []
  keepXB := fun _ => []
theorem goodFi_StoGet : ∀ f ms F, Ei_StoGet.fn f = some (ms, F) → Sound Go.Proofs.Tryd.prog f ms F := fun f ms F h => by
  unfold Ei_StoGet at h
  dsimp only at h
  split at h
  · injection h with h; injection h with e1 e2; subst e1 e2; exact Sound.wk si_StoOk
  · injection h with h; injection h with e1 e2; subst e1 e2; exact Sound.wk si_StoStore_get
  · cases h
theorem goodBi_StoGet : ∀ f ms F, Ei_StoGet.bxf f = some (ms, F) → SoundB Go.Proofs.Tryd.prog f ms F := fun f ms F h => by cases h
theorem goodi_StoGet : Good Go.Proofs.Tryd.prog Ei_StoGet := ⟨rfl, goodFi_StoGet, goodBi_StoGet⟩
noncomputable def Oi_StoGet_0 : Orc := fun _ _ => none
noncomputable def msi_StoGet : List PM := [.rd, .own]
noncomputable def lsi_StoGet : List (Nat × Code) := loopsAll 0 (Go.Proofs.Tryd.f16.body.getD .skip)

theorem ki_StoGet_0 : OrcOk Ei_StoGet Oi_StoGet_0 lsi_StoGet 0 := orcOk_none
noncomputable def g_Ai_StoGet (a0 : List ((ByteArray) × (List (Int)))) (a1 : ByteArray) : Bool := g_Ai_StoOk a0 && (!g_Vi_StoOk_0 a0 || g_Ai_StoStore_get a0 a1)
noncomputable def g_Vi_StoGet_0 (a0 : List ((ByteArray) × (List (Int)))) (a1 : ByteArray) : List (Int) := bif !g_Vi_StoOk_0 a0 then [] else g_Vi_StoStore_get_1 a0 a1
noncomputable def g_Vi_StoGet_1 (a0 : List ((ByteArray) × (List (Int)))) (a1 : ByteArray) : Bool := bif !g_Vi_StoOk_0 a0 then false else !g_Vi_StoStore_get_0 a0 a1
noncomputable def Fi_StoGet : FSem := fun ys => match ys with
  | [.val true [.sl .any 41 (.pair .str (.sl 3 (.int .i64))) a0], .val false [.str a1]] => some ((g_Ai_StoGet a0 a1), .tup [(false, [.own .any true 3 (.int .i64) (g_Vi_StoGet_0 a0 a1)]), (false, [.bool (g_Vi_StoGet_1 a0 a1)])], [])
  | _ => none
theorem vi_StoGet (a0 : List ((ByteArray) × (List (Int)))) (a1 : ByteArray) : collapseH .std Ei_StoGet Oi_StoGet_0 (execFn Ei_StoGet Go.Proofs.Tryd.f16 msi_StoGet [.val true [.sl .any 41 (.pair .str (.sl 3 (.int .i64))) a0], .val false [.str a1]]) = some ((g_Ai_StoGet a0 a1), .tup [(false, [.own .any true 3 (.int .i64) (g_Vi_StoGet_0 a0 a1)]), (false, [.bool (g_Vi_StoGet_1 a0 a1)])], []) := by kernel_rfl
theorem si_StoGet : Sound Go.Proofs.Tryd.prog 16 msi_StoGet Fi_StoGet := by
  refine fn_gen goodi_StoGet (by kernel_rfl) .std (fn := Go.Proofs.Tryd.f16) (c := (Go.Proofs.Tryd.f16.body.getD .skip)) (o := Oi_StoGet_0) (k := 0) (by kernel_rfl) (by kernel_rfl) (by kernel_rfl) (by kernel_rfl) (by decide) ki_StoGet_0 ?_
  intro ys r outs h
  unfold Fi_StoGet at h
  split at h
  · exact (vi_StoGet _ _).trans h
  · cases h
end Go.Proofs.YtjoggjjjlafdmaaDoor.E
end
section
namespace Go.Proofs.YtjoggjjjlafdmaaDoor.E
open Go
set_option maxRecDepth 100000
set_option maxHeartbeats 0
set_option linter.all false
noncomputable def Es_l20Open : Env where
  tt := mkTI Go.Proofs.Tryd.prog
  fn := fun _ => none
  bxf := fun _ => none
  mv := []
  keep := fun _ => []
  keepB := fun _ => []
  keepX := fun _ => []
  keepXB := fun _ => []
theorem goodFs_l20Open : ∀ f ms F, Es_l20Open.fn f = some (ms, F) → Sound Go.Proofs.Tryd.prog f ms F := fun f ms F h => by cases h
theorem goodBs_l20Open : ∀ f ms F, Es_l20Open.bxf f = some (ms, F) → SoundB Go.Proofs.Tryd.prog f ms F := fun f ms F h => by cases h
theorem goods_l20Open : Good Go.Proofs.Tryd.prog Es_l20Open := ⟨rfl, goodFs_l20Open, goodBs_l20Open⟩
noncomputable def Os_l20Open_0 : Orc := fun _ _ => none
noncomputable def mss_l20Open : List PM := [.fz]
noncomputable def lss_l20Open : List (Nat × Code) := loopsAll 0 (Go.Proofs.Tryd.f31.body.getD .skip)

theorem ks_l20Open_0 : OrcOk Es_l20Open Os_l20Open_0 lss_l20Open 0 := orcOk_none
noncomputable def g_As_l20Open (a0 : List (Int)) : Bool := Bool.rec (!decide ((↑(List.length a0) : Int) > (2000 : Int)) && true) true (decide ((0 : Int) ≤ (2000 : Int) ∧ (2000 : Int) ≤ (↑(List.length a0) : Int)) && true)
noncomputable def g_Vs_l20Open_0 (a0 : List (Int)) : List (Int) := bif decide ((↑(List.length a0) : Int) > (2000 : Int)) then List.drop (nat_lit 0) (List.take (nat_lit 2000) a0) else a0
noncomputable def g_Vs_l20Open_1 (a0 : List (Int)) : Int := bif decide ((↑(List.length a0) : Int) > (2000 : Int)) then (0 : Int) else (0 : Int)
noncomputable def Fs_l20Open : List RV → Option (Bool × List Cell × List (List Cell)) := fun ys => match ys with
  | [.val false [.sl .any 5 (.int .u8) a0]] => some ((g_As_l20Open a0), [.sl .any 5 (.int .u8) (g_Vs_l20Open_0 a0), .int .i64 (g_Vs_l20Open_1 a0)], [])
  | _ => none
theorem vs_l20Open (a0 : List (Int)) : collapse Es_l20Open Os_l20Open_0 (execFnB Es_l20Open Go.Proofs.Tryd.f31 mss_l20Open 2 [.val false [.sl .any 5 (.int .u8) a0]]) = some ((g_As_l20Open a0), .val true [.sl .any 5 (.int .u8) (g_Vs_l20Open_0 a0), .int .i64 (g_Vs_l20Open_1 a0)], []) := by kernel_rfl
theorem ss_l20Open : SoundB Go.Proofs.Tryd.prog 31 mss_l20Open Fs_l20Open := by
  refine fn_genB goods_l20Open (by kernel_rfl) (fn := Go.Proofs.Tryd.f31) (c := (Go.Proofs.Tryd.f31.body.getD .skip)) (o := Os_l20Open_0) (k := 0) (tr := 2) (by kernel_rfl) (by kernel_rfl) (by kernel_rfl) (by kernel_rfl) (by decide) (by kernel_rfl) (by decide) ks_l20Open_0 ?_
  intro ys r outs h
  unfold Fs_l20Open at h
  split at h
  · simp only [Option.some.injEq, Prod.mk.injEq] at h
    obtain ⟨h1, h2, h3⟩ := h
    refine ⟨h3.symm, (vs_l20Open _).trans ?_⟩
    rw [h1, h2]
  · cases h
end Go.Proofs.YtjoggjjjlafdmaaDoor.E
end
section
namespace Go.Proofs.YtjoggjjjlafdmaaDoor.E
open Go
set_option maxRecDepth 100000
set_option maxHeartbeats 0
set_option linter.all false
noncomputable def Es_l20Rd_pick0 : Env where
  tt := mkTI Go.Proofs.Tryd.prog
  fn := fun _ => none
  bxf := fun _ => none
  mv := []
  keep := fun _ => []
  keepB := fun _ => []
  keepX := fun _ => []
  keepXB := fun _ => []
theorem goodFs_l20Rd_pick0 : ∀ f ms F, Es_l20Rd_pick0.fn f = some (ms, F) → Sound Go.Proofs.Tryd.prog f ms F := fun f ms F h => by cases h
theorem goodBs_l20Rd_pick0 : ∀ f ms F, Es_l20Rd_pick0.bxf f = some (ms, F) → SoundB Go.Proofs.Tryd.prog f ms F := fun f ms F h => by cases h
theorem goods_l20Rd_pick0 : Good Go.Proofs.Tryd.prog Es_l20Rd_pick0 := ⟨rfl, goodFs_l20Rd_pick0, goodBs_l20Rd_pick0⟩
noncomputable def Os_l20Rd_pick0_0 : Orc := fun _ _ => none
noncomputable def mss_l20Rd_pick0 : List PM := [.bx, .own]
noncomputable def lss_l20Rd_pick0 : List (Nat × Code) := loopsAll 0 (Go.Proofs.Tryd.f64.body.getD .skip)

theorem ks_l20Rd_pick0_0 : OrcOk Es_l20Rd_pick0 Os_l20Rd_pick0_0 lss_l20Rd_pick0 0 := orcOk_none
noncomputable def g_As_l20Rd_pick0 (r0 : List Int) (r1 : Int) (a2 : Int) : Bool := decide (a2 < (1 : Int)) || ((↑(List.length r0) : Int) == (0 : Int) || bif decide (IntKind.wrap IntKind.i64 (IntKind.wrap IntKind.i64 (r1 + (1 : Int)) - (1 : Int)) < (↑(List.length r0) : Int)) then decide ((0 : Int) ≤ IntKind.wrap IntKind.i64 (IntKind.wrap IntKind.i64 (r1 + (1 : Int)) - (1 : Int)) ∧ IntKind.wrap IntKind.i64 (IntKind.wrap IntKind.i64 (r1 + (1 : Int)) - (1 : Int)) < (↑(List.length r0) : Int)) && !a2 == (0 : Int) else !(↑(List.length r0) : Int) == (0 : Int) && (decide ((0 : Int) ≤ Int.tmod (IntKind.wrap IntKind.i64 (IntKind.wrap IntKind.i64 (r1 + (1 : Int)) - (1 : Int))) (↑(List.length r0) : Int) ∧ Int.tmod (IntKind.wrap IntKind.i64 (IntKind.wrap IntKind.i64 (r1 + (1 : Int)) - (1 : Int))) (↑(List.length r0) : Int) < (↑(List.length r0) : Int)) && (!(↑(List.length r0) : Int) == (0 : Int) && (decide ((0 : Int) ≤ Int.tmod (IntKind.wrap IntKind.i64 (IntKind.wrap IntKind.i64 (IntKind.wrap IntKind.i64 (IntKind.wrap IntKind.i64 (r1 + (1 : Int)) - (1 : Int)) * (7 : Int)) + (3 : Int))) (↑(List.length r0) : Int) ∧ Int.tmod (IntKind.wrap IntKind.i64 (IntKind.wrap IntKind.i64 (IntKind.wrap IntKind.i64 (IntKind.wrap IntKind.i64 (r1 + (1 : Int)) - (1 : Int)) * (7 : Int)) + (3 : Int))) (↑(List.length r0) : Int) < (↑(List.length r0) : Int)) && (!(↑(List.length r0) : Int) == (0 : Int) && !a2 == (0 : Int))))))
noncomputable def g_Vs_l20Rd_pick0_0 (r0 : List Int) (r1 : Int) (a2 : Int) : Int := bif decide (a2 < (1 : Int)) then (0 : Int) else bif (↑(List.length r0) : Int) == (0 : Int) then (0 : Int) else bif decide (IntKind.wrap IntKind.i64 (IntKind.wrap IntKind.i64 (r1 + (1 : Int)) - (1 : Int)) < (↑(List.length r0) : Int)) then Int.tmod (IntKind.wrap IntKind.i64 (at_ (Ty.int IntKind.u8) r0 (Int.toNat (IntKind.wrap IntKind.i64 (IntKind.wrap IntKind.i64 (r1 + (1 : Int)) - (1 : Int)))))) a2 else Int.tmod (IntKind.wrap IntKind.i64 (↑(BitVec.toNat (BitVec.ofInt (nat_lit 64) (IntKind.wrap IntKind.i64 (IntKind.wrap IntKind.i64 (IntKind.wrap IntKind.i64 (IntKind.wrap IntKind.i64 (IntKind.wrap IntKind.i64 (at_ (Ty.int IntKind.u8) r0 (Int.toNat (Int.tmod (IntKind.wrap IntKind.i64 (IntKind.wrap IntKind.i64 (r1 + (1 : Int)) - (1 : Int))) (↑(List.length r0) : Int)))) * (131 : Int)) + IntKind.wrap IntKind.i64 (IntKind.wrap IntKind.i64 (at_ (Ty.int IntKind.u8) r0 (Int.toNat (Int.tmod (IntKind.wrap IntKind.i64 (IntKind.wrap IntKind.i64 (IntKind.wrap IntKind.i64 (IntKind.wrap IntKind.i64 (r1 + (1 : Int)) - (1 : Int)) * (7 : Int)) + (3 : Int))) (↑(List.length r0) : Int)))) * (1117 : Int))) + IntKind.wrap IntKind.i64 (IntKind.wrap IntKind.i64 (IntKind.wrap IntKind.i64 (r1 + (1 : Int)) - (1 : Int)) * (29 : Int))) + IntKind.wrap IntKind.i64 (IntKind.wrap IntKind.i64 (Int.tdiv (IntKind.wrap IntKind.i64 (IntKind.wrap IntKind.i64 (r1 + (1 : Int)) - (1 : Int))) (↑(List.length r0) : Int)) * (53 : Int)))) ^^^ BitVec.ofInt (nat_lit 64) (IntKind.wrap IntKind.i64 (Int.tdiv (IntKind.wrap IntKind.i64 (IntKind.wrap IntKind.i64 (IntKind.wrap IntKind.i64 (IntKind.wrap IntKind.i64 (IntKind.wrap IntKind.i64 (at_ (Ty.int IntKind.u8) r0 (Int.toNat (Int.tmod (IntKind.wrap IntKind.i64 (IntKind.wrap IntKind.i64 (r1 + (1 : Int)) - (1 : Int))) (↑(List.length r0) : Int)))) * (131 : Int)) + IntKind.wrap IntKind.i64 (IntKind.wrap IntKind.i64 (at_ (Ty.int IntKind.u8) r0 (Int.toNat (Int.tmod (IntKind.wrap IntKind.i64 (IntKind.wrap IntKind.i64 (IntKind.wrap IntKind.i64 (IntKind.wrap IntKind.i64 (r1 + (1 : Int)) - (1 : Int)) * (7 : Int)) + (3 : Int))) (↑(List.length r0) : Int)))) * (1117 : Int))) + IntKind.wrap IntKind.i64 (IntKind.wrap IntKind.i64 (IntKind.wrap IntKind.i64 (r1 + (1 : Int)) - (1 : Int)) * (29 : Int))) + IntKind.wrap IntKind.i64 (IntKind.wrap IntKind.i64 (Int.tdiv (IntKind.wrap IntKind.i64 (IntKind.wrap IntKind.i64 (r1 + (1 : Int)) - (1 : Int))) (↑(List.length r0) : Int)) * (53 : Int)))) (64 : Int))))) : Int)) a2
noncomputable def g_Vs_l20Rd_pick0_1 (r0 : List Int) (r1 : Int) (a2 : Int) : List (Int) := bif decide (a2 < (1 : Int)) then r0 else bif (↑(List.length r0) : Int) == (0 : Int) then r0 else bif decide (IntKind.wrap IntKind.i64 (IntKind.wrap IntKind.i64 (r1 + (1 : Int)) - (1 : Int)) < (↑(List.length r0) : Int)) then r0 else r0
noncomputable def g_Vs_l20Rd_pick0_2 (r0 : List Int) (r1 : Int) (a2 : Int) : Int := bif decide (a2 < (1 : Int)) then IntKind.wrap IntKind.i64 (r1 + (1 : Int)) else bif (↑(List.length r0) : Int) == (0 : Int) then IntKind.wrap IntKind.i64 (r1 + (1 : Int)) else bif decide (IntKind.wrap IntKind.i64 (IntKind.wrap IntKind.i64 (r1 + (1 : Int)) - (1 : Int)) < (↑(List.length r0) : Int)) then IntKind.wrap IntKind.i64 (r1 + (1 : Int)) else IntKind.wrap IntKind.i64 (r1 + (1 : Int))
noncomputable def Fs_l20Rd_pick0 : FSem := fun ys => match ys with
  | [.val true [.sl .any 5 (.int .u8) r0, .int .i64 r1], .val false [.int .i64 a2]] => some ((g_As_l20Rd_pick0 r0 r1 a2), .val false [.int .i64 (g_Vs_l20Rd_pick0_0 r0 r1 a2)], [[.sl .any 5 (.int .u8) (g_Vs_l20Rd_pick0_1 r0 r1 a2), .int .i64 (g_Vs_l20Rd_pick0_2 r0 r1 a2)]])
  | _ => none
theorem vs_l20Rd_pick0 (r0 : List Int) (r1 : Int) (a2 : Int) : collapseH .std Es_l20Rd_pick0 Os_l20Rd_pick0_0 (execFn Es_l20Rd_pick0 Go.Proofs.Tryd.f64 mss_l20Rd_pick0 [.val true [.sl .any 5 (.int .u8) r0, .int .i64 r1], .val false [.int .i64 a2]]) = some ((g_As_l20Rd_pick0 r0 r1 a2), .val false [.int .i64 (g_Vs_l20Rd_pick0_0 r0 r1 a2)], [[.sl .any 5 (.int .u8) (g_Vs_l20Rd_pick0_1 r0 r1 a2), .int .i64 (g_Vs_l20Rd_pick0_2 r0 r1 a2)]]) := by kernel_rfl
theorem ss_l20Rd_pick0 : Sound Go.Proofs.Tryd.prog 64 mss_l20Rd_pick0 Fs_l20Rd_pick0 := by
  refine fn_gen goods_l20Rd_pick0 (by kernel_rfl) .std (fn := Go.Proofs.Tryd.f64) (c := (Go.Proofs.Tryd.f64.body.getD .skip)) (o := Os_l20Rd_pick0_0) (k := 0) (by kernel_rfl) (by kernel_rfl) (by kernel_rfl) (by kernel_rfl) (by decide) ks_l20Rd_pick0_0 ?_
  intro ys r outs h
  unfold Fs_l20Rd_pick0 at h
  split at h
  · exact (vs_l20Rd_pick0 _ _ _).trans h
  · cases h
end Go.Proofs.YtjoggjjjlafdmaaDoor.E
end
section
namespace Go.Proofs.YtjoggjjjlafdmaaDoor.E
open Go
set_option maxRecDepth 100000
set_option linter.all false
noncomputable def mss_l20Rd_pick : List PM := mss_l20Rd_pick0
/-- A number from 0 on, below n. -/
noncomputable def g_pick (r0 : List Int) (r1 : Int) (n : Int) : Int := g_Vs_l20Rd_pick0_0 r0 r1 n
noncomputable def g_pickA (r0 : List Int) (r1 : Int) (n : Int) : Bool := g_As_l20Rd_pick0 r0 r1 n
noncomputable def Fs_l20Rd_pick : FSem := fun ys => match ys with
  | [.val true [.sl .any 5 (.int .u8) r0, .int .i64 r1], .val false [.int .i64 a2]] => some (g_pickA r0 r1 a2, .val false [.int .i64 (g_pick r0 r1 a2)], [[.sl .any 5 (.int .u8) r0, .int .i64 (IntKind.wrap .i64 (r1 + 1))]])
  | _ => none
theorem ss_l20Rd_pick : Sound Go.Proofs.Tryd.prog 64 mss_l20Rd_pick Fs_l20Rd_pick := by
  refine ⟨ss_l20Rd_pick0.fn, fun w S ψ ys vs r outs hF hh hg => ss_l20Rd_pick0.calls w S ψ ys vs r outs (Eq.trans ?_ hF) hh hg⟩
  unfold Fs_l20Rd_pick at hF ⊢
  split at hF
  · rename_i r0 r1 a2
    have e1 : g_Vs_l20Rd_pick0_1 r0 r1 a2 = r0 := by unfold g_Vs_l20Rd_pick0_1; generalize decide (a2 < (1 : Int)) = p; generalize ((r0.length : Int) == (0 : Int)) = q; cases p <;> cases q <;> simp
    have e2 : g_Vs_l20Rd_pick0_2 r0 r1 a2 = IntKind.wrap .i64 (r1 + 1) := by unfold g_Vs_l20Rd_pick0_2; generalize decide (a2 < (1 : Int)) = p; generalize ((r0.length : Int) == (0 : Int)) = q; cases p <;> cases q <;> simp
    show some (g_As_l20Rd_pick0 r0 r1 a2, RV.val false [Cell.int .i64 (g_Vs_l20Rd_pick0_0 r0 r1 a2)], [[Cell.sl .any 5 (.int .u8) (g_Vs_l20Rd_pick0_1 r0 r1 a2), Cell.int .i64 (g_Vs_l20Rd_pick0_2 r0 r1 a2)]]) = _
    rw [e1, e2]
    rfl
  · cases hF
end Go.Proofs.YtjoggjjjlafdmaaDoor.E
end
section
namespace Go.Proofs.YtjoggjjjlafdmaaDoor.E
open Go
set_option maxRecDepth 100000
set_option maxHeartbeats 0
set_option linter.all false
noncomputable def Es_l20Rd_odd : Env where
  tt := mkTI Go.Proofs.Tryd.prog
  fn := fun f => match f with
    | 64 => some (mss_l20Rd_pick, FSem.wk mss_l20Rd_pick Fs_l20Rd_pick)
    | _ => none
  bxf := fun _ => none
  mv := []
  keep := fun _ => []
  keepB := fun _ => []
  keepX := fun _ => []
  keepXB := fun _ => []
theorem goodFs_l20Rd_odd : ∀ f ms F, Es_l20Rd_odd.fn f = some (ms, F) → Sound Go.Proofs.Tryd.prog f ms F := fun f ms F h => by
  unfold Es_l20Rd_odd at h
  dsimp only at h
  split at h
  · injection h with h; injection h with e1 e2; subst e1 e2; exact Sound.wk ss_l20Rd_pick
  · cases h
theorem goodBs_l20Rd_odd : ∀ f ms F, Es_l20Rd_odd.bxf f = some (ms, F) → SoundB Go.Proofs.Tryd.prog f ms F := fun f ms F h => by cases h
theorem goods_l20Rd_odd : Good Go.Proofs.Tryd.prog Es_l20Rd_odd := ⟨rfl, goodFs_l20Rd_odd, goodBs_l20Rd_odd⟩
noncomputable def Os_l20Rd_odd_0 : Orc := fun _ _ => none
noncomputable def mss_l20Rd_odd : List PM := [.bx, .own]
noncomputable def lss_l20Rd_odd : List (Nat × Code) := loopsAll 0 (Go.Proofs.Tryd.f34.body.getD .skip)

theorem ks_l20Rd_odd_0 : OrcOk Es_l20Rd_odd Os_l20Rd_odd_0 lss_l20Rd_odd 0 := orcOk_none
noncomputable def g_As_l20Rd_odd (r0 : List Int) (r1 : Int) (a2 : Int) : Bool := !decide (a2 > (0 : Int)) || g_pickA r0 r1 a2 && true
noncomputable def g_Vs_l20Rd_odd_0 (r0 : List Int) (r1 : Int) (a2 : Int) : Bool := bif decide (a2 > (0 : Int)) then g_pick r0 r1 a2 == IntKind.wrap IntKind.i64 (a2 - (1 : Int)) else false
noncomputable def g_Vs_l20Rd_odd_1 (r0 : List Int) (r1 : Int) (a2 : Int) : List (Int) := bif decide (a2 > (0 : Int)) then r0 else r0
noncomputable def g_Vs_l20Rd_odd_2 (r0 : List Int) (r1 : Int) (a2 : Int) : Int := bif decide (a2 > (0 : Int)) then IntKind.wrap IntKind.i64 (r1 + (1 : Int)) else r1
noncomputable def Fs_l20Rd_odd : FSem := fun ys => match ys with
  | [.val true [.sl .any 5 (.int .u8) r0, .int .i64 r1], .val false [.int .i64 a2]] => some ((g_As_l20Rd_odd r0 r1 a2), .val false [.bool (g_Vs_l20Rd_odd_0 r0 r1 a2)], [[.sl .any 5 (.int .u8) (g_Vs_l20Rd_odd_1 r0 r1 a2), .int .i64 (g_Vs_l20Rd_odd_2 r0 r1 a2)]])
  | _ => none
theorem vs_l20Rd_odd (r0 : List Int) (r1 : Int) (a2 : Int) : collapseH .std Es_l20Rd_odd Os_l20Rd_odd_0 (execFn Es_l20Rd_odd Go.Proofs.Tryd.f34 mss_l20Rd_odd [.val true [.sl .any 5 (.int .u8) r0, .int .i64 r1], .val false [.int .i64 a2]]) = some ((g_As_l20Rd_odd r0 r1 a2), .val false [.bool (g_Vs_l20Rd_odd_0 r0 r1 a2)], [[.sl .any 5 (.int .u8) (g_Vs_l20Rd_odd_1 r0 r1 a2), .int .i64 (g_Vs_l20Rd_odd_2 r0 r1 a2)]]) := by kernel_rfl
theorem ss_l20Rd_odd : Sound Go.Proofs.Tryd.prog 34 mss_l20Rd_odd Fs_l20Rd_odd := by
  refine fn_gen goods_l20Rd_odd (by kernel_rfl) .std (fn := Go.Proofs.Tryd.f34) (c := (Go.Proofs.Tryd.f34.body.getD .skip)) (o := Os_l20Rd_odd_0) (k := 0) (by kernel_rfl) (by kernel_rfl) (by kernel_rfl) (by kernel_rfl) (by decide) ks_l20Rd_odd_0 ?_
  intro ys r outs h
  unfold Fs_l20Rd_odd at h
  split at h
  · exact (vs_l20Rd_odd _ _ _).trans h
  · cases h
end Go.Proofs.YtjoggjjjlafdmaaDoor.E
end
section
namespace Go.Proofs.YtjoggjjjlafdmaaDoor.E
open Go
set_option maxRecDepth 100000
set_option linter.all false
noncomputable def mss_l20Rd_oddR : List PM := mss_l20Rd_odd
theorem sames_l20Rd_odd (r0 : List Int) (r1 : Int) (a2 : Int) : g_Vs_l20Rd_odd_1 r0 r1 a2 = r0 := by
  unfold g_Vs_l20Rd_odd_1
  simp only [Bool.cond_self]
noncomputable def Fs_l20Rd_oddR : FSem := fun ys => match ys with
  | [.val true [.sl .any 5 (.int .u8) r0, .int .i64 r1], .val false [.int .i64 a2]] => some ((g_As_l20Rd_odd r0 r1 a2), .val false [.bool (g_Vs_l20Rd_odd_0 r0 r1 a2)], [[.sl .any 5 (.int .u8) r0, .int .i64 (g_Vs_l20Rd_odd_2 r0 r1 a2)]])
  | _ => none
theorem ss_l20Rd_oddR : Sound Go.Proofs.Tryd.prog 34 mss_l20Rd_oddR Fs_l20Rd_oddR := by
  refine ⟨ss_l20Rd_odd.fn, fun w S ψ ys vs r outs hF hh hg => ss_l20Rd_odd.calls w S ψ ys vs r outs (Eq.trans ?_ hF) hh hg⟩
  unfold Fs_l20Rd_oddR at hF ⊢
  split at hF
  · rename_i  r0 r1 a2
    show (some ((g_As_l20Rd_odd r0 r1 a2), .val false [.bool (g_Vs_l20Rd_odd_0 r0 r1 a2)], [[.sl .any 5 (.int .u8) (g_Vs_l20Rd_odd_1 r0 r1 a2), .int .i64 (g_Vs_l20Rd_odd_2 r0 r1 a2)]]) : Option (Bool × RV × List (List Cell))) = _
    rw [sames_l20Rd_odd]
  · cases hF
end Go.Proofs.YtjoggjjjlafdmaaDoor.E
end
section
namespace Go.Proofs.YtjoggjjjlafdmaaDoor.E
open Go
set_option maxRecDepth 100000
set_option maxHeartbeats 0
set_option linter.all false
noncomputable def Es_l1In : Env where
  tt := mkTI Go.Proofs.Tryd.prog
  fn := fun _ => none
  bxf := fun _ => none
  mv := []
  keep := fun _ => []
  keepB := fun _ => []
  keepX := fun _ => []
  keepXB := fun _ => []
theorem goodFs_l1In : ∀ f ms F, Es_l1In.fn f = some (ms, F) → Sound Go.Proofs.Tryd.prog f ms F := fun f ms F h => by cases h
theorem goodBs_l1In : ∀ f ms F, Es_l1In.bxf f = some (ms, F) → SoundB Go.Proofs.Tryd.prog f ms F := fun f ms F h => by cases h
theorem goods_l1In : Good Go.Proofs.Tryd.prog Es_l1In := ⟨rfl, goodFs_l1In, goodBs_l1In⟩
noncomputable def Os_l1In_0 : Orc := fun _ _ => none
noncomputable def mss_l1In : List PM := [.own, .own, .own]
noncomputable def lss_l1In : List (Nat × Code) := loopsAll 0 (Go.Proofs.Tryd.f62.body.getD .skip)

theorem ks_l1In_0 : OrcOk Es_l1In Os_l1In_0 lss_l1In 0 := orcOk_none
noncomputable def g_As_l1In (a0 : Int) (a1 : Int) (a2 : Int) : Bool := !decide (a0 ≥ a1) || true
noncomputable def g_Vs_l1In_0 (a0 : Int) (a1 : Int) (a2 : Int) : Bool := bif decide (a0 ≥ a1) then decide (a0 ≤ a2) else false
noncomputable def Fs_l1In : FSem := fun ys => match ys with
  | [.val false [.int .i64 a0], .val false [.int .i64 a1], .val false [.int .i64 a2]] => some ((g_As_l1In a0 a1 a2), .val false [.bool (g_Vs_l1In_0 a0 a1 a2)], [])
  | _ => none
theorem vs_l1In (a0 : Int) (a1 : Int) (a2 : Int) : collapseH .std Es_l1In Os_l1In_0 (execFn Es_l1In Go.Proofs.Tryd.f62 mss_l1In [.val false [.int .i64 a0], .val false [.int .i64 a1], .val false [.int .i64 a2]]) = some ((g_As_l1In a0 a1 a2), .val false [.bool (g_Vs_l1In_0 a0 a1 a2)], []) := by kernel_rfl
theorem ss_l1In : Sound Go.Proofs.Tryd.prog 62 mss_l1In Fs_l1In := by
  refine fn_gen goods_l1In (by kernel_rfl) .std (fn := Go.Proofs.Tryd.f62) (c := (Go.Proofs.Tryd.f62.body.getD .skip)) (o := Os_l1In_0) (k := 0) (by kernel_rfl) (by kernel_rfl) (by kernel_rfl) (by kernel_rfl) (by decide) ks_l1In_0 ?_
  intro ys r outs h
  unfold Fs_l1In at h
  split at h
  · exact (vs_l1In _ _ _).trans h
  · cases h
end Go.Proofs.YtjoggjjjlafdmaaDoor.E
end
section
namespace Go.Proofs.YtjoggjjjlafdmaaDoor.E
open Go
set_option maxRecDepth 100000
set_option maxHeartbeats 0
set_option linter.all false
noncomputable def Es_l1Key : Env where
  tt := mkTI Go.Proofs.Tryd.prog
  fn := fun f => match f with
    | 62 => some (mss_l1In, FSem.wk mss_l1In Fs_l1In)
    | _ => none
  bxf := fun _ => none
  mv := []
  keep := fun b => match b with
    | 0 => [(0, false), (3, false)]
    | _ => []
  keepB := fun b => match b with
    | 0 => []
    | _ => []
  keepX := fun b => match b with
    | 0 => [(2, false)]
    | _ => []
  keepXB := fun b => match b with
    | 0 => []
    | _ => []
theorem goodFs_l1Key : ∀ f ms F, Es_l1Key.fn f = some (ms, F) → Sound Go.Proofs.Tryd.prog f ms F := fun f ms F h => by
  unfold Es_l1Key at h
  dsimp only at h
  split at h
  · injection h with h; injection h with e1 e2; subst e1 e2; exact Sound.wk ss_l1In
  · cases h
theorem goodBs_l1Key : ∀ f ms F, Es_l1Key.bxf f = some (ms, F) → SoundB Go.Proofs.Tryd.prog f ms F := fun f ms F h => by cases h
theorem goods_l1Key : Good Go.Proofs.Tryd.prog Es_l1Key := ⟨rfl, goodFs_l1Key, goodBs_l1Key⟩
noncomputable def Os_l1Key_0 : Orc := fun _ _ => none
noncomputable def mss_l1Key : List PM := [.own]
noncomputable def lss_l1Key : List (Nat × Code) := loopsAll 0 (Go.Proofs.Tryd.f43.body.getD .skip)
noncomputable def cs_l1Key_0 : Code := (loopOf 0 (Go.Proofs.Tryd.f43.body.getD .skip)).getD .skip
theorem lseqs_l1Key : lss_l1Key = [(0, cs_l1Key_0)] := by kernel_rfl
theorem ms_l1Key_0 : ∀ p, p ∈ lss_l1Key → p.1 = 0 → p.2 = cs_l1Key_0 := by
  intro p hp
  rw [lseqs_l1Key] at hp
  simp only [List.mem_cons, List.not_mem_nil, or_false] at hp
  subst hp; simp
theorem ks_l1Key_0 : OrcOk Es_l1Key Os_l1Key_0 lss_l1Key 0 := orcOk_none
noncomputable def hs_l1Key_0 (y0 : ByteArray) (y1 : Int) : List (Pl × LV) := [(.T 0, .t (.val false [.str y0])), (.T 3, .t (.val false [.int .i64 y1]))]
noncomputable def g_Ss_l1Key_0 (y0 : ByteArray) : ((Int)) → RT ((Int)) (((Bool)) ⊕ (Unit))
  | y1 => .br (true) (.br (decide (y1 < (↑(ByteArray.size y0) : Int))) (.br (decide ((0 : Int) ≤ y1 ∧ y1 < (↑(ByteArray.size y0) : Int))) (.br (true) (.br (decide (byteAt y0 (Int.toNat y1) < (48 : Int))) (.out (.inl false)) (.br (decide ((0 : Int) ≤ y1 ∧ y1 < (↑(ByteArray.size y0) : Int))) (.br (true) (.br (decide (byteAt y0 (Int.toNat y1) > (57 : Int))) (.out (.inl false)) (.br (true) (.go (IntKind.wrap IntKind.i64 (y1 + (1 : Int)))) (.bad))) (.bad)) (.bad))) (.bad)) (.bad)) (.out (.inr (())))) (.bad)
noncomputable def g_Ls_l1Key_0 (y0 : ByteArray) (x : (Int)) : Option (((Bool)) ⊕ (Unit)) := loopO (g_Ss_l1Key_0 y0) x
noncomputable def xs_l1Key_0 (y0 : ByteArray) : (((Bool)) ⊕ (Unit)) → Ex × List (Pl × LV) := fun
  | .inl r => (.ret, [(.T 2, .t (.val false [.bool r]))])
  | .inr (r) => (.exit 0, [(.T 2, .t (.val false [.undef]))])
noncomputable def Os_l1Key_1 : Orc := fun b h => match b, h with
  | 0, [(.T 0, .t (.val false [.str y0])), (.T 3, .t (.val false [.int .i64 y1]))] => some (okO (g_Ls_l1Key_0 y0 y1), (.br (isL (valO (g_Ls_l1Key_0 y0 y1))) (.leaf .ret [(.T 2, .t (.val false [.bool (getL (valO (g_Ls_l1Key_0 y0 y1)))]))]) (.leaf (.exit 0) [(.T 2, .t (.val false [.undef]))])))
  | b, h => Os_l1Key_0 b h
theorem bs_l1Key_0 (y0 : ByteArray) (y1 : Int) : Tr.bt Es_l1Key Os_l1Key_0 (exec Es_l1Key 0 cs_l1Key_0 (St.of (hs_l1Key_0 y0 y1)) (leafRd Es_l1Key 0)) = (g_Ss_l1Key_0 y0 y1).bt (fun (y1 : (Int)) => (hs_l1Key_0 y0 y1)) (xs_l1Key_0 y0) := by kernel_rfl
theorem ks_l1Key_1 : OrcOk Es_l1Key Os_l1Key_1 lss_l1Key 1 := orc_add ks_l1Key_0 (fun n p hp h ex h' ho => by
  obtain ⟨b, c⟩ := p
  obtain ⟨xt, h1, h2⟩ := ho
  have h1 : Os_l1Key_1 b h = some (true, xt) := h1
  unfold Os_l1Key_1 at h1
  split at h1
  · injection h1 with h1
    injection h1 with e1 e2
    subst e2
    have hc : c = cs_l1Key_0 := ms_l1Key_0 _ hp rfl
    subst hc
    right
    rename_i y0 y1
    have key := LT_step ks_l1Key_0 hp (fun q hq => loopsAll_in _ _ _ _ hp hq) (fun (y1 : (Int)) => (hs_l1Key_0 y0 y1)) (xs_l1Key_0 y0) (g_Ss_l1Key_0 y0) (fun x => by first | exact bs_l1Key_0 y0 x) n (x := y1) (okO_some e1)
    have hx : ∀ r, XT.sel (.br (isL r) (.leaf .ret [(.T 2, .t (.val false [.bool (getL r)]))]) (.leaf (.exit 0) [(.T 2, .t (.val false [.undef]))])) = xs_l1Key_0 y0 r := fun r => by first | rfl | (rcases r with r | r <;> rfl) | (rcases r with r | r | r <;> rfl) | (rcases r with r | r | r | r <;> rfl)
    have h3 := (hx (valO (g_Ls_l1Key_0 y0 y1))).symm.trans h2
    have e3 := congrArg Prod.fst h3
    have e4 := congrArg Prod.snd h3
    simp only at e3 e4
    rw [← e3, ← e4]
    exact key
  · exact .inl ⟨xt, h1, h2⟩)
noncomputable def g_As_l1Key (a0 : ByteArray) : Bool := g_As_l1In (↑(ByteArray.size a0) : Int) (2 : Int) (3 : Int) && (!g_Vs_l1In_0 (↑(ByteArray.size a0) : Int) (2 : Int) (3 : Int) || decide ((0 : Int) ≤ (0 : Int) ∧ (0 : Int) < (↑(ByteArray.size a0) : Int)) && (decide (byteAt a0 (nat_lit 0) < (97 : Int)) || decide ((0 : Int) ≤ (0 : Int) ∧ (0 : Int) < (↑(ByteArray.size a0) : Int)) && (decide (byteAt a0 (nat_lit 0) > (122 : Int)) || okO (g_Ls_l1Key_0 a0 (1 : Int)))))
noncomputable def g_Vs_l1Key_0 (a0 : ByteArray) : Bool := bif !g_Vs_l1In_0 (↑(ByteArray.size a0) : Int) (2 : Int) (3 : Int) then false else bif decide (byteAt a0 (nat_lit 0) < (97 : Int)) then false else bif decide (byteAt a0 (nat_lit 0) > (122 : Int)) then false else bif isL (valO (g_Ls_l1Key_0 a0 (1 : Int))) then getL (valO (g_Ls_l1Key_0 a0 (1 : Int))) else true
noncomputable def Fs_l1Key : FSem := fun ys => match ys with
  | [.val false [.str a0]] => some ((g_As_l1Key a0), .val false [.bool (g_Vs_l1Key_0 a0)], [])
  | _ => none
theorem vs_l1Key (a0 : ByteArray) : collapseH .std Es_l1Key Os_l1Key_1 (execFn Es_l1Key Go.Proofs.Tryd.f43 mss_l1Key [.val false [.str a0]]) = some ((g_As_l1Key a0), .val false [.bool (g_Vs_l1Key_0 a0)], []) := by kernel_rfl
theorem ss_l1Key : Sound Go.Proofs.Tryd.prog 43 mss_l1Key Fs_l1Key := by
  refine fn_gen goods_l1Key (by kernel_rfl) .std (fn := Go.Proofs.Tryd.f43) (c := (Go.Proofs.Tryd.f43.body.getD .skip)) (o := Os_l1Key_1) (k := 1) (by kernel_rfl) (by kernel_rfl) (by kernel_rfl) (by kernel_rfl) (by decide) ks_l1Key_1 ?_
  intro ys r outs h
  unfold Fs_l1Key at h
  split at h
  · exact (vs_l1Key _).trans h
  · cases h
end Go.Proofs.YtjoggjjjlafdmaaDoor.E
end
section
namespace Go.Proofs.YtjoggjjjlafdmaaDoor.E
open Go
set_option maxRecDepth 100000
set_option maxHeartbeats 0
set_option linter.all false
noncomputable def Es_l1Val : Env where
  tt := mkTI Go.Proofs.Tryd.prog
  fn := fun f => match f with
    | 62 => some (mss_l1In, FSem.wk mss_l1In Fs_l1In)
    | _ => none
  bxf := fun _ => none
  mv := []
  keep := fun b => match b with
    | 0 => [(0, false), (3, false)]
    | _ => []
  keepB := fun b => match b with
    | 0 => []
    | _ => []
  keepX := fun b => match b with
    | 0 => [(0, false), (2, false)]
    | _ => []
  keepXB := fun b => match b with
    | 0 => []
    | _ => []
theorem goodFs_l1Val : ∀ f ms F, Es_l1Val.fn f = some (ms, F) → Sound Go.Proofs.Tryd.prog f ms F := fun f ms F h => by
  unfold Es_l1Val at h
  dsimp only at h
  split at h
  · injection h with h; injection h with e1 e2; subst e1 e2; exact Sound.wk ss_l1In
  · cases h
theorem goodBs_l1Val : ∀ f ms F, Es_l1Val.bxf f = some (ms, F) → SoundB Go.Proofs.Tryd.prog f ms F := fun f ms F h => by cases h
theorem goods_l1Val : Good Go.Proofs.Tryd.prog Es_l1Val := ⟨rfl, goodFs_l1Val, goodBs_l1Val⟩
noncomputable def Os_l1Val_0 : Orc := fun _ _ => none
noncomputable def mss_l1Val : List PM := [.rd]
noncomputable def lss_l1Val : List (Nat × Code) := loopsAll 0 (Go.Proofs.Tryd.f44.body.getD .skip)
noncomputable def cs_l1Val_0 : Code := (loopOf 0 (Go.Proofs.Tryd.f44.body.getD .skip)).getD .skip
theorem lseqs_l1Val : lss_l1Val = [(0, cs_l1Val_0)] := by kernel_rfl
theorem ms_l1Val_0 : ∀ p, p ∈ lss_l1Val → p.1 = 0 → p.2 = cs_l1Val_0 := by
  intro p hp
  rw [lseqs_l1Val] at hp
  simp only [List.mem_cons, List.not_mem_nil, or_false] at hp
  subst hp; simp
theorem ks_l1Val_0 : OrcOk Es_l1Val Os_l1Val_0 lss_l1Val 0 := orcOk_none
noncomputable def hs_l1Val_0 (y0 : List (Int)) (y1 : Int) : List (Pl × LV) := [(.T 0, .t (.val false [.sl .any 3 (.int .i64) y0])), (.T 3, .t (.val false [.int .i64 y1]))]
noncomputable def g_Ss_l1Val_0 (y0 : List (Int)) : ((Int)) → RT ((Int)) (((Bool)) ⊕ (Unit))
  | y1 => .br (true) (.br (decide (y1 < (↑(List.length y0) : Int))) (.br (decide ((0 : Int) ≤ y1 ∧ y1 < (↑(List.length y0) : Int))) (.br (g_As_l1In (at_ (Ty.int IntKind.i64) y0 (Int.toNat y1)) (0 : Int) (9999 : Int)) (.br (!g_Vs_l1In_0 (at_ (Ty.int IntKind.i64) y0 (Int.toNat y1)) (0 : Int) (9999 : Int)) (.out (.inl false)) (.br (true) (.go (IntKind.wrap IntKind.i64 (y1 + (1 : Int)))) (.bad))) (.bad)) (.bad)) (.out (.inr (())))) (.bad)
noncomputable def g_Ls_l1Val_0 (y0 : List (Int)) (x : (Int)) : Option (((Bool)) ⊕ (Unit)) := loopO (g_Ss_l1Val_0 y0) x
noncomputable def xs_l1Val_0 (y0 : List (Int)) : (((Bool)) ⊕ (Unit)) → Ex × List (Pl × LV) := fun
  | .inl r => (.ret, [(.T 0, .t (.val false [.sl .any 3 (.int .i64) y0])), (.T 2, .t (.val false [.bool r]))])
  | .inr (r) => (.exit 0, [(.T 0, .t (.val false [.sl .any 3 (.int .i64) y0])), (.T 2, .t (.val false [.undef]))])
noncomputable def Os_l1Val_1 : Orc := fun b h => match b, h with
  | 0, [(.T 0, .t (.val false [.sl .any 3 (.int .i64) y0])), (.T 3, .t (.val false [.int .i64 y1]))] => some (okO (g_Ls_l1Val_0 y0 y1), (.br (isL (valO (g_Ls_l1Val_0 y0 y1))) (.leaf .ret [(.T 0, .t (.val false [.sl .any 3 (.int .i64) y0])), (.T 2, .t (.val false [.bool (getL (valO (g_Ls_l1Val_0 y0 y1)))]))]) (.leaf (.exit 0) [(.T 0, .t (.val false [.sl .any 3 (.int .i64) y0])), (.T 2, .t (.val false [.undef]))])))
  | b, h => Os_l1Val_0 b h
theorem bs_l1Val_0 (y0 : List (Int)) (y1 : Int) : Tr.bt Es_l1Val Os_l1Val_0 (exec Es_l1Val 0 cs_l1Val_0 (St.of (hs_l1Val_0 y0 y1)) (leafRd Es_l1Val 0)) = (g_Ss_l1Val_0 y0 y1).bt (fun (y1 : (Int)) => (hs_l1Val_0 y0 y1)) (xs_l1Val_0 y0) := by kernel_rfl
theorem ks_l1Val_1 : OrcOk Es_l1Val Os_l1Val_1 lss_l1Val 1 := orc_add ks_l1Val_0 (fun n p hp h ex h' ho => by
  obtain ⟨b, c⟩ := p
  obtain ⟨xt, h1, h2⟩ := ho
  have h1 : Os_l1Val_1 b h = some (true, xt) := h1
  unfold Os_l1Val_1 at h1
  split at h1
  · injection h1 with h1
    injection h1 with e1 e2
    subst e2
    have hc : c = cs_l1Val_0 := ms_l1Val_0 _ hp rfl
    subst hc
    right
    rename_i y0 y1
    have key := LT_step ks_l1Val_0 hp (fun q hq => loopsAll_in _ _ _ _ hp hq) (fun (y1 : (Int)) => (hs_l1Val_0 y0 y1)) (xs_l1Val_0 y0) (g_Ss_l1Val_0 y0) (fun x => by first | exact bs_l1Val_0 y0 x) n (x := y1) (okO_some e1)
    have hx : ∀ r, XT.sel (.br (isL r) (.leaf .ret [(.T 0, .t (.val false [.sl .any 3 (.int .i64) y0])), (.T 2, .t (.val false [.bool (getL r)]))]) (.leaf (.exit 0) [(.T 0, .t (.val false [.sl .any 3 (.int .i64) y0])), (.T 2, .t (.val false [.undef]))])) = xs_l1Val_0 y0 r := fun r => by first | rfl | (rcases r with r | r <;> rfl) | (rcases r with r | r | r <;> rfl) | (rcases r with r | r | r | r <;> rfl)
    have h3 := (hx (valO (g_Ls_l1Val_0 y0 y1))).symm.trans h2
    have e3 := congrArg Prod.fst h3
    have e4 := congrArg Prod.snd h3
    simp only at e3 e4
    rw [← e3, ← e4]
    exact key
  · exact .inl ⟨xt, h1, h2⟩)
noncomputable def g_As_l1Val (a0 : List (Int)) : Bool := okO (g_Ls_l1Val_0 a0 (0 : Int)) && (isL (valO (g_Ls_l1Val_0 a0 (0 : Int))) || g_As_l1In (↑(List.length a0) : Int) (1 : Int) (3 : Int))
noncomputable def g_Vs_l1Val_0 (a0 : List (Int)) : Bool := bif isL (valO (g_Ls_l1Val_0 a0 (0 : Int))) then getL (valO (g_Ls_l1Val_0 a0 (0 : Int))) else g_Vs_l1In_0 (↑(List.length a0) : Int) (1 : Int) (3 : Int)
noncomputable def Fs_l1Val : FSem := fun ys => match ys with
  | [.val false [.sl .any 3 (.int .i64) a0]] => some ((g_As_l1Val a0), .val false [.bool (g_Vs_l1Val_0 a0)], [])
  | _ => none
theorem vs_l1Val (a0 : List (Int)) : collapseH .std Es_l1Val Os_l1Val_1 (execFn Es_l1Val Go.Proofs.Tryd.f44 mss_l1Val [.val false [.sl .any 3 (.int .i64) a0]]) = some ((g_As_l1Val a0), .val false [.bool (g_Vs_l1Val_0 a0)], []) := by kernel_rfl
theorem ss_l1Val : Sound Go.Proofs.Tryd.prog 44 mss_l1Val Fs_l1Val := by
  refine fn_gen goods_l1Val (by kernel_rfl) .std (fn := Go.Proofs.Tryd.f44) (c := (Go.Proofs.Tryd.f44.body.getD .skip)) (o := Os_l1Val_1) (k := 1) (by kernel_rfl) (by kernel_rfl) (by kernel_rfl) (by kernel_rfl) (by decide) ks_l1Val_1 ?_
  intro ys r outs h
  unfold Fs_l1Val at h
  split at h
  · exact (vs_l1Val _).trans h
  · cases h
end Go.Proofs.YtjoggjjjlafdmaaDoor.E
end
section
namespace Go.Proofs.YtjoggjjjlafdmaaDoor.E
open Go
set_option maxRecDepth 100000
set_option maxHeartbeats 0
set_option linter.all false
noncomputable def Es_StoOk : Env where
  tt := mkTI Go.Proofs.Tryd.prog
  fn := fun f => match f with
    | 43 => some (mss_l1Key, FSem.wk mss_l1Key Fs_l1Key)
    | 44 => some (mss_l1Val, FSem.wk mss_l1Val Fs_l1Val)
    | _ => none
  bxf := fun _ => none
  mv := []
  keep := fun b => match b with
    | 0 => [(1, false), (3, false)]
    | _ => []
  keepB := fun b => match b with
    | 0 => [(1, false)]
    | _ => []
  keepX := fun b => match b with
    | 0 => [(2, false)]
    | _ => []
  keepXB := fun b => match b with
    | 0 => []
    | _ => []
theorem goodFs_StoOk : ∀ f ms F, Es_StoOk.fn f = some (ms, F) → Sound Go.Proofs.Tryd.prog f ms F := fun f ms F h => by
  unfold Es_StoOk at h
  dsimp only at h
  split at h
  · injection h with h; injection h with e1 e2; subst e1 e2; exact Sound.wk ss_l1Key
  · injection h with h; injection h with e1 e2; subst e1 e2; exact Sound.wk ss_l1Val
  · cases h
theorem goodBs_StoOk : ∀ f ms F, Es_StoOk.bxf f = some (ms, F) → SoundB Go.Proofs.Tryd.prog f ms F := fun f ms F h => by cases h
theorem goods_StoOk : Good Go.Proofs.Tryd.prog Es_StoOk := ⟨rfl, goodFs_StoOk, goodBs_StoOk⟩
noncomputable def Os_StoOk_0 : Orc := fun _ _ => none
noncomputable def mss_StoOk : List PM := [.rd]
noncomputable def lss_StoOk : List (Nat × Code) := loopsAll 0 (Go.Proofs.Tryd.f12.body.getD .skip)
noncomputable def cs_StoOk_0 : Code := (loopOf 0 (Go.Proofs.Tryd.f12.body.getD .skip)).getD .skip
theorem lseqs_StoOk : lss_StoOk = [(0, cs_StoOk_0)] := by kernel_rfl
theorem ms_StoOk_0 : ∀ p, p ∈ lss_StoOk → p.1 = 0 → p.2 = cs_StoOk_0 := by
  intro p hp
  rw [lseqs_StoOk] at hp
  simp only [List.mem_cons, List.not_mem_nil, or_false] at hp
  subst hp; simp
theorem ks_StoOk_0 : OrcOk Es_StoOk Os_StoOk_0 lss_StoOk 0 := orcOk_none
noncomputable def hs_StoOk_0 (y0 : Int) (y1 : List ((ByteArray) × (List (Int)))) : List (Pl × LV) := [(.T 1, .t (.val false [.ptr 1 0 0])), (.T 3, .t (.val false [.int .i64 y0])), (.B 1, .b 0 false [.sl .any 41 (.pair .str (.sl 3 (.int .i64))) y1])]
noncomputable def g_Ss_StoOk_0 (y1 : List ((ByteArray) × (List (Int)))) : ((Int)) → RT ((Int)) (((Bool)) ⊕ (Unit))
  | y0 => .br (true) (.br (decide (y0 < (↑(List.length y1) : Int))) (.br (decide ((0 : Int) ≤ y0 ∧ y0 < (↑(List.length y1) : Int))) (.br (g_As_l1Key (at_ (Ty.pair Ty.str (Ty.sl (nat_lit 3) (Ty.int IntKind.i64))) y1 (Int.toNat y0)).1) (.br (!g_Vs_l1Key_0 (at_ (Ty.pair Ty.str (Ty.sl (nat_lit 3) (Ty.int IntKind.i64))) y1 (Int.toNat y0)).1) (.out (.inl false)) (.br (decide ((0 : Int) ≤ y0 ∧ y0 < (↑(List.length y1) : Int))) (.br (g_As_l1Val (at_ (Ty.pair Ty.str (Ty.sl (nat_lit 3) (Ty.int IntKind.i64))) y1 (Int.toNat y0)).2) (.br (!g_Vs_l1Val_0 (at_ (Ty.pair Ty.str (Ty.sl (nat_lit 3) (Ty.int IntKind.i64))) y1 (Int.toNat y0)).2) (.out (.inl false)) (.br (true) (.br (decide (y0 > (0 : Int))) (.br (true) (.br (decide ((0 : Int) ≤ IntKind.wrap IntKind.i64 (y0 - (1 : Int)) ∧ IntKind.wrap IntKind.i64 (y0 - (1 : Int)) < (↑(List.length y1) : Int))) (.br (decide ((0 : Int) ≤ y0 ∧ y0 < (↑(List.length y1) : Int))) (.br (true) (.br (!Op.bytesLess (ByteArray.toList (at_ (Ty.pair Ty.str (Ty.sl (nat_lit 3) (Ty.int IntKind.i64))) y1 (Int.toNat (IntKind.wrap IntKind.i64 (y0 - (1 : Int))))).1) (ByteArray.toList (at_ (Ty.pair Ty.str (Ty.sl (nat_lit 3) (Ty.int IntKind.i64))) y1 (Int.toNat y0)).1)) (.out (.inl false)) (.br (true) (.go (IntKind.wrap IntKind.i64 (y0 + (1 : Int)))) (.bad))) (.bad)) (.bad)) (.bad)) (.bad)) (.br (true) (.go (IntKind.wrap IntKind.i64 (y0 + (1 : Int)))) (.bad))) (.bad))) (.bad)) (.bad))) (.bad)) (.bad)) (.out (.inr (())))) (.bad)
noncomputable def g_Ls_StoOk_0 (y1 : List ((ByteArray) × (List (Int)))) (x : (Int)) : Option (((Bool)) ⊕ (Unit)) := loopO (g_Ss_StoOk_0 y1) x
noncomputable def xs_StoOk_0 (y1 : List ((ByteArray) × (List (Int)))) : (((Bool)) ⊕ (Unit)) → Ex × List (Pl × LV) := fun
  | .inl r => (.ret, [(.T 2, .t (.val false [.bool r]))])
  | .inr (r) => (.exit 0, [(.T 2, .t (.val false [.undef]))])
noncomputable def Os_StoOk_1 : Orc := fun b h => match b, h with
  | 0, [(.T 1, .t (.val false [.ptr 1 0 0])), (.T 3, .t (.val false [.int .i64 y0])), (.B 1, .b 0 false [.sl .any 41 (.pair .str (.sl 3 (.int .i64))) y1])] => some (okO (g_Ls_StoOk_0 y1 y0), (.br (isL (valO (g_Ls_StoOk_0 y1 y0))) (.leaf .ret [(.T 2, .t (.val false [.bool (getL (valO (g_Ls_StoOk_0 y1 y0)))]))]) (.leaf (.exit 0) [(.T 2, .t (.val false [.undef]))])))
  | b, h => Os_StoOk_0 b h
theorem bs_StoOk_0 (y0 : Int) (y1 : List ((ByteArray) × (List (Int)))) : Tr.bt Es_StoOk Os_StoOk_0 (exec Es_StoOk 0 cs_StoOk_0 (St.of (hs_StoOk_0 y0 y1)) (leafRd Es_StoOk 0)) = (g_Ss_StoOk_0 y1 y0).bt (fun (y0 : (Int)) => (hs_StoOk_0 y0 y1)) (xs_StoOk_0 y1) := by kernel_rfl
theorem ks_StoOk_1 : OrcOk Es_StoOk Os_StoOk_1 lss_StoOk 1 := orc_add ks_StoOk_0 (fun n p hp h ex h' ho => by
  obtain ⟨b, c⟩ := p
  obtain ⟨xt, h1, h2⟩ := ho
  have h1 : Os_StoOk_1 b h = some (true, xt) := h1
  unfold Os_StoOk_1 at h1
  split at h1
  · injection h1 with h1
    injection h1 with e1 e2
    subst e2
    have hc : c = cs_StoOk_0 := ms_StoOk_0 _ hp rfl
    subst hc
    right
    rename_i y0 y1
    have key := LT_step ks_StoOk_0 hp (fun q hq => loopsAll_in _ _ _ _ hp hq) (fun (y0 : (Int)) => (hs_StoOk_0 y0 y1)) (xs_StoOk_0 y1) (g_Ss_StoOk_0 y1) (fun x => by first | exact bs_StoOk_0 x y1) n (x := y0) (okO_some e1)
    have hx : ∀ r, XT.sel (.br (isL r) (.leaf .ret [(.T 2, .t (.val false [.bool (getL r)]))]) (.leaf (.exit 0) [(.T 2, .t (.val false [.undef]))])) = xs_StoOk_0 y1 r := fun r => by first | rfl | (rcases r with r | r <;> rfl) | (rcases r with r | r | r <;> rfl) | (rcases r with r | r | r | r <;> rfl)
    have h3 := (hx (valO (g_Ls_StoOk_0 y1 y0))).symm.trans h2
    have e3 := congrArg Prod.fst h3
    have e4 := congrArg Prod.snd h3
    simp only at e3 e4
    rw [← e3, ← e4]
    exact key
  · exact .inl ⟨xt, h1, h2⟩)
noncomputable def g_As_StoOk (a0 : List ((ByteArray) × (List (Int)))) : Bool := decide ((↑(List.length a0) : Int) > (40 : Int)) || okO (g_Ls_StoOk_0 a0 (0 : Int))
noncomputable def g_Vs_StoOk_0 (a0 : List ((ByteArray) × (List (Int)))) : Bool := bif decide ((↑(List.length a0) : Int) > (40 : Int)) then false else bif isL (valO (g_Ls_StoOk_0 a0 (0 : Int))) then getL (valO (g_Ls_StoOk_0 a0 (0 : Int))) else true
noncomputable def Fs_StoOk : FSem := fun ys => match ys with
  | [.val true [.sl .any 41 (.pair .str (.sl 3 (.int .i64))) a0]] => some ((g_As_StoOk a0), .val false [.bool (g_Vs_StoOk_0 a0)], [])
  | _ => none
theorem vs_StoOk (a0 : List ((ByteArray) × (List (Int)))) : collapseH .std Es_StoOk Os_StoOk_1 (execFn Es_StoOk Go.Proofs.Tryd.f12 mss_StoOk [.val true [.sl .any 41 (.pair .str (.sl 3 (.int .i64))) a0]]) = some ((g_As_StoOk a0), .val false [.bool (g_Vs_StoOk_0 a0)], []) := by kernel_rfl
theorem ss_StoOk : Sound Go.Proofs.Tryd.prog 12 mss_StoOk Fs_StoOk := by
  refine fn_gen goods_StoOk (by kernel_rfl) .std (fn := Go.Proofs.Tryd.f12) (c := (Go.Proofs.Tryd.f12.body.getD .skip)) (o := Os_StoOk_1) (k := 1) (by kernel_rfl) (by kernel_rfl) (by kernel_rfl) (by kernel_rfl) (by decide) ks_StoOk_1 ?_
  intro ys r outs h
  unfold Fs_StoOk at h
  split at h
  · exact (vs_StoOk _).trans h
  · cases h
end Go.Proofs.YtjoggjjjlafdmaaDoor.E
end
section
namespace Go.Proofs.YtjoggjjjlafdmaaDoor.E
open Go
set_option maxRecDepth 100000
set_option maxHeartbeats 0
set_option linter.all false
noncomputable def Es_WrtOk : Env where
  tt := mkTI Go.Proofs.Tryd.prog
  fn := fun f => match f with
    | 43 => some (mss_l1Key, FSem.wk mss_l1Key Fs_l1Key)
    | 44 => some (mss_l1Val, FSem.wk mss_l1Val Fs_l1Val)
    | _ => none
  bxf := fun _ => none
  mv := []
  keep := fun _ => []
  keepB := fun _ => []
  keepX := fun _ => []
  keepXB := fun _ => []
theorem goodFs_WrtOk : ∀ f ms F, Es_WrtOk.fn f = some (ms, F) → Sound Go.Proofs.Tryd.prog f ms F := fun f ms F h => by
  unfold Es_WrtOk at h
  dsimp only at h
  split at h
  · injection h with h; injection h with e1 e2; subst e1 e2; exact Sound.wk ss_l1Key
  · injection h with h; injection h with e1 e2; subst e1 e2; exact Sound.wk ss_l1Val
  · cases h
theorem goodBs_WrtOk : ∀ f ms F, Es_WrtOk.bxf f = some (ms, F) → SoundB Go.Proofs.Tryd.prog f ms F := fun f ms F h => by cases h
theorem goods_WrtOk : Good Go.Proofs.Tryd.prog Es_WrtOk := ⟨rfl, goodFs_WrtOk, goodBs_WrtOk⟩
noncomputable def Os_WrtOk_0 : Orc := fun _ _ => none
noncomputable def mss_WrtOk : List PM := [.rd]
noncomputable def lss_WrtOk : List (Nat × Code) := loopsAll 0 (Go.Proofs.Tryd.f14.body.getD .skip)

theorem ks_WrtOk_0 : OrcOk Es_WrtOk Os_WrtOk_0 lss_WrtOk 0 := orcOk_none
noncomputable def g_As_WrtOk (a0 : ByteArray) (a1 : Bool) (a2 : List (Int)) : Bool := bif a1 then g_As_l1Key a0 && (!g_Vs_l1Key_0 a0 || true) else g_As_l1Key a0 && (!g_Vs_l1Key_0 a0 || g_As_l1Val a2)
noncomputable def g_Vs_WrtOk_0 (a0 : ByteArray) (a1 : Bool) (a2 : List (Int)) : Bool := bif a1 then bif g_Vs_l1Key_0 a0 then (↑(List.length a2) : Int) == (0 : Int) else false else bif g_Vs_l1Key_0 a0 then g_Vs_l1Val_0 a2 else false
noncomputable def Fs_WrtOk : FSem := fun ys => match ys with
  | [.val true [.str a0, .bool a1, .sl .any 3 (.int .i64) a2]] => some ((g_As_WrtOk a0 a1 a2), .val false [.bool (g_Vs_WrtOk_0 a0 a1 a2)], [])
  | _ => none
theorem vs_WrtOk (a0 : ByteArray) (a1 : Bool) (a2 : List (Int)) : collapseH .std Es_WrtOk Os_WrtOk_0 (execFn Es_WrtOk Go.Proofs.Tryd.f14 mss_WrtOk [.val true [.str a0, .bool a1, .sl .any 3 (.int .i64) a2]]) = some ((g_As_WrtOk a0 a1 a2), .val false [.bool (g_Vs_WrtOk_0 a0 a1 a2)], []) := by kernel_rfl
theorem ss_WrtOk : Sound Go.Proofs.Tryd.prog 14 mss_WrtOk Fs_WrtOk := by
  refine fn_gen goods_WrtOk (by kernel_rfl) .std (fn := Go.Proofs.Tryd.f14) (c := (Go.Proofs.Tryd.f14.body.getD .skip)) (o := Os_WrtOk_0) (k := 0) (by kernel_rfl) (by kernel_rfl) (by kernel_rfl) (by kernel_rfl) (by decide) ks_WrtOk_0 ?_
  intro ys r outs h
  unfold Fs_WrtOk at h
  split at h
  · exact (vs_WrtOk _ _ _).trans h
  · cases h
end Go.Proofs.YtjoggjjjlafdmaaDoor.E
end
section
namespace Go.Proofs.YtjoggjjjlafdmaaDoor.E
open Go
set_option maxRecDepth 100000
set_option maxHeartbeats 0
set_option linter.all false
noncomputable def Es_l1Copy : Env where
  tt := mkTI Go.Proofs.Tryd.prog
  fn := fun _ => none
  bxf := fun _ => none
  mv := []
  keep := fun b => match b with
    | 0 => [(1, false), (2, false), (3, false), (4, false)]
    | _ => []
  keepB := fun b => match b with
    | 0 => [(1, false), (2, false), (3, false)]
    | _ => []
  keepX := fun b => match b with
    | 0 => [(2, false), (3, false)]
    | _ => []
  keepXB := fun b => match b with
    | 0 => [(2, false), (3, false)]
    | _ => []
theorem goodFs_l1Copy : ∀ f ms F, Es_l1Copy.fn f = some (ms, F) → Sound Go.Proofs.Tryd.prog f ms F := fun f ms F h => by cases h
theorem goodBs_l1Copy : ∀ f ms F, Es_l1Copy.bxf f = some (ms, F) → SoundB Go.Proofs.Tryd.prog f ms F := fun f ms F h => by cases h
theorem goods_l1Copy : Good Go.Proofs.Tryd.prog Es_l1Copy := ⟨rfl, goodFs_l1Copy, goodBs_l1Copy⟩
noncomputable def Os_l1Copy_0 : Orc := fun _ _ => none
noncomputable def mss_l1Copy : List PM := [.rd]
noncomputable def lss_l1Copy : List (Nat × Code) := loopsAll 0 (Go.Proofs.Tryd.f41.body.getD .skip)
noncomputable def cs_l1Copy_0 : Code := (loopOf 0 (Go.Proofs.Tryd.f41.body.getD .skip)).getD .skip
theorem lseqs_l1Copy : lss_l1Copy = [(0, cs_l1Copy_0)] := by kernel_rfl
theorem ms_l1Copy_0 : ∀ p, p ∈ lss_l1Copy → p.1 = 0 → p.2 = cs_l1Copy_0 := by
  intro p hp
  rw [lseqs_l1Copy] at hp
  simp only [List.mem_cons, List.not_mem_nil, or_false] at hp
  subst hp; simp
theorem ks_l1Copy_0 : OrcOk Es_l1Copy Os_l1Copy_0 lss_l1Copy 0 := orcOk_none
noncomputable def hs_l1Copy_0 (y0 : Int) (y1 : List ((ByteArray) × (List (Int)))) (y2 : List ((ByteArray) × (List (Int)))) (y3 : List ((ByteArray) × (List (Int)))) : List (Pl × LV) := [(.T 1, .t (.val false [.ptr 1 0 0])), (.T 2, .t (.val false [.ptr 2 0 0])), (.T 3, .t (.val false [.ptr 3 0 0])), (.T 4, .t (.val false [.int .i64 y0])), (.B 1, .b 0 false [.sl .any 41 (.pair .str (.sl 3 (.int .i64))) y1]), (.B 2, .b 0 false [.row 2 1 0]), (.R 2 1, .r 0 (some ⟨false, .any, true, 41, (.pair .str (.sl 3 (.int .i64))), y2⟩)), (.B 3, .b 0 false [.row 3 1 0]), (.R 3 1, .r 0 (some ⟨false, .any, true, 41, (.pair .str (.sl 3 (.int .i64))), y3⟩))]
noncomputable def g_Ss_l1Copy_0 (y1 : List ((ByteArray) × (List (Int)))) (y2 : List ((ByteArray) × (List (Int)))) : ((Int) × (List ((ByteArray) × (List (Int))))) → RT ((Int) × (List ((ByteArray) × (List (Int))))) (((List ((ByteArray) × (List (Int))))))
  | (y0, y3) => .br (true) (.br (decide (y0 < (↑(List.length y1) : Int))) (.br (decide ((0 : Int) ≤ y0 ∧ y0 < (↑(List.length y1) : Int))) (.br (decide ((0 : Int) ≤ y0 ∧ y0 < (↑(List.length y1) : Int))) (.br (decide ((nat_lit 0 + List.length (at_ (Ty.pair Ty.str (Ty.sl (nat_lit 3) (Ty.int IntKind.i64))) y1 (Int.toNat y0)).2) * nat_lit 8 ≤ nat_lit 140737488355328 ∧ nat_lit 0 + List.length (at_ (Ty.pair Ty.str (Ty.sl (nat_lit 3) (Ty.int IntKind.i64))) y1 (Int.toNat y0)).2 ≤ nat_lit 9223372036854775807)) (.br (decide ((List.length y3 + List.length [((at_ (Ty.pair Ty.str (Ty.sl (nat_lit 3) (Ty.int IntKind.i64))) y1 (Int.toNat y0)).1, [] ++ (at_ (Ty.pair Ty.str (Ty.sl (nat_lit 3) (Ty.int IntKind.i64))) y1 (Int.toNat y0)).2)]) * nat_lit 40 ≤ nat_lit 140737488355328 ∧ List.length y3 + List.length [((at_ (Ty.pair Ty.str (Ty.sl (nat_lit 3) (Ty.int IntKind.i64))) y1 (Int.toNat y0)).1, [] ++ (at_ (Ty.pair Ty.str (Ty.sl (nat_lit 3) (Ty.int IntKind.i64))) y1 (Int.toNat y0)).2)] ≤ nat_lit 9223372036854775807)) (.br (true) (.go ((IntKind.wrap IntKind.i64 (y0 + (1 : Int)), y3 ++ [((at_ (Ty.pair Ty.str (Ty.sl (nat_lit 3) (Ty.int IntKind.i64))) y1 (Int.toNat y0)).1, [] ++ (at_ (Ty.pair Ty.str (Ty.sl (nat_lit 3) (Ty.int IntKind.i64))) y1 (Int.toNat y0)).2)]))) (.bad)) (.bad)) (.bad)) (.bad)) (.bad)) (.out (y3))) (.bad)
noncomputable def g_Ls_l1Copy_0 (y1 : List ((ByteArray) × (List (Int)))) (y2 : List ((ByteArray) × (List (Int)))) (x : (Int) × (List ((ByteArray) × (List (Int))))) : Option (((List ((ByteArray) × (List (Int)))))) := loopO (g_Ss_l1Copy_0 y1 y2) x
noncomputable def xs_l1Copy_0 (y1 : List ((ByteArray) × (List (Int)))) (y2 : List ((ByteArray) × (List (Int)))) : (((List ((ByteArray) × (List (Int)))))) → Ex × List (Pl × LV) := fun r => (.exit 0, [(.T 2, .t (.val false [.ptr 2 0 0])), (.T 3, .t (.val false [.ptr 3 0 0])), (.B 2, .b 0 false [.row 2 1 0]), (.R 2 1, .r 0 (some ⟨false, .any, true, 41, (.pair .str (.sl 3 (.int .i64))), y2⟩)), (.B 3, .b 0 false [.row 3 1 0]), (.R 3 1, .r 0 (some ⟨false, .any, true, 41, (.pair .str (.sl 3 (.int .i64))), r⟩))])
noncomputable def Os_l1Copy_1 : Orc := fun b h => match b, h with
  | 0, [(.T 1, .t (.val false [.ptr 1 0 0])), (.T 2, .t (.val false [.ptr 2 0 0])), (.T 3, .t (.val false [.ptr 3 0 0])), (.T 4, .t (.val false [.int .i64 y0])), (.B 1, .b 0 false [.sl .any 41 (.pair .str (.sl 3 (.int .i64))) y1]), (.B 2, .b 0 false [.row 2 1 0]), (.R 2 1, .r 0 (some ⟨false, .any, true, 41, (.pair .str (.sl 3 (.int .i64))), y2⟩)), (.B 3, .b 0 false [.row 3 1 0]), (.R 3 1, .r 0 (some ⟨false, .any, true, 41, (.pair .str (.sl 3 (.int .i64))), y3⟩))] => some (okO (g_Ls_l1Copy_0 y1 y2 (y0, y3)), (.leaf (.exit 0) [(.T 2, .t (.val false [.ptr 2 0 0])), (.T 3, .t (.val false [.ptr 3 0 0])), (.B 2, .b 0 false [.row 2 1 0]), (.R 2 1, .r 0 (some ⟨false, .any, true, 41, (.pair .str (.sl 3 (.int .i64))), y2⟩)), (.B 3, .b 0 false [.row 3 1 0]), (.R 3 1, .r 0 (some ⟨false, .any, true, 41, (.pair .str (.sl 3 (.int .i64))), (valO (g_Ls_l1Copy_0 y1 y2 (y0, y3)))⟩))]))
  | b, h => Os_l1Copy_0 b h
theorem bs_l1Copy_0 (y0 : Int) (y1 : List ((ByteArray) × (List (Int)))) (y2 : List ((ByteArray) × (List (Int)))) (y3 : List ((ByteArray) × (List (Int)))) : Tr.bt Es_l1Copy Os_l1Copy_0 (exec Es_l1Copy 0 cs_l1Copy_0 (St.of (hs_l1Copy_0 y0 y1 y2 y3)) (leafRd Es_l1Copy 0)) = (g_Ss_l1Copy_0 y1 y2 (y0, y3)).bt (fun ((y0, y3) : (Int) × (List ((ByteArray) × (List (Int))))) => (hs_l1Copy_0 y0 y1 y2 y3)) (xs_l1Copy_0 y1 y2) := by kernel_rfl
theorem ks_l1Copy_1 : OrcOk Es_l1Copy Os_l1Copy_1 lss_l1Copy 1 := orc_add ks_l1Copy_0 (fun n p hp h ex h' ho => by
  obtain ⟨b, c⟩ := p
  obtain ⟨xt, h1, h2⟩ := ho
  have h1 : Os_l1Copy_1 b h = some (true, xt) := h1
  unfold Os_l1Copy_1 at h1
  split at h1
  · injection h1 with h1
    injection h1 with e1 e2
    subst e2
    have hc : c = cs_l1Copy_0 := ms_l1Copy_0 _ hp rfl
    subst hc
    right
    rename_i y0 y1 y2 y3
    have key := LT_step ks_l1Copy_0 hp (fun q hq => loopsAll_in _ _ _ _ hp hq) (fun ((y0, y3) : (Int) × (List ((ByteArray) × (List (Int))))) => (hs_l1Copy_0 y0 y1 y2 y3)) (xs_l1Copy_0 y1 y2) (g_Ss_l1Copy_0 y1 y2) (fun x => by first | exact bs_l1Copy_0 x.1 y1 y2 x.2) n (x := (y0, y3)) (okO_some e1)
    have hx : ∀ r, XT.sel (.leaf (.exit 0) [(.T 2, .t (.val false [.ptr 2 0 0])), (.T 3, .t (.val false [.ptr 3 0 0])), (.B 2, .b 0 false [.row 2 1 0]), (.R 2 1, .r 0 (some ⟨false, .any, true, 41, (.pair .str (.sl 3 (.int .i64))), y2⟩)), (.B 3, .b 0 false [.row 3 1 0]), (.R 3 1, .r 0 (some ⟨false, .any, true, 41, (.pair .str (.sl 3 (.int .i64))), r⟩))]) = xs_l1Copy_0 y1 y2 r := fun r => by first | rfl | (rcases r with r | r <;> rfl) | (rcases r with r | r | r <;> rfl) | (rcases r with r | r | r | r <;> rfl)
    have h3 := (hx (valO (g_Ls_l1Copy_0 y1 y2 (y0, y3)))).symm.trans h2
    have e3 := congrArg Prod.fst h3
    have e4 := congrArg Prod.snd h3
    simp only at e3 e4
    rw [← e3, ← e4]
    exact key
  · exact .inl ⟨xt, h1, h2⟩)
noncomputable def g_As_l1Copy (a0 : List ((ByteArray) × (List (Int)))) : Bool := okO (g_Ls_l1Copy_0 a0 [] ((0 : Int), []))
noncomputable def g_Vs_l1Copy_0 (a0 : List ((ByteArray) × (List (Int)))) : List ((ByteArray) × (List (Int))) := valO (g_Ls_l1Copy_0 a0 [] ((0 : Int), []))
noncomputable def Fs_l1Copy : FSem := fun ys => match ys with
  | [.val true [.sl .any 41 (.pair .str (.sl 3 (.int .i64))) a0]] => some ((g_As_l1Copy a0), .val true [.own .any true 41 (.pair .str (.sl 3 (.int .i64))) (g_Vs_l1Copy_0 a0)], [])
  | _ => none
theorem vs_l1Copy (a0 : List ((ByteArray) × (List (Int)))) : collapseH .std Es_l1Copy Os_l1Copy_1 (execFn Es_l1Copy Go.Proofs.Tryd.f41 mss_l1Copy [.val true [.sl .any 41 (.pair .str (.sl 3 (.int .i64))) a0]]) = some ((g_As_l1Copy a0), .val true [.own .any true 41 (.pair .str (.sl 3 (.int .i64))) (g_Vs_l1Copy_0 a0)], []) := by kernel_rfl
theorem ss_l1Copy : Sound Go.Proofs.Tryd.prog 41 mss_l1Copy Fs_l1Copy := by
  refine fn_gen goods_l1Copy (by kernel_rfl) .std (fn := Go.Proofs.Tryd.f41) (c := (Go.Proofs.Tryd.f41.body.getD .skip)) (o := Os_l1Copy_1) (k := 1) (by kernel_rfl) (by kernel_rfl) (by kernel_rfl) (by kernel_rfl) (by decide) ks_l1Copy_1 ?_
  intro ys r outs h
  unfold Fs_l1Copy at h
  split at h
  · exact (vs_l1Copy _).trans h
  · cases h
end Go.Proofs.YtjoggjjjlafdmaaDoor.E
end
section
namespace Go.Proofs.YtjoggjjjlafdmaaDoor.E
open Go
set_option maxRecDepth 100000
set_option maxHeartbeats 0
set_option linter.all false
noncomputable def Es_l1Write : Env where
  tt := mkTI Go.Proofs.Tryd.prog
  fn := fun _ => none
  bxf := fun _ => none
  mv := []
  keep := fun b => match b with
    | 0 => [(2, false), (3, false), (4, false), (5, true), (6, false), (7, false)]
    | _ => []
  keepB := fun b => match b with
    | 0 => [(2, false), (3, false), (4, false), (5, true)]
    | _ => []
  keepX := fun b => match b with
    | 0 => [(3, false), (4, false), (5, true), (6, false)]
    | _ => []
  keepXB := fun b => match b with
    | 0 => [(3, false), (4, false), (5, true)]
    | _ => []
theorem goodFs_l1Write : ∀ f ms F, Es_l1Write.fn f = some (ms, F) → Sound Go.Proofs.Tryd.prog f ms F := fun f ms F h => by cases h
theorem goodBs_l1Write : ∀ f ms F, Es_l1Write.bxf f = some (ms, F) → SoundB Go.Proofs.Tryd.prog f ms F := fun f ms F h => by cases h
theorem goods_l1Write : Good Go.Proofs.Tryd.prog Es_l1Write := ⟨rfl, goodFs_l1Write, goodBs_l1Write⟩
noncomputable def Os_l1Write_0 : Orc := fun _ _ => none
noncomputable def mss_l1Write : List PM := [.fz, .fz]
noncomputable def lss_l1Write : List (Nat × Code) := loopsAll 0 (Go.Proofs.Tryd.f42.body.getD .skip)
noncomputable def cs_l1Write_0 : Code := (loopOf 0 (Go.Proofs.Tryd.f42.body.getD .skip)).getD .skip
theorem lseqs_l1Write : lss_l1Write = [(0, cs_l1Write_0)] := by kernel_rfl
theorem ms_l1Write_0 : ∀ p, p ∈ lss_l1Write → p.1 = 0 → p.2 = cs_l1Write_0 := by
  intro p hp
  rw [lseqs_l1Write] at hp
  simp only [List.mem_cons, List.not_mem_nil, or_false] at hp
  subst hp; simp
theorem ks_l1Write_0 : OrcOk Es_l1Write Os_l1Write_0 lss_l1Write 0 := orcOk_none
noncomputable def hs_l1Write_0 (y0 : Bool) (y1 : Int) (y2 : List ((ByteArray) × (List (Int)))) (y3 : ByteArray) (y4 : Bool) (y5 : List (Int)) (y6 : List ((ByteArray) × (List (Int)))) (y7 : List ((ByteArray) × (List (Int)))) : List (Pl × LV) := [(.T 2, .t (.val false [.ptr 2 0 0])), (.T 3, .t (.val false [.ptr 3 0 0])), (.T 4, .t (.val false [.ptr 4 0 0])), (.T 5, .t (.val false [.ptr 5 0 0])), (.T 6, .t (.val false [.bool y0])), (.T 7, .t (.val false [.int .i64 y1])), (.B 2, .b 0 false [.sl .any 41 (.pair .str (.sl 3 (.int .i64))) y2]), (.B 3, .b 0 false [.str y3, .bool y4, .sl .any 3 (.int .i64) y5]), (.B 4, .b 0 false [.row 4 1 0]), (.R 4 1, .r 0 (some ⟨false, .any, true, 41, (.pair .str (.sl 3 (.int .i64))), y6⟩)), (.B 5, .b 0 false [.row 5 1 0]), (.R 5 1, .r 0 (some ⟨false, .any, false, 41, (.pair .str (.sl 3 (.int .i64))), y7⟩))]
noncomputable def g_Ss_l1Write_0 (y2 : List ((ByteArray) × (List (Int)))) (y3 : ByteArray) (y4 : Bool) (y5 : List (Int)) (y6 : List ((ByteArray) × (List (Int)))) : ((Bool) × (Int) × (List ((ByteArray) × (List (Int))))) → RT ((Bool) × (Int) × (List ((ByteArray) × (List (Int))))) (((Bool) × (List ((ByteArray) × (List (Int))))))
  | (y0, y1, y7) => .br (true) (.br (decide (y1 < (↑(List.length y2) : Int))) (.br (decide ((0 : Int) ≤ y1 ∧ y1 < (↑(List.length y2) : Int))) (.br (!y0) (.br (true) (.br (Op.bytesLess (ByteArray.toList y3) (ByteArray.toList (at_ (Ty.pair Ty.str (Ty.sl (nat_lit 3) (Ty.int IntKind.i64))) y2 (Int.toNat y1)).1)) (.br (decide ((nat_lit 0 + List.length y5) * nat_lit 8 ≤ nat_lit 140737488355328 ∧ nat_lit 0 + List.length y5 ≤ nat_lit 9223372036854775807)) (.br (decide ((List.length y7 + List.length [(y3, [] ++ y5)]) * nat_lit 40 ≤ nat_lit 140737488355328 ∧ List.length y7 + List.length [(y3, [] ++ y5)] ≤ nat_lit 9223372036854775807)) (.br (true) (.br (!ByteArray.toList (at_ (Ty.pair Ty.str (Ty.sl (nat_lit 3) (Ty.int IntKind.i64))) y2 (Int.toNat y1)).1 == ByteArray.toList y3) (.br (decide ((List.length (y7 ++ [(y3, [] ++ y5)]) + List.length [((at_ (Ty.pair Ty.str (Ty.sl (nat_lit 3) (Ty.int IntKind.i64))) y2 (Int.toNat y1)).1, (at_ (Ty.pair Ty.str (Ty.sl (nat_lit 3) (Ty.int IntKind.i64))) y2 (Int.toNat y1)).2)]) * nat_lit 40 ≤ nat_lit 140737488355328 ∧ List.length (y7 ++ [(y3, [] ++ y5)]) + List.length [((at_ (Ty.pair Ty.str (Ty.sl (nat_lit 3) (Ty.int IntKind.i64))) y2 (Int.toNat y1)).1, (at_ (Ty.pair Ty.str (Ty.sl (nat_lit 3) (Ty.int IntKind.i64))) y2 (Int.toNat y1)).2)] ≤ nat_lit 9223372036854775807)) (.br (true) (.go ((true, IntKind.wrap IntKind.i64 (y1 + (1 : Int)), y7 ++ [(y3, [] ++ y5)] ++ [((at_ (Ty.pair Ty.str (Ty.sl (nat_lit 3) (Ty.int IntKind.i64))) y2 (Int.toNat y1)).1, (at_ (Ty.pair Ty.str (Ty.sl (nat_lit 3) (Ty.int IntKind.i64))) y2 (Int.toNat y1)).2)]))) (.bad)) (.bad)) (.br (!y4) (.br (decide ((nat_lit 0 + List.length y5) * nat_lit 8 ≤ nat_lit 140737488355328 ∧ nat_lit 0 + List.length y5 ≤ nat_lit 9223372036854775807)) (.br (decide ((List.length (y7 ++ [(y3, [] ++ y5)]) + List.length [(y3, [] ++ y5)]) * nat_lit 40 ≤ nat_lit 140737488355328 ∧ List.length (y7 ++ [(y3, [] ++ y5)]) + List.length [(y3, [] ++ y5)] ≤ nat_lit 9223372036854775807)) (.br (true) (.go ((true, IntKind.wrap IntKind.i64 (y1 + (1 : Int)), y7 ++ [(y3, [] ++ y5)] ++ [(y3, [] ++ y5)]))) (.bad)) (.bad)) (.bad)) (.br (true) (.go ((true, IntKind.wrap IntKind.i64 (y1 + (1 : Int)), y7 ++ [(y3, [] ++ y5)]))) (.bad)))) (.bad)) (.bad)) (.bad)) (.br (true) (.br (!ByteArray.toList (at_ (Ty.pair Ty.str (Ty.sl (nat_lit 3) (Ty.int IntKind.i64))) y2 (Int.toNat y1)).1 == ByteArray.toList y3) (.br (decide ((List.length y7 + List.length [((at_ (Ty.pair Ty.str (Ty.sl (nat_lit 3) (Ty.int IntKind.i64))) y2 (Int.toNat y1)).1, (at_ (Ty.pair Ty.str (Ty.sl (nat_lit 3) (Ty.int IntKind.i64))) y2 (Int.toNat y1)).2)]) * nat_lit 40 ≤ nat_lit 140737488355328 ∧ List.length y7 + List.length [((at_ (Ty.pair Ty.str (Ty.sl (nat_lit 3) (Ty.int IntKind.i64))) y2 (Int.toNat y1)).1, (at_ (Ty.pair Ty.str (Ty.sl (nat_lit 3) (Ty.int IntKind.i64))) y2 (Int.toNat y1)).2)] ≤ nat_lit 9223372036854775807)) (.br (true) (.go ((y0, IntKind.wrap IntKind.i64 (y1 + (1 : Int)), y7 ++ [((at_ (Ty.pair Ty.str (Ty.sl (nat_lit 3) (Ty.int IntKind.i64))) y2 (Int.toNat y1)).1, (at_ (Ty.pair Ty.str (Ty.sl (nat_lit 3) (Ty.int IntKind.i64))) y2 (Int.toNat y1)).2)]))) (.bad)) (.bad)) (.br (!y4) (.br (decide ((nat_lit 0 + List.length y5) * nat_lit 8 ≤ nat_lit 140737488355328 ∧ nat_lit 0 + List.length y5 ≤ nat_lit 9223372036854775807)) (.br (decide ((List.length y7 + List.length [(y3, [] ++ y5)]) * nat_lit 40 ≤ nat_lit 140737488355328 ∧ List.length y7 + List.length [(y3, [] ++ y5)] ≤ nat_lit 9223372036854775807)) (.br (true) (.go ((true, IntKind.wrap IntKind.i64 (y1 + (1 : Int)), y7 ++ [(y3, [] ++ y5)]))) (.bad)) (.bad)) (.bad)) (.br (true) (.go ((y0, IntKind.wrap IntKind.i64 (y1 + (1 : Int)), y7))) (.bad)))) (.bad))) (.bad)) (.br (true) (.br (!ByteArray.toList (at_ (Ty.pair Ty.str (Ty.sl (nat_lit 3) (Ty.int IntKind.i64))) y2 (Int.toNat y1)).1 == ByteArray.toList y3) (.br (decide ((List.length y7 + List.length [((at_ (Ty.pair Ty.str (Ty.sl (nat_lit 3) (Ty.int IntKind.i64))) y2 (Int.toNat y1)).1, (at_ (Ty.pair Ty.str (Ty.sl (nat_lit 3) (Ty.int IntKind.i64))) y2 (Int.toNat y1)).2)]) * nat_lit 40 ≤ nat_lit 140737488355328 ∧ List.length y7 + List.length [((at_ (Ty.pair Ty.str (Ty.sl (nat_lit 3) (Ty.int IntKind.i64))) y2 (Int.toNat y1)).1, (at_ (Ty.pair Ty.str (Ty.sl (nat_lit 3) (Ty.int IntKind.i64))) y2 (Int.toNat y1)).2)] ≤ nat_lit 9223372036854775807)) (.br (true) (.go ((y0, IntKind.wrap IntKind.i64 (y1 + (1 : Int)), y7 ++ [((at_ (Ty.pair Ty.str (Ty.sl (nat_lit 3) (Ty.int IntKind.i64))) y2 (Int.toNat y1)).1, (at_ (Ty.pair Ty.str (Ty.sl (nat_lit 3) (Ty.int IntKind.i64))) y2 (Int.toNat y1)).2)]))) (.bad)) (.bad)) (.br (!y4) (.br (decide ((nat_lit 0 + List.length y5) * nat_lit 8 ≤ nat_lit 140737488355328 ∧ nat_lit 0 + List.length y5 ≤ nat_lit 9223372036854775807)) (.br (decide ((List.length y7 + List.length [(y3, [] ++ y5)]) * nat_lit 40 ≤ nat_lit 140737488355328 ∧ List.length y7 + List.length [(y3, [] ++ y5)] ≤ nat_lit 9223372036854775807)) (.br (true) (.go ((true, IntKind.wrap IntKind.i64 (y1 + (1 : Int)), y7 ++ [(y3, [] ++ y5)]))) (.bad)) (.bad)) (.bad)) (.br (true) (.go ((y0, IntKind.wrap IntKind.i64 (y1 + (1 : Int)), y7))) (.bad)))) (.bad))) (.bad)) (.out ((y0, y7)))) (.bad)
noncomputable def g_Ls_l1Write_0 (y2 : List ((ByteArray) × (List (Int)))) (y3 : ByteArray) (y4 : Bool) (y5 : List (Int)) (y6 : List ((ByteArray) × (List (Int)))) (x : (Bool) × (Int) × (List ((ByteArray) × (List (Int))))) : Option (((Bool) × (List ((ByteArray) × (List (Int)))))) := loopO (g_Ss_l1Write_0 y2 y3 y4 y5 y6) x
noncomputable def xs_l1Write_0 (y2 : List ((ByteArray) × (List (Int)))) (y3 : ByteArray) (y4 : Bool) (y5 : List (Int)) (y6 : List ((ByteArray) × (List (Int)))) : (((Bool) × (List ((ByteArray) × (List (Int)))))) → Ex × List (Pl × LV) := fun r => (.exit 0, [(.T 3, .t (.val false [.ptr 3 0 0])), (.T 4, .t (.val false [.ptr 4 0 0])), (.T 5, .t (.val false [.ptr 5 0 0])), (.T 6, .t (.val false [.bool r.1])), (.B 3, .b 0 false [.str y3, .bool y4, .sl .any 3 (.int .i64) y5]), (.B 4, .b 0 false [.row 4 1 0]), (.R 4 1, .r 0 (some ⟨false, .any, true, 41, (.pair .str (.sl 3 (.int .i64))), y6⟩)), (.B 5, .b 0 false [.row 5 1 0]), (.R 5 1, .r 0 (some ⟨false, .any, false, 41, (.pair .str (.sl 3 (.int .i64))), r.2⟩))])
noncomputable def Os_l1Write_1 : Orc := fun b h => match b, h with
  | 0, [(.T 2, .t (.val false [.ptr 2 0 0])), (.T 3, .t (.val false [.ptr 3 0 0])), (.T 4, .t (.val false [.ptr 4 0 0])), (.T 5, .t (.val false [.ptr 5 0 0])), (.T 6, .t (.val false [.bool y0])), (.T 7, .t (.val false [.int .i64 y1])), (.B 2, .b 0 false [.sl .any 41 (.pair .str (.sl 3 (.int .i64))) y2]), (.B 3, .b 0 false [.str y3, .bool y4, .sl .any 3 (.int .i64) y5]), (.B 4, .b 0 false [.row 4 1 0]), (.R 4 1, .r 0 (some ⟨false, .any, true, 41, (.pair .str (.sl 3 (.int .i64))), y6⟩)), (.B 5, .b 0 false [.row 5 1 0]), (.R 5 1, .r 0 (some ⟨false, .any, false, 41, (.pair .str (.sl 3 (.int .i64))), y7⟩))] => some (okO (g_Ls_l1Write_0 y2 y3 y4 y5 y6 (y0, y1, y7)), (.leaf (.exit 0) [(.T 3, .t (.val false [.ptr 3 0 0])), (.T 4, .t (.val false [.ptr 4 0 0])), (.T 5, .t (.val false [.ptr 5 0 0])), (.T 6, .t (.val false [.bool (valO (g_Ls_l1Write_0 y2 y3 y4 y5 y6 (y0, y1, y7))).1])), (.B 3, .b 0 false [.str y3, .bool y4, .sl .any 3 (.int .i64) y5]), (.B 4, .b 0 false [.row 4 1 0]), (.R 4 1, .r 0 (some ⟨false, .any, true, 41, (.pair .str (.sl 3 (.int .i64))), y6⟩)), (.B 5, .b 0 false [.row 5 1 0]), (.R 5 1, .r 0 (some ⟨false, .any, false, 41, (.pair .str (.sl 3 (.int .i64))), (valO (g_Ls_l1Write_0 y2 y3 y4 y5 y6 (y0, y1, y7))).2⟩))]))
  | b, h => Os_l1Write_0 b h
theorem bs_l1Write_0 (y0 : Bool) (y1 : Int) (y2 : List ((ByteArray) × (List (Int)))) (y3 : ByteArray) (y4 : Bool) (y5 : List (Int)) (y6 : List ((ByteArray) × (List (Int)))) (y7 : List ((ByteArray) × (List (Int)))) : Tr.bt Es_l1Write Os_l1Write_0 (exec Es_l1Write 0 cs_l1Write_0 (St.of (hs_l1Write_0 y0 y1 y2 y3 y4 y5 y6 y7)) (leafRd Es_l1Write 0)) = (g_Ss_l1Write_0 y2 y3 y4 y5 y6 (y0, y1, y7)).bt (fun ((y0, y1, y7) : (Bool) × (Int) × (List ((ByteArray) × (List (Int))))) => (hs_l1Write_0 y0 y1 y2 y3 y4 y5 y6 y7)) (xs_l1Write_0 y2 y3 y4 y5 y6) := by kernel_rfl
theorem ks_l1Write_1 : OrcOk Es_l1Write Os_l1Write_1 lss_l1Write 1 := orc_add ks_l1Write_0 (fun n p hp h ex h' ho => by
  obtain ⟨b, c⟩ := p
  obtain ⟨xt, h1, h2⟩ := ho
  have h1 : Os_l1Write_1 b h = some (true, xt) := h1
  unfold Os_l1Write_1 at h1
  split at h1
  · injection h1 with h1
    injection h1 with e1 e2
    subst e2
    have hc : c = cs_l1Write_0 := ms_l1Write_0 _ hp rfl
    subst hc
    right
    rename_i y0 y1 y2 y3 y4 y5 y6 y7
    have key := LT_step ks_l1Write_0 hp (fun q hq => loopsAll_in _ _ _ _ hp hq) (fun ((y0, y1, y7) : (Bool) × (Int) × (List ((ByteArray) × (List (Int))))) => (hs_l1Write_0 y0 y1 y2 y3 y4 y5 y6 y7)) (xs_l1Write_0 y2 y3 y4 y5 y6) (g_Ss_l1Write_0 y2 y3 y4 y5 y6) (fun x => by first | exact bs_l1Write_0 x.1 x.2.1 y2 y3 y4 y5 y6 x.2.2) n (x := (y0, y1, y7)) (okO_some e1)
    have hx : ∀ r, XT.sel (.leaf (.exit 0) [(.T 3, .t (.val false [.ptr 3 0 0])), (.T 4, .t (.val false [.ptr 4 0 0])), (.T 5, .t (.val false [.ptr 5 0 0])), (.T 6, .t (.val false [.bool r.1])), (.B 3, .b 0 false [.str y3, .bool y4, .sl .any 3 (.int .i64) y5]), (.B 4, .b 0 false [.row 4 1 0]), (.R 4 1, .r 0 (some ⟨false, .any, true, 41, (.pair .str (.sl 3 (.int .i64))), y6⟩)), (.B 5, .b 0 false [.row 5 1 0]), (.R 5 1, .r 0 (some ⟨false, .any, false, 41, (.pair .str (.sl 3 (.int .i64))), r.2⟩))]) = xs_l1Write_0 y2 y3 y4 y5 y6 r := fun r => by first | rfl | (rcases r with r | r <;> rfl) | (rcases r with r | r | r <;> rfl) | (rcases r with r | r | r | r <;> rfl)
    have h3 := (hx (valO (g_Ls_l1Write_0 y2 y3 y4 y5 y6 (y0, y1, y7)))).symm.trans h2
    have e3 := congrArg Prod.fst h3
    have e4 := congrArg Prod.snd h3
    simp only at e3 e4
    rw [← e3, ← e4]
    exact key
  · exact .inl ⟨xt, h1, h2⟩)
noncomputable def g_As_l1Write (a0 : List ((ByteArray) × (List (Int)))) (a1 : ByteArray) (a2 : Bool) (a3 : List (Int)) : Bool := okO (g_Ls_l1Write_0 a0 a1 a2 a3 [] (a2, (0 : Int), [])) && (!!(valO (g_Ls_l1Write_0 a0 a1 a2 a3 [] (a2, (0 : Int), []))).1 || decide ((nat_lit 0 + List.length a3) * nat_lit 8 ≤ nat_lit 140737488355328 ∧ nat_lit 0 + List.length a3 ≤ nat_lit 9223372036854775807) && decide ((List.length (valO (g_Ls_l1Write_0 a0 a1 a2 a3 [] (a2, (0 : Int), []))).2 + List.length [(a1, [] ++ a3)]) * nat_lit 40 ≤ nat_lit 140737488355328 ∧ List.length (valO (g_Ls_l1Write_0 a0 a1 a2 a3 [] (a2, (0 : Int), []))).2 + List.length [(a1, [] ++ a3)] ≤ nat_lit 9223372036854775807))
noncomputable def g_Vs_l1Write_0 (a0 : List ((ByteArray) × (List (Int)))) (a1 : ByteArray) (a2 : Bool) (a3 : List (Int)) : List ((ByteArray) × (List (Int))) := bif !(valO (g_Ls_l1Write_0 a0 a1 a2 a3 [] (a2, (0 : Int), []))).1 then (valO (g_Ls_l1Write_0 a0 a1 a2 a3 [] (a2, (0 : Int), []))).2 ++ [(a1, [] ++ a3)] else (valO (g_Ls_l1Write_0 a0 a1 a2 a3 [] (a2, (0 : Int), []))).2
noncomputable def Fs_l1Write : FSem := fun ys => match ys with
  | [.val true [.sl .any 41 (.pair .str (.sl 3 (.int .i64))) a0], .val true [.str a1, .bool a2, .sl .any 3 (.int .i64) a3]] => some ((g_As_l1Write a0 a1 a2 a3), .val true [.own .any false 41 (.pair .str (.sl 3 (.int .i64))) (g_Vs_l1Write_0 a0 a1 a2 a3)], [])
  | _ => none
theorem vs_l1Write (a0 : List ((ByteArray) × (List (Int)))) (a1 : ByteArray) (a2 : Bool) (a3 : List (Int)) : collapseH .std Es_l1Write Os_l1Write_1 (execFn Es_l1Write Go.Proofs.Tryd.f42 mss_l1Write [.val true [.sl .any 41 (.pair .str (.sl 3 (.int .i64))) a0], .val true [.str a1, .bool a2, .sl .any 3 (.int .i64) a3]]) = some ((g_As_l1Write a0 a1 a2 a3), .val true [.own .any false 41 (.pair .str (.sl 3 (.int .i64))) (g_Vs_l1Write_0 a0 a1 a2 a3)], []) := by kernel_rfl
theorem ss_l1Write : Sound Go.Proofs.Tryd.prog 42 mss_l1Write Fs_l1Write := by
  refine fn_gen goods_l1Write (by kernel_rfl) .std (fn := Go.Proofs.Tryd.f42) (c := (Go.Proofs.Tryd.f42.body.getD .skip)) (o := Os_l1Write_1) (k := 1) (by kernel_rfl) (by kernel_rfl) (by kernel_rfl) (by kernel_rfl) (by decide) ks_l1Write_1 ?_
  intro ys r outs h
  unfold Fs_l1Write at h
  split at h
  · exact (vs_l1Write _ _ _ _).trans h
  · cases h
end Go.Proofs.YtjoggjjjlafdmaaDoor.E
end
section
namespace Go.Proofs.YtjoggjjjlafdmaaDoor.E
open Go
set_option maxRecDepth 100000
set_option maxHeartbeats 0
set_option linter.all false
noncomputable def Es_StoDo : Env where
  tt := mkTI Go.Proofs.Tryd.prog
  fn := fun f => match f with
    | 12 => some (mss_StoOk, FSem.wk mss_StoOk Fs_StoOk)
    | 14 => some (mss_WrtOk, FSem.wk mss_WrtOk Fs_WrtOk)
    | 41 => some (mss_l1Copy, FSem.wk mss_l1Copy Fs_l1Copy)
    | 42 => some (mss_l1Write, FSem.wk mss_l1Write Fs_l1Write)
    | _ => none
  bxf := fun _ => none
  mv := []
  keep := fun b => match b with
    | 0 => [(1, false), (4, false), (5, true), (6, false)]
    | _ => []
  keepB := fun b => match b with
    | 0 => [(4, false), (5, true)]
    | _ => []
  keepX := fun b => match b with
    | 0 => [(4, false), (5, true)]
    | _ => []
  keepXB := fun b => match b with
    | 0 => [(4, false), (5, true)]
    | _ => []
theorem goodFs_StoDo : ∀ f ms F, Es_StoDo.fn f = some (ms, F) → Sound Go.Proofs.Tryd.prog f ms F := fun f ms F h => by
  unfold Es_StoDo at h
  dsimp only at h
  split at h
  · injection h with h; injection h with e1 e2; subst e1 e2; exact Sound.wk ss_StoOk
  · injection h with h; injection h with e1 e2; subst e1 e2; exact Sound.wk ss_WrtOk
  · injection h with h; injection h with e1 e2; subst e1 e2; exact Sound.wk ss_l1Copy
  · injection h with h; injection h with e1 e2; subst e1 e2; exact Sound.wk ss_l1Write
  · cases h
theorem goodBs_StoDo : ∀ f ms F, Es_StoDo.bxf f = some (ms, F) → SoundB Go.Proofs.Tryd.prog f ms F := fun f ms F h => by cases h
theorem goods_StoDo : Good Go.Proofs.Tryd.prog Es_StoDo := ⟨rfl, goodFs_StoDo, goodBs_StoDo⟩
noncomputable def Os_StoDo_0 : Orc := fun _ _ => none
noncomputable def mss_StoDo : List PM := [.rd, .rd]
noncomputable def lss_StoDo : List (Nat × Code) := loopsAll 0 (Go.Proofs.Tryd.f11.body.getD .skip)
noncomputable def cs_StoDo_0 : Code := (loopOf 0 (Go.Proofs.Tryd.f11.body.getD .skip)).getD .skip
theorem lseqs_StoDo : lss_StoDo = [(0, cs_StoDo_0)] := by kernel_rfl
theorem ms_StoDo_0 : ∀ p, p ∈ lss_StoDo → p.1 = 0 → p.2 = cs_StoDo_0 := by
  intro p hp
  rw [lseqs_StoDo] at hp
  simp only [List.mem_cons, List.not_mem_nil, or_false] at hp
  subst hp; simp
theorem ks_StoDo_0 : OrcOk Es_StoDo Os_StoDo_0 lss_StoDo 0 := orcOk_none
noncomputable def hs_StoDo_0 (y0 : List ((ByteArray) × ((Bool) × (List (Int))))) (y1 : Int) (y2 : List ((ByteArray) × (List (Int)))) (y3 : List ((ByteArray) × (List (Int)))) : List (Pl × LV) := [(.T 1, .t (.val false [.sl .any 36 (.pair .str (.pair .bool (.sl 3 (.int .i64)))) y0])), (.T 4, .t (.val false [.ptr 4 0 0])), (.T 5, .t (.val false [.ptr 5 0 0])), (.T 6, .t (.val false [.int .i64 y1])), (.B 4, .b 0 false [.row 4 1 0]), (.R 4 1, .r 0 (some ⟨false, .any, true, 41, (.pair .str (.sl 3 (.int .i64))), y2⟩)), (.B 5, .b 0 false [.row 5 1 0]), (.R 5 1, .r 0 (some ⟨false, .any, false, 41, (.pair .str (.sl 3 (.int .i64))), y3⟩))]
noncomputable def g_Ss_StoDo_0 (y0 : List ((ByteArray) × ((Bool) × (List (Int))))) (y2 : List ((ByteArray) × (List (Int)))) : ((Int) × (List ((ByteArray) × (List (Int))))) → RT ((Int) × (List ((ByteArray) × (List (Int))))) (((List ((ByteArray) × (List (Int)))) × (List ((ByteArray) × (List (Int))))) ⊕ ((List ((ByteArray) × (List (Int))))))
  | (y1, y3) => .br (true) (.br (decide (y1 < (↑(List.length y0) : Int))) (.br (decide ((0 : Int) ≤ y1 ∧ y1 < (↑(List.length y0) : Int))) (.br (g_As_WrtOk (at_ (Ty.pair Ty.str (Ty.pair Ty.bool (Ty.sl (nat_lit 3) (Ty.int IntKind.i64)))) y0 (Int.toNat y1)).1 (at_ (Ty.pair Ty.str (Ty.pair Ty.bool (Ty.sl (nat_lit 3) (Ty.int IntKind.i64)))) y0 (Int.toNat y1)).2.1 (at_ (Ty.pair Ty.str (Ty.pair Ty.bool (Ty.sl (nat_lit 3) (Ty.int IntKind.i64)))) y0 (Int.toNat y1)).2.2) (.br (!g_Vs_WrtOk_0 (at_ (Ty.pair Ty.str (Ty.pair Ty.bool (Ty.sl (nat_lit 3) (Ty.int IntKind.i64)))) y0 (Int.toNat y1)).1 (at_ (Ty.pair Ty.str (Ty.pair Ty.bool (Ty.sl (nat_lit 3) (Ty.int IntKind.i64)))) y0 (Int.toNat y1)).2.1 (at_ (Ty.pair Ty.str (Ty.pair Ty.bool (Ty.sl (nat_lit 3) (Ty.int IntKind.i64)))) y0 (Int.toNat y1)).2.2) (.out (.inl (([], y3)))) (.br (decide ((0 : Int) ≤ y1 ∧ y1 < (↑(List.length y0) : Int))) (.br (g_As_l1Write y3 (at_ (Ty.pair Ty.str (Ty.pair Ty.bool (Ty.sl (nat_lit 3) (Ty.int IntKind.i64)))) y0 (Int.toNat y1)).1 (at_ (Ty.pair Ty.str (Ty.pair Ty.bool (Ty.sl (nat_lit 3) (Ty.int IntKind.i64)))) y0 (Int.toNat y1)).2.1 (at_ (Ty.pair Ty.str (Ty.pair Ty.bool (Ty.sl (nat_lit 3) (Ty.int IntKind.i64)))) y0 (Int.toNat y1)).2.2) (.br (true) (.br (decide ((↑(List.length (g_Vs_l1Write_0 y3 (at_ (Ty.pair Ty.str (Ty.pair Ty.bool (Ty.sl (nat_lit 3) (Ty.int IntKind.i64)))) y0 (Int.toNat y1)).1 (at_ (Ty.pair Ty.str (Ty.pair Ty.bool (Ty.sl (nat_lit 3) (Ty.int IntKind.i64)))) y0 (Int.toNat y1)).2.1 (at_ (Ty.pair Ty.str (Ty.pair Ty.bool (Ty.sl (nat_lit 3) (Ty.int IntKind.i64)))) y0 (Int.toNat y1)).2.2)) : Int) > (40 : Int))) (.out (.inl (([], g_Vs_l1Write_0 y3 (at_ (Ty.pair Ty.str (Ty.pair Ty.bool (Ty.sl (nat_lit 3) (Ty.int IntKind.i64)))) y0 (Int.toNat y1)).1 (at_ (Ty.pair Ty.str (Ty.pair Ty.bool (Ty.sl (nat_lit 3) (Ty.int IntKind.i64)))) y0 (Int.toNat y1)).2.1 (at_ (Ty.pair Ty.str (Ty.pair Ty.bool (Ty.sl (nat_lit 3) (Ty.int IntKind.i64)))) y0 (Int.toNat y1)).2.2)))) (.br (true) (.go ((IntKind.wrap IntKind.i64 (y1 + (1 : Int)), g_Vs_l1Write_0 y3 (at_ (Ty.pair Ty.str (Ty.pair Ty.bool (Ty.sl (nat_lit 3) (Ty.int IntKind.i64)))) y0 (Int.toNat y1)).1 (at_ (Ty.pair Ty.str (Ty.pair Ty.bool (Ty.sl (nat_lit 3) (Ty.int IntKind.i64)))) y0 (Int.toNat y1)).2.1 (at_ (Ty.pair Ty.str (Ty.pair Ty.bool (Ty.sl (nat_lit 3) (Ty.int IntKind.i64)))) y0 (Int.toNat y1)).2.2))) (.bad))) (.bad)) (.bad)) (.bad))) (.bad)) (.bad)) (.out (.inr (y3)))) (.bad)
noncomputable def g_Ls_StoDo_0 (y0 : List ((ByteArray) × ((Bool) × (List (Int))))) (y2 : List ((ByteArray) × (List (Int)))) (x : (Int) × (List ((ByteArray) × (List (Int))))) : Option (((List ((ByteArray) × (List (Int)))) × (List ((ByteArray) × (List (Int))))) ⊕ ((List ((ByteArray) × (List (Int)))))) := loopO (g_Ss_StoDo_0 y0 y2) x
noncomputable def xs_StoDo_0 (y0 : List ((ByteArray) × ((Bool) × (List (Int))))) (y2 : List ((ByteArray) × (List (Int)))) : (((List ((ByteArray) × (List (Int)))) × (List ((ByteArray) × (List (Int))))) ⊕ ((List ((ByteArray) × (List (Int)))))) → Ex × List (Pl × LV) := fun
  | .inl r => (.ret, [(.T 4, .t (.val false [.ptr 4 0 0])), (.T 5, .t (.val false [.ptr 5 0 0])), (.B 4, .b 0 false [.row 4 1 0]), (.R 4 1, .r 0 (some ⟨false, .any, true, 41, (.pair .str (.sl 3 (.int .i64))), r.1⟩)), (.B 5, .b 0 false [.row 5 1 0]), (.R 5 1, .r 0 (some ⟨false, .any, false, 41, (.pair .str (.sl 3 (.int .i64))), r.2⟩))])
  | .inr (r) => (.exit 0, [(.T 4, .t (.val false [.ptr 4 0 0])), (.T 5, .t (.val false [.ptr 5 0 0])), (.B 4, .b 0 false [.row 4 1 0]), (.R 4 1, .r 0 (some ⟨false, .any, true, 41, (.pair .str (.sl 3 (.int .i64))), y2⟩)), (.B 5, .b 0 false [.row 5 1 0]), (.R 5 1, .r 0 (some ⟨false, .any, false, 41, (.pair .str (.sl 3 (.int .i64))), r⟩))])
noncomputable def Os_StoDo_1 : Orc := fun b h => match b, h with
  | 0, [(.T 1, .t (.val false [.sl .any 36 (.pair .str (.pair .bool (.sl 3 (.int .i64)))) y0])), (.T 4, .t (.val false [.ptr 4 0 0])), (.T 5, .t (.val false [.ptr 5 0 0])), (.T 6, .t (.val false [.int .i64 y1])), (.B 4, .b 0 false [.row 4 1 0]), (.R 4 1, .r 0 (some ⟨false, .any, true, 41, (.pair .str (.sl 3 (.int .i64))), y2⟩)), (.B 5, .b 0 false [.row 5 1 0]), (.R 5 1, .r 0 (some ⟨false, .any, false, 41, (.pair .str (.sl 3 (.int .i64))), y3⟩))] => some (okO (g_Ls_StoDo_0 y0 y2 (y1, y3)), (.br (isL (valO (g_Ls_StoDo_0 y0 y2 (y1, y3)))) (.leaf .ret [(.T 4, .t (.val false [.ptr 4 0 0])), (.T 5, .t (.val false [.ptr 5 0 0])), (.B 4, .b 0 false [.row 4 1 0]), (.R 4 1, .r 0 (some ⟨false, .any, true, 41, (.pair .str (.sl 3 (.int .i64))), (getL (valO (g_Ls_StoDo_0 y0 y2 (y1, y3)))).1⟩)), (.B 5, .b 0 false [.row 5 1 0]), (.R 5 1, .r 0 (some ⟨false, .any, false, 41, (.pair .str (.sl 3 (.int .i64))), (getL (valO (g_Ls_StoDo_0 y0 y2 (y1, y3)))).2⟩))]) (.leaf (.exit 0) [(.T 4, .t (.val false [.ptr 4 0 0])), (.T 5, .t (.val false [.ptr 5 0 0])), (.B 4, .b 0 false [.row 4 1 0]), (.R 4 1, .r 0 (some ⟨false, .any, true, 41, (.pair .str (.sl 3 (.int .i64))), y2⟩)), (.B 5, .b 0 false [.row 5 1 0]), (.R 5 1, .r 0 (some ⟨false, .any, false, 41, (.pair .str (.sl 3 (.int .i64))), (getR (valO (g_Ls_StoDo_0 y0 y2 (y1, y3))))⟩))])))
  | b, h => Os_StoDo_0 b h
theorem bs_StoDo_0 (y0 : List ((ByteArray) × ((Bool) × (List (Int))))) (y1 : Int) (y2 : List ((ByteArray) × (List (Int)))) (y3 : List ((ByteArray) × (List (Int)))) : Tr.bt Es_StoDo Os_StoDo_0 (exec Es_StoDo 0 cs_StoDo_0 (St.of (hs_StoDo_0 y0 y1 y2 y3)) (leafRd Es_StoDo 0)) = (g_Ss_StoDo_0 y0 y2 (y1, y3)).bt (fun ((y1, y3) : (Int) × (List ((ByteArray) × (List (Int))))) => (hs_StoDo_0 y0 y1 y2 y3)) (xs_StoDo_0 y0 y2) := by kernel_rfl
theorem ks_StoDo_1 : OrcOk Es_StoDo Os_StoDo_1 lss_StoDo 1 := orc_add ks_StoDo_0 (fun n p hp h ex h' ho => by
  obtain ⟨b, c⟩ := p
  obtain ⟨xt, h1, h2⟩ := ho
  have h1 : Os_StoDo_1 b h = some (true, xt) := h1
  unfold Os_StoDo_1 at h1
  split at h1
  · injection h1 with h1
    injection h1 with e1 e2
    subst e2
    have hc : c = cs_StoDo_0 := ms_StoDo_0 _ hp rfl
    subst hc
    right
    rename_i y0 y1 y2 y3
    have key := LT_step ks_StoDo_0 hp (fun q hq => loopsAll_in _ _ _ _ hp hq) (fun ((y1, y3) : (Int) × (List ((ByteArray) × (List (Int))))) => (hs_StoDo_0 y0 y1 y2 y3)) (xs_StoDo_0 y0 y2) (g_Ss_StoDo_0 y0 y2) (fun x => by first | exact bs_StoDo_0 y0 x.1 y2 x.2) n (x := (y1, y3)) (okO_some e1)
    have hx : ∀ r, XT.sel (.br (isL r) (.leaf .ret [(.T 4, .t (.val false [.ptr 4 0 0])), (.T 5, .t (.val false [.ptr 5 0 0])), (.B 4, .b 0 false [.row 4 1 0]), (.R 4 1, .r 0 (some ⟨false, .any, true, 41, (.pair .str (.sl 3 (.int .i64))), (getL r).1⟩)), (.B 5, .b 0 false [.row 5 1 0]), (.R 5 1, .r 0 (some ⟨false, .any, false, 41, (.pair .str (.sl 3 (.int .i64))), (getL r).2⟩))]) (.leaf (.exit 0) [(.T 4, .t (.val false [.ptr 4 0 0])), (.T 5, .t (.val false [.ptr 5 0 0])), (.B 4, .b 0 false [.row 4 1 0]), (.R 4 1, .r 0 (some ⟨false, .any, true, 41, (.pair .str (.sl 3 (.int .i64))), y2⟩)), (.B 5, .b 0 false [.row 5 1 0]), (.R 5 1, .r 0 (some ⟨false, .any, false, 41, (.pair .str (.sl 3 (.int .i64))), (getR r)⟩))])) = xs_StoDo_0 y0 y2 r := fun r => by first | rfl | (rcases r with r | r <;> rfl) | (rcases r with r | r | r <;> rfl) | (rcases r with r | r | r | r <;> rfl)
    have h3 := (hx (valO (g_Ls_StoDo_0 y0 y2 (y1, y3)))).symm.trans h2
    have e3 := congrArg Prod.fst h3
    have e4 := congrArg Prod.snd h3
    simp only at e3 e4
    rw [← e3, ← e4]
    exact key
  · exact .inl ⟨xt, h1, h2⟩)
noncomputable def g_As_StoDo (a0 : List ((ByteArray) × (List (Int)))) (a1 : List ((ByteArray) × ((Bool) × (List (Int))))) : Bool := g_As_StoOk a0 && (!g_Vs_StoOk_0 a0 || g_As_l1Copy a0 && (okO (g_Ls_StoDo_0 a1 [] ((0 : Int), g_Vs_l1Copy_0 a0)) && (isL (valO (g_Ls_StoDo_0 a1 [] ((0 : Int), g_Vs_l1Copy_0 a0))) || g_As_l1Copy (getR (valO (g_Ls_StoDo_0 a1 [] ((0 : Int), g_Vs_l1Copy_0 a0)))))))
noncomputable def g_Vs_StoDo_0 (a0 : List ((ByteArray) × (List (Int)))) (a1 : List ((ByteArray) × ((Bool) × (List (Int))))) : List ((ByteArray) × (List (Int))) := bif !g_Vs_StoOk_0 a0 then [] else bif isL (valO (g_Ls_StoDo_0 a1 [] ((0 : Int), g_Vs_l1Copy_0 a0))) then (getL (valO (g_Ls_StoDo_0 a1 [] ((0 : Int), g_Vs_l1Copy_0 a0)))).1 else g_Vs_l1Copy_0 (getR (valO (g_Ls_StoDo_0 a1 [] ((0 : Int), g_Vs_l1Copy_0 a0))))
noncomputable def Fs_StoDo : FSem := fun ys => match ys with
  | [.val true [.sl .any 41 (.pair .str (.sl 3 (.int .i64))) a0], .val false [.sl .any 36 (.pair .str (.pair .bool (.sl 3 (.int .i64)))) a1]] => some ((g_As_StoDo a0 a1), .val true [.own .any true 41 (.pair .str (.sl 3 (.int .i64))) (g_Vs_StoDo_0 a0 a1)], [])
  | _ => none
theorem vs_StoDo (a0 : List ((ByteArray) × (List (Int)))) (a1 : List ((ByteArray) × ((Bool) × (List (Int))))) : collapseH .std Es_StoDo Os_StoDo_1 (execFn Es_StoDo Go.Proofs.Tryd.f11 mss_StoDo [.val true [.sl .any 41 (.pair .str (.sl 3 (.int .i64))) a0], .val false [.sl .any 36 (.pair .str (.pair .bool (.sl 3 (.int .i64)))) a1]]) = some ((g_As_StoDo a0 a1), .val true [.own .any true 41 (.pair .str (.sl 3 (.int .i64))) (g_Vs_StoDo_0 a0 a1)], []) := by kernel_rfl
theorem ss_StoDo : Sound Go.Proofs.Tryd.prog 11 mss_StoDo Fs_StoDo := by
  refine fn_gen goods_StoDo (by kernel_rfl) .std (fn := Go.Proofs.Tryd.f11) (c := (Go.Proofs.Tryd.f11.body.getD .skip)) (o := Os_StoDo_1) (k := 1) (by kernel_rfl) (by kernel_rfl) (by kernel_rfl) (by kernel_rfl) (by decide) ks_StoDo_1 ?_
  intro ys r outs h
  unfold Fs_StoDo at h
  split at h
  · exact (vs_StoDo _ _).trans h
  · cases h
end Go.Proofs.YtjoggjjjlafdmaaDoor.E
end
section
namespace Go.Proofs.YtjoggjjjlafdmaaDoor.E
open Go
set_option maxRecDepth 100000
set_option maxHeartbeats 0
set_option linter.all false
noncomputable def Es_l20Val : Env where
  tt := mkTI Go.Proofs.Tryd.prog
  fn := fun f => match f with
    | 34 => some (mss_l20Rd_oddR, FSem.wk mss_l20Rd_oddR Fs_l20Rd_oddR)
    | 64 => some (mss_l20Rd_pick, FSem.wk mss_l20Rd_pick Fs_l20Rd_pick)
    | _ => none
  bxf := fun _ => none
  mv := []
  keep := fun b => match b with
    | 0 => [(0, false), (1, false), (5, false), (6, false)]
    | _ => []
  keepB := fun b => match b with
    | 0 => [(0, false)]
    | _ => []
  keepX := fun b => match b with
    | 0 => [(0, false), (1, false), (5, false)]
    | _ => []
  keepXB := fun b => match b with
    | 0 => [(0, false)]
    | _ => []
theorem goodFs_l20Val : ∀ f ms F, Es_l20Val.fn f = some (ms, F) → Sound Go.Proofs.Tryd.prog f ms F := fun f ms F h => by
  unfold Es_l20Val at h
  dsimp only at h
  split at h
  · injection h with h; injection h with e1 e2; subst e1 e2; exact Sound.wk ss_l20Rd_oddR
  · injection h with h; injection h with e1 e2; subst e1 e2; exact Sound.wk ss_l20Rd_pick
  · cases h
theorem goodBs_l20Val : ∀ f ms F, Es_l20Val.bxf f = some (ms, F) → SoundB Go.Proofs.Tryd.prog f ms F := fun f ms F h => by cases h
theorem goods_l20Val : Good Go.Proofs.Tryd.prog Es_l20Val := ⟨rfl, goodFs_l20Val, goodBs_l20Val⟩
noncomputable def Os_l20Val_0 : Orc := fun _ _ => none
noncomputable def mss_l20Val : List PM := [.bx, .own]
noncomputable def lss_l20Val : List (Nat × Code) := loopsAll 0 (Go.Proofs.Tryd.f65.body.getD .skip)
noncomputable def cs_l20Val_0 : Code := (loopOf 0 (Go.Proofs.Tryd.f65.body.getD .skip)).getD .skip
theorem lseqs_l20Val : lss_l20Val = [(0, cs_l20Val_0)] := by kernel_rfl
theorem ms_l20Val_0 : ∀ p, p ∈ lss_l20Val → p.1 = 0 → p.2 = cs_l20Val_0 := by
  intro p hp
  rw [lseqs_l20Val] at hp
  simp only [List.mem_cons, List.not_mem_nil, or_false] at hp
  subst hp; simp
theorem ks_l20Val_0 : OrcOk Es_l20Val Os_l20Val_0 lss_l20Val 0 := orcOk_none
noncomputable def hs_l20Val_0 (y0 : Int) (y1 : List (Int)) (y2 : Int) (y3 : List (Int)) (y4 : Int) : List (Pl × LV) := [(.T 0, .t (.val false [.ptr 0 0 0])), (.T 1, .t (.val false [.int .i64 y0])), (.T 5, .t (.val false [.row 5 0 0])), (.R 5 0, .r 0 (some ⟨false, .non, true, 3, (.int .i64), y1⟩)), (.T 6, .t (.val false [.int .i64 y2])), (.B 0, .b 0 false [.sl .any 5 (.int .u8) y3, .int .i64 y4])]
noncomputable def g_Ss_l20Val_0 (y0 : Int) (y3 : List (Int)) : ((List (Int)) × (Int) × (Int)) → RT ((List (Int)) × (Int) × (Int)) (((List (Int)) × (Int)))
  | (y1, y2, y4) => .br (true) (.br (decide (y2 > (0 : Int))) (.br (g_pickA y3 y4 (12 : Int)) (.br (decide ((List.length y1 + List.length [g_pick y3 y4 (12 : Int)]) * nat_lit 8 ≤ nat_lit 140737488355328 ∧ List.length y1 + List.length [g_pick y3 y4 (12 : Int)] ≤ nat_lit 9223372036854775807)) (.br (true) (.go ((y1 ++ [g_pick y3 y4 (12 : Int)], IntKind.wrap IntKind.i64 (y2 - (1 : Int)), IntKind.wrap IntKind.i64 (y4 + (1 : Int))))) (.bad)) (.bad)) (.bad)) (.out ((y1, y4)))) (.bad)
noncomputable def g_Ls_l20Val_0 (y0 : Int) (y3 : List (Int)) (x : (List (Int)) × (Int) × (Int)) : Option (((List (Int)) × (Int))) := loopO (g_Ss_l20Val_0 y0 y3) x
noncomputable def xs_l20Val_0 (y0 : Int) (y3 : List (Int)) : (((List (Int)) × (Int))) → Ex × List (Pl × LV) := fun r => (.exit 0, [(.T 0, .t (.val false [.ptr 0 0 0])), (.T 1, .t (.val false [.int .i64 y0])), (.T 5, .t (.val false [.row 5 0 0])), (.R 5 0, .r 0 (some ⟨false, .non, true, 3, (.int .i64), r.1⟩)), (.B 0, .b 0 false [.sl .any 5 (.int .u8) y3, .int .i64 r.2])])
noncomputable def Os_l20Val_1 : Orc := fun b h => match b, h with
  | 0, [(.T 0, .t (.val false [.ptr 0 0 0])), (.T 1, .t (.val false [.int .i64 y0])), (.T 5, .t (.val false [.row 5 0 0])), (.R 5 0, .r 0 (some ⟨false, .non, true, 3, (.int .i64), y1⟩)), (.T 6, .t (.val false [.int .i64 y2])), (.B 0, .b 0 false [.sl .any 5 (.int .u8) y3, .int .i64 y4])] => some (okO (g_Ls_l20Val_0 y0 y3 (y1, y2, y4)), (.leaf (.exit 0) [(.T 0, .t (.val false [.ptr 0 0 0])), (.T 1, .t (.val false [.int .i64 y0])), (.T 5, .t (.val false [.row 5 0 0])), (.R 5 0, .r 0 (some ⟨false, .non, true, 3, (.int .i64), (valO (g_Ls_l20Val_0 y0 y3 (y1, y2, y4))).1⟩)), (.B 0, .b 0 false [.sl .any 5 (.int .u8) y3, .int .i64 (valO (g_Ls_l20Val_0 y0 y3 (y1, y2, y4))).2])]))
  | b, h => Os_l20Val_0 b h
theorem bs_l20Val_0 (y0 : Int) (y1 : List (Int)) (y2 : Int) (y3 : List (Int)) (y4 : Int) : Tr.bt Es_l20Val Os_l20Val_0 (exec Es_l20Val 0 cs_l20Val_0 (St.of (hs_l20Val_0 y0 y1 y2 y3 y4)) (leafRd Es_l20Val 0)) = (g_Ss_l20Val_0 y0 y3 (y1, y2, y4)).bt (fun ((y1, y2, y4) : (List (Int)) × (Int) × (Int)) => (hs_l20Val_0 y0 y1 y2 y3 y4)) (xs_l20Val_0 y0 y3) := by kernel_rfl
theorem ks_l20Val_1 : OrcOk Es_l20Val Os_l20Val_1 lss_l20Val 1 := orc_add ks_l20Val_0 (fun n p hp h ex h' ho => by
  obtain ⟨b, c⟩ := p
  obtain ⟨xt, h1, h2⟩ := ho
  have h1 : Os_l20Val_1 b h = some (true, xt) := h1
  unfold Os_l20Val_1 at h1
  split at h1
  · injection h1 with h1
    injection h1 with e1 e2
    subst e2
    have hc : c = cs_l20Val_0 := ms_l20Val_0 _ hp rfl
    subst hc
    right
    rename_i y0 y1 y2 y3 y4
    have key := LT_step ks_l20Val_0 hp (fun q hq => loopsAll_in _ _ _ _ hp hq) (fun ((y1, y2, y4) : (List (Int)) × (Int) × (Int)) => (hs_l20Val_0 y0 y1 y2 y3 y4)) (xs_l20Val_0 y0 y3) (g_Ss_l20Val_0 y0 y3) (fun x => by first | exact bs_l20Val_0 y0 x.1 x.2.1 y3 x.2.2) n (x := (y1, y2, y4)) (okO_some e1)
    have hx : ∀ r, XT.sel (.leaf (.exit 0) [(.T 0, .t (.val false [.ptr 0 0 0])), (.T 1, .t (.val false [.int .i64 y0])), (.T 5, .t (.val false [.row 5 0 0])), (.R 5 0, .r 0 (some ⟨false, .non, true, 3, (.int .i64), r.1⟩)), (.B 0, .b 0 false [.sl .any 5 (.int .u8) y3, .int .i64 r.2])]) = xs_l20Val_0 y0 y3 r := fun r => by first | rfl | (rcases r with r | r <;> rfl) | (rcases r with r | r | r <;> rfl) | (rcases r with r | r | r | r <;> rfl)
    have h3 := (hx (valO (g_Ls_l20Val_0 y0 y3 (y1, y2, y4)))).symm.trans h2
    have e3 := congrArg Prod.fst h3
    have e4 := congrArg Prod.snd h3
    simp only at e3 e4
    rw [← e3, ← e4]
    exact key
  · exact .inl ⟨xt, h1, h2⟩)
noncomputable def g_As_l20Val (r0 : List Int) (r1 : Int) (a2 : Int) : Bool := g_pickA r0 r1 (4 : Int) && (g_pickA r0 (IntKind.wrap IntKind.i64 (r1 + (1 : Int))) (3 : Int) && (okO (g_Ls_l20Val_0 a2 r0 ([g_pick r0 r1 (4 : Int)], g_pick r0 (IntKind.wrap IntKind.i64 (r1 + (1 : Int))) (3 : Int), IntKind.wrap IntKind.i64 (IntKind.wrap IntKind.i64 (r1 + (1 : Int)) + (1 : Int)))) && (g_As_l20Rd_odd r0 (valO (g_Ls_l20Val_0 a2 r0 ([g_pick r0 r1 (4 : Int)], g_pick r0 (IntKind.wrap IntKind.i64 (r1 + (1 : Int))) (3 : Int), IntKind.wrap IntKind.i64 (IntKind.wrap IntKind.i64 (r1 + (1 : Int)) + (1 : Int))))).2 a2 && (!g_Vs_l20Rd_odd_0 r0 (valO (g_Ls_l20Val_0 a2 r0 ([g_pick r0 r1 (4 : Int)], g_pick r0 (IntKind.wrap IntKind.i64 (r1 + (1 : Int))) (3 : Int), IntKind.wrap IntKind.i64 (IntKind.wrap IntKind.i64 (r1 + (1 : Int)) + (1 : Int))))).2 a2 || g_pickA r0 (g_Vs_l20Rd_odd_2 r0 (valO (g_Ls_l20Val_0 a2 r0 ([g_pick r0 r1 (4 : Int)], g_pick r0 (IntKind.wrap IntKind.i64 (r1 + (1 : Int))) (3 : Int), IntKind.wrap IntKind.i64 (IntKind.wrap IntKind.i64 (r1 + (1 : Int)) + (1 : Int))))).2 a2) (4 : Int) && (decide ((0 : Int) ≤ g_pick r0 (g_Vs_l20Rd_odd_2 r0 (valO (g_Ls_l20Val_0 a2 r0 ([g_pick r0 r1 (4 : Int)], g_pick r0 (IntKind.wrap IntKind.i64 (r1 + (1 : Int))) (3 : Int), IntKind.wrap IntKind.i64 (IntKind.wrap IntKind.i64 (r1 + (1 : Int)) + (1 : Int))))).2 a2) (4 : Int) ∧ g_pick r0 (g_Vs_l20Rd_odd_2 r0 (valO (g_Ls_l20Val_0 a2 r0 ([g_pick r0 r1 (4 : Int)], g_pick r0 (IntKind.wrap IntKind.i64 (r1 + (1 : Int))) (3 : Int), IntKind.wrap IntKind.i64 (IntKind.wrap IntKind.i64 (r1 + (1 : Int)) + (1 : Int))))).2 a2) (4 : Int) < (4 : Int)) && decide (Int.toNat (g_pick r0 (g_Vs_l20Rd_odd_2 r0 (valO (g_Ls_l20Val_0 a2 r0 ([g_pick r0 r1 (4 : Int)], g_pick r0 (IntKind.wrap IntKind.i64 (r1 + (1 : Int))) (3 : Int), IntKind.wrap IntKind.i64 (IntKind.wrap IntKind.i64 (r1 + (1 : Int)) + (1 : Int))))).2 a2) (4 : Int)) < nat_lit 4))))))
noncomputable def g_Vs_l20Val_0 (r0 : List Int) (r1 : Int) (a2 : Int) : List (Int) := bif g_Vs_l20Rd_odd_0 r0 (valO (g_Ls_l20Val_0 a2 r0 ([g_pick r0 r1 (4 : Int)], g_pick r0 (IntKind.wrap IntKind.i64 (r1 + (1 : Int))) (3 : Int), IntKind.wrap IntKind.i64 (IntKind.wrap IntKind.i64 (r1 + (1 : Int)) + (1 : Int))))).2 a2 then at_ (Ty.sl (nat_lit 3) (Ty.int IntKind.i64)) [[], [(-1 : Int)], [(10000 : Int)], [(1 : Int), (2 : Int), (3 : Int), (4 : Int)]] (Int.toNat (g_pick r0 (g_Vs_l20Rd_odd_2 r0 (valO (g_Ls_l20Val_0 a2 r0 ([g_pick r0 r1 (4 : Int)], g_pick r0 (IntKind.wrap IntKind.i64 (r1 + (1 : Int))) (3 : Int), IntKind.wrap IntKind.i64 (IntKind.wrap IntKind.i64 (r1 + (1 : Int)) + (1 : Int))))).2 a2) (4 : Int))) else (valO (g_Ls_l20Val_0 a2 r0 ([g_pick r0 r1 (4 : Int)], g_pick r0 (IntKind.wrap IntKind.i64 (r1 + (1 : Int))) (3 : Int), IntKind.wrap IntKind.i64 (IntKind.wrap IntKind.i64 (r1 + (1 : Int)) + (1 : Int))))).1
noncomputable def g_Vs_l20Val_1 (r0 : List Int) (r1 : Int) (a2 : Int) : List (Int) := bif g_Vs_l20Rd_odd_0 r0 (valO (g_Ls_l20Val_0 a2 r0 ([g_pick r0 r1 (4 : Int)], g_pick r0 (IntKind.wrap IntKind.i64 (r1 + (1 : Int))) (3 : Int), IntKind.wrap IntKind.i64 (IntKind.wrap IntKind.i64 (r1 + (1 : Int)) + (1 : Int))))).2 a2 then r0 else r0
noncomputable def g_Vs_l20Val_2 (r0 : List Int) (r1 : Int) (a2 : Int) : Int := bif g_Vs_l20Rd_odd_0 r0 (valO (g_Ls_l20Val_0 a2 r0 ([g_pick r0 r1 (4 : Int)], g_pick r0 (IntKind.wrap IntKind.i64 (r1 + (1 : Int))) (3 : Int), IntKind.wrap IntKind.i64 (IntKind.wrap IntKind.i64 (r1 + (1 : Int)) + (1 : Int))))).2 a2 then IntKind.wrap IntKind.i64 (g_Vs_l20Rd_odd_2 r0 (valO (g_Ls_l20Val_0 a2 r0 ([g_pick r0 r1 (4 : Int)], g_pick r0 (IntKind.wrap IntKind.i64 (r1 + (1 : Int))) (3 : Int), IntKind.wrap IntKind.i64 (IntKind.wrap IntKind.i64 (r1 + (1 : Int)) + (1 : Int))))).2 a2 + (1 : Int)) else g_Vs_l20Rd_odd_2 r0 (valO (g_Ls_l20Val_0 a2 r0 ([g_pick r0 r1 (4 : Int)], g_pick r0 (IntKind.wrap IntKind.i64 (r1 + (1 : Int))) (3 : Int), IntKind.wrap IntKind.i64 (IntKind.wrap IntKind.i64 (r1 + (1 : Int)) + (1 : Int))))).2 a2
noncomputable def Fs_l20Val : FSem := fun ys => match ys with
  | [.val true [.sl .any 5 (.int .u8) r0, .int .i64 r1], .val false [.int .i64 a2]] => some ((g_As_l20Val r0 r1 a2), .val false [.sl .any 3 (.int .i64) (g_Vs_l20Val_0 r0 r1 a2)], [[.sl .any 5 (.int .u8) (g_Vs_l20Val_1 r0 r1 a2), .int .i64 (g_Vs_l20Val_2 r0 r1 a2)]])
  | _ => none
theorem vs_l20Val (r0 : List Int) (r1 : Int) (a2 : Int) : collapseH .fr Es_l20Val Os_l20Val_1 (execFn Es_l20Val Go.Proofs.Tryd.f65 mss_l20Val [.val true [.sl .any 5 (.int .u8) r0, .int .i64 r1], .val false [.int .i64 a2]]) = some ((g_As_l20Val r0 r1 a2), .val false [.sl .any 3 (.int .i64) (g_Vs_l20Val_0 r0 r1 a2)], [[.sl .any 5 (.int .u8) (g_Vs_l20Val_1 r0 r1 a2), .int .i64 (g_Vs_l20Val_2 r0 r1 a2)]]) := by kernel_rfl
theorem ss_l20Val : Sound Go.Proofs.Tryd.prog 65 mss_l20Val Fs_l20Val := by
  refine fn_gen goods_l20Val (by kernel_rfl) .fr (fn := Go.Proofs.Tryd.f65) (c := (Go.Proofs.Tryd.f65.body.getD .skip)) (o := Os_l20Val_1) (k := 1) (by kernel_rfl) (by kernel_rfl) (by kernel_rfl) (by kernel_rfl) (by decide) ks_l20Val_1 ?_
  intro ys r outs h
  unfold Fs_l20Val at h
  split at h
  · exact (vs_l20Val _ _ _).trans h
  · cases h
end Go.Proofs.YtjoggjjjlafdmaaDoor.E
end
section
namespace Go.Proofs.YtjoggjjjlafdmaaDoor.E
open Go
set_option maxRecDepth 100000
set_option linter.all false
noncomputable def mss_l20ValR : List PM := mss_l20Val
theorem sames_l20Val (r0 : List Int) (r1 : Int) (a2 : Int) : g_Vs_l20Val_1 r0 r1 a2 = r0 := by
  unfold g_Vs_l20Val_1
  simp only [Bool.cond_self]
noncomputable def Fs_l20ValR : FSem := fun ys => match ys with
  | [.val true [.sl .any 5 (.int .u8) r0, .int .i64 r1], .val false [.int .i64 a2]] => some ((g_As_l20Val r0 r1 a2), .val false [.sl .any 3 (.int .i64) (g_Vs_l20Val_0 r0 r1 a2)], [[.sl .any 5 (.int .u8) r0, .int .i64 (g_Vs_l20Val_2 r0 r1 a2)]])
  | _ => none
theorem ss_l20ValR : Sound Go.Proofs.Tryd.prog 65 mss_l20ValR Fs_l20ValR := by
  refine ⟨ss_l20Val.fn, fun w S ψ ys vs r outs hF hh hg => ss_l20Val.calls w S ψ ys vs r outs (Eq.trans ?_ hF) hh hg⟩
  unfold Fs_l20ValR at hF ⊢
  split at hF
  · rename_i  r0 r1 a2
    show (some ((g_As_l20Val r0 r1 a2), .val false [.sl .any 3 (.int .i64) (g_Vs_l20Val_0 r0 r1 a2)], [[.sl .any 5 (.int .u8) (g_Vs_l20Val_1 r0 r1 a2), .int .i64 (g_Vs_l20Val_2 r0 r1 a2)]]) : Option (Bool × RV × List (List Cell))) = _
    rw [sames_l20Val]
  · cases hF
end Go.Proofs.YtjoggjjjlafdmaaDoor.E
end
section
namespace Go.Proofs.YtjoggjjjlafdmaaDoor.E
open Go
set_option maxRecDepth 100000
set_option maxHeartbeats 0
set_option linter.all false
noncomputable def Es_l3Digit : Env where
  tt := mkTI Go.Proofs.Tryd.prog
  fn := fun _ => none
  bxf := fun _ => none
  mv := []
  keep := fun _ => []
  keepB := fun _ => []
  keepX := fun _ => []
  keepXB := fun _ => []
theorem goodFs_l3Digit : ∀ f ms F, Es_l3Digit.fn f = some (ms, F) → Sound Go.Proofs.Tryd.prog f ms F := fun f ms F h => by cases h
theorem goodBs_l3Digit : ∀ f ms F, Es_l3Digit.bxf f = some (ms, F) → SoundB Go.Proofs.Tryd.prog f ms F := fun f ms F h => by cases h
theorem goods_l3Digit : Good Go.Proofs.Tryd.prog Es_l3Digit := ⟨rfl, goodFs_l3Digit, goodBs_l3Digit⟩
noncomputable def Os_l3Digit_0 : Orc := fun _ _ => none
noncomputable def mss_l3Digit : List PM := [.own]
noncomputable def lss_l3Digit : List (Nat × Code) := loopsAll 0 (Go.Proofs.Tryd.f67.body.getD .skip)

theorem ks_l3Digit_0 : OrcOk Es_l3Digit Os_l3Digit_0 lss_l3Digit 0 := orcOk_none
noncomputable def g_Vs_l3Digit_0 (a0 : Int) : ByteArray := { data := List.toArray (List.map (fun n => UInt8.ofNat (Int.toNat n)) [IntKind.wrap IntKind.u8 (IntKind.wrap IntKind.i64 ((48 : Int) + a0))]) }
noncomputable def Fs_l3Digit : FSem := fun ys => match ys with
  | [.val false [.int .i64 a0]] => some (true, .val false [.str (g_Vs_l3Digit_0 a0)], [])
  | _ => none
theorem vs_l3Digit (a0 : Int) : collapseH .std Es_l3Digit Os_l3Digit_0 (execFn Es_l3Digit Go.Proofs.Tryd.f67 mss_l3Digit [.val false [.int .i64 a0]]) = some (true, .val false [.str (g_Vs_l3Digit_0 a0)], []) := by kernel_rfl
theorem ss_l3Digit : Sound Go.Proofs.Tryd.prog 67 mss_l3Digit Fs_l3Digit := by
  refine fn_gen goods_l3Digit (by kernel_rfl) .std (fn := Go.Proofs.Tryd.f67) (c := (Go.Proofs.Tryd.f67.body.getD .skip)) (o := Os_l3Digit_0) (k := 0) (by kernel_rfl) (by kernel_rfl) (by kernel_rfl) (by kernel_rfl) (by decide) ks_l3Digit_0 ?_
  intro ys r outs h
  unfold Fs_l3Digit at h
  split at h
  · exact (vs_l3Digit _).trans h
  · cases h
end Go.Proofs.YtjoggjjjlafdmaaDoor.E
end
section
namespace Go.Proofs.YtjoggjjjlafdmaaDoor.E
open Go
set_option maxRecDepth 100000
set_option maxHeartbeats 0
set_option linter.all false
noncomputable def Es_l3Plain : Env where
  tt := mkTI Go.Proofs.Tryd.prog
  fn := fun f => match f with
    | 67 => some (mss_l3Digit, FSem.wk mss_l3Digit Fs_l3Digit)
    | _ => none
  bxf := fun _ => none
  mv := []
  keep := fun b => match b with
    | 0 => [(0, false), (3, false)]
    | _ => []
  keepB := fun b => match b with
    | 0 => []
    | _ => []
  keepX := fun b => match b with
    | 0 => [(0, false), (3, false)]
    | _ => []
  keepXB := fun b => match b with
    | 0 => []
    | _ => []
theorem goodFs_l3Plain : ∀ f ms F, Es_l3Plain.fn f = some (ms, F) → Sound Go.Proofs.Tryd.prog f ms F := fun f ms F h => by
  unfold Es_l3Plain at h
  dsimp only at h
  split at h
  · injection h with h; injection h with e1 e2; subst e1 e2; exact Sound.wk ss_l3Digit
  · cases h
theorem goodBs_l3Plain : ∀ f ms F, Es_l3Plain.bxf f = some (ms, F) → SoundB Go.Proofs.Tryd.prog f ms F := fun f ms F h => by cases h
theorem goods_l3Plain : Good Go.Proofs.Tryd.prog Es_l3Plain := ⟨rfl, goodFs_l3Plain, goodBs_l3Plain⟩
noncomputable def Os_l3Plain_0 : Orc := fun _ _ => none
noncomputable def mss_l3Plain : List PM := [.own]
noncomputable def lss_l3Plain : List (Nat × Code) := loopsAll 0 (Go.Proofs.Tryd.f35.body.getD .skip)
noncomputable def cs_l3Plain_0 : Code := (loopOf 0 (Go.Proofs.Tryd.f35.body.getD .skip)).getD .skip
theorem lseqs_l3Plain : lss_l3Plain = [(0, cs_l3Plain_0)] := by kernel_rfl
theorem ms_l3Plain_0 : ∀ p, p ∈ lss_l3Plain → p.1 = 0 → p.2 = cs_l3Plain_0 := by
  intro p hp
  rw [lseqs_l3Plain] at hp
  simp only [List.mem_cons, List.not_mem_nil, or_false] at hp
  subst hp; simp
theorem ks_l3Plain_0 : OrcOk Es_l3Plain Os_l3Plain_0 lss_l3Plain 0 := orcOk_none
noncomputable def hs_l3Plain_0 (y0 : Int) (y1 : ByteArray) : List (Pl × LV) := [(.T 0, .t (.val false [.int .i64 y0])), (.T 3, .t (.val false [.str y1]))]
noncomputable def g_Ss_l3Plain_0 : ((Int) × (ByteArray)) → RT ((Int) × (ByteArray)) (((Int) × (ByteArray)))
  | (y0, y1) => .br (true) (.br (decide (y0 > (9 : Int))) (.br (true) (.br (true) (.br (decide (ByteArray.size (g_Vs_l3Digit_0 (Int.tmod y0 (10 : Int))) + ByteArray.size y1 ≤ nat_lit 9223372036854775807)) (.br (true) (.go ((IntKind.wrap IntKind.i64 (Int.tdiv y0 (10 : Int)), g_Vs_l3Digit_0 (Int.tmod y0 (10 : Int)) ++ y1))) (.bad)) (.bad)) (.bad)) (.bad)) (.out ((y0, y1)))) (.bad)
noncomputable def g_Ls_l3Plain_0 (x : (Int) × (ByteArray)) : Option (((Int) × (ByteArray))) := loopO (g_Ss_l3Plain_0) x
noncomputable def xs_l3Plain_0 : (((Int) × (ByteArray))) → Ex × List (Pl × LV) := fun r => (.exit 0, [(.T 0, .t (.val false [.int .i64 r.1])), (.T 3, .t (.val false [.str r.2]))])
noncomputable def Os_l3Plain_1 : Orc := fun b h => match b, h with
  | 0, [(.T 0, .t (.val false [.int .i64 y0])), (.T 3, .t (.val false [.str y1]))] => some (okO (g_Ls_l3Plain_0 (y0, y1)), (.leaf (.exit 0) [(.T 0, .t (.val false [.int .i64 (valO (g_Ls_l3Plain_0 (y0, y1))).1])), (.T 3, .t (.val false [.str (valO (g_Ls_l3Plain_0 (y0, y1))).2]))]))
  | b, h => Os_l3Plain_0 b h
theorem bs_l3Plain_0 (y0 : Int) (y1 : ByteArray) : Tr.bt Es_l3Plain Os_l3Plain_0 (exec Es_l3Plain 0 cs_l3Plain_0 (St.of (hs_l3Plain_0 y0 y1)) (leafRd Es_l3Plain 0)) = (g_Ss_l3Plain_0 (y0, y1)).bt (fun ((y0, y1) : (Int) × (ByteArray)) => (hs_l3Plain_0 y0 y1)) (xs_l3Plain_0) := by kernel_rfl
theorem ks_l3Plain_1 : OrcOk Es_l3Plain Os_l3Plain_1 lss_l3Plain 1 := orc_add ks_l3Plain_0 (fun n p hp h ex h' ho => by
  obtain ⟨b, c⟩ := p
  obtain ⟨xt, h1, h2⟩ := ho
  have h1 : Os_l3Plain_1 b h = some (true, xt) := h1
  unfold Os_l3Plain_1 at h1
  split at h1
  · injection h1 with h1
    injection h1 with e1 e2
    subst e2
    have hc : c = cs_l3Plain_0 := ms_l3Plain_0 _ hp rfl
    subst hc
    right
    rename_i y0 y1
    have key := LT_step ks_l3Plain_0 hp (fun q hq => loopsAll_in _ _ _ _ hp hq) (fun ((y0, y1) : (Int) × (ByteArray)) => (hs_l3Plain_0 y0 y1)) (xs_l3Plain_0) (g_Ss_l3Plain_0) (fun x => by first | exact bs_l3Plain_0 x.1 x.2) n (x := (y0, y1)) (okO_some e1)
    have hx : ∀ r, XT.sel (.leaf (.exit 0) [(.T 0, .t (.val false [.int .i64 r.1])), (.T 3, .t (.val false [.str r.2]))]) = xs_l3Plain_0 r := fun r => by first | rfl | (rcases r with r | r <;> rfl) | (rcases r with r | r | r <;> rfl) | (rcases r with r | r | r | r <;> rfl)
    have h3 := (hx (valO (g_Ls_l3Plain_0 (y0, y1)))).symm.trans h2
    have e3 := congrArg Prod.fst h3
    have e4 := congrArg Prod.snd h3
    simp only at e3 e4
    rw [← e3, ← e4]
    exact key
  · exact .inl ⟨xt, h1, h2⟩)
noncomputable def g_As_l3Plain (a0 : Int) : Bool := okO (g_Ls_l3Plain_0 (a0, lit [])) && decide (ByteArray.size (g_Vs_l3Digit_0 (valO (g_Ls_l3Plain_0 (a0, lit []))).1) + ByteArray.size (valO (g_Ls_l3Plain_0 (a0, lit []))).2 ≤ nat_lit 9223372036854775807)
noncomputable def g_Vs_l3Plain_0 (a0 : Int) : ByteArray := g_Vs_l3Digit_0 (valO (g_Ls_l3Plain_0 (a0, lit []))).1 ++ (valO (g_Ls_l3Plain_0 (a0, lit []))).2
noncomputable def Fs_l3Plain : FSem := fun ys => match ys with
  | [.val false [.int .i64 a0]] => some ((g_As_l3Plain a0), .val false [.str (g_Vs_l3Plain_0 a0)], [])
  | _ => none
theorem vs_l3Plain (a0 : Int) : collapseH .std Es_l3Plain Os_l3Plain_1 (execFn Es_l3Plain Go.Proofs.Tryd.f35 mss_l3Plain [.val false [.int .i64 a0]]) = some ((g_As_l3Plain a0), .val false [.str (g_Vs_l3Plain_0 a0)], []) := by kernel_rfl
theorem ss_l3Plain : Sound Go.Proofs.Tryd.prog 35 mss_l3Plain Fs_l3Plain := by
  refine fn_gen goods_l3Plain (by kernel_rfl) .std (fn := Go.Proofs.Tryd.f35) (c := (Go.Proofs.Tryd.f35.body.getD .skip)) (o := Os_l3Plain_1) (k := 1) (by kernel_rfl) (by kernel_rfl) (by kernel_rfl) (by kernel_rfl) (by decide) ks_l3Plain_1 ?_
  intro ys r outs h
  unfold Fs_l3Plain at h
  split at h
  · exact (vs_l3Plain _).trans h
  · cases h
end Go.Proofs.YtjoggjjjlafdmaaDoor.E
end
