/- What the functions that are reached do, by the engine: for the proof (laws.FnGloFam): part 1. No conditions. -/
import Derived.Test.YtliagpcoflhphaaDoorEc
import Derived.Test.YtliagpcoflhphaaDoorProg
import Derived.Test.YtliagpcoflhphaaDoorShelf
import Derived.Lib.AppendZerosOnto
import Derived.Lib.Overlaps
import Derived.Deep.RegionLaw
import Derived.WalkKit
import Derived.Shelf.RegionOpenPlain
import Derived.Deep.LoopGhost
import Derived.Lib.Walk
import Derived.Laws.NewBlocks
import Derived.Laws.Externs
set_option linter.all false
namespace Go.Proofs.YtliagpcoflhphaaDoor.E
open Go
set_option maxRecDepth 100000
set_option maxHeartbeats 0
noncomputable def Ei_in:Env where
 tt := mkTI Tryd.prog
 fn := fun _ => none
 bxf := fun _ => none
 mv := []
 keep := fun _ => []
 keepB := fun _ => []
 keepX := fun _ => []
 keepXB := fun _ => []
theorem goodFi_in:∀ f ms F,Ei_in.fn f = some (ms,F) → Sound Tryd.prog f ms F := fun f ms F h => by cases h
theorem goodBi_in:∀ f ms F,Ei_in.bxf f = some (ms,F) → SoundB Tryd.prog f ms F := fun f ms F h => by cases h
theorem goodi_in:Good Tryd.prog Ei_in := ⟨rfl,goodFi_in,goodBi_in⟩
noncomputable def Oi_in_0:Orc := fun _ _ => none
noncomputable def msi_in:List PM := [.own,.own,.own]
noncomputable def lsi_in:List (Nat×Code) := loopsAll 0 (Tryd.f56.body.getD .skip)
theorem ki_in_0:OrcOk Ei_in Oi_in_0 lsi_in 0 := orcOk_none
noncomputable def g_Ai_in (a0:Int) (a1:Int) (a2:Int):Bool := !decide (a0 ≥ a1) || true
noncomputable def g_Vi_in_0 (a0:Int) (a1:Int) (a2:Int):Bool := bif decide (a0 ≥ a1) then decide (a0 ≤ a2) else false
noncomputable def Fi_in:FSem := fun ys => match ys with
 | [.val false [.int .i64 a0],.val false [.int .i64 a1],.val false [.int .i64 a2]] => some ((g_Ai_in a0 a1 a2),.val false [.bool (g_Vi_in_0 a0 a1 a2)],[])
 | _ => none
theorem vi_in (a0:Int) (a1:Int) (a2:Int):collapseH .std Ei_in Oi_in_0 (execFn Ei_in Tryd.f56 msi_in [.val false [.int .i64 a0],.val false [.int .i64 a1],.val false [.int .i64 a2]]) = some ((g_Ai_in a0 a1 a2),.val false [.bool (g_Vi_in_0 a0 a1 a2)],[]) := by kernel_rfl
theorem si_in:Sound Tryd.prog 56 msi_in Fi_in := by
 refine fn_gen goodi_in (by kernel_rfl) .std (fn := Tryd.f56) (c := (Tryd.f56.body.getD .skip)) (o := Oi_in_0) (k := 0) (by kernel_rfl) (by kernel_rfl) (by kernel_rfl) (by kernel_rfl) (by decide) ki_in_0 ?_
 intro ys r outs h
 unfold Fi_in at h
 split at h
 ·exact (vi_in _ _ _).trans h
 ·cases h
def msstrings_Trim:List PM := [.own,.own]
def g_trim (s c:ByteArray):ByteArray := ⟨(Lib.trimS s.data.toList c.data.toList).toArray⟩
def g_ascii (c:ByteArray):Bool := c.data.toList.all fun b => decide (b.toNat < 128)
def Fstrings_Trim:FSem := fun ys => match ys with
 | [.val false [.str s],.val false [.str c]] => some (decide (s.size ≤ 9223372036854775807)&&(decide (c.size < 4294967281)&&g_ascii c),.val false [.str (g_trim s c)],[])
 | _ => none
theorem sstrings_Trim:Sound Tryd.prog 102 msstrings_Trim Fstrings_Trim := by
 refine sound_plain (by simp [msstrings_Trim]) ⟨_,Tryd.func102,by kernel_rfl,by kernel_rfl⟩ (fun w ys r outs h => ?_)
 unfold Fstrings_Trim at h
 split at h
 ·rename_i s c
  simp only [Option.some.injEq,Prod.mk.injEq,Bool.and_eq_true,decide_eq_true_eq] at h
  obtain ⟨⟨h1,h2,h3⟩,rfl,rfl⟩ := h
  refine ⟨rfl,[.string s,.string c],.string (g_trim s c),rfl,rfl,?_⟩
  exact Tryd.strings_Trim_laid s c w h1 h2 (fun j b hb => by
   have := List.all_eq_true.1 h3 b (List.mem_of_getElem? hb)
   simpa using this)
 ·cases h
noncomputable def Ei_keyOk:Env where
 tt := mkTI Tryd.prog
 fn := fun f => match f with
  | 56 => some (msi_in,FSem.wk msi_in Fi_in)
  | 102 => some (msstrings_Trim,FSem.wk msstrings_Trim Fstrings_Trim)
  | _ => none
 bxf := fun _ => none
 mv := []
 keep := fun _ => []
 keepB := fun _ => []
 keepX := fun _ => []
 keepXB := fun _ => []
theorem goodFi_keyOk:∀ f ms F,Ei_keyOk.fn f = some (ms,F) → Sound Tryd.prog f ms F := fun f ms F h => by
 unfold Ei_keyOk at h
 dsimp only at h
 split at h
 ·injection h with h; injection h with e1 e2; subst e1 e2; exact Sound.wk si_in
 ·injection h with h; injection h with e1 e2; subst e1 e2; exact Sound.wk sstrings_Trim
 ·cases h
theorem goodBi_keyOk:∀ f ms F,Ei_keyOk.bxf f = some (ms,F) → SoundB Tryd.prog f ms F := fun f ms F h => by cases h
theorem goodi_keyOk:Good Tryd.prog Ei_keyOk := ⟨rfl,goodFi_keyOk,goodBi_keyOk⟩
noncomputable def Oi_keyOk_0:Orc := fun _ _ => none
noncomputable def msi_keyOk:List PM := [.own]
noncomputable def lsi_keyOk:List (Nat×Code) := loopsAll 0 (Tryd.f73.body.getD .skip)
theorem ki_keyOk_0:OrcOk Ei_keyOk Oi_keyOk_0 lsi_keyOk 0 := orcOk_none
noncomputable def g_Ai_keyOk (a0:ByteArray):Bool := g_Ai_in (↑(ByteArray.size a0):Int) (2:Int) (3:Int)&&(!g_Vi_in_0 (↑(ByteArray.size a0):Int) (2:Int) (3:Int) || decide ((0:Int) ≤ (0:Int) ∧ (0:Int) < (↑(ByteArray.size a0):Int))&&(g_Ai_in (IntKind.wrap IntKind.i64 (byteAt a0 (nat_lit 0))) (97:Int) (122:Int)&&(!g_Vi_in_0 (IntKind.wrap IntKind.i64 (byteAt a0 (nat_lit 0))) (97:Int) (122:Int) || decide ((0:Int) ≤ (1:Int) ∧ (1:Int) ≤ (↑(ByteArray.size a0):Int))&&(decide (ByteArray.size (ByteArray.extract a0 (nat_lit 1) (ByteArray.size a0)) ≤ nat_lit 9223372036854775807)&&g_ascii (lit [(48:Nat),(49:Nat),(50:Nat),(51:Nat),(52:Nat),(53:Nat),(54:Nat),(55:Nat),(56:Nat),(57:Nat)])&&true))))
noncomputable def g_Vi_keyOk_0 (a0:ByteArray):Bool := bif g_Vi_in_0 (↑(ByteArray.size a0):Int) (2:Int) (3:Int) then bif g_Vi_in_0 (IntKind.wrap IntKind.i64 (byteAt a0 (nat_lit 0))) (97:Int) (122:Int) then ByteArray.toList (g_trim (ByteArray.extract a0 (nat_lit 1) (ByteArray.size a0)) (lit [(48:Nat),(49:Nat),(50:Nat),(51:Nat),(52:Nat),(53:Nat),(54:Nat),(55:Nat),(56:Nat),(57:Nat)])) == [] else false else false
noncomputable def Fi_keyOk:FSem := fun ys => match ys with
 | [.val false [.str a0]] => some ((g_Ai_keyOk a0),.val false [.bool (g_Vi_keyOk_0 a0)],[])
 | _ => none
theorem vi_keyOk (a0:ByteArray):collapseH .std Ei_keyOk Oi_keyOk_0 (execFn Ei_keyOk Tryd.f73 msi_keyOk [.val false [.str a0]]) = some ((g_Ai_keyOk a0),.val false [.bool (g_Vi_keyOk_0 a0)],[]) := by kernel_rfl
theorem si_keyOk:Sound Tryd.prog 73 msi_keyOk Fi_keyOk := by
 refine fn_gen goodi_keyOk (by kernel_rfl) .std (fn := Tryd.f73) (c := (Tryd.f73.body.getD .skip)) (o := Oi_keyOk_0) (k := 0) (by kernel_rfl) (by kernel_rfl) (by kernel_rfl) (by kernel_rfl) (by decide) ki_keyOk_0 ?_
 intro ys r outs h
 unfold Fi_keyOk at h
 split at h
 ·exact (vi_keyOk _).trans h
 ·cases h
noncomputable def Ei_valOk_1:Env where
 tt := mkTI Tryd.prog
 fn := fun f => match f with
  | 56 => some (msi_in,FSem.wk msi_in Fi_in)
  | _ => none
 bxf := fun _ => none
 mv := []
 keep := fun _ => []
 keepB := fun _ => []
 keepX := fun _ => []
 keepXB := fun _ => []
theorem goodFi_valOk_1:∀ f ms F,Ei_valOk_1.fn f = some (ms,F) → Sound Tryd.prog f ms F := fun f ms F h => by
 unfold Ei_valOk_1 at h
 dsimp only at h
 split at h
 ·injection h with h; injection h with e1 e2; subst e1 e2; exact Sound.wk si_in
 ·cases h
theorem goodBi_valOk_1:∀ f ms F,Ei_valOk_1.bxf f = some (ms,F) → SoundB Tryd.prog f ms F := fun f ms F h => by cases h
theorem goodi_valOk_1:Good Tryd.prog Ei_valOk_1 := ⟨rfl,goodFi_valOk_1,goodBi_valOk_1⟩
noncomputable def Oi_valOk_1_0:Orc := fun _ _ => none
noncomputable def msi_valOk_1:List PM := [.own]
noncomputable def lsi_valOk_1:List (Nat×Code) := loopsAll 0 (Tryd.f104.body.getD .skip)
theorem ki_valOk_1_0:OrcOk Ei_valOk_1 Oi_valOk_1_0 lsi_valOk_1 0 := orcOk_none
noncomputable def g_Ai_valOk_1 (a0:Int):Bool := g_Ai_in a0 (0:Int) (9999:Int)
noncomputable def g_Vi_valOk_1_0 (a0:Int):Bool := !g_Vi_in_0 a0 (0:Int) (9999:Int)
noncomputable def Fi_valOk_1:FSem := fun ys => match ys with
 | [.val false [.int .i64 a0]] => some ((g_Ai_valOk_1 a0),.val false [.bool (g_Vi_valOk_1_0 a0)],[])
 | _ => none
theorem vi_valOk_1 (a0:Int):collapseH .std Ei_valOk_1 Oi_valOk_1_0 (execFn Ei_valOk_1 Tryd.f104 msi_valOk_1 [.val false [.int .i64 a0]]) = some ((g_Ai_valOk_1 a0),.val false [.bool (g_Vi_valOk_1_0 a0)],[]) := by kernel_rfl
theorem si_valOk_1:Sound Tryd.prog 104 msi_valOk_1 Fi_valOk_1 := by
 refine fn_gen goodi_valOk_1 (by kernel_rfl) .std (fn := Tryd.f104) (c := (Tryd.f104.body.getD .skip)) (o := Oi_valOk_1_0) (k := 0) (by kernel_rfl) (by kernel_rfl) (by kernel_rfl) (by kernel_rfl) (by decide) ki_valOk_1_0 ?_
 intro ys r outs h
 unfold Fi_valOk_1 at h
 split at h
 ·exact (vi_valOk_1 _).trans h
 ·cases h
noncomputable def Eslices_IndexFunc_int_int__i_valOk_1:Env where
 tt := mkTI Tryd.prog
 fn := fun f => match f with
  | 104 => some (msi_valOk_1,FSem.wk msi_valOk_1 Fi_valOk_1)
  | _ => none
 bxf := fun _ => none
 mv := []
 keep := fun b => match b with
  | 0 => [(0,false),(1,false),(7,false),(8,false)]
  | _ => []
 keepB := fun b => match b with
  | 0 => []
  | _ => []
 keepX := fun b => match b with
  | 0 => [(4,false)]
  | _ => []
 keepXB := fun b => match b with
  | 0 => []
  | _ => []
theorem goodFslices_IndexFunc_int_int__i_valOk_1:∀ f ms F,Eslices_IndexFunc_int_int__i_valOk_1.fn f = some (ms,F) → Sound Tryd.prog f ms F := fun f ms F h => by
 unfold Eslices_IndexFunc_int_int__i_valOk_1 at h
 dsimp only at h
 split at h
 ·injection h with h; injection h with e1 e2; subst e1 e2; exact Sound.wk si_valOk_1
 ·cases h
theorem goodBslices_IndexFunc_int_int__i_valOk_1:∀ f ms F,Eslices_IndexFunc_int_int__i_valOk_1.bxf f = some (ms,F) → SoundB Tryd.prog f ms F := fun f ms F h => by cases h
theorem goodslices_IndexFunc_int_int__i_valOk_1:Good Tryd.prog Eslices_IndexFunc_int_int__i_valOk_1 := ⟨rfl,goodFslices_IndexFunc_int_int__i_valOk_1,goodBslices_IndexFunc_int_int__i_valOk_1⟩
noncomputable def Oslices_IndexFunc_int_int__i_valOk_1_0:Orc := fun _ _ => none
noncomputable def msslices_IndexFunc_int_int__i_valOk_1:List PM := [.rd,.rd]
noncomputable def lsslices_IndexFunc_int_int__i_valOk_1:List (Nat×Code) := loopsAll 0 (Tryd.f126.body.getD .skip)
noncomputable def cslices_IndexFunc_int_int__i_valOk_1_0:Code := (loopOf 0 (Tryd.f126.body.getD .skip)).getD .skip
theorem lseqslices_IndexFunc_int_int__i_valOk_1:lsslices_IndexFunc_int_int__i_valOk_1 = [(0,cslices_IndexFunc_int_int__i_valOk_1_0)] := by kernel_rfl
theorem mslices_IndexFunc_int_int__i_valOk_1_0:∀ p,p ∈ lsslices_IndexFunc_int_int__i_valOk_1 → p.1 = 0 → p.2 = cslices_IndexFunc_int_int__i_valOk_1_0 := by
 intro p hp
 rw [lseqslices_IndexFunc_int_int__i_valOk_1] at hp
 simp only [List.mem_cons,List.not_mem_nil,or_false] at hp
 subst hp; simp
theorem kslices_IndexFunc_int_int__i_valOk_1_0:OrcOk Eslices_IndexFunc_int_int__i_valOk_1 Oslices_IndexFunc_int_int__i_valOk_1_0 lsslices_IndexFunc_int_int__i_valOk_1 0 := orcOk_none
noncomputable def hslices_IndexFunc_int_int__i_valOk_1_0 (y0:List Int) (y1:Int) (y2:Int):List (Pl×LV) := [(.T 0,.t (.val false [.sl .any 3 (.int .i64) y0])),(.T 1,.t (.val false [.fn 104 []])),(.T 7,.t (.val false [.int .i64 y1])),(.T 8,.t (.val false [.int .i64 y2]))]
noncomputable def g_Sslices_IndexFunc_int_int__i_valOk_1_0 (y0:List Int) (y1:Int):(Int) → RT (Int) ((Int) ⊕ (Unit))
 | y2 => .br (true) (.br (decide (y2 < y1)) (.br (decide ((0:Int) ≤ y2 ∧ y2 < (↑(List.length y0):Int))) (.br (g_Ai_valOk_1 (at_ (Ty.int IntKind.i64) y0 (Int.toNat y2))) (.br (g_Vi_valOk_1_0 (at_ (Ty.int IntKind.i64) y0 (Int.toNat y2))) (.out (.inl y2)) (.br (true) (.go (IntKind.wrap IntKind.i64 (y2 + (1:Int)))) .bad)) .bad) .bad) (.out (.inr (())))) .bad
noncomputable def g_Lslices_IndexFunc_int_int__i_valOk_1_0 (y0:List Int) (y1:Int) (x:Int):Option ((Int) ⊕ (Unit)) := loopO (g_Sslices_IndexFunc_int_int__i_valOk_1_0 y0 y1) x
noncomputable def xslices_IndexFunc_int_int__i_valOk_1_0 (y0:List Int) (y1:Int):((Int) ⊕ (Unit)) → Ex×List (Pl×LV) := fun
 | .inl r => (.ret,[(.T 4,.t (.val false [.int .i64 r]))])
 | .inr (r) => (.exit 0,[(.T 4,.t (.val false [.undef]))])
noncomputable def Oslices_IndexFunc_int_int__i_valOk_1_1:Orc := fun b h => match b,h with
 | 0,[(.T 0,.t (.val false [.sl .any 3 (.int .i64) y0])),(.T 1,.t (.val false [.fn 104 []])),(.T 7,.t (.val false [.int .i64 y1])),(.T 8,.t (.val false [.int .i64 y2]))] => some (okO (g_Lslices_IndexFunc_int_int__i_valOk_1_0 y0 y1 y2),(.br (isL (valO (g_Lslices_IndexFunc_int_int__i_valOk_1_0 y0 y1 y2))) (.leaf .ret [(.T 4,.t (.val false [.int .i64 (getL (valO (g_Lslices_IndexFunc_int_int__i_valOk_1_0 y0 y1 y2)))]))]) (.leaf (.exit 0) [(.T 4,.t (.val false [.undef]))])))
 | b,h => Oslices_IndexFunc_int_int__i_valOk_1_0 b h
theorem bslices_IndexFunc_int_int__i_valOk_1_0 (y0:List Int) (y1:Int) (y2:Int):Tr.bt Eslices_IndexFunc_int_int__i_valOk_1 Oslices_IndexFunc_int_int__i_valOk_1_0 (exec Eslices_IndexFunc_int_int__i_valOk_1 0 cslices_IndexFunc_int_int__i_valOk_1_0 (St.of (hslices_IndexFunc_int_int__i_valOk_1_0 y0 y1 y2)) (leafRd Eslices_IndexFunc_int_int__i_valOk_1 0)) = (g_Sslices_IndexFunc_int_int__i_valOk_1_0 y0 y1 y2).bt (fun (y2:Int) => (hslices_IndexFunc_int_int__i_valOk_1_0 y0 y1 y2)) (xslices_IndexFunc_int_int__i_valOk_1_0 y0 y1) := by kernel_rfl
theorem kslices_IndexFunc_int_int__i_valOk_1_1:OrcOk Eslices_IndexFunc_int_int__i_valOk_1 Oslices_IndexFunc_int_int__i_valOk_1_1 lsslices_IndexFunc_int_int__i_valOk_1 1 := orc_add kslices_IndexFunc_int_int__i_valOk_1_0 (fun n p hp h ex h' ho => by
 obtain ⟨b,c⟩ := p
 obtain ⟨xt,h1,h2⟩ := ho
 have h1:Oslices_IndexFunc_int_int__i_valOk_1_1 b h = some (true,xt) := h1
 unfold Oslices_IndexFunc_int_int__i_valOk_1_1 at h1
 split at h1
 ·injection h1 with h1
  injection h1 with e1 e2
  subst e2
  have hc:c = cslices_IndexFunc_int_int__i_valOk_1_0 := mslices_IndexFunc_int_int__i_valOk_1_0 _ hp rfl
  subst hc
  right
  rename_i y0 y1 y2
  have key := LT_step kslices_IndexFunc_int_int__i_valOk_1_0 hp (fun q hq => loopsAll_in _ _ _ _ hp hq) (fun (y2:Int) => (hslices_IndexFunc_int_int__i_valOk_1_0 y0 y1 y2)) (xslices_IndexFunc_int_int__i_valOk_1_0 y0 y1) (g_Sslices_IndexFunc_int_int__i_valOk_1_0 y0 y1) (fun x => by first | exact bslices_IndexFunc_int_int__i_valOk_1_0 y0 y1 x) n (x := y2) (okO_some e1)
  have hx:∀ r,XT.sel (.br (isL r) (.leaf .ret [(.T 4,.t (.val false [.int .i64 (getL r)]))]) (.leaf (.exit 0) [(.T 4,.t (.val false [.undef]))])) = xslices_IndexFunc_int_int__i_valOk_1_0 y0 y1 r := fun r => by first | rfl | (rcases r with r | r <;> rfl) | (rcases r with r | r | r <;> rfl) | (rcases r with r | r | r | r <;> rfl)
  have h3 := (hx (valO (g_Lslices_IndexFunc_int_int__i_valOk_1_0 y0 y1 y2))).symm.trans h2
  have e3 := congrArg Prod.fst h3
  have e4 := congrArg Prod.snd h3
  simp only at e3 e4
  rw [← e3,← e4]
  exact key
 ·exact .inl ⟨xt,h1,h2⟩)
noncomputable def g_Aslices_IndexFunc_int_int__i_valOk_1 (a0:List Int):Bool := okO (g_Lslices_IndexFunc_int_int__i_valOk_1_0 a0 (↑(List.length a0):Int) (0:Int))
noncomputable def g_Vslices_IndexFunc_int_int__i_valOk_1_0 (a0:List Int):Int := bif isL (valO (g_Lslices_IndexFunc_int_int__i_valOk_1_0 a0 (↑(List.length a0):Int) (0:Int))) then getL (valO (g_Lslices_IndexFunc_int_int__i_valOk_1_0 a0 (↑(List.length a0):Int) (0:Int))) else (-1:Int)
noncomputable def Fslices_IndexFunc_int_int__i_valOk_1:FSem := fun ys => match ys with
 | [.val false [.sl .any 3 (.int .i64) a0],.val false [.fn 104 []]] => some ((g_Aslices_IndexFunc_int_int__i_valOk_1 a0),.val false [.int .i64 (g_Vslices_IndexFunc_int_int__i_valOk_1_0 a0)],[])
 | _ => none
theorem vslices_IndexFunc_int_int__i_valOk_1 (a0:List Int):collapseH .std Eslices_IndexFunc_int_int__i_valOk_1 Oslices_IndexFunc_int_int__i_valOk_1_1 (execFn Eslices_IndexFunc_int_int__i_valOk_1 Tryd.f126 msslices_IndexFunc_int_int__i_valOk_1 [.val false [.sl .any 3 (.int .i64) a0],.val false [.fn 104 []]]) = some ((g_Aslices_IndexFunc_int_int__i_valOk_1 a0),.val false [.int .i64 (g_Vslices_IndexFunc_int_int__i_valOk_1_0 a0)],[]) := by kernel_rfl
theorem sslices_IndexFunc_int_int__i_valOk_1:Sound Tryd.prog 126 msslices_IndexFunc_int_int__i_valOk_1 Fslices_IndexFunc_int_int__i_valOk_1 := by
 refine fn_gen goodslices_IndexFunc_int_int__i_valOk_1 (by kernel_rfl) .std (fn := Tryd.f126) (c := (Tryd.f126.body.getD .skip)) (o := Oslices_IndexFunc_int_int__i_valOk_1_1) (k := 1) (by kernel_rfl) (by kernel_rfl) (by kernel_rfl) (by kernel_rfl) (by decide) kslices_IndexFunc_int_int__i_valOk_1_1 ?_
 intro ys r outs h
 unfold Fslices_IndexFunc_int_int__i_valOk_1 at h
 split at h
 ·exact (vslices_IndexFunc_int_int__i_valOk_1 _).trans h
 ·cases h
noncomputable def Eslices_ContainsFunc_int_int__i_valOk_1:Env where
 tt := mkTI Tryd.prog
 fn := fun f => match f with
  | 104 => some (msi_valOk_1,FSem.wk msi_valOk_1 Fi_valOk_1)
  | 126 => some (msslices_IndexFunc_int_int__i_valOk_1,FSem.wk msslices_IndexFunc_int_int__i_valOk_1 Fslices_IndexFunc_int_int__i_valOk_1)
  | _ => none
 bxf := fun _ => none
 mv := []
 keep := fun _ => []
 keepB := fun _ => []
 keepX := fun _ => []
 keepXB := fun _ => []
theorem goodFslices_ContainsFunc_int_int__i_valOk_1:∀ f ms F,Eslices_ContainsFunc_int_int__i_valOk_1.fn f = some (ms,F) → Sound Tryd.prog f ms F := fun f ms F h => by
 unfold Eslices_ContainsFunc_int_int__i_valOk_1 at h
 dsimp only at h
 split at h
 ·injection h with h; injection h with e1 e2; subst e1 e2; exact Sound.wk si_valOk_1
 ·injection h with h; injection h with e1 e2; subst e1 e2; exact Sound.wk sslices_IndexFunc_int_int__i_valOk_1
 ·cases h
theorem goodBslices_ContainsFunc_int_int__i_valOk_1:∀ f ms F,Eslices_ContainsFunc_int_int__i_valOk_1.bxf f = some (ms,F) → SoundB Tryd.prog f ms F := fun f ms F h => by cases h
theorem goodslices_ContainsFunc_int_int__i_valOk_1:Good Tryd.prog Eslices_ContainsFunc_int_int__i_valOk_1 := ⟨rfl,goodFslices_ContainsFunc_int_int__i_valOk_1,goodBslices_ContainsFunc_int_int__i_valOk_1⟩
noncomputable def Oslices_ContainsFunc_int_int__i_valOk_1_0:Orc := fun _ _ => none
noncomputable def msslices_ContainsFunc_int_int__i_valOk_1:List PM := [.rd,.rd]
noncomputable def lsslices_ContainsFunc_int_int__i_valOk_1:List (Nat×Code) := loopsAll 0 (Tryd.f103.body.getD .skip)
theorem kslices_ContainsFunc_int_int__i_valOk_1_0:OrcOk Eslices_ContainsFunc_int_int__i_valOk_1 Oslices_ContainsFunc_int_int__i_valOk_1_0 lsslices_ContainsFunc_int_int__i_valOk_1 0 := orcOk_none
noncomputable def g_Aslices_ContainsFunc_int_int__i_valOk_1 (a0:List Int):Bool := g_Aslices_IndexFunc_int_int__i_valOk_1 a0&&true
noncomputable def g_Vslices_ContainsFunc_int_int__i_valOk_1_0 (a0:List Int):Bool := decide (g_Vslices_IndexFunc_int_int__i_valOk_1_0 a0 ≥ (0:Int))
noncomputable def Fslices_ContainsFunc_int_int__i_valOk_1:FSem := fun ys => match ys with
 | [.val false [.sl .any 3 (.int .i64) a0],.val false [.fn 104 []]] => some ((g_Aslices_ContainsFunc_int_int__i_valOk_1 a0),.val false [.bool (g_Vslices_ContainsFunc_int_int__i_valOk_1_0 a0)],[])
 | _ => none
theorem vslices_ContainsFunc_int_int__i_valOk_1 (a0:List Int):collapseH .std Eslices_ContainsFunc_int_int__i_valOk_1 Oslices_ContainsFunc_int_int__i_valOk_1_0 (execFn Eslices_ContainsFunc_int_int__i_valOk_1 Tryd.f103 msslices_ContainsFunc_int_int__i_valOk_1 [.val false [.sl .any 3 (.int .i64) a0],.val false [.fn 104 []]]) = some ((g_Aslices_ContainsFunc_int_int__i_valOk_1 a0),.val false [.bool (g_Vslices_ContainsFunc_int_int__i_valOk_1_0 a0)],[]) := by kernel_rfl
theorem sslices_ContainsFunc_int_int__i_valOk_1:Sound Tryd.prog 103 msslices_ContainsFunc_int_int__i_valOk_1 Fslices_ContainsFunc_int_int__i_valOk_1 := by
 refine fn_gen goodslices_ContainsFunc_int_int__i_valOk_1 (by kernel_rfl) .std (fn := Tryd.f103) (c := (Tryd.f103.body.getD .skip)) (o := Oslices_ContainsFunc_int_int__i_valOk_1_0) (k := 0) (by kernel_rfl) (by kernel_rfl) (by kernel_rfl) (by kernel_rfl) (by decide) kslices_ContainsFunc_int_int__i_valOk_1_0 ?_
 intro ys r outs h
 unfold Fslices_ContainsFunc_int_int__i_valOk_1 at h
 split at h
 ·exact (vslices_ContainsFunc_int_int__i_valOk_1 _).trans h
 ·cases h
noncomputable def Ei_valOk:Env where
 tt := mkTI Tryd.prog
 fn := fun f => match f with
  | 56 => some (msi_in,FSem.wk msi_in Fi_in)
  | 103 => some (msslices_ContainsFunc_int_int__i_valOk_1,FSem.wk msslices_ContainsFunc_int_int__i_valOk_1 Fslices_ContainsFunc_int_int__i_valOk_1)
  | _ => none
 bxf := fun _ => none
 mv := []
 keep := fun _ => []
 keepB := fun _ => []
 keepX := fun _ => []
 keepXB := fun _ => []
theorem goodFi_valOk:∀ f ms F,Ei_valOk.fn f = some (ms,F) → Sound Tryd.prog f ms F := fun f ms F h => by
 unfold Ei_valOk at h
 dsimp only at h
 split at h
 ·injection h with h; injection h with e1 e2; subst e1 e2; exact Sound.wk si_in
 ·injection h with h; injection h with e1 e2; subst e1 e2; exact Sound.wk sslices_ContainsFunc_int_int__i_valOk_1
 ·cases h
theorem goodBi_valOk:∀ f ms F,Ei_valOk.bxf f = some (ms,F) → SoundB Tryd.prog f ms F := fun f ms F h => by cases h
theorem goodi_valOk:Good Tryd.prog Ei_valOk := ⟨rfl,goodFi_valOk,goodBi_valOk⟩
noncomputable def Oi_valOk_0:Orc := fun _ _ => none
noncomputable def msi_valOk:List PM := [.rd]
noncomputable def lsi_valOk:List (Nat×Code) := loopsAll 0 (Tryd.f74.body.getD .skip)
theorem ki_valOk_0:OrcOk Ei_valOk Oi_valOk_0 lsi_valOk 0 := orcOk_none
noncomputable def g_Ai_valOk (a0:List Int):Bool := g_Ai_in (↑(List.length a0):Int) (1:Int) (3:Int)&&(!g_Vi_in_0 (↑(List.length a0):Int) (1:Int) (3:Int) || g_Aslices_ContainsFunc_int_int__i_valOk_1 a0)
noncomputable def g_Vi_valOk_0 (a0:List Int):Bool := bif g_Vi_in_0 (↑(List.length a0):Int) (1:Int) (3:Int) then !g_Vslices_ContainsFunc_int_int__i_valOk_1_0 a0 else false
noncomputable def Fi_valOk:FSem := fun ys => match ys with
 | [.val false [.sl .any 3 (.int .i64) a0]] => some ((g_Ai_valOk a0),.val false [.bool (g_Vi_valOk_0 a0)],[])
 | _ => none
theorem vi_valOk (a0:List Int):collapseH .std Ei_valOk Oi_valOk_0 (execFn Ei_valOk Tryd.f74 msi_valOk [.val false [.sl .any 3 (.int .i64) a0]]) = some ((g_Ai_valOk a0),.val false [.bool (g_Vi_valOk_0 a0)],[]) := by kernel_rfl
theorem si_valOk:Sound Tryd.prog 74 msi_valOk Fi_valOk := by
 refine fn_gen goodi_valOk (by kernel_rfl) .std (fn := Tryd.f74) (c := (Tryd.f74.body.getD .skip)) (o := Oi_valOk_0) (k := 0) (by kernel_rfl) (by kernel_rfl) (by kernel_rfl) (by kernel_rfl) (by decide) ki_valOk_0 ?_
 intro ys r outs h
 unfold Fi_valOk at h
 split at h
 ·exact (vi_valOk _).trans h
 ·cases h
noncomputable def Ei_StoOk:Env where
 tt := mkTI Tryd.prog
 fn := fun f => match f with
  | 73 => some (msi_keyOk,FSem.wk msi_keyOk Fi_keyOk)
  | 74 => some (msi_valOk,FSem.wk msi_valOk Fi_valOk)
  | _ => none
 bxf := fun _ => none
 mv := []
 keep := fun b => match b with
  | 0 => [(1,false),(6,false),(7,false),(8,false)]
  | _ => []
 keepB := fun b => match b with
  | 0 => [(1,false)]
  | _ => []
 keepX := fun b => match b with
  | 0 => [(1,false),(2,false)]
  | _ => []
 keepXB := fun b => match b with
  | 0 => [(1,false)]
  | _ => []
theorem goodFi_StoOk:∀ f ms F,Ei_StoOk.fn f = some (ms,F) → Sound Tryd.prog f ms F := fun f ms F h => by
 unfold Ei_StoOk at h
 dsimp only at h
 split at h
 ·injection h with h; injection h with e1 e2; subst e1 e2; exact Sound.wk si_keyOk
 ·injection h with h; injection h with e1 e2; subst e1 e2; exact Sound.wk si_valOk
 ·cases h
theorem goodBi_StoOk:∀ f ms F,Ei_StoOk.bxf f = some (ms,F) → SoundB Tryd.prog f ms F := fun f ms F h => by cases h
theorem goodi_StoOk:Good Tryd.prog Ei_StoOk := ⟨rfl,goodFi_StoOk,goodBi_StoOk⟩
noncomputable def Oi_StoOk_0:Orc := fun _ _ => none
noncomputable def msi_StoOk:List PM := [.rd]
noncomputable def lsi_StoOk:List (Nat×Code) := loopsAll 0 (Tryd.f39.body.getD .skip)
noncomputable def ci_StoOk_0:Code := (loopOf 0 (Tryd.f39.body.getD .skip)).getD .skip
theorem lseqi_StoOk:lsi_StoOk = [(0,ci_StoOk_0)] := by kernel_rfl
theorem mi_StoOk_0:∀ p,p ∈ lsi_StoOk → p.1 = 0 → p.2 = ci_StoOk_0 := by
 intro p hp
 rw [lseqi_StoOk] at hp
 simp only [List.mem_cons,List.not_mem_nil,or_false] at hp
 subst hp; simp
theorem ki_StoOk_0:OrcOk Ei_StoOk Oi_StoOk_0 lsi_StoOk 0 := orcOk_none
noncomputable def hi_StoOk_0 (y0:List (ByteArray×(List Int))) (y1:Int) (y2:Int) (y3:List (ByteArray×(List Int))):List (Pl×LV) := [(.T 1,.t (.val false [.ptr 1 0 0])),(.T 6,.t (.val false [.sl .any 42 (.pair .str (.sl 3 (.int .i64))) y0])),(.T 7,.t (.val false [.int .i64 y1])),(.T 8,.t (.val false [.int .i64 y2])),(.B 1,.b 0 false [.sl .any 42 (.pair .str (.sl 3 (.int .i64))) y3])]
noncomputable def g_Si_StoOk_0 (y0:List (ByteArray×(List Int))) (y1:Int) (y3:List (ByteArray×(List Int))):(Int) → RT (Int) ((Bool) ⊕ (Unit))
 | y2 => .br (true) (.br (decide (y2 < y1)) (.br (decide ((0:Int) ≤ y2 ∧ y2 < (↑(List.length y0):Int))) (.br (g_Ai_keyOk (at_ (Ty.pair Ty.str (Ty.sl (nat_lit 3) (Ty.int IntKind.i64))) y0 (Int.toNat y2)).1) (.br (!g_Vi_keyOk_0 (at_ (Ty.pair Ty.str (Ty.sl (nat_lit 3) (Ty.int IntKind.i64))) y0 (Int.toNat y2)).1) (.out (.inl false)) (.br (g_Ai_valOk (at_ (Ty.pair Ty.str (Ty.sl (nat_lit 3) (Ty.int IntKind.i64))) y0 (Int.toNat y2)).2) (.br (!g_Vi_valOk_0 (at_ (Ty.pair Ty.str (Ty.sl (nat_lit 3) (Ty.int IntKind.i64))) y0 (Int.toNat y2)).2) (.out (.inl false)) (.br (true) (.br (decide (y2 > (0:Int))) (.br (true) (.br (decide ((0:Int) ≤ IntKind.wrap IntKind.i64 (y2 - (1:Int)) ∧ IntKind.wrap IntKind.i64 (y2 - (1:Int)) < (↑(List.length y3):Int))) (.br (true) (.br (Op.bytesLess (ByteArray.toList (at_ (Ty.pair Ty.str (Ty.sl (nat_lit 3) (Ty.int IntKind.i64))) y0 (Int.toNat y2)).1) (ByteArray.toList (at_ (Ty.pair Ty.str (Ty.sl (nat_lit 3) (Ty.int IntKind.i64))) y3 (Int.toNat (IntKind.wrap IntKind.i64 (y2 - (1:Int))))).1) || ByteArray.toList (at_ (Ty.pair Ty.str (Ty.sl (nat_lit 3) (Ty.int IntKind.i64))) y0 (Int.toNat y2)).1 == ByteArray.toList (at_ (Ty.pair Ty.str (Ty.sl (nat_lit 3) (Ty.int IntKind.i64))) y3 (Int.toNat (IntKind.wrap IntKind.i64 (y2 - (1:Int))))).1) (.out (.inl false)) (.br (true) (.go (IntKind.wrap IntKind.i64 (y2 + (1:Int)))) .bad)) .bad) .bad) .bad) (.br (true) (.go (IntKind.wrap IntKind.i64 (y2 + (1:Int)))) .bad)) .bad)) .bad)) .bad) .bad) (.out (.inr (())))) .bad
noncomputable def g_Li_StoOk_0 (y0:List (ByteArray×(List Int))) (y1:Int) (y3:List (ByteArray×(List Int))) (x:Int):Option ((Bool) ⊕ (Unit)) := loopO (g_Si_StoOk_0 y0 y1 y3) x
noncomputable def xi_StoOk_0 (y0:List (ByteArray×(List Int))) (y1:Int) (y3:List (ByteArray×(List Int))):((Bool) ⊕ (Unit)) → Ex×List (Pl×LV) := fun
 | .inl r => (.ret,[(.T 1,.t (.val false [.ptr 1 0 0])),(.T 2,.t (.val false [.bool r])),(.B 1,.b 0 false [.sl .any 42 (.pair .str (.sl 3 (.int .i64))) y3])])
 | .inr (r) => (.exit 0,[(.T 1,.t (.val false [.ptr 1 0 0])),(.T 2,.t (.val false [.undef])),(.B 1,.b 0 false [.sl .any 42 (.pair .str (.sl 3 (.int .i64))) y3])])
noncomputable def Oi_StoOk_1:Orc := fun b h => match b,h with
 | 0,[(.T 1,.t (.val false [.ptr 1 0 0])),(.T 6,.t (.val false [.sl .any 42 (.pair .str (.sl 3 (.int .i64))) y0])),(.T 7,.t (.val false [.int .i64 y1])),(.T 8,.t (.val false [.int .i64 y2])),(.B 1,.b 0 false [.sl .any 42 (.pair .str (.sl 3 (.int .i64))) y3])] => some (okO (g_Li_StoOk_0 y0 y1 y3 y2),(.br (isL (valO (g_Li_StoOk_0 y0 y1 y3 y2))) (.leaf .ret [(.T 1,.t (.val false [.ptr 1 0 0])),(.T 2,.t (.val false [.bool (getL (valO (g_Li_StoOk_0 y0 y1 y3 y2)))])),(.B 1,.b 0 false [.sl .any 42 (.pair .str (.sl 3 (.int .i64))) y3])]) (.leaf (.exit 0) [(.T 1,.t (.val false [.ptr 1 0 0])),(.T 2,.t (.val false [.undef])),(.B 1,.b 0 false [.sl .any 42 (.pair .str (.sl 3 (.int .i64))) y3])])))
 | b,h => Oi_StoOk_0 b h
theorem bi_StoOk_0 (y0:List (ByteArray×(List Int))) (y1:Int) (y2:Int) (y3:List (ByteArray×(List Int))):Tr.bt Ei_StoOk Oi_StoOk_0 (exec Ei_StoOk 0 ci_StoOk_0 (St.of (hi_StoOk_0 y0 y1 y2 y3)) (leafRd Ei_StoOk 0)) = (g_Si_StoOk_0 y0 y1 y3 y2).bt (fun (y2:Int) => (hi_StoOk_0 y0 y1 y2 y3)) (xi_StoOk_0 y0 y1 y3) := by kernel_rfl
theorem ki_StoOk_1:OrcOk Ei_StoOk Oi_StoOk_1 lsi_StoOk 1 := orc_add ki_StoOk_0 (fun n p hp h ex h' ho => by
 obtain ⟨b,c⟩ := p
 obtain ⟨xt,h1,h2⟩ := ho
 have h1:Oi_StoOk_1 b h = some (true,xt) := h1
 unfold Oi_StoOk_1 at h1
 split at h1
 ·injection h1 with h1
  injection h1 with e1 e2
  subst e2
  have hc:c = ci_StoOk_0 := mi_StoOk_0 _ hp rfl
  subst hc
  right
  rename_i y0 y1 y2 y3
  have key := LT_step ki_StoOk_0 hp (fun q hq => loopsAll_in _ _ _ _ hp hq) (fun (y2:Int) => (hi_StoOk_0 y0 y1 y2 y3)) (xi_StoOk_0 y0 y1 y3) (g_Si_StoOk_0 y0 y1 y3) (fun x => by first | exact bi_StoOk_0 y0 y1 x y3) n (x := y2) (okO_some e1)
  have hx:∀ r,XT.sel (.br (isL r) (.leaf .ret [(.T 1,.t (.val false [.ptr 1 0 0])),(.T 2,.t (.val false [.bool (getL r)])),(.B 1,.b 0 false [.sl .any 42 (.pair .str (.sl 3 (.int .i64))) y3])]) (.leaf (.exit 0) [(.T 1,.t (.val false [.ptr 1 0 0])),(.T 2,.t (.val false [.undef])),(.B 1,.b 0 false [.sl .any 42 (.pair .str (.sl 3 (.int .i64))) y3])])) = xi_StoOk_0 y0 y1 y3 r := fun r => by first | rfl | (rcases r with r | r <;> rfl) | (rcases r with r | r | r <;> rfl) | (rcases r with r | r | r | r <;> rfl)
  have h3 := (hx (valO (g_Li_StoOk_0 y0 y1 y3 y2))).symm.trans h2
  have e3 := congrArg Prod.fst h3
  have e4 := congrArg Prod.snd h3
  simp only at e3 e4
  rw [← e3,← e4]
  exact key
 ·exact .inl ⟨xt,h1,h2⟩)
noncomputable def g_Ai_StoOk (a0:List (ByteArray×(List Int))):Bool := okO (g_Li_StoOk_0 a0 (↑(List.length a0):Int) a0 (0:Int))&&(isL (valO (g_Li_StoOk_0 a0 (↑(List.length a0):Int) a0 (0:Int))) || true)
noncomputable def g_Vi_StoOk_0 (a0:List (ByteArray×(List Int))):Bool := bif isL (valO (g_Li_StoOk_0 a0 (↑(List.length a0):Int) a0 (0:Int))) then getL (valO (g_Li_StoOk_0 a0 (↑(List.length a0):Int) a0 (0:Int))) else decide ((↑(List.length a0):Int) ≤ (40:Int))
noncomputable def Fi_StoOk:FSem := fun ys => match ys with
 | [.val true [.sl .any 42 (.pair .str (.sl 3 (.int .i64))) a0]] => some ((g_Ai_StoOk a0),.val false [.bool (g_Vi_StoOk_0 a0)],[])
 | _ => none
theorem vi_StoOk (a0:List (ByteArray×(List Int))):collapseH .std Ei_StoOk Oi_StoOk_1 (execFn Ei_StoOk Tryd.f39 msi_StoOk [.val true [.sl .any 42 (.pair .str (.sl 3 (.int .i64))) a0]]) = some ((g_Ai_StoOk a0),.val false [.bool (g_Vi_StoOk_0 a0)],[]) := by kernel_rfl
theorem si_StoOk:Sound Tryd.prog 39 msi_StoOk Fi_StoOk := by
 refine fn_gen goodi_StoOk (by kernel_rfl) .std (fn := Tryd.f39) (c := (Tryd.f39.body.getD .skip)) (o := Oi_StoOk_1) (k := 1) (by kernel_rfl) (by kernel_rfl) (by kernel_rfl) (by kernel_rfl) (by decide) ki_StoOk_1 ?_
 intro ys r outs h
 unfold Fi_StoOk at h
 split at h
 ·exact (vi_StoOk _).trans h
 ·cases h
noncomputable def Ei_isService:Env where
 tt := mkTI Tryd.prog
 fn := fun f => match f with
  | 56 => some (msi_in,FSem.wk msi_in Fi_in)
  | _ => none
 bxf := fun _ => none
 mv := []
 keep := fun _ => []
 keepB := fun _ => []
 keepX := fun _ => []
 keepXB := fun _ => []
theorem goodFi_isService:∀ f ms F,Ei_isService.fn f = some (ms,F) → Sound Tryd.prog f ms F := fun f ms F h => by
 unfold Ei_isService at h
 dsimp only at h
 split at h
 ·injection h with h; injection h with e1 e2; subst e1 e2; exact Sound.wk si_in
 ·cases h
theorem goodBi_isService:∀ f ms F,Ei_isService.bxf f = some (ms,F) → SoundB Tryd.prog f ms F := fun f ms F h => by cases h
theorem goodi_isService:Good Tryd.prog Ei_isService := ⟨rfl,goodFi_isService,goodBi_isService⟩
noncomputable def Oi_isService_0:Orc := fun _ _ => none
noncomputable def msi_isService:List PM := [.own]
noncomputable def lsi_isService:List (Nat×Code) := loopsAll 0 (Tryd.f71.body.getD .skip)
theorem ki_isService_0:OrcOk Ei_isService Oi_isService_0 lsi_isService 0 := orcOk_none
noncomputable def g_Ai_isService (a0:Int):Bool := g_Ai_in a0 (1:Int) (3:Int)
noncomputable def g_Vi_isService_0 (a0:Int):Bool := g_Vi_in_0 a0 (1:Int) (3:Int)
noncomputable def Fi_isService:FSem := fun ys => match ys with
 | [.val false [.int .i64 a0]] => some ((g_Ai_isService a0),.val false [.bool (g_Vi_isService_0 a0)],[])
 | _ => none
theorem vi_isService (a0:Int):collapseH .std Ei_isService Oi_isService_0 (execFn Ei_isService Tryd.f71 msi_isService [.val false [.int .i64 a0]]) = some ((g_Ai_isService a0),.val false [.bool (g_Vi_isService_0 a0)],[]) := by kernel_rfl
theorem si_isService:Sound Tryd.prog 71 msi_isService Fi_isService := by
 refine fn_gen goodi_isService (by kernel_rfl) .std (fn := Tryd.f71) (c := (Tryd.f71.body.getD .skip)) (o := Oi_isService_0) (k := 0) (by kernel_rfl) (by kernel_rfl) (by kernel_rfl) (by kernel_rfl) (by decide) ki_isService_0 ?_
 intro ys r outs h
 unfold Fi_isService at h
 split at h
 ·exact (vi_isService _).trans h
 ·cases h
noncomputable def Ei_itemOk:Env where
 tt := mkTI Tryd.prog
 fn := fun f => match f with
  | 56 => some (msi_in,FSem.wk msi_in Fi_in)
  | _ => none
 bxf := fun _ => none
 mv := []
 keep := fun _ => []
 keepB := fun _ => []
 keepX := fun _ => []
 keepXB := fun _ => []
theorem goodFi_itemOk:∀ f ms F,Ei_itemOk.fn f = some (ms,F) → Sound Tryd.prog f ms F := fun f ms F h => by
 unfold Ei_itemOk at h
 dsimp only at h
 split at h
 ·injection h with h; injection h with e1 e2; subst e1 e2; exact Sound.wk si_in
 ·cases h
theorem goodBi_itemOk:∀ f ms F,Ei_itemOk.bxf f = some (ms,F) → SoundB Tryd.prog f ms F := fun f ms F h => by cases h
theorem goodi_itemOk:Good Tryd.prog Ei_itemOk := ⟨rfl,goodFi_itemOk,goodBi_itemOk⟩
noncomputable def Oi_itemOk_0:Orc := fun _ _ => none
noncomputable def msi_itemOk:List PM := [.own,.rd]
noncomputable def lsi_itemOk:List (Nat×Code) := loopsAll 0 (Tryd.f70.body.getD .skip)
theorem ki_itemOk_0:OrcOk Ei_itemOk Oi_itemOk_0 lsi_itemOk 0 := orcOk_none
noncomputable def g_Ai_itemOk (a0:Int) (a1:ByteArray) (a2:List Int):Bool := decide ((0:Int) ≤ (0:Int) ∧ (0:Int) < (↑(ByteArray.size a1):Int))&&(decide ((0:Int) ≤ (0:Int) ∧ (0:Int) < (↑(List.length a2):Int))&&(g_Ai_in (at_ (Ty.int IntKind.i64) a2 (nat_lit 0)) (0:Int) (9:Int)&&bif a0 == (1:Int) then !byteAt a1 (nat_lit 0) == (115:Int) || (!(↑(ByteArray.size a1):Int) == (2:Int) || true) else bif a0 == (2:Int) then bif byteAt a1 (nat_lit 0) == (99:Int) then !byteAt a1 (nat_lit 0) == (102:Int) || (!(↑(List.length a2):Int) == (3:Int) || decide ((0:Int) ≤ (1:Int) ∧ (1:Int) < (↑(List.length a2):Int))&&(g_Ai_in (at_ (Ty.int IntKind.i64) a2 (nat_lit 1)) (1:Int) (99:Int)&&(!g_Vi_in_0 (at_ (Ty.int IntKind.i64) a2 (nat_lit 1)) (1:Int) (99:Int) || decide ((0:Int) ≤ (2:Int) ∧ (2:Int) < (↑(List.length a2):Int))&&true))) else !byteAt a1 (nat_lit 0) == (102:Int) || (!(↑(List.length a2):Int) == (3:Int) || decide ((0:Int) ≤ (1:Int) ∧ (1:Int) < (↑(List.length a2):Int))&&(g_Ai_in (at_ (Ty.int IntKind.i64) a2 (nat_lit 1)) (1:Int) (99:Int)&&(!g_Vi_in_0 (at_ (Ty.int IntKind.i64) a2 (nat_lit 1)) (1:Int) (99:Int) || decide ((0:Int) ≤ (2:Int) ∧ (2:Int) < (↑(List.length a2):Int))&&true))) else !a0 == (3:Int) || (!byteAt a1 (nat_lit 0) == (97:Int) || true)))
noncomputable def g_Vi_itemOk_0 (a0:Int) (a1:ByteArray) (a2:List Int):Bool := bif a0 == (1:Int) then bif byteAt a1 (nat_lit 0) == (115:Int) then bif (↑(ByteArray.size a1):Int) == (2:Int) then bif (↑(List.length a2):Int) == (1:Int) then g_Vi_in_0 (at_ (Ty.int IntKind.i64) a2 (nat_lit 0)) (0:Int) (9:Int) else false else false else false else bif a0 == (2:Int) then bif byteAt a1 (nat_lit 0) == (99:Int) then bif byteAt a1 (nat_lit 0) == (102:Int) then bif (↑(List.length a2):Int) == (3:Int) then bif g_Vi_in_0 (at_ (Ty.int IntKind.i64) a2 (nat_lit 1)) (1:Int) (99:Int) then bif (↑(ByteArray.size a1):Int) == (2:Int) then bif g_Vi_in_0 (at_ (Ty.int IntKind.i64) a2 (nat_lit 0)) (0:Int) (9:Int) then bif (↑(List.length a2):Int) == (2:Int) then true else decide (at_ (Ty.int IntKind.i64) a2 (nat_lit 2) ≤ (1:Int)) else false else false else bif (↑(ByteArray.size a1):Int) == (2:Int) then bif g_Vi_in_0 (at_ (Ty.int IntKind.i64) a2 (nat_lit 0)) (0:Int) (9:Int) then bif (↑(List.length a2):Int) == (2:Int) then true else false else false else false else bif (↑(ByteArray.size a1):Int) == (2:Int) then bif g_Vi_in_0 (at_ (Ty.int IntKind.i64) a2 (nat_lit 0)) (0:Int) (9:Int) then bif (↑(List.length a2):Int) == (2:Int) then true else false else false else false else bif (↑(ByteArray.size a1):Int) == (2:Int) then bif g_Vi_in_0 (at_ (Ty.int IntKind.i64) a2 (nat_lit 0)) (0:Int) (9:Int) then bif (↑(List.length a2):Int) == (2:Int) then true else false else false else false else bif byteAt a1 (nat_lit 0) == (102:Int) then bif (↑(List.length a2):Int) == (3:Int) then bif g_Vi_in_0 (at_ (Ty.int IntKind.i64) a2 (nat_lit 1)) (1:Int) (99:Int) then bif (↑(ByteArray.size a1):Int) == (2:Int) then bif g_Vi_in_0 (at_ (Ty.int IntKind.i64) a2 (nat_lit 0)) (0:Int) (9:Int) then decide (at_ (Ty.int IntKind.i64) a2 (nat_lit 2) ≤ (1:Int)) else false else false else bif (↑(ByteArray.size a1):Int) == (2:Int) then bif g_Vi_in_0 (at_ (Ty.int IntKind.i64) a2 (nat_lit 0)) (0:Int) (9:Int) then false else false else false else bif (↑(ByteArray.size a1):Int) == (2:Int) then bif g_Vi_in_0 (at_ (Ty.int IntKind.i64) a2 (nat_lit 0)) (0:Int) (9:Int) then false else false else false else bif (↑(ByteArray.size a1):Int) == (2:Int) then bif g_Vi_in_0 (at_ (Ty.int IntKind.i64) a2 (nat_lit 0)) (0:Int) (9:Int) then false else false else false else bif a0 == (3:Int) then bif byteAt a1 (nat_lit 0) == (97:Int) then (↑(List.length a2):Int) == (1:Int) else false else false
noncomputable def Fi_itemOk:FSem := fun ys => match ys with
 | [.val false [.int .i64 a0],.val true [.str a1,.sl .any 3 (.int .i64) a2]] => some ((g_Ai_itemOk a0 a1 a2),.val false [.bool (g_Vi_itemOk_0 a0 a1 a2)],[])
 | _ => none
theorem vi_itemOk (a0:Int) (a1:ByteArray) (a2:List Int):collapseH .std Ei_itemOk Oi_itemOk_0 (execFn Ei_itemOk Tryd.f70 msi_itemOk [.val false [.int .i64 a0],.val true [.str a1,.sl .any 3 (.int .i64) a2]]) = some ((g_Ai_itemOk a0 a1 a2),.val false [.bool (g_Vi_itemOk_0 a0 a1 a2)],[]) := by kernel_rfl
theorem si_itemOk:Sound Tryd.prog 70 msi_itemOk Fi_itemOk := by
 refine fn_gen goodi_itemOk (by kernel_rfl) .std (fn := Tryd.f70) (c := (Tryd.f70.body.getD .skip)) (o := Oi_itemOk_0) (k := 0) (by kernel_rfl) (by kernel_rfl) (by kernel_rfl) (by kernel_rfl) (by decide) ki_itemOk_0 ?_
 intro ys r outs h
 unfold Fi_itemOk at h
 split at h
 ·exact (vi_itemOk _ _ _).trans h
 ·cases h
noncomputable def Ei_PlcOk_1:Env where
 tt := mkTI Tryd.prog
 fn := fun f => match f with
  | 70 => some (msi_itemOk,FSem.wk msi_itemOk Fi_itemOk)
  | _ => none
 bxf := fun _ => none
 mv := []
 keep := fun _ => []
 keepB := fun _ => []
 keepX := fun _ => []
 keepXB := fun _ => []
theorem goodFi_PlcOk_1:∀ f ms F,Ei_PlcOk_1.fn f = some (ms,F) → Sound Tryd.prog f ms F := fun f ms F h => by
 unfold Ei_PlcOk_1 at h
 dsimp only at h
 split at h
 ·injection h with h; injection h with e1 e2; subst e1 e2; exact Sound.wk si_itemOk
 ·cases h
theorem goodBi_PlcOk_1:∀ f ms F,Ei_PlcOk_1.bxf f = some (ms,F) → SoundB Tryd.prog f ms F := fun f ms F h => by cases h
theorem goodi_PlcOk_1:Good Tryd.prog Ei_PlcOk_1 := ⟨rfl,goodFi_PlcOk_1,goodBi_PlcOk_1⟩
noncomputable def Oi_PlcOk_1_0:Orc := fun _ _ => none
noncomputable def msi_PlcOk_1:List PM := [.rd,.rd]
noncomputable def lsi_PlcOk_1:List (Nat×Code) := loopsAll 0 (Tryd.f69.body.getD .skip)
theorem ki_PlcOk_1_0:OrcOk Ei_PlcOk_1 Oi_PlcOk_1_0 lsi_PlcOk_1 0 := orcOk_none
noncomputable def g_Ai_PlcOk_1 (a0:ByteArray) (a1:List Int) (c0:Int):Bool := g_Ai_itemOk c0 a0 a1
noncomputable def Fi_PlcOk_1:FSem := fun ys => match ys with
 | [.val true [.str a0,.sl .any 3 (.int .i64) a1],.val false [.sptr (.int .i64) c0 0]] => some ((g_Ai_PlcOk_1 a0 a1 c0),.val false [.bool (!g_Vi_itemOk_0 c0 a0 a1)],[])
 | _ => none
theorem vi_PlcOk_1 (a0:ByteArray) (a1:List Int) (c0:Int):collapseH .std Ei_PlcOk_1 Oi_PlcOk_1_0 (execFn Ei_PlcOk_1 Tryd.f69 msi_PlcOk_1 [.val true [.str a0,.sl .any 3 (.int .i64) a1],.val false [.sptr (.int .i64) c0 0]]) = some ((g_Ai_PlcOk_1 a0 a1 c0),.val false [.bool (!g_Vi_itemOk_0 c0 a0 a1)],[]) := by kernel_rfl
theorem si_PlcOk_1:Sound Tryd.prog 69 msi_PlcOk_1 Fi_PlcOk_1 := by
 refine fn_gen goodi_PlcOk_1 (by kernel_rfl) .std (fn := Tryd.f69) (c := (Tryd.f69.body.getD .skip)) (o := Oi_PlcOk_1_0) (k := 0) (by kernel_rfl) (by kernel_rfl) (by kernel_rfl) (by kernel_rfl) (by decide) ki_PlcOk_1_0 ?_
 intro ys r outs h
 unfold Fi_PlcOk_1 at h
 split at h
 ·exact (vi_PlcOk_1 _ _ _).trans h
 ·cases h
noncomputable def Eslices_IndexFunc_i_StoItem_i_StoItem__i_PlcOk_1:Env where
 tt := mkTI Tryd.prog
 fn := fun f => match f with
  | 69 => some (msi_PlcOk_1,FSem.wk msi_PlcOk_1 Fi_PlcOk_1)
  | _ => none
 bxf := fun _ => none
 mv := []
 keep := fun b => match b with
  | 0 => [(0,false),(1,false),(7,false),(8,false)]
  | _ => []
 keepB := fun b => match b with
  | 0 => []
  | _ => []
 keepX := fun b => match b with
  | 0 => [(4,false)]
  | _ => []
 keepXB := fun b => match b with
  | 0 => []
  | _ => []
theorem goodFslices_IndexFunc_i_StoItem_i_StoItem__i_PlcOk_1:∀ f ms F,Eslices_IndexFunc_i_StoItem_i_StoItem__i_PlcOk_1.fn f = some (ms,F) → Sound Tryd.prog f ms F := fun f ms F h => by
 unfold Eslices_IndexFunc_i_StoItem_i_StoItem__i_PlcOk_1 at h
 dsimp only at h
 split at h
 ·injection h with h; injection h with e1 e2; subst e1 e2; exact Sound.wk si_PlcOk_1
 ·cases h
theorem goodBslices_IndexFunc_i_StoItem_i_StoItem__i_PlcOk_1:∀ f ms F,Eslices_IndexFunc_i_StoItem_i_StoItem__i_PlcOk_1.bxf f = some (ms,F) → SoundB Tryd.prog f ms F := fun f ms F h => by cases h
theorem goodslices_IndexFunc_i_StoItem_i_StoItem__i_PlcOk_1:Good Tryd.prog Eslices_IndexFunc_i_StoItem_i_StoItem__i_PlcOk_1 := ⟨rfl,goodFslices_IndexFunc_i_StoItem_i_StoItem__i_PlcOk_1,goodBslices_IndexFunc_i_StoItem_i_StoItem__i_PlcOk_1⟩
noncomputable def Oslices_IndexFunc_i_StoItem_i_StoItem__i_PlcOk_1_0:Orc := fun _ _ => none
noncomputable def msslices_IndexFunc_i_StoItem_i_StoItem__i_PlcOk_1:List PM := [.rd,.rd]
noncomputable def lsslices_IndexFunc_i_StoItem_i_StoItem__i_PlcOk_1:List (Nat×Code) := loopsAll 0 (Tryd.f101.body.getD .skip)
noncomputable def cslices_IndexFunc_i_StoItem_i_StoItem__i_PlcOk_1_0:Code := (loopOf 0 (Tryd.f101.body.getD .skip)).getD .skip
theorem lseqslices_IndexFunc_i_StoItem_i_StoItem__i_PlcOk_1:lsslices_IndexFunc_i_StoItem_i_StoItem__i_PlcOk_1 = [(0,cslices_IndexFunc_i_StoItem_i_StoItem__i_PlcOk_1_0)] := by kernel_rfl
theorem mslices_IndexFunc_i_StoItem_i_StoItem__i_PlcOk_1_0:∀ p,p ∈ lsslices_IndexFunc_i_StoItem_i_StoItem__i_PlcOk_1 → p.1 = 0 → p.2 = cslices_IndexFunc_i_StoItem_i_StoItem__i_PlcOk_1_0 := by
 intro p hp
 rw [lseqslices_IndexFunc_i_StoItem_i_StoItem__i_PlcOk_1] at hp
 simp only [List.mem_cons,List.not_mem_nil,or_false] at hp
 subst hp; simp
theorem kslices_IndexFunc_i_StoItem_i_StoItem__i_PlcOk_1_0:OrcOk Eslices_IndexFunc_i_StoItem_i_StoItem__i_PlcOk_1 Oslices_IndexFunc_i_StoItem_i_StoItem__i_PlcOk_1_0 lsslices_IndexFunc_i_StoItem_i_StoItem__i_PlcOk_1 0 := orcOk_none
noncomputable def hslices_IndexFunc_i_StoItem_i_StoItem__i_PlcOk_1_0 (y0:List (ByteArray×(List Int))) (y1:Int) (y2:Int) (y3:Int):List (Pl×LV) := [(.T 0,.t (.val false [.sl .any 42 (.pair .str (.sl 3 (.int .i64))) y0])),(.T 1,.t (.val false [.fn 69 [.sptr (.int .i64) y1 0]])),(.T 7,.t (.val false [.int .i64 y2])),(.T 8,.t (.val false [.int .i64 y3]))]
noncomputable def g_Sslices_IndexFunc_i_StoItem_i_StoItem__i_PlcOk_1_0 (y0:List (ByteArray×(List Int))) (y1:Int) (y2:Int):(Int) → RT (Int) ((Int) ⊕ (Unit))
 | y3 => .br (true) (.br (decide (y3 < y2)) (.br (decide ((0:Int) ≤ y3 ∧ y3 < (↑(List.length y0):Int))) (.br (g_Ai_PlcOk_1 (at_ (Ty.pair Ty.str (Ty.sl (nat_lit 3) (Ty.int IntKind.i64))) y0 (Int.toNat y3)).1 (at_ (Ty.pair Ty.str (Ty.sl (nat_lit 3) (Ty.int IntKind.i64))) y0 (Int.toNat y3)).2 y1) (.br (!g_Vi_itemOk_0 y1 (at_ (Ty.pair Ty.str (Ty.sl (nat_lit 3) (Ty.int IntKind.i64))) y0 (Int.toNat y3)).1 (at_ (Ty.pair Ty.str (Ty.sl (nat_lit 3) (Ty.int IntKind.i64))) y0 (Int.toNat y3)).2) (.out (.inl y3)) (.br (true) (.go (IntKind.wrap IntKind.i64 (y3 + (1:Int)))) .bad)) .bad) .bad) (.out (.inr (())))) .bad
noncomputable def g_Lslices_IndexFunc_i_StoItem_i_StoItem__i_PlcOk_1_0 (y0:List (ByteArray×(List Int))) (y1:Int) (y2:Int) (x:Int):Option ((Int) ⊕ (Unit)) := loopO (g_Sslices_IndexFunc_i_StoItem_i_StoItem__i_PlcOk_1_0 y0 y1 y2) x
noncomputable def xslices_IndexFunc_i_StoItem_i_StoItem__i_PlcOk_1_0 (y0:List (ByteArray×(List Int))) (y1:Int) (y2:Int):((Int) ⊕ (Unit)) → Ex×List (Pl×LV) := fun
 | .inl r => (.ret,[(.T 4,.t (.val false [.int .i64 r]))])
 | .inr (r) => (.exit 0,[(.T 4,.t (.val false [.undef]))])
noncomputable def Oslices_IndexFunc_i_StoItem_i_StoItem__i_PlcOk_1_1:Orc := fun b h => match b,h with
 | 0,[(.T 0,.t (.val false [.sl .any 42 (.pair .str (.sl 3 (.int .i64))) y0])),(.T 1,.t (.val false [.fn 69 [.sptr (.int .i64) y1 0]])),(.T 7,.t (.val false [.int .i64 y2])),(.T 8,.t (.val false [.int .i64 y3]))] => some (okO (g_Lslices_IndexFunc_i_StoItem_i_StoItem__i_PlcOk_1_0 y0 y1 y2 y3),(.br (isL (valO (g_Lslices_IndexFunc_i_StoItem_i_StoItem__i_PlcOk_1_0 y0 y1 y2 y3))) (.leaf .ret [(.T 4,.t (.val false [.int .i64 (getL (valO (g_Lslices_IndexFunc_i_StoItem_i_StoItem__i_PlcOk_1_0 y0 y1 y2 y3)))]))]) (.leaf (.exit 0) [(.T 4,.t (.val false [.undef]))])))
 | b,h => Oslices_IndexFunc_i_StoItem_i_StoItem__i_PlcOk_1_0 b h
theorem bslices_IndexFunc_i_StoItem_i_StoItem__i_PlcOk_1_0 (y0:List (ByteArray×(List Int))) (y1:Int) (y2:Int) (y3:Int):Tr.bt Eslices_IndexFunc_i_StoItem_i_StoItem__i_PlcOk_1 Oslices_IndexFunc_i_StoItem_i_StoItem__i_PlcOk_1_0 (exec Eslices_IndexFunc_i_StoItem_i_StoItem__i_PlcOk_1 0 cslices_IndexFunc_i_StoItem_i_StoItem__i_PlcOk_1_0 (St.of (hslices_IndexFunc_i_StoItem_i_StoItem__i_PlcOk_1_0 y0 y1 y2 y3)) (leafRd Eslices_IndexFunc_i_StoItem_i_StoItem__i_PlcOk_1 0)) = (g_Sslices_IndexFunc_i_StoItem_i_StoItem__i_PlcOk_1_0 y0 y1 y2 y3).bt (fun (y3:Int) => (hslices_IndexFunc_i_StoItem_i_StoItem__i_PlcOk_1_0 y0 y1 y2 y3)) (xslices_IndexFunc_i_StoItem_i_StoItem__i_PlcOk_1_0 y0 y1 y2) := by kernel_rfl
theorem kslices_IndexFunc_i_StoItem_i_StoItem__i_PlcOk_1_1:OrcOk Eslices_IndexFunc_i_StoItem_i_StoItem__i_PlcOk_1 Oslices_IndexFunc_i_StoItem_i_StoItem__i_PlcOk_1_1 lsslices_IndexFunc_i_StoItem_i_StoItem__i_PlcOk_1 1 := orc_add kslices_IndexFunc_i_StoItem_i_StoItem__i_PlcOk_1_0 (fun n p hp h ex h' ho => by
 obtain ⟨b,c⟩ := p
 obtain ⟨xt,h1,h2⟩ := ho
 have h1:Oslices_IndexFunc_i_StoItem_i_StoItem__i_PlcOk_1_1 b h = some (true,xt) := h1
 unfold Oslices_IndexFunc_i_StoItem_i_StoItem__i_PlcOk_1_1 at h1
 split at h1
 ·injection h1 with h1
  injection h1 with e1 e2
  subst e2
  have hc:c = cslices_IndexFunc_i_StoItem_i_StoItem__i_PlcOk_1_0 := mslices_IndexFunc_i_StoItem_i_StoItem__i_PlcOk_1_0 _ hp rfl
  subst hc
  right
  rename_i y0 y1 y2 y3
  have key := LT_step kslices_IndexFunc_i_StoItem_i_StoItem__i_PlcOk_1_0 hp (fun q hq => loopsAll_in _ _ _ _ hp hq) (fun (y3:Int) => (hslices_IndexFunc_i_StoItem_i_StoItem__i_PlcOk_1_0 y0 y1 y2 y3)) (xslices_IndexFunc_i_StoItem_i_StoItem__i_PlcOk_1_0 y0 y1 y2) (g_Sslices_IndexFunc_i_StoItem_i_StoItem__i_PlcOk_1_0 y0 y1 y2) (fun x => by first | exact bslices_IndexFunc_i_StoItem_i_StoItem__i_PlcOk_1_0 y0 y1 y2 x) n (x := y3) (okO_some e1)
  have hx:∀ r,XT.sel (.br (isL r) (.leaf .ret [(.T 4,.t (.val false [.int .i64 (getL r)]))]) (.leaf (.exit 0) [(.T 4,.t (.val false [.undef]))])) = xslices_IndexFunc_i_StoItem_i_StoItem__i_PlcOk_1_0 y0 y1 y2 r := fun r => by first | rfl | (rcases r with r | r <;> rfl) | (rcases r with r | r | r <;> rfl) | (rcases r with r | r | r | r <;> rfl)
  have h3 := (hx (valO (g_Lslices_IndexFunc_i_StoItem_i_StoItem__i_PlcOk_1_0 y0 y1 y2 y3))).symm.trans h2
  have e3 := congrArg Prod.fst h3
  have e4 := congrArg Prod.snd h3
  simp only at e3 e4
  rw [← e3,← e4]
  exact key
 ·exact .inl ⟨xt,h1,h2⟩)
noncomputable def g_Aslices_IndexFunc_i_StoItem_i_StoItem__i_PlcOk_1 (a0:List (ByteArray×(List Int))) (c0:Int):Bool := okO (g_Lslices_IndexFunc_i_StoItem_i_StoItem__i_PlcOk_1_0 a0 c0 (↑(List.length a0):Int) (0:Int))
noncomputable def g_Vslices_IndexFunc_i_StoItem_i_StoItem__i_PlcOk_1_0 (a0:List (ByteArray×(List Int))) (c0:Int):Int := bif isL (valO (g_Lslices_IndexFunc_i_StoItem_i_StoItem__i_PlcOk_1_0 a0 c0 (↑(List.length a0):Int) (0:Int))) then getL (valO (g_Lslices_IndexFunc_i_StoItem_i_StoItem__i_PlcOk_1_0 a0 c0 (↑(List.length a0):Int) (0:Int))) else (-1:Int)
noncomputable def Fslices_IndexFunc_i_StoItem_i_StoItem__i_PlcOk_1:FSem := fun ys => match ys with
 | [.val false [.sl .any 42 (.pair .str (.sl 3 (.int .i64))) a0],.val false [.fn 69 [.sptr (.int .i64) c0 0]]] => some ((g_Aslices_IndexFunc_i_StoItem_i_StoItem__i_PlcOk_1 a0 c0),.val false [.int .i64 (g_Vslices_IndexFunc_i_StoItem_i_StoItem__i_PlcOk_1_0 a0 c0)],[])
 | _ => none
theorem vslices_IndexFunc_i_StoItem_i_StoItem__i_PlcOk_1 (a0:List (ByteArray×(List Int))) (c0:Int):collapseH .std Eslices_IndexFunc_i_StoItem_i_StoItem__i_PlcOk_1 Oslices_IndexFunc_i_StoItem_i_StoItem__i_PlcOk_1_1 (execFn Eslices_IndexFunc_i_StoItem_i_StoItem__i_PlcOk_1 Tryd.f101 msslices_IndexFunc_i_StoItem_i_StoItem__i_PlcOk_1 [.val false [.sl .any 42 (.pair .str (.sl 3 (.int .i64))) a0],.val false [.fn 69 [.sptr (.int .i64) c0 0]]]) = some ((g_Aslices_IndexFunc_i_StoItem_i_StoItem__i_PlcOk_1 a0 c0),.val false [.int .i64 (g_Vslices_IndexFunc_i_StoItem_i_StoItem__i_PlcOk_1_0 a0 c0)],[]) := by kernel_rfl
theorem sslices_IndexFunc_i_StoItem_i_StoItem__i_PlcOk_1:Sound Tryd.prog 101 msslices_IndexFunc_i_StoItem_i_StoItem__i_PlcOk_1 Fslices_IndexFunc_i_StoItem_i_StoItem__i_PlcOk_1 := by
 refine fn_gen goodslices_IndexFunc_i_StoItem_i_StoItem__i_PlcOk_1 (by kernel_rfl) .std (fn := Tryd.f101) (c := (Tryd.f101.body.getD .skip)) (o := Oslices_IndexFunc_i_StoItem_i_StoItem__i_PlcOk_1_1) (k := 1) (by kernel_rfl) (by kernel_rfl) (by kernel_rfl) (by kernel_rfl) (by decide) kslices_IndexFunc_i_StoItem_i_StoItem__i_PlcOk_1_1 ?_
 intro ys r outs h
 unfold Fslices_IndexFunc_i_StoItem_i_StoItem__i_PlcOk_1 at h
 split at h
 ·exact (vslices_IndexFunc_i_StoItem_i_StoItem__i_PlcOk_1 _ _).trans h
 ·cases h
noncomputable def Eslices_ContainsFunc_i_StoItem_i_StoItem__i_PlcOk_1:Env where
 tt := mkTI Tryd.prog
 fn := fun f => match f with
  | 69 => some (msi_PlcOk_1,FSem.wk msi_PlcOk_1 Fi_PlcOk_1)
  | 101 => some (msslices_IndexFunc_i_StoItem_i_StoItem__i_PlcOk_1,FSem.wk msslices_IndexFunc_i_StoItem_i_StoItem__i_PlcOk_1 Fslices_IndexFunc_i_StoItem_i_StoItem__i_PlcOk_1)
  | _ => none
 bxf := fun _ => none
 mv := []
 keep := fun _ => []
 keepB := fun _ => []
 keepX := fun _ => []
 keepXB := fun _ => []
theorem goodFslices_ContainsFunc_i_StoItem_i_StoItem__i_PlcOk_1:∀ f ms F,Eslices_ContainsFunc_i_StoItem_i_StoItem__i_PlcOk_1.fn f = some (ms,F) → Sound Tryd.prog f ms F := fun f ms F h => by
 unfold Eslices_ContainsFunc_i_StoItem_i_StoItem__i_PlcOk_1 at h
 dsimp only at h
 split at h
 ·injection h with h; injection h with e1 e2; subst e1 e2; exact Sound.wk si_PlcOk_1
 ·injection h with h; injection h with e1 e2; subst e1 e2; exact Sound.wk sslices_IndexFunc_i_StoItem_i_StoItem__i_PlcOk_1
 ·cases h
theorem goodBslices_ContainsFunc_i_StoItem_i_StoItem__i_PlcOk_1:∀ f ms F,Eslices_ContainsFunc_i_StoItem_i_StoItem__i_PlcOk_1.bxf f = some (ms,F) → SoundB Tryd.prog f ms F := fun f ms F h => by cases h
theorem goodslices_ContainsFunc_i_StoItem_i_StoItem__i_PlcOk_1:Good Tryd.prog Eslices_ContainsFunc_i_StoItem_i_StoItem__i_PlcOk_1 := ⟨rfl,goodFslices_ContainsFunc_i_StoItem_i_StoItem__i_PlcOk_1,goodBslices_ContainsFunc_i_StoItem_i_StoItem__i_PlcOk_1⟩
noncomputable def Oslices_ContainsFunc_i_StoItem_i_StoItem__i_PlcOk_1_0:Orc := fun _ _ => none
noncomputable def msslices_ContainsFunc_i_StoItem_i_StoItem__i_PlcOk_1:List PM := [.rd,.rd]
noncomputable def lsslices_ContainsFunc_i_StoItem_i_StoItem__i_PlcOk_1:List (Nat×Code) := loopsAll 0 (Tryd.f72.body.getD .skip)
theorem kslices_ContainsFunc_i_StoItem_i_StoItem__i_PlcOk_1_0:OrcOk Eslices_ContainsFunc_i_StoItem_i_StoItem__i_PlcOk_1 Oslices_ContainsFunc_i_StoItem_i_StoItem__i_PlcOk_1_0 lsslices_ContainsFunc_i_StoItem_i_StoItem__i_PlcOk_1 0 := orcOk_none
noncomputable def g_Aslices_ContainsFunc_i_StoItem_i_StoItem__i_PlcOk_1 (a0:List (ByteArray×(List Int))) (c0:Int):Bool := g_Aslices_IndexFunc_i_StoItem_i_StoItem__i_PlcOk_1 a0 c0&&true
noncomputable def g_Vslices_ContainsFunc_i_StoItem_i_StoItem__i_PlcOk_1_0 (a0:List (ByteArray×(List Int))) (c0:Int):Bool := decide (g_Vslices_IndexFunc_i_StoItem_i_StoItem__i_PlcOk_1_0 a0 c0 ≥ (0:Int))
noncomputable def Fslices_ContainsFunc_i_StoItem_i_StoItem__i_PlcOk_1:FSem := fun ys => match ys with
 | [.val false [.sl .any 42 (.pair .str (.sl 3 (.int .i64))) a0],.val false [.fn 69 [.sptr (.int .i64) c0 0]]] => some ((g_Aslices_ContainsFunc_i_StoItem_i_StoItem__i_PlcOk_1 a0 c0),.val false [.bool (g_Vslices_ContainsFunc_i_StoItem_i_StoItem__i_PlcOk_1_0 a0 c0)],[])
 | _ => none
theorem vslices_ContainsFunc_i_StoItem_i_StoItem__i_PlcOk_1 (a0:List (ByteArray×(List Int))) (c0:Int):collapseH .std Eslices_ContainsFunc_i_StoItem_i_StoItem__i_PlcOk_1 Oslices_ContainsFunc_i_StoItem_i_StoItem__i_PlcOk_1_0 (execFn Eslices_ContainsFunc_i_StoItem_i_StoItem__i_PlcOk_1 Tryd.f72 msslices_ContainsFunc_i_StoItem_i_StoItem__i_PlcOk_1 [.val false [.sl .any 42 (.pair .str (.sl 3 (.int .i64))) a0],.val false [.fn 69 [.sptr (.int .i64) c0 0]]]) = some ((g_Aslices_ContainsFunc_i_StoItem_i_StoItem__i_PlcOk_1 a0 c0),.val false [.bool (g_Vslices_ContainsFunc_i_StoItem_i_StoItem__i_PlcOk_1_0 a0 c0)],[]) := by kernel_rfl
theorem sslices_ContainsFunc_i_StoItem_i_StoItem__i_PlcOk_1:Sound Tryd.prog 72 msslices_ContainsFunc_i_StoItem_i_StoItem__i_PlcOk_1 Fslices_ContainsFunc_i_StoItem_i_StoItem__i_PlcOk_1 := by
 refine fn_gen goodslices_ContainsFunc_i_StoItem_i_StoItem__i_PlcOk_1 (by kernel_rfl) .std (fn := Tryd.f72) (c := (Tryd.f72.body.getD .skip)) (o := Oslices_ContainsFunc_i_StoItem_i_StoItem__i_PlcOk_1_0) (k := 0) (by kernel_rfl) (by kernel_rfl) (by kernel_rfl) (by kernel_rfl) (by decide) kslices_ContainsFunc_i_StoItem_i_StoItem__i_PlcOk_1_0 ?_
 intro ys r outs h
 unfold Fslices_ContainsFunc_i_StoItem_i_StoItem__i_PlcOk_1 at h
 split at h
 ·exact (vslices_ContainsFunc_i_StoItem_i_StoItem__i_PlcOk_1 _ _).trans h
 ·cases h
noncomputable def Ei_PlcOk:Env where
 tt := mkTI Tryd.prog
 fn := fun f => match f with
  | 39 => some (msi_StoOk,FSem.wk msi_StoOk Fi_StoOk)
  | 71 => some (msi_isService,FSem.wk msi_isService Fi_isService)
  | 72 => some (msslices_ContainsFunc_i_StoItem_i_StoItem__i_PlcOk_1,FSem.wk msslices_ContainsFunc_i_StoItem_i_StoItem__i_PlcOk_1 Fslices_ContainsFunc_i_StoItem_i_StoItem__i_PlcOk_1)
  | _ => none
 bxf := fun _ => none
 mv := []
 keep := fun _ => []
 keepB := fun _ => []
 keepX := fun _ => []
 keepXB := fun _ => []
theorem goodFi_PlcOk:∀ f ms F,Ei_PlcOk.fn f = some (ms,F) → Sound Tryd.prog f ms F := fun f ms F h => by
 unfold Ei_PlcOk at h
 dsimp only at h
 split at h
 ·injection h with h; injection h with e1 e2; subst e1 e2; exact Sound.wk si_StoOk
 ·injection h with h; injection h with e1 e2; subst e1 e2; exact Sound.wk si_isService
 ·injection h with h; injection h with e1 e2; subst e1 e2; exact Sound.wk sslices_ContainsFunc_i_StoItem_i_StoItem__i_PlcOk_1
 ·cases h
theorem goodBi_PlcOk:∀ f ms F,Ei_PlcOk.bxf f = some (ms,F) → SoundB Tryd.prog f ms F := fun f ms F h => by cases h
theorem goodi_PlcOk:Good Tryd.prog Ei_PlcOk := ⟨rfl,goodFi_PlcOk,goodBi_PlcOk⟩
noncomputable def Oi_PlcOk_0:Orc := fun _ _ => none
noncomputable def msi_PlcOk:List PM := [.own,.rd]
noncomputable def lsi_PlcOk:List (Nat×Code) := loopsAll 0 (Tryd.f34.body.getD .skip)
theorem ki_PlcOk_0:OrcOk Ei_PlcOk Oi_PlcOk_0 lsi_PlcOk 0 := orcOk_none
noncomputable def g_Ai_PlcOk (a0:Int) (a1:List (ByteArray×(List Int))):Bool := g_Ai_isService a0&&(!g_Vi_isService_0 a0 || g_Ai_StoOk a1&&(!g_Vi_StoOk_0 a1 || g_Aslices_ContainsFunc_i_StoItem_i_StoItem__i_PlcOk_1 a1 a0))
noncomputable def g_Vi_PlcOk_0 (a0:Int) (a1:List (ByteArray×(List Int))):Bool := bif g_Vi_isService_0 a0 then bif g_Vi_StoOk_0 a1 then !g_Vslices_ContainsFunc_i_StoItem_i_StoItem__i_PlcOk_1_0 a1 a0 else false else false
noncomputable def Fi_PlcOk:FSem := fun ys => match ys with
 | [.val false [.int .i64 a0],.val true [.sl .any 42 (.pair .str (.sl 3 (.int .i64))) a1]] => some ((g_Ai_PlcOk a0 a1),.val false [.bool (g_Vi_PlcOk_0 a0 a1)],[])
 | _ => none
theorem vi_PlcOk (a0:Int) (a1:List (ByteArray×(List Int))):collapseH .std Ei_PlcOk Oi_PlcOk_0 (execFn Ei_PlcOk Tryd.f34 msi_PlcOk [.val false [.int .i64 a0],.val true [.sl .any 42 (.pair .str (.sl 3 (.int .i64))) a1]]) = some ((g_Ai_PlcOk a0 a1),.val false [.bool (g_Vi_PlcOk_0 a0 a1)],[]) := by kernel_rfl
theorem si_PlcOk:Sound Tryd.prog 34 msi_PlcOk Fi_PlcOk := by
 refine fn_gen goodi_PlcOk (by kernel_rfl) .std (fn := Tryd.f34) (c := (Tryd.f34.body.getD .skip)) (o := Oi_PlcOk_0) (k := 0) (by kernel_rfl) (by kernel_rfl) (by kernel_rfl) (by kernel_rfl) (by decide) ki_PlcOk_0 ?_
 intro ys r outs h
 unfold Fi_PlcOk at h
 split at h
 ·exact (vi_PlcOk _ _).trans h
 ·cases h
noncomputable def Ei_GloOk:Env where
 tt := mkTI Tryd.prog
 fn := fun f => match f with
  | 34 => some (msi_PlcOk,FSem.wk msi_PlcOk Fi_PlcOk)
  | _ => none
 bxf := fun _ => none
 mv := []
 keep := fun b => match b with
  | 0 => [(0,false),(5,false),(6,false),(7,false)]
  | _ => []
 keepB := fun b => match b with
  | 0 => []
  | _ => []
 keepX := fun b => match b with
  | 0 => [(0,false),(2,false)]
  | _ => []
 keepXB := fun b => match b with
  | 0 => []
  | _ => []
theorem goodFi_GloOk:∀ f ms F,Ei_GloOk.fn f = some (ms,F) → Sound Tryd.prog f ms F := fun f ms F h => by
 unfold Ei_GloOk at h
 dsimp only at h
 split at h
 ·injection h with h; injection h with e1 e2; subst e1 e2; exact Sound.wk si_PlcOk
 ·cases h
theorem goodBi_GloOk:∀ f ms F,Ei_GloOk.bxf f = some (ms,F) → SoundB Tryd.prog f ms F := fun f ms F h => by cases h
theorem goodi_GloOk:Good Tryd.prog Ei_GloOk := ⟨rfl,goodFi_GloOk,goodBi_GloOk⟩
noncomputable def Oi_GloOk_0:Orc := fun _ _ => none
noncomputable def msi_GloOk:List PM := [.rd]
noncomputable def lsi_GloOk:List (Nat×Code) := loopsAll 0 (Tryd.f15.body.getD .skip)
noncomputable def ci_GloOk_0:Code := (loopOf 0 (Tryd.f15.body.getD .skip)).getD .skip
theorem lseqi_GloOk:lsi_GloOk = [(0,ci_GloOk_0)] := by kernel_rfl
theorem mi_GloOk_0:∀ p,p ∈ lsi_GloOk → p.1 = 0 → p.2 = ci_GloOk_0 := by
 intro p hp
 rw [lseqi_GloOk] at hp
 simp only [List.mem_cons,List.not_mem_nil,or_false] at hp
 subst hp; simp
theorem ki_GloOk_0:OrcOk Ei_GloOk Oi_GloOk_0 lsi_GloOk 0 := orcOk_none
noncomputable def hi_GloOk_0 (y0:List (List (ByteArray×(List Int)))) (y1:List (List (ByteArray×(List Int)))) (y2:Int) (y3:Int):List (Pl×LV) := [(.T 0,.t (.val false [.sl .any 32 (.sl 42 (.pair .str (.sl 3 (.int .i64)))) y0])),(.T 5,.t (.val false [.sl .any 32 (.sl 42 (.pair .str (.sl 3 (.int .i64)))) y1])),(.T 6,.t (.val false [.int .i64 y2])),(.T 7,.t (.val false [.int .i64 y3]))]
noncomputable def g_Si_GloOk_0 (y0:List (List (ByteArray×(List Int)))) (y1:List (List (ByteArray×(List Int)))) (y2:Int):(Int) → RT (Int) ((Bool) ⊕ (Unit))
 | y3 => .br (true) (.br (decide (y3 < y2)) (.br (decide ((0:Int) ≤ y3 ∧ y3 < (↑(List.length y1):Int))) (.br (true) (.br (g_Ai_PlcOk (IntKind.wrap IntKind.i64 (y3 + (1:Int))) (at_ (Ty.sl (nat_lit 42) (Ty.pair Ty.str (Ty.sl (nat_lit 3) (Ty.int IntKind.i64)))) y1 (Int.toNat y3))) (.br (!g_Vi_PlcOk_0 (IntKind.wrap IntKind.i64 (y3 + (1:Int))) (at_ (Ty.sl (nat_lit 42) (Ty.pair Ty.str (Ty.sl (nat_lit 3) (Ty.int IntKind.i64)))) y1 (Int.toNat y3))) (.out (.inl false)) (.br (true) (.go (IntKind.wrap IntKind.i64 (y3 + (1:Int)))) .bad)) .bad) .bad) .bad) (.out (.inr (())))) .bad
noncomputable def g_Li_GloOk_0 (y0:List (List (ByteArray×(List Int)))) (y1:List (List (ByteArray×(List Int)))) (y2:Int) (x:Int):Option ((Bool) ⊕ (Unit)) := loopO (g_Si_GloOk_0 y0 y1 y2) x
noncomputable def xi_GloOk_0 (y0:List (List (ByteArray×(List Int)))) (y1:List (List (ByteArray×(List Int)))) (y2:Int):((Bool) ⊕ (Unit)) → Ex×List (Pl×LV) := fun
 | .inl r => (.ret,[(.T 0,.t (.val false [.sl .any 32 (.sl 42 (.pair .str (.sl 3 (.int .i64)))) y0])),(.T 2,.t (.val false [.bool r]))])
 | .inr (r) => (.exit 0,[(.T 0,.t (.val false [.sl .any 32 (.sl 42 (.pair .str (.sl 3 (.int .i64)))) y0])),(.T 2,.t (.val false [.undef]))])
noncomputable def Oi_GloOk_1:Orc := fun b h => match b,h with
 | 0,[(.T 0,.t (.val false [.sl .any 32 (.sl 42 (.pair .str (.sl 3 (.int .i64)))) y0])),(.T 5,.t (.val false [.sl .any 32 (.sl 42 (.pair .str (.sl 3 (.int .i64)))) y1])),(.T 6,.t (.val false [.int .i64 y2])),(.T 7,.t (.val false [.int .i64 y3]))] => some (okO (g_Li_GloOk_0 y0 y1 y2 y3),(.br (isL (valO (g_Li_GloOk_0 y0 y1 y2 y3))) (.leaf .ret [(.T 0,.t (.val false [.sl .any 32 (.sl 42 (.pair .str (.sl 3 (.int .i64)))) y0])),(.T 2,.t (.val false [.bool (getL (valO (g_Li_GloOk_0 y0 y1 y2 y3)))]))]) (.leaf (.exit 0) [(.T 0,.t (.val false [.sl .any 32 (.sl 42 (.pair .str (.sl 3 (.int .i64)))) y0])),(.T 2,.t (.val false [.undef]))])))
 | b,h => Oi_GloOk_0 b h
theorem bi_GloOk_0 (y0:List (List (ByteArray×(List Int)))) (y1:List (List (ByteArray×(List Int)))) (y2:Int) (y3:Int):Tr.bt Ei_GloOk Oi_GloOk_0 (exec Ei_GloOk 0 ci_GloOk_0 (St.of (hi_GloOk_0 y0 y1 y2 y3)) (leafRd Ei_GloOk 0)) = (g_Si_GloOk_0 y0 y1 y2 y3).bt (fun (y3:Int) => (hi_GloOk_0 y0 y1 y2 y3)) (xi_GloOk_0 y0 y1 y2) := by kernel_rfl
theorem ki_GloOk_1:OrcOk Ei_GloOk Oi_GloOk_1 lsi_GloOk 1 := orc_add ki_GloOk_0 (fun n p hp h ex h' ho => by
 obtain ⟨b,c⟩ := p
 obtain ⟨xt,h1,h2⟩ := ho
 have h1:Oi_GloOk_1 b h = some (true,xt) := h1
 unfold Oi_GloOk_1 at h1
 split at h1
 ·injection h1 with h1
  injection h1 with e1 e2
  subst e2
  have hc:c = ci_GloOk_0 := mi_GloOk_0 _ hp rfl
  subst hc
  right
  rename_i y0 y1 y2 y3
  have key := LT_step ki_GloOk_0 hp (fun q hq => loopsAll_in _ _ _ _ hp hq) (fun (y3:Int) => (hi_GloOk_0 y0 y1 y2 y3)) (xi_GloOk_0 y0 y1 y2) (g_Si_GloOk_0 y0 y1 y2) (fun x => by first | exact bi_GloOk_0 y0 y1 y2 x) n (x := y3) (okO_some e1)
  have hx:∀ r,XT.sel (.br (isL r) (.leaf .ret [(.T 0,.t (.val false [.sl .any 32 (.sl 42 (.pair .str (.sl 3 (.int .i64)))) y0])),(.T 2,.t (.val false [.bool (getL r)]))]) (.leaf (.exit 0) [(.T 0,.t (.val false [.sl .any 32 (.sl 42 (.pair .str (.sl 3 (.int .i64)))) y0])),(.T 2,.t (.val false [.undef]))])) = xi_GloOk_0 y0 y1 y2 r := fun r => by first | rfl | (rcases r with r | r <;> rfl) | (rcases r with r | r | r <;> rfl) | (rcases r with r | r | r | r <;> rfl)
  have h3 := (hx (valO (g_Li_GloOk_0 y0 y1 y2 y3))).symm.trans h2
  have e3 := congrArg Prod.fst h3
  have e4 := congrArg Prod.snd h3
  simp only at e3 e4
  rw [← e3,← e4]
  exact key
 ·exact .inl ⟨xt,h1,h2⟩)
noncomputable def g_Ai_GloOk (a0:List (List (ByteArray×(List Int)))):Bool := okO (g_Li_GloOk_0 a0 a0 (↑(List.length a0):Int) (0:Int))&&(isL (valO (g_Li_GloOk_0 a0 a0 (↑(List.length a0):Int) (0:Int))) || true)
noncomputable def g_Vi_GloOk_0 (a0:List (List (ByteArray×(List Int)))):Bool := bif isL (valO (g_Li_GloOk_0 a0 a0 (↑(List.length a0):Int) (0:Int))) then getL (valO (g_Li_GloOk_0 a0 a0 (↑(List.length a0):Int) (0:Int))) else (↑(List.length a0):Int) == (3:Int)
noncomputable def Fi_GloOk:FSem := fun ys => match ys with
 | [.val false [.sl .any 32 (.sl 42 (.pair .str (.sl 3 (.int .i64)))) a0]] => some ((g_Ai_GloOk a0),.val false [.bool (g_Vi_GloOk_0 a0)],[])
 | _ => none
theorem vi_GloOk (a0:List (List (ByteArray×(List Int)))):collapseH .std Ei_GloOk Oi_GloOk_1 (execFn Ei_GloOk Tryd.f15 msi_GloOk [.val false [.sl .any 32 (.sl 42 (.pair .str (.sl 3 (.int .i64)))) a0]]) = some ((g_Ai_GloOk a0),.val false [.bool (g_Vi_GloOk_0 a0)],[]) := by kernel_rfl
theorem si_GloOk:Sound Tryd.prog 15 msi_GloOk Fi_GloOk := by
 refine fn_gen goodi_GloOk (by kernel_rfl) .std (fn := Tryd.f15) (c := (Tryd.f15.body.getD .skip)) (o := Oi_GloOk_1) (k := 1) (by kernel_rfl) (by kernel_rfl) (by kernel_rfl) (by kernel_rfl) (by decide) ki_GloOk_1 ?_
 intro ys r outs h
 unfold Fi_GloOk at h
 split at h
 ·exact (vi_GloOk _).trans h
 ·cases h
noncomputable def Ei_OpOk_1:Env where
 tt := mkTI Tryd.prog
 fn := fun f => match f with
  | 56 => some (msi_in,FSem.wk msi_in Fi_in)
  | _ => none
 bxf := fun _ => none
 mv := []
 keep := fun _ => []
 keepB := fun _ => []
 keepX := fun _ => []
 keepXB := fun _ => []
theorem goodFi_OpOk_1:∀ f ms F,Ei_OpOk_1.fn f = some (ms,F) → Sound Tryd.prog f ms F := fun f ms F h => by
 unfold Ei_OpOk_1 at h
 dsimp only at h
 split at h
 ·injection h with h; injection h with e1 e2; subst e1 e2; exact Sound.wk si_in
 ·cases h
theorem goodBi_OpOk_1:∀ f ms F,Ei_OpOk_1.bxf f = some (ms,F) → SoundB Tryd.prog f ms F := fun f ms F h => by cases h
theorem goodi_OpOk_1:Good Tryd.prog Ei_OpOk_1 := ⟨rfl,goodFi_OpOk_1,goodBi_OpOk_1⟩
noncomputable def Oi_OpOk_1_0:Orc := fun _ _ => none
noncomputable def msi_OpOk_1:List PM := [.own]
noncomputable def lsi_OpOk_1:List (Nat×Code) := loopsAll 0 (Tryd.f55.body.getD .skip)
theorem ki_OpOk_1_0:OrcOk Ei_OpOk_1 Oi_OpOk_1_0 lsi_OpOk_1 0 := orcOk_none
noncomputable def g_Ai_OpOk_1 (a0:Int):Bool := g_Ai_in a0 (0:Int) (9:Int)
noncomputable def g_Vi_OpOk_1_0 (a0:Int):Bool := g_Vi_in_0 a0 (0:Int) (9:Int)
noncomputable def Fi_OpOk_1:FSem := fun ys => match ys with
 | [.val false [.int .i64 a0]] => some ((g_Ai_OpOk_1 a0),.val false [.bool (g_Vi_OpOk_1_0 a0)],[])
 | _ => none
theorem vi_OpOk_1 (a0:Int):collapseH .std Ei_OpOk_1 Oi_OpOk_1_0 (execFn Ei_OpOk_1 Tryd.f55 msi_OpOk_1 [.val false [.int .i64 a0]]) = some ((g_Ai_OpOk_1 a0),.val false [.bool (g_Vi_OpOk_1_0 a0)],[]) := by kernel_rfl
theorem si_OpOk_1:Sound Tryd.prog 55 msi_OpOk_1 Fi_OpOk_1 := by
 refine fn_gen goodi_OpOk_1 (by kernel_rfl) .std (fn := Tryd.f55) (c := (Tryd.f55.body.getD .skip)) (o := Oi_OpOk_1_0) (k := 0) (by kernel_rfl) (by kernel_rfl) (by kernel_rfl) (by kernel_rfl) (by decide) ki_OpOk_1_0 ?_
 intro ys r outs h
 unfold Fi_OpOk_1 at h
 split at h
 ·exact (vi_OpOk_1 _).trans h
 ·cases h
noncomputable def Ei_OpOk_2:Env where
 tt := mkTI Tryd.prog
 fn := fun f => match f with
  | 56 => some (msi_in,FSem.wk msi_in Fi_in)
  | _ => none
 bxf := fun _ => none
 mv := []
 keep := fun _ => []
 keepB := fun _ => []
 keepX := fun _ => []
 keepXB := fun _ => []
theorem goodFi_OpOk_2:∀ f ms F,Ei_OpOk_2.fn f = some (ms,F) → Sound Tryd.prog f ms F := fun f ms F h => by
 unfold Ei_OpOk_2 at h
 dsimp only at h
 split at h
 ·injection h with h; injection h with e1 e2; subst e1 e2; exact Sound.wk si_in
 ·cases h
theorem goodBi_OpOk_2:∀ f ms F,Ei_OpOk_2.bxf f = some (ms,F) → SoundB Tryd.prog f ms F := fun f ms F h => by cases h
theorem goodi_OpOk_2:Good Tryd.prog Ei_OpOk_2 := ⟨rfl,goodFi_OpOk_2,goodBi_OpOk_2⟩
noncomputable def Oi_OpOk_2_0:Orc := fun _ _ => none
noncomputable def msi_OpOk_2:List PM := [.own]
noncomputable def lsi_OpOk_2:List (Nat×Code) := loopsAll 0 (Tryd.f57.body.getD .skip)
theorem ki_OpOk_2_0:OrcOk Ei_OpOk_2 Oi_OpOk_2_0 lsi_OpOk_2 0 := orcOk_none
noncomputable def g_Ai_OpOk_2 (a0:Int):Bool := g_Ai_in a0 (0:Int) (99:Int)
noncomputable def g_Vi_OpOk_2_0 (a0:Int):Bool := g_Vi_in_0 a0 (0:Int) (99:Int)
noncomputable def Fi_OpOk_2:FSem := fun ys => match ys with
 | [.val false [.int .i64 a0]] => some ((g_Ai_OpOk_2 a0),.val false [.bool (g_Vi_OpOk_2_0 a0)],[])
 | _ => none
theorem vi_OpOk_2 (a0:Int):collapseH .std Ei_OpOk_2 Oi_OpOk_2_0 (execFn Ei_OpOk_2 Tryd.f57 msi_OpOk_2 [.val false [.int .i64 a0]]) = some ((g_Ai_OpOk_2 a0),.val false [.bool (g_Vi_OpOk_2_0 a0)],[]) := by kernel_rfl
theorem si_OpOk_2:Sound Tryd.prog 57 msi_OpOk_2 Fi_OpOk_2 := by
 refine fn_gen goodi_OpOk_2 (by kernel_rfl) .std (fn := Tryd.f57) (c := (Tryd.f57.body.getD .skip)) (o := Oi_OpOk_2_0) (k := 0) (by kernel_rfl) (by kernel_rfl) (by kernel_rfl) (by kernel_rfl) (by decide) ki_OpOk_2_0 ?_
 intro ys r outs h
 unfold Fi_OpOk_2 at h
 split at h
 ·exact (vi_OpOk_2 _).trans h
 ·cases h
noncomputable def Ei_OpOk:Env where
 tt := mkTI Tryd.prog
 fn := fun f => match f with
  | 55 => some (msi_OpOk_1,FSem.wk msi_OpOk_1 Fi_OpOk_1)
  | 57 => some (msi_OpOk_2,FSem.wk msi_OpOk_2 Fi_OpOk_2)
  | _ => none
 bxf := fun _ => none
 mv := []
 keep := fun _ => []
 keepB := fun _ => []
 keepX := fun _ => []
 keepXB := fun _ => []
theorem goodFi_OpOk:∀ f ms F,Ei_OpOk.fn f = some (ms,F) → Sound Tryd.prog f ms F := fun f ms F h => by
 unfold Ei_OpOk at h
 dsimp only at h
 split at h
 ·injection h with h; injection h with e1 e2; subst e1 e2; exact Sound.wk si_OpOk_1
 ·injection h with h; injection h with e1 e2; subst e1 e2; exact Sound.wk si_OpOk_2
 ·cases h
theorem goodBi_OpOk:∀ f ms F,Ei_OpOk.bxf f = some (ms,F) → SoundB Tryd.prog f ms F := fun f ms F h => by cases h
theorem goodi_OpOk:Good Tryd.prog Ei_OpOk := ⟨rfl,goodFi_OpOk,goodBi_OpOk⟩
noncomputable def Oi_OpOk_0:Orc := fun _ _ => none
noncomputable def msi_OpOk:List PM := [.own]
noncomputable def lsi_OpOk:List (Nat×Code) := loopsAll 0 (Tryd.f28.body.getD .skip)
theorem ki_OpOk_0:OrcOk Ei_OpOk Oi_OpOk_0 lsi_OpOk 0 := orcOk_none
noncomputable def g_Ai_OpOk (a0:Int) (a1:Int) (a2:Int) (a3:Int) (a4:Int) (a5:Int) (a6:Int):Bool := g_Ai_OpOk_1 a1&&(!g_Vi_OpOk_1_0 a1 || g_Ai_OpOk_1 a2&&(!g_Vi_OpOk_1_0 a2 || g_Ai_OpOk_1 a3&&(!g_Vi_OpOk_1_0 a3 || g_Ai_OpOk_1 a5&&(!g_Vi_OpOk_1_0 a5 || g_Ai_OpOk_2 a4&&(!g_Vi_OpOk_2_0 a4 || g_Ai_OpOk_2 a6&&(!g_Vi_OpOk_2_0 a6 || bif a0 == (1:Int) then a0 == (1:Int) || (a0 == (2:Int) || (a0 == (3:Int) || true)) else a0 == (5:Int) || (a0 == (2:Int) || (a0 == (3:Int) || true))))))))
noncomputable def g_Vi_OpOk_0 (a0:Int) (a1:Int) (a2:Int) (a3:Int) (a4:Int) (a5:Int) (a6:Int):Bool := bif !g_Vi_OpOk_1_0 a1 then false else bif !g_Vi_OpOk_1_0 a2 then false else bif !g_Vi_OpOk_1_0 a3 then false else bif !g_Vi_OpOk_1_0 a5 then false else bif !g_Vi_OpOk_2_0 a4 then false else bif !g_Vi_OpOk_2_0 a6 then false else bif a0 == (1:Int) then bif a0 == (1:Int) then a0 == a0&&(a1 == a1&&(a2 == a2&&(a3 == (0:Int)&&(a4 == (0:Int)&&(a5 == (0:Int)&&(a6 == (0:Int)&&true)))))) else bif a0 == (2:Int) then a0 == a0&&(a1 == a1&&(a2 == a2&&(a3 == a3&&(a4 == a4&&(a5 == (0:Int)&&(a6 == (0:Int)&&true)))))) else bif a0 == (3:Int) then a0 == a0&&(a1 == (0:Int)&&(a2 == (0:Int)&&(a3 == a3&&(a4 == a4&&(a5 == a5&&(a6 == (0:Int)&&true)))))) else bif a0 == (4:Int) then a0 == a0&&(a1 == (0:Int)&&(a2 == (0:Int)&&(a3 == (0:Int)&&(a4 == (0:Int)&&(a5 == a5&&(a6 == a6&&true)))))) else false else bif a0 == (5:Int) then a0 == a0&&(a1 == a1&&(a2 == a2&&(a3 == (0:Int)&&(a4 == (0:Int)&&(a5 == (0:Int)&&(a6 == (0:Int)&&true)))))) else bif a0 == (2:Int) then a0 == a0&&(a1 == a1&&(a2 == a2&&(a3 == a3&&(a4 == a4&&(a5 == (0:Int)&&(a6 == (0:Int)&&true)))))) else bif a0 == (3:Int) then a0 == a0&&(a1 == (0:Int)&&(a2 == (0:Int)&&(a3 == a3&&(a4 == a4&&(a5 == a5&&(a6 == (0:Int)&&true)))))) else bif a0 == (4:Int) then a0 == a0&&(a1 == (0:Int)&&(a2 == (0:Int)&&(a3 == (0:Int)&&(a4 == (0:Int)&&(a5 == a5&&(a6 == a6&&true)))))) else false
noncomputable def Fi_OpOk:FSem := fun ys => match ys with
 | [.val true [.int .i64 a0,.int .i64 a1,.int .i64 a2,.int .i64 a3,.int .i64 a4,.int .i64 a5,.int .i64 a6]] => some ((g_Ai_OpOk a0 a1 a2 a3 a4 a5 a6),.val false [.bool (g_Vi_OpOk_0 a0 a1 a2 a3 a4 a5 a6)],[])
 | _ => none
theorem vi_OpOk (a0:Int) (a1:Int) (a2:Int) (a3:Int) (a4:Int) (a5:Int) (a6:Int):collapseH .std Ei_OpOk Oi_OpOk_0 (execFn Ei_OpOk Tryd.f28 msi_OpOk [.val true [.int .i64 a0,.int .i64 a1,.int .i64 a2,.int .i64 a3,.int .i64 a4,.int .i64 a5,.int .i64 a6]]) = some ((g_Ai_OpOk a0 a1 a2 a3 a4 a5 a6),.val false [.bool (g_Vi_OpOk_0 a0 a1 a2 a3 a4 a5 a6)],[]) := by kernel_rfl
theorem si_OpOk:Sound Tryd.prog 28 msi_OpOk Fi_OpOk := by
 refine fn_gen goodi_OpOk (by kernel_rfl) .std (fn := Tryd.f28) (c := (Tryd.f28.body.getD .skip)) (o := Oi_OpOk_0) (k := 0) (by kernel_rfl) (by kernel_rfl) (by kernel_rfl) (by kernel_rfl) (by decide) ki_OpOk_0 ?_
 intro ys r outs h
 unfold Fi_OpOk at h
 split at h
 ·exact (vi_OpOk _ _ _ _ _ _ _).trans h
 ·cases h
noncomputable def Ei_OpPlaces:Env where
 tt := mkTI Tryd.prog
 fn := fun f => match f with
  | 28 => some (msi_OpOk,FSem.wk msi_OpOk Fi_OpOk)
  | _ => none
 bxf := fun _ => none
 mv := []
 keep := fun _ => []
 keepB := fun _ => []
 keepX := fun _ => []
 keepXB := fun _ => []
theorem goodFi_OpPlaces:∀ f ms F,Ei_OpPlaces.fn f = some (ms,F) → Sound Tryd.prog f ms F := fun f ms F h => by
 unfold Ei_OpPlaces at h
 dsimp only at h
 split at h
 ·injection h with h; injection h with e1 e2; subst e1 e2; exact Sound.wk si_OpOk
 ·cases h
theorem goodBi_OpPlaces:∀ f ms F,Ei_OpPlaces.bxf f = some (ms,F) → SoundB Tryd.prog f ms F := fun f ms F h => by cases h
theorem goodi_OpPlaces:Good Tryd.prog Ei_OpPlaces := ⟨rfl,goodFi_OpPlaces,goodBi_OpPlaces⟩
noncomputable def Oi_OpPlaces_0:Orc := fun _ _ => none
noncomputable def msi_OpPlaces:List PM := [.own]
noncomputable def lsi_OpPlaces:List (Nat×Code) := loopsAll 0 (Tryd.f31.body.getD .skip)
theorem ki_OpPlaces_0:OrcOk Ei_OpPlaces Oi_OpPlaces_0 lsi_OpPlaces 0 := orcOk_none
noncomputable def g_Ai_OpPlaces (a0:Int) (a1:Int) (a2:Int) (a3:Int) (a4:Int) (a5:Int) (a6:Int):Bool := g_Ai_OpOk a0 a1 a2 a3 a4 a5 a6&&(!g_Vi_OpOk_0 a0 a1 a2 a3 a4 a5 a6 || (a0 == (1:Int) || (a0 == (2:Int) || true)))
noncomputable def g_Vi_OpPlaces_0 (a0:Int) (a1:Int) (a2:Int) (a3:Int) (a4:Int) (a5:Int) (a6:Int):List Int := bif !g_Vi_OpOk_0 a0 a1 a2 a3 a4 a5 a6 then [] else bif a0 == (1:Int) then [(1:Int),(3:Int)] else bif a0 == (2:Int) then [(1:Int),(2:Int),(3:Int)] else bif a0 == (5:Int) then [(1:Int),(2:Int),(3:Int)] else [(2:Int),(3:Int)]
noncomputable def Fi_OpPlaces:FSem := fun ys => match ys with
 | [.val true [.int .i64 a0,.int .i64 a1,.int .i64 a2,.int .i64 a3,.int .i64 a4,.int .i64 a5,.int .i64 a6]] => some ((g_Ai_OpPlaces a0 a1 a2 a3 a4 a5 a6),.val false [.own .any true 3 (.int .i64) (g_Vi_OpPlaces_0 a0 a1 a2 a3 a4 a5 a6)],[])
 | _ => none
theorem vi_OpPlaces (a0:Int) (a1:Int) (a2:Int) (a3:Int) (a4:Int) (a5:Int) (a6:Int):collapseH .std Ei_OpPlaces Oi_OpPlaces_0 (execFn Ei_OpPlaces Tryd.f31 msi_OpPlaces [.val true [.int .i64 a0,.int .i64 a1,.int .i64 a2,.int .i64 a3,.int .i64 a4,.int .i64 a5,.int .i64 a6]]) = some ((g_Ai_OpPlaces a0 a1 a2 a3 a4 a5 a6),.val false [.own .any true 3 (.int .i64) (g_Vi_OpPlaces_0 a0 a1 a2 a3 a4 a5 a6)],[]) := by kernel_rfl
theorem si_OpPlaces:Sound Tryd.prog 31 msi_OpPlaces Fi_OpPlaces := by
 refine fn_gen goodi_OpPlaces (by kernel_rfl) .std (fn := Tryd.f31) (c := (Tryd.f31.body.getD .skip)) (o := Oi_OpPlaces_0) (k := 0) (by kernel_rfl) (by kernel_rfl) (by kernel_rfl) (by kernel_rfl) (by decide) ki_OpPlaces_0 ?_
 intro ys r outs h
 unfold Fi_OpPlaces at h
 split at h
 ·exact (vi_OpPlaces _ _ _ _ _ _ _).trans h
 ·cases h
def msstrings_Compare:List PM := [.own,.own]
def g_compare (a b:ByteArray):Int := Lib.compareBytes a.data.toList b.data.toList
def Fstrings_Compare:FSem := fun ys => match ys with
 | [.val false [.str a],.val false [.str b]] => some (true,.val false [.int .i64 (g_compare a b)],[])
 | _ => none
theorem sstrings_Compare:Sound Tryd.prog 107 msstrings_Compare Fstrings_Compare := by
 refine sound_plain (by simp [msstrings_Compare]) ⟨_,Tryd.func107,by kernel_rfl,by kernel_rfl⟩ (fun w ys r outs h => ?_)
 unfold Fstrings_Compare at h
 split at h
 ·rename_i a b
  simp only [Option.some.injEq,Prod.mk.injEq,true_and] at h
  obtain ⟨rfl,rfl⟩ := h
  refine ⟨rfl,[.string a,.string b],.int .i64 (g_compare a b),rfl,rfl,?_⟩
  exact Calls.mono (Tryd.strings_Compare a b w) (fun e w' h => ⟨h.1,by rw [h.2]; exact RowKit.Below.refl _ _⟩)
 ·cases h
noncomputable def Ei_StoStore_find_1:Env where
 tt := mkTI Tryd.prog
 fn := fun f => match f with
  | 107 => some (msstrings_Compare,FSem.wk msstrings_Compare Fstrings_Compare)
  | _ => none
 bxf := fun _ => none
 mv := []
 keep := fun _ => []
 keepB := fun _ => []
 keepX := fun _ => []
 keepXB := fun _ => []
theorem goodFi_StoStore_find_1:∀ f ms F,Ei_StoStore_find_1.fn f = some (ms,F) → Sound Tryd.prog f ms F := fun f ms F h => by
 unfold Ei_StoStore_find_1 at h
 dsimp only at h
 split at h
 ·injection h with h; injection h with e1 e2; subst e1 e2; exact Sound.wk sstrings_Compare
 ·cases h
theorem goodBi_StoStore_find_1:∀ f ms F,Ei_StoStore_find_1.bxf f = some (ms,F) → SoundB Tryd.prog f ms F := fun f ms F h => by cases h
theorem goodi_StoStore_find_1:Good Tryd.prog Ei_StoStore_find_1 := ⟨rfl,goodFi_StoStore_find_1,goodBi_StoStore_find_1⟩
noncomputable def Oi_StoStore_find_1_0:Orc := fun _ _ => none
noncomputable def msi_StoStore_find_1:List PM := [.rd,.own]
noncomputable def lsi_StoStore_find_1:List (Nat×Code) := loopsAll 0 (Tryd.f106.body.getD .skip)
theorem ki_StoStore_find_1_0:OrcOk Ei_StoStore_find_1 Oi_StoStore_find_1_0 lsi_StoStore_find_1 0 := orcOk_none
noncomputable def Fi_StoStore_find_1:FSem := fun ys => match ys with
 | [.val true [.str a0,.sl .any 3 (.int .i64) a1],.val false [.str a2]] => some (true,.val false [.int .i64 (g_compare a0 a2)],[])
 | _ => none
theorem vi_StoStore_find_1 (a0:ByteArray) (a1:List Int) (a2:ByteArray):collapseH .std Ei_StoStore_find_1 Oi_StoStore_find_1_0 (execFn Ei_StoStore_find_1 Tryd.f106 msi_StoStore_find_1 [.val true [.str a0,.sl .any 3 (.int .i64) a1],.val false [.str a2]]) = some (true,.val false [.int .i64 (g_compare a0 a2)],[]) := by kernel_rfl
theorem si_StoStore_find_1:Sound Tryd.prog 106 msi_StoStore_find_1 Fi_StoStore_find_1 := by
 refine fn_gen goodi_StoStore_find_1 (by kernel_rfl) .std (fn := Tryd.f106) (c := (Tryd.f106.body.getD .skip)) (o := Oi_StoStore_find_1_0) (k := 0) (by kernel_rfl) (by kernel_rfl) (by kernel_rfl) (by kernel_rfl) (by decide) ki_StoStore_find_1_0 ?_
 intro ys r outs h
 unfold Fi_StoStore_find_1 at h
 split at h
 ·exact (vi_StoStore_find_1 _ _ _).trans h
 ·cases h
noncomputable def Eslices_BinarySearchFunc_i_StoItem_i_StoItem_string__i_StoStore_find_1:Env where
 tt := mkTI Tryd.prog
 fn := fun f => match f with
  | 106 => some (msi_StoStore_find_1,FSem.wk msi_StoStore_find_1 Fi_StoStore_find_1)
  | _ => none
 bxf := fun _ => none
 mv := []
 keep := fun b => match b with
  | 0 => [(0,false),(1,false),(2,false),(8,false),(9,false),(10,false)]
  | _ => []
 keepB := fun b => match b with
  | 0 => []
  | _ => []
 keepX := fun b => match b with
  | 0 => [(0,false),(1,false),(2,false),(8,false),(9,false)]
  | _ => []
 keepXB := fun b => match b with
  | 0 => []
  | _ => []
theorem goodFslices_BinarySearchFunc_i_StoItem_i_StoItem_string__i_StoStore_find_1:∀ f ms F,Eslices_BinarySearchFunc_i_StoItem_i_StoItem_string__i_StoStore_find_1.fn f = some (ms,F) → Sound Tryd.prog f ms F := fun f ms F h => by
 unfold Eslices_BinarySearchFunc_i_StoItem_i_StoItem_string__i_StoStore_find_1 at h
 dsimp only at h
 split at h
 ·injection h with h; injection h with e1 e2; subst e1 e2; exact Sound.wk si_StoStore_find_1
 ·cases h
theorem goodBslices_BinarySearchFunc_i_StoItem_i_StoItem_string__i_StoStore_find_1:∀ f ms F,Eslices_BinarySearchFunc_i_StoItem_i_StoItem_string__i_StoStore_find_1.bxf f = some (ms,F) → SoundB Tryd.prog f ms F := fun f ms F h => by cases h
theorem goodslices_BinarySearchFunc_i_StoItem_i_StoItem_string__i_StoStore_find_1:Good Tryd.prog Eslices_BinarySearchFunc_i_StoItem_i_StoItem_string__i_StoStore_find_1 := ⟨rfl,goodFslices_BinarySearchFunc_i_StoItem_i_StoItem_string__i_StoStore_find_1,goodBslices_BinarySearchFunc_i_StoItem_i_StoItem_string__i_StoStore_find_1⟩
noncomputable def Oslices_BinarySearchFunc_i_StoItem_i_StoItem_string__i_StoStore_find_1_0:Orc := fun _ _ => none
noncomputable def msslices_BinarySearchFunc_i_StoItem_i_StoItem_string__i_StoStore_find_1:List PM := [.rd,.own,.rd]
noncomputable def lsslices_BinarySearchFunc_i_StoItem_i_StoItem_string__i_StoStore_find_1:List (Nat×Code) := loopsAll 0 (Tryd.f105.body.getD .skip)
noncomputable def cslices_BinarySearchFunc_i_StoItem_i_StoItem_string__i_StoStore_find_1_0:Code := (loopOf 0 (Tryd.f105.body.getD .skip)).getD .skip
theorem lseqslices_BinarySearchFunc_i_StoItem_i_StoItem_string__i_StoStore_find_1:lsslices_BinarySearchFunc_i_StoItem_i_StoItem_string__i_StoStore_find_1 = [(0,cslices_BinarySearchFunc_i_StoItem_i_StoItem_string__i_StoStore_find_1_0)] := by kernel_rfl
theorem mslices_BinarySearchFunc_i_StoItem_i_StoItem_string__i_StoStore_find_1_0:∀ p,p ∈ lsslices_BinarySearchFunc_i_StoItem_i_StoItem_string__i_StoStore_find_1 → p.1 = 0 → p.2 = cslices_BinarySearchFunc_i_StoItem_i_StoItem_string__i_StoStore_find_1_0 := by
 intro p hp
 rw [lseqslices_BinarySearchFunc_i_StoItem_i_StoItem_string__i_StoStore_find_1] at hp
 simp only [List.mem_cons,List.not_mem_nil,or_false] at hp
 subst hp; simp
theorem kslices_BinarySearchFunc_i_StoItem_i_StoItem_string__i_StoStore_find_1_0:OrcOk Eslices_BinarySearchFunc_i_StoItem_i_StoItem_string__i_StoStore_find_1 Oslices_BinarySearchFunc_i_StoItem_i_StoItem_string__i_StoStore_find_1_0 lsslices_BinarySearchFunc_i_StoItem_i_StoItem_string__i_StoStore_find_1 0 := orcOk_none
noncomputable def hslices_BinarySearchFunc_i_StoItem_i_StoItem_string__i_StoStore_find_1_0 (y0:List (ByteArray×(List Int))) (y1:ByteArray) (y2:Int) (y3:Int) (y4:Int):List (Pl×LV) := [(.T 0,.t (.val false [.sl .any 42 (.pair .str (.sl 3 (.int .i64))) y0])),(.T 1,.t (.val false [.str y1])),(.T 2,.t (.val false [.fn 106 []])),(.T 8,.t (.val false [.int .i64 y2])),(.T 9,.t (.val false [.int .i64 y3])),(.T 10,.t (.val false [.int .i64 y4]))]
noncomputable def g_Sslices_BinarySearchFunc_i_StoItem_i_StoItem_string__i_StoStore_find_1_0 (y0:List (ByteArray×(List Int))) (y1:ByteArray) (y2:Int):(Int×Int) → RT (Int×Int) ((Int))
 | (y3,y4) => .br (true) (.br (decide (y3 < y4)) (.br (true) (.br (true) (.br (decide ((0:Int) ≤ IntKind.wrap IntKind.i64 (Int.fdiv (IntKind.wrap IntKind.u64 (IntKind.wrap IntKind.i64 (y3 + y4))) (2:Int)) ∧ IntKind.wrap IntKind.i64 (Int.fdiv (IntKind.wrap IntKind.u64 (IntKind.wrap IntKind.i64 (y3 + y4))) (2:Int)) < (↑(List.length y0):Int))) (.br (true) (.br (true) (.br (decide (g_compare (at_ (Ty.pair Ty.str (Ty.sl (nat_lit 3) (Ty.int IntKind.i64))) y0 (Int.toNat (IntKind.wrap IntKind.i64 (Int.fdiv (IntKind.wrap IntKind.u64 (IntKind.wrap IntKind.i64 (y3 + y4))) (2:Int))))).1 y1 < (0:Int))) (.br (true) (.go ((IntKind.wrap IntKind.i64 (IntKind.wrap IntKind.i64 (Int.fdiv (IntKind.wrap IntKind.u64 (IntKind.wrap IntKind.i64 (y3 + y4))) (2:Int)) + (1:Int)),y4))) .bad) (.go ((y3,IntKind.wrap IntKind.i64 (Int.fdiv (IntKind.wrap IntKind.u64 (IntKind.wrap IntKind.i64 (y3 + y4))) (2:Int)))))) .bad) .bad) .bad) .bad) .bad) (.out (y3))) .bad
noncomputable def g_Lslices_BinarySearchFunc_i_StoItem_i_StoItem_string__i_StoStore_find_1_0 (y0:List (ByteArray×(List Int))) (y1:ByteArray) (y2:Int) (x:Int×Int):Option ((Int)) := loopO (g_Sslices_BinarySearchFunc_i_StoItem_i_StoItem_string__i_StoStore_find_1_0 y0 y1 y2) x
noncomputable def xslices_BinarySearchFunc_i_StoItem_i_StoItem_string__i_StoStore_find_1_0 (y0:List (ByteArray×(List Int))) (y1:ByteArray) (y2:Int):((Int)) → Ex×List (Pl×LV) := fun r => (.exit 0,[(.T 0,.t (.val false [.sl .any 42 (.pair .str (.sl 3 (.int .i64))) y0])),(.T 1,.t (.val false [.str y1])),(.T 2,.t (.val false [.fn 106 []])),(.T 8,.t (.val false [.int .i64 y2])),(.T 9,.t (.val false [.int .i64 r]))])
noncomputable def Oslices_BinarySearchFunc_i_StoItem_i_StoItem_string__i_StoStore_find_1_1:Orc := fun b h => match b,h with
 | 0,[(.T 0,.t (.val false [.sl .any 42 (.pair .str (.sl 3 (.int .i64))) y0])),(.T 1,.t (.val false [.str y1])),(.T 2,.t (.val false [.fn 106 []])),(.T 8,.t (.val false [.int .i64 y2])),(.T 9,.t (.val false [.int .i64 y3])),(.T 10,.t (.val false [.int .i64 y4]))] => some (okO (g_Lslices_BinarySearchFunc_i_StoItem_i_StoItem_string__i_StoStore_find_1_0 y0 y1 y2 (y3,y4)),(.leaf (.exit 0) [(.T 0,.t (.val false [.sl .any 42 (.pair .str (.sl 3 (.int .i64))) y0])),(.T 1,.t (.val false [.str y1])),(.T 2,.t (.val false [.fn 106 []])),(.T 8,.t (.val false [.int .i64 y2])),(.T 9,.t (.val false [.int .i64 (valO (g_Lslices_BinarySearchFunc_i_StoItem_i_StoItem_string__i_StoStore_find_1_0 y0 y1 y2 (y3,y4)))]))]))
 | b,h => Oslices_BinarySearchFunc_i_StoItem_i_StoItem_string__i_StoStore_find_1_0 b h
theorem bslices_BinarySearchFunc_i_StoItem_i_StoItem_string__i_StoStore_find_1_0 (y0:List (ByteArray×(List Int))) (y1:ByteArray) (y2:Int) (y3:Int) (y4:Int):Tr.bt Eslices_BinarySearchFunc_i_StoItem_i_StoItem_string__i_StoStore_find_1 Oslices_BinarySearchFunc_i_StoItem_i_StoItem_string__i_StoStore_find_1_0 (exec Eslices_BinarySearchFunc_i_StoItem_i_StoItem_string__i_StoStore_find_1 0 cslices_BinarySearchFunc_i_StoItem_i_StoItem_string__i_StoStore_find_1_0 (St.of (hslices_BinarySearchFunc_i_StoItem_i_StoItem_string__i_StoStore_find_1_0 y0 y1 y2 y3 y4)) (leafRd Eslices_BinarySearchFunc_i_StoItem_i_StoItem_string__i_StoStore_find_1 0)) = (g_Sslices_BinarySearchFunc_i_StoItem_i_StoItem_string__i_StoStore_find_1_0 y0 y1 y2 (y3,y4)).bt (fun ((y3,y4):Int×Int) => (hslices_BinarySearchFunc_i_StoItem_i_StoItem_string__i_StoStore_find_1_0 y0 y1 y2 y3 y4)) (xslices_BinarySearchFunc_i_StoItem_i_StoItem_string__i_StoStore_find_1_0 y0 y1 y2) := by kernel_rfl
theorem kslices_BinarySearchFunc_i_StoItem_i_StoItem_string__i_StoStore_find_1_1:OrcOk Eslices_BinarySearchFunc_i_StoItem_i_StoItem_string__i_StoStore_find_1 Oslices_BinarySearchFunc_i_StoItem_i_StoItem_string__i_StoStore_find_1_1 lsslices_BinarySearchFunc_i_StoItem_i_StoItem_string__i_StoStore_find_1 1 := orc_add kslices_BinarySearchFunc_i_StoItem_i_StoItem_string__i_StoStore_find_1_0 (fun n p hp h ex h' ho => by
 obtain ⟨b,c⟩ := p
 obtain ⟨xt,h1,h2⟩ := ho
 have h1:Oslices_BinarySearchFunc_i_StoItem_i_StoItem_string__i_StoStore_find_1_1 b h = some (true,xt) := h1
 unfold Oslices_BinarySearchFunc_i_StoItem_i_StoItem_string__i_StoStore_find_1_1 at h1
 split at h1
 ·injection h1 with h1
  injection h1 with e1 e2
  subst e2
  have hc:c = cslices_BinarySearchFunc_i_StoItem_i_StoItem_string__i_StoStore_find_1_0 := mslices_BinarySearchFunc_i_StoItem_i_StoItem_string__i_StoStore_find_1_0 _ hp rfl
  subst hc
  right
  rename_i y0 y1 y2 y3 y4
  have key := LT_step kslices_BinarySearchFunc_i_StoItem_i_StoItem_string__i_StoStore_find_1_0 hp (fun q hq => loopsAll_in _ _ _ _ hp hq) (fun ((y3,y4):Int×Int) => (hslices_BinarySearchFunc_i_StoItem_i_StoItem_string__i_StoStore_find_1_0 y0 y1 y2 y3 y4)) (xslices_BinarySearchFunc_i_StoItem_i_StoItem_string__i_StoStore_find_1_0 y0 y1 y2) (g_Sslices_BinarySearchFunc_i_StoItem_i_StoItem_string__i_StoStore_find_1_0 y0 y1 y2) (fun x => by first | exact bslices_BinarySearchFunc_i_StoItem_i_StoItem_string__i_StoStore_find_1_0 y0 y1 y2 x.1 x.2) n (x := (y3,y4)) (okO_some e1)
  have hx:∀ r,XT.sel (.leaf (.exit 0) [(.T 0,.t (.val false [.sl .any 42 (.pair .str (.sl 3 (.int .i64))) y0])),(.T 1,.t (.val false [.str y1])),(.T 2,.t (.val false [.fn 106 []])),(.T 8,.t (.val false [.int .i64 y2])),(.T 9,.t (.val false [.int .i64 r]))]) = xslices_BinarySearchFunc_i_StoItem_i_StoItem_string__i_StoStore_find_1_0 y0 y1 y2 r := fun r => by first | rfl | (rcases r with r | r <;> rfl) | (rcases r with r | r | r <;> rfl) | (rcases r with r | r | r | r <;> rfl)
  have h3 := (hx (valO (g_Lslices_BinarySearchFunc_i_StoItem_i_StoItem_string__i_StoStore_find_1_0 y0 y1 y2 (y3,y4)))).symm.trans h2
  have e3 := congrArg Prod.fst h3
  have e4 := congrArg Prod.snd h3
  simp only at e3 e4
  rw [← e3,← e4]
  exact key
 ·exact .inl ⟨xt,h1,h2⟩)
noncomputable def g_Aslices_BinarySearchFunc_i_StoItem_i_StoItem_string__i_StoStore_find_1 (a0:List (ByteArray×(List Int))) (a1:ByteArray):Bool := okO (g_Lslices_BinarySearchFunc_i_StoItem_i_StoItem_string__i_StoStore_find_1_0 a0 a1 (↑(List.length a0):Int) ((0:Int),(↑(List.length a0):Int)))&&(!decide (valO (g_Lslices_BinarySearchFunc_i_StoItem_i_StoItem_string__i_StoStore_find_1_0 a0 a1 (↑(List.length a0):Int) ((0:Int),(↑(List.length a0):Int))) < (↑(List.length a0):Int)) || decide ((0:Int) ≤ valO (g_Lslices_BinarySearchFunc_i_StoItem_i_StoItem_string__i_StoStore_find_1_0 a0 a1 (↑(List.length a0):Int) ((0:Int),(↑(List.length a0):Int))) ∧ valO (g_Lslices_BinarySearchFunc_i_StoItem_i_StoItem_string__i_StoStore_find_1_0 a0 a1 (↑(List.length a0):Int) ((0:Int),(↑(List.length a0):Int))) < (↑(List.length a0):Int))&&true)
noncomputable def g_Vslices_BinarySearchFunc_i_StoItem_i_StoItem_string__i_StoStore_find_1_0 (a0:List (ByteArray×(List Int))) (a1:ByteArray):Int := bif decide (valO (g_Lslices_BinarySearchFunc_i_StoItem_i_StoItem_string__i_StoStore_find_1_0 a0 a1 (↑(List.length a0):Int) ((0:Int),(↑(List.length a0):Int))) < (↑(List.length a0):Int)) then valO (g_Lslices_BinarySearchFunc_i_StoItem_i_StoItem_string__i_StoStore_find_1_0 a0 a1 (↑(List.length a0):Int) ((0:Int),(↑(List.length a0):Int))) else valO (g_Lslices_BinarySearchFunc_i_StoItem_i_StoItem_string__i_StoStore_find_1_0 a0 a1 (↑(List.length a0):Int) ((0:Int),(↑(List.length a0):Int)))
noncomputable def g_Vslices_BinarySearchFunc_i_StoItem_i_StoItem_string__i_StoStore_find_1_1 (a0:List (ByteArray×(List Int))) (a1:ByteArray):Bool := bif decide (valO (g_Lslices_BinarySearchFunc_i_StoItem_i_StoItem_string__i_StoStore_find_1_0 a0 a1 (↑(List.length a0):Int) ((0:Int),(↑(List.length a0):Int))) < (↑(List.length a0):Int)) then g_compare (at_ (Ty.pair Ty.str (Ty.sl (nat_lit 3) (Ty.int IntKind.i64))) a0 (Int.toNat (valO (g_Lslices_BinarySearchFunc_i_StoItem_i_StoItem_string__i_StoStore_find_1_0 a0 a1 (↑(List.length a0):Int) ((0:Int),(↑(List.length a0):Int)))))).1 a1 == (0:Int) else false
noncomputable def Fslices_BinarySearchFunc_i_StoItem_i_StoItem_string__i_StoStore_find_1:FSem := fun ys => match ys with
 | [.val false [.sl .any 42 (.pair .str (.sl 3 (.int .i64))) a0],.val false [.str a1],.val false [.fn 106 []]] => some ((g_Aslices_BinarySearchFunc_i_StoItem_i_StoItem_string__i_StoStore_find_1 a0 a1),.tup [(false,[.int .i64 (g_Vslices_BinarySearchFunc_i_StoItem_i_StoItem_string__i_StoStore_find_1_0 a0 a1)]),(false,[.bool (g_Vslices_BinarySearchFunc_i_StoItem_i_StoItem_string__i_StoStore_find_1_1 a0 a1)])],[])
 | _ => none
theorem vslices_BinarySearchFunc_i_StoItem_i_StoItem_string__i_StoStore_find_1 (a0:List (ByteArray×(List Int))) (a1:ByteArray):collapseH .std Eslices_BinarySearchFunc_i_StoItem_i_StoItem_string__i_StoStore_find_1 Oslices_BinarySearchFunc_i_StoItem_i_StoItem_string__i_StoStore_find_1_1 (execFn Eslices_BinarySearchFunc_i_StoItem_i_StoItem_string__i_StoStore_find_1 Tryd.f105 msslices_BinarySearchFunc_i_StoItem_i_StoItem_string__i_StoStore_find_1 [.val false [.sl .any 42 (.pair .str (.sl 3 (.int .i64))) a0],.val false [.str a1],.val false [.fn 106 []]]) = some ((g_Aslices_BinarySearchFunc_i_StoItem_i_StoItem_string__i_StoStore_find_1 a0 a1),.tup [(false,[.int .i64 (g_Vslices_BinarySearchFunc_i_StoItem_i_StoItem_string__i_StoStore_find_1_0 a0 a1)]),(false,[.bool (g_Vslices_BinarySearchFunc_i_StoItem_i_StoItem_string__i_StoStore_find_1_1 a0 a1)])],[]) := by kernel_rfl
theorem sslices_BinarySearchFunc_i_StoItem_i_StoItem_string__i_StoStore_find_1:Sound Tryd.prog 105 msslices_BinarySearchFunc_i_StoItem_i_StoItem_string__i_StoStore_find_1 Fslices_BinarySearchFunc_i_StoItem_i_StoItem_string__i_StoStore_find_1 := by
 refine fn_gen goodslices_BinarySearchFunc_i_StoItem_i_StoItem_string__i_StoStore_find_1 (by kernel_rfl) .std (fn := Tryd.f105) (c := (Tryd.f105.body.getD .skip)) (o := Oslices_BinarySearchFunc_i_StoItem_i_StoItem_string__i_StoStore_find_1_1) (k := 1) (by kernel_rfl) (by kernel_rfl) (by kernel_rfl) (by kernel_rfl) (by decide) kslices_BinarySearchFunc_i_StoItem_i_StoItem_string__i_StoStore_find_1_1 ?_
 intro ys r outs h
 unfold Fslices_BinarySearchFunc_i_StoItem_i_StoItem_string__i_StoStore_find_1 at h
 split at h
 ·exact (vslices_BinarySearchFunc_i_StoItem_i_StoItem_string__i_StoStore_find_1 _ _).trans h
 ·cases h
noncomputable def Ei_StoStore_find:Env where
 tt := mkTI Tryd.prog
 fn := fun f => match f with
  | 105 => some (msslices_BinarySearchFunc_i_StoItem_i_StoItem_string__i_StoStore_find_1,FSem.wk msslices_BinarySearchFunc_i_StoItem_i_StoItem_string__i_StoStore_find_1 Fslices_BinarySearchFunc_i_StoItem_i_StoItem_string__i_StoStore_find_1)
  | _ => none
 bxf := fun _ => none
 mv := []
 keep := fun _ => []
 keepB := fun _ => []
 keepX := fun _ => []
 keepXB := fun _ => []
theorem goodFi_StoStore_find:∀ f ms F,Ei_StoStore_find.fn f = some (ms,F) → Sound Tryd.prog f ms F := fun f ms F h => by
 unfold Ei_StoStore_find at h
 dsimp only at h
 split at h
 ·injection h with h; injection h with e1 e2; subst e1 e2; exact Sound.wk sslices_BinarySearchFunc_i_StoItem_i_StoItem_string__i_StoStore_find_1
 ·cases h
theorem goodBi_StoStore_find:∀ f ms F,Ei_StoStore_find.bxf f = some (ms,F) → SoundB Tryd.prog f ms F := fun f ms F h => by cases h
theorem goodi_StoStore_find:Good Tryd.prog Ei_StoStore_find := ⟨rfl,goodFi_StoStore_find,goodBi_StoStore_find⟩
noncomputable def Oi_StoStore_find_0:Orc := fun _ _ => none
noncomputable def msi_StoStore_find:List PM := [.rd,.own]
noncomputable def lsi_StoStore_find:List (Nat×Code) := loopsAll 0 (Tryd.f75.body.getD .skip)
theorem ki_StoStore_find_0:OrcOk Ei_StoStore_find Oi_StoStore_find_0 lsi_StoStore_find 0 := orcOk_none
noncomputable def g_Ai_StoStore_find (a0:List (ByteArray×(List Int))) (a1:ByteArray):Bool := g_Aslices_BinarySearchFunc_i_StoItem_i_StoItem_string__i_StoStore_find_1 a0 a1
noncomputable def Fi_StoStore_find:FSem := fun ys => match ys with
 | [.val true [.sl .any 42 (.pair .str (.sl 3 (.int .i64))) a0],.val false [.str a1]] => some ((g_Ai_StoStore_find a0 a1),.tup [(false,[.int .i64 (g_Vslices_BinarySearchFunc_i_StoItem_i_StoItem_string__i_StoStore_find_1_0 a0 a1)]),(false,[.bool (g_Vslices_BinarySearchFunc_i_StoItem_i_StoItem_string__i_StoStore_find_1_1 a0 a1)])],[])
 | _ => none
theorem vi_StoStore_find (a0:List (ByteArray×(List Int))) (a1:ByteArray):collapseH .std Ei_StoStore_find Oi_StoStore_find_0 (execFn Ei_StoStore_find Tryd.f75 msi_StoStore_find [.val true [.sl .any 42 (.pair .str (.sl 3 (.int .i64))) a0],.val false [.str a1]]) = some ((g_Ai_StoStore_find a0 a1),.tup [(false,[.int .i64 (g_Vslices_BinarySearchFunc_i_StoItem_i_StoItem_string__i_StoStore_find_1_0 a0 a1)]),(false,[.bool (g_Vslices_BinarySearchFunc_i_StoItem_i_StoItem_string__i_StoStore_find_1_1 a0 a1)])],[]) := by kernel_rfl
theorem si_StoStore_find:Sound Tryd.prog 75 msi_StoStore_find Fi_StoStore_find := by
 refine fn_gen goodi_StoStore_find (by kernel_rfl) .std (fn := Tryd.f75) (c := (Tryd.f75.body.getD .skip)) (o := Oi_StoStore_find_0) (k := 0) (by kernel_rfl) (by kernel_rfl) (by kernel_rfl) (by kernel_rfl) (by decide) ki_StoStore_find_0 ?_
 intro ys r outs h
 unfold Fi_StoStore_find at h
 split at h
 ·exact (vi_StoStore_find _ _).trans h
 ·cases h
noncomputable def Eslices_Clone_int_int_nz:Env where
 tt := mkTI Tryd.prog
 fn := fun _ => none
 bxf := fun _ => none
 mv := []
 keep := fun _ => []
 keepB := fun _ => []
 keepX := fun _ => []
 keepXB := fun _ => []
theorem goodFslices_Clone_int_int_nz:∀ f ms F,Eslices_Clone_int_int_nz.fn f = some (ms,F) → Sound Tryd.prog f ms F := fun f ms F h => by cases h
theorem goodBslices_Clone_int_int_nz:∀ f ms F,Eslices_Clone_int_int_nz.bxf f = some (ms,F) → SoundB Tryd.prog f ms F := fun f ms F h => by cases h
theorem goodslices_Clone_int_int_nz:Good Tryd.prog Eslices_Clone_int_int_nz := ⟨rfl,goodFslices_Clone_int_int_nz,goodBslices_Clone_int_int_nz⟩
noncomputable def Oslices_Clone_int_int_nz_0:Orc := fun _ _ => none
noncomputable def msslices_Clone_int_int_nz:List PM := [.rd]
noncomputable def lsslices_Clone_int_int_nz:List (Nat×Code) := loopsAll 0 (Tryd.f58.body.getD .skip)
theorem kslices_Clone_int_int_nz_0:OrcOk Eslices_Clone_int_int_nz Oslices_Clone_int_int_nz_0 lsslices_Clone_int_int_nz 0 := orcOk_none
noncomputable def g_Aslices_Clone_int_int_nz (a0:List Int):Bool := decide (nat_lit 0 < List.length a0)&&decide ((nat_lit 0 + List.length a0) * nat_lit 8 ≤ nat_lit 140737488355328 ∧ nat_lit 0 + List.length a0 ≤ nat_lit 9223372036854775807)
noncomputable def g_Vslices_Clone_int_int_nz_0 (a0:List Int):List Int := [] ++ a0
noncomputable def Fslices_Clone_int_int_nz:FSem := fun ys => match ys with
 | [.val false [.sl .any 3 (.int .i64) a0]] => some ((g_Aslices_Clone_int_int_nz a0),.val false [.own (.may false) true 3 (.int .i64) (g_Vslices_Clone_int_int_nz_0 a0)],[])
 | _ => none
theorem vslices_Clone_int_int_nz (a0:List Int):collapseH .nz Eslices_Clone_int_int_nz Oslices_Clone_int_int_nz_0 (execFn Eslices_Clone_int_int_nz Tryd.f58 msslices_Clone_int_int_nz [.val false [.sl .any 3 (.int .i64) a0]]) = some ((g_Aslices_Clone_int_int_nz a0),.val false [.own (.may false) true 3 (.int .i64) (g_Vslices_Clone_int_int_nz_0 a0)],[]) := by kernel_rfl
theorem sslices_Clone_int_int_nz:Sound Tryd.prog 58 msslices_Clone_int_int_nz Fslices_Clone_int_int_nz := by
 refine fn_gen goodslices_Clone_int_int_nz (by kernel_rfl) .nz (fn := Tryd.f58) (c := (Tryd.f58.body.getD .skip)) (o := Oslices_Clone_int_int_nz_0) (k := 0) (by kernel_rfl) (by kernel_rfl) (by kernel_rfl) (by kernel_rfl) (by decide) kslices_Clone_int_int_nz_0 ?_
 intro ys r outs h
 unfold Fslices_Clone_int_int_nz at h
 split at h
 ·exact (vslices_Clone_int_int_nz _).trans h
 ·cases h
noncomputable def Ei_StoStore_get:Env where
 tt := mkTI Tryd.prog
 fn := fun f => match f with
  | 58 => some (msslices_Clone_int_int_nz,FSem.wk msslices_Clone_int_int_nz Fslices_Clone_int_int_nz)
  | 75 => some (msi_StoStore_find,FSem.wk msi_StoStore_find Fi_StoStore_find)
  | _ => none
 bxf := fun _ => none
 mv := []
 keep := fun _ => []
 keepB := fun _ => []
 keepX := fun _ => []
 keepXB := fun _ => []
theorem goodFi_StoStore_get:∀ f ms F,Ei_StoStore_get.fn f = some (ms,F) → Sound Tryd.prog f ms F := fun f ms F h => by
 unfold Ei_StoStore_get at h
 dsimp only at h
 split at h
 ·injection h with h; injection h with e1 e2; subst e1 e2; exact Sound.wk sslices_Clone_int_int_nz
 ·injection h with h; injection h with e1 e2; subst e1 e2; exact Sound.wk si_StoStore_find
 ·cases h
theorem goodBi_StoStore_get:∀ f ms F,Ei_StoStore_get.bxf f = some (ms,F) → SoundB Tryd.prog f ms F := fun f ms F h => by cases h
theorem goodi_StoStore_get:Good Tryd.prog Ei_StoStore_get := ⟨rfl,goodFi_StoStore_get,goodBi_StoStore_get⟩
noncomputable def Oi_StoStore_get_0:Orc := fun _ _ => none
noncomputable def msi_StoStore_get:List PM := [.rd,.own]
noncomputable def lsi_StoStore_get:List (Nat×Code) := loopsAll 0 (Tryd.f40.body.getD .skip)
theorem ki_StoStore_get_0:OrcOk Ei_StoStore_get Oi_StoStore_get_0 lsi_StoStore_get 0 := orcOk_none
noncomputable def g_Ai_StoStore_get (a0:List (ByteArray×(List Int))) (a1:ByteArray):Bool := g_Ai_StoStore_find a0 a1&&(!g_Vslices_BinarySearchFunc_i_StoItem_i_StoItem_string__i_StoStore_find_1_1 a0 a1 || decide ((0:Int) ≤ g_Vslices_BinarySearchFunc_i_StoItem_i_StoItem_string__i_StoStore_find_1_0 a0 a1 ∧ g_Vslices_BinarySearchFunc_i_StoItem_i_StoItem_string__i_StoStore_find_1_0 a0 a1 < (↑(List.length a0):Int))&&g_Aslices_Clone_int_int_nz (at_ (Ty.pair Ty.str (Ty.sl (nat_lit 3) (Ty.int IntKind.i64))) a0 (Int.toNat (g_Vslices_BinarySearchFunc_i_StoItem_i_StoItem_string__i_StoStore_find_1_0 a0 a1))).2)
noncomputable def g_Vi_StoStore_get_0 (a0:List (ByteArray×(List Int))) (a1:ByteArray):Bool := bif !g_Vslices_BinarySearchFunc_i_StoItem_i_StoItem_string__i_StoStore_find_1_1 a0 a1 then true else false
noncomputable def g_Vi_StoStore_get_1 (a0:List (ByteArray×(List Int))) (a1:ByteArray):List Int := bif !g_Vslices_BinarySearchFunc_i_StoItem_i_StoItem_string__i_StoStore_find_1_1 a0 a1 then [] else g_Vslices_Clone_int_int_nz_0 (at_ (Ty.pair Ty.str (Ty.sl (nat_lit 3) (Ty.int IntKind.i64))) a0 (Int.toNat (g_Vslices_BinarySearchFunc_i_StoItem_i_StoItem_string__i_StoStore_find_1_0 a0 a1))).2
noncomputable def Fi_StoStore_get:FSem := fun ys => match ys with
 | [.val true [.sl .any 42 (.pair .str (.sl 3 (.int .i64))) a0],.val false [.str a1]] => some ((g_Ai_StoStore_get a0 a1),.val false [.own (.may (g_Vi_StoStore_get_0 a0 a1)) true 3 (.int .i64) (g_Vi_StoStore_get_1 a0 a1)],[])
 | _ => none
theorem vi_StoStore_get (a0:List (ByteArray×(List Int))) (a1:ByteArray):collapseH .nz Ei_StoStore_get Oi_StoStore_get_0 (execFn Ei_StoStore_get Tryd.f40 msi_StoStore_get [.val true [.sl .any 42 (.pair .str (.sl 3 (.int .i64))) a0],.val false [.str a1]]) = some ((g_Ai_StoStore_get a0 a1),.val false [.own (.may (g_Vi_StoStore_get_0 a0 a1)) true 3 (.int .i64) (g_Vi_StoStore_get_1 a0 a1)],[]) := by kernel_rfl
theorem si_StoStore_get:Sound Tryd.prog 40 msi_StoStore_get Fi_StoStore_get := by
 refine fn_gen goodi_StoStore_get (by kernel_rfl) .nz (fn := Tryd.f40) (c := (Tryd.f40.body.getD .skip)) (o := Oi_StoStore_get_0) (k := 0) (by kernel_rfl) (by kernel_rfl) (by kernel_rfl) (by kernel_rfl) (by decide) ki_StoStore_get_0 ?_
 intro ys r outs h
 unfold Fi_StoStore_get at h
 split at h
 ·exact (vi_StoStore_get _ _).trans h
 ·cases h
noncomputable def Ei_done:Env where
 tt := mkTI Tryd.prog
 fn := fun _ => none
 bxf := fun _ => none
 mv := []
 keep := fun _ => []
 keepB := fun _ => []
 keepX := fun _ => []
 keepXB := fun _ => []
theorem goodFi_done:∀ f ms F,Ei_done.fn f = some (ms,F) → Sound Tryd.prog f ms F := fun f ms F h => by cases h
theorem goodBi_done:∀ f ms F,Ei_done.bxf f = some (ms,F) → SoundB Tryd.prog f ms F := fun f ms F h => by cases h
theorem goodi_done:Good Tryd.prog Ei_done := ⟨rfl,goodFi_done,goodBi_done⟩
noncomputable def Oi_done_0:Orc := fun _ _ => none
noncomputable def msi_done:List PM := [.own,.own]
noncomputable def lsi_done:List (Nat×Code) := loopsAll 0 (Tryd.f64.body.getD .skip)
theorem ki_done_0:OrcOk Ei_done Oi_done_0 lsi_done 0 := orcOk_none
noncomputable def Fi_done:FSem := fun ys => match ys with
 | [.val false [.own .any true 9 .str a0],.val false [.own .any true 76 (.pair .str (.pair .bool (.sl 3 (.int .i64)))) a1]] => some (true,.val true [.bool true,.own .any true 9 .str a0,.own .any true 76 (.pair .str (.pair .bool (.sl 3 (.int .i64)))) a1],[])
 | _ => none
theorem vi_done (a0:List ByteArray) (a1:List (ByteArray×(Bool×(List Int)))):collapseH .std Ei_done Oi_done_0 (execFn Ei_done Tryd.f64 msi_done [.val false [.own .any true 9 .str a0],.val false [.own .any true 76 (.pair .str (.pair .bool (.sl 3 (.int .i64)))) a1]]) = some (true,.val true [.bool true,.own .any true 9 .str a0,.own .any true 76 (.pair .str (.pair .bool (.sl 3 (.int .i64)))) a1],[]) := by kernel_rfl
theorem si_done:Sound Tryd.prog 64 msi_done Fi_done := by
 refine fn_gen goodi_done (by kernel_rfl) .std (fn := Tryd.f64) (c := (Tryd.f64.body.getD .skip)) (o := Oi_done_0) (k := 0) (by kernel_rfl) (by kernel_rfl) (by kernel_rfl) (by kernel_rfl) (by decide) ki_done_0 ?_
 intro ys r outs h
 unfold Fi_done at h
 split at h
 ·exact (vi_done _ _).trans h
 ·cases h
def msstrconv_Itoa:List PM := [.own]
def g_itoa (i:Int):ByteArray := ⟨(Lib.decDigits i.toNat).toArray⟩
def Fstrconv_Itoa:FSem := fun ys => match ys with
 | [.val false [.int .i64 i]] => some (decide (0 ≤ i ∧ i < 100),.val false [.str (g_itoa i)],[])
 | _ => none
theorem sstrconv_Itoa:Sound Tryd.prog 97 msstrconv_Itoa Fstrconv_Itoa := by
 refine sound_plain (by simp [msstrconv_Itoa]) ⟨_,Tryd.func97,by kernel_rfl,by kernel_rfl⟩ (fun w ys r outs h => ?_)
 unfold Fstrconv_Itoa at h
 split at h
 ·rename_i i
  simp only [Option.some.injEq,Prod.mk.injEq,decide_eq_true_eq] at h
  obtain ⟨h1,rfl,rfl⟩ := h
  refine ⟨rfl,[.int .i64 i],.string (g_itoa i),rfl,rfl,?_⟩
  obtain ⟨k,rfl⟩:∃ k:Nat,i = (k:Int) := ⟨i.toNat,by omega⟩
  exact Calls.mono (Tryd.strconv_Itoa_small k (by omega) w) (fun e w' h => ⟨by rw [h.1]; rfl,by rw [h.2]; exact RowKit.Below.refl _ _⟩)
 ·cases h
noncomputable def Ei_named:Env where
 tt := mkTI Tryd.prog
 fn := fun f => match f with
  | 97 => some (msstrconv_Itoa,FSem.wk msstrconv_Itoa Fstrconv_Itoa)
  | _ => none
 bxf := fun _ => none
 mv := []
 keep := fun _ => []
 keepB := fun _ => []
 keepX := fun _ => []
 keepXB := fun _ => []
theorem goodFi_named:∀ f ms F,Ei_named.fn f = some (ms,F) → Sound Tryd.prog f ms F := fun f ms F h => by
 unfold Ei_named at h
 dsimp only at h
 split at h
 ·injection h with h; injection h with e1 e2; subst e1 e2; exact Sound.wk sstrconv_Itoa
 ·cases h
theorem goodBi_named:∀ f ms F,Ei_named.bxf f = some (ms,F) → SoundB Tryd.prog f ms F := fun f ms F h => by cases h
theorem goodi_named:Good Tryd.prog Ei_named := ⟨rfl,goodFi_named,goodBi_named⟩
noncomputable def Oi_named_0:Orc := fun _ _ => none
noncomputable def msi_named:List PM := [.own,.own]
noncomputable def lsi_named:List (Nat×Code) := loopsAll 0 (Tryd.f62.body.getD .skip)
theorem ki_named_0:OrcOk Ei_named Oi_named_0 lsi_named 0 := orcOk_none
noncomputable def g_Ai_named (a0:ByteArray) (a1:Int):Bool := decide ((0:Int) ≤ a1 ∧ a1 < (100:Int))&&decide (ByteArray.size a0 + ByteArray.size (g_itoa a1) ≤ nat_lit 9223372036854775807)
noncomputable def g_Vi_named_0 (a0:ByteArray) (a1:Int):ByteArray := a0 ++ g_itoa a1
noncomputable def Fi_named:FSem := fun ys => match ys with
 | [.val false [.str a0],.val false [.int .i64 a1]] => some ((g_Ai_named a0 a1),.val false [.str (g_Vi_named_0 a0 a1)],[])
 | _ => none
theorem vi_named (a0:ByteArray) (a1:Int):collapseH .std Ei_named Oi_named_0 (execFn Ei_named Tryd.f62 msi_named [.val false [.str a0],.val false [.int .i64 a1]]) = some ((g_Ai_named a0 a1),.val false [.str (g_Vi_named_0 a0 a1)],[]) := by kernel_rfl
theorem si_named:Sound Tryd.prog 62 msi_named Fi_named := by
 refine fn_gen goodi_named (by kernel_rfl) .std (fn := Tryd.f62) (c := (Tryd.f62.body.getD .skip)) (o := Oi_named_0) (k := 0) (by kernel_rfl) (by kernel_rfl) (by kernel_rfl) (by kernel_rfl) (by decide) ki_named_0 ?_
 intro ys r outs h
 unfold Fi_named at h
 split at h
 ·exact (vi_named _ _).trans h
 ·cases h
noncomputable def Ei_refused:Env where
 tt := mkTI Tryd.prog
 fn := fun _ => none
 bxf := fun _ => none
 mv := []
 keep := fun _ => []
 keepB := fun _ => []
 keepX := fun _ => []
 keepXB := fun _ => []
theorem goodFi_refused:∀ f ms F,Ei_refused.fn f = some (ms,F) → Sound Tryd.prog f ms F := fun f ms F h => by cases h
theorem goodBi_refused:∀ f ms F,Ei_refused.bxf f = some (ms,F) → SoundB Tryd.prog f ms F := fun f ms F h => by cases h
theorem goodi_refused:Good Tryd.prog Ei_refused := ⟨rfl,goodFi_refused,goodBi_refused⟩
noncomputable def Oi_refused_0:Orc := fun _ _ => none
noncomputable def msi_refused:List PM := [.own]
noncomputable def lsi_refused:List (Nat×Code) := loopsAll 0 (Tryd.f63.body.getD .skip)
theorem ki_refused_0:OrcOk Ei_refused Oi_refused_0 lsi_refused 0 := orcOk_none
noncomputable def g_Vi_refused_0 (a0:List ByteArray):List (ByteArray×(Bool×(List Int))) := []
noncomputable def Fi_refused:FSem := fun ys => match ys with
 | [.val false [.own .any true 9 .str a0]] => some (true,.val true [.bool false,.own .any true 9 .str a0,.own .any true 76 (.pair .str (.pair .bool (.sl 3 (.int .i64)))) (g_Vi_refused_0 a0)],[])
 | _ => none
theorem vi_refused (a0:List ByteArray):collapseH .std Ei_refused Oi_refused_0 (execFn Ei_refused Tryd.f63 msi_refused [.val false [.own .any true 9 .str a0]]) = some (true,.val true [.bool false,.own .any true 9 .str a0,.own .any true 76 (.pair .str (.pair .bool (.sl 3 (.int .i64)))) (g_Vi_refused_0 a0)],[]) := by kernel_rfl
theorem si_refused:Sound Tryd.prog 63 msi_refused Fi_refused := by
 refine fn_gen goodi_refused (by kernel_rfl) .std (fn := Tryd.f63) (c := (Tryd.f63.body.getD .skip)) (o := Oi_refused_0) (k := 0) (by kernel_rfl) (by kernel_rfl) (by kernel_rfl) (by kernel_rfl) (by decide) ki_refused_0 ?_
 intro ys r outs h
 unfold Fi_refused at h
 split at h
 ·exact (vi_refused _).trans h
 ·cases h
noncomputable def Ei_set:Env where
 tt := mkTI Tryd.prog
 fn := fun _ => none
 bxf := fun _ => none
 mv := []
 keep := fun _ => []
 keepB := fun _ => []
 keepX := fun _ => []
 keepXB := fun _ => []
theorem goodFi_set:∀ f ms F,Ei_set.fn f = some (ms,F) → Sound Tryd.prog f ms F := fun f ms F h => by cases h
theorem goodBi_set:∀ f ms F,Ei_set.bxf f = some (ms,F) → SoundB Tryd.prog f ms F := fun f ms F h => by cases h
theorem goodi_set:Good Tryd.prog Ei_set := ⟨rfl,goodFi_set,goodBi_set⟩
noncomputable def Oi_set_0:Orc := fun _ _ => none
noncomputable def msi_set:List PM := [.own,.own]
noncomputable def lsi_set:List (Nat×Code) := loopsAll 0 (Tryd.f65.body.getD .skip)
theorem ki_set_0:OrcOk Ei_set Oi_set_0 lsi_set 0 := orcOk_none
noncomputable def Fi_set:FSem := fun ys => match ys with
 | [.val false [.str a0],.val false [.own .any true 3 (.int .i64) a1]] => some (true,.val true [.str a0,.bool false,.own .any true 3 (.int .i64) a1],[])
 | _ => none
theorem vi_set (a0:ByteArray) (a1:List Int):collapseH .std Ei_set Oi_set_0 (execFn Ei_set Tryd.f65 msi_set [.val false [.str a0],.val false [.own .any true 3 (.int .i64) a1]]) = some (true,.val true [.str a0,.bool false,.own .any true 3 (.int .i64) a1],[]) := by kernel_rfl
theorem si_set:Sound Tryd.prog 65 msi_set Fi_set := by
 refine fn_gen goodi_set (by kernel_rfl) .std (fn := Tryd.f65) (c := (Tryd.f65.body.getD .skip)) (o := Oi_set_0) (k := 0) (by kernel_rfl) (by kernel_rfl) (by kernel_rfl) (by kernel_rfl) (by decide) ki_set_0 ?_
 intro ys r outs h
 unfold Fi_set at h
 split at h
 ·exact (vi_set _ _).trans h
 ·cases h
noncomputable def Ei_atIn:Env where
 tt := mkTI Tryd.prog
 fn := fun f => match f with
  | 40 => some (msi_StoStore_get,FSem.wk msi_StoStore_get Fi_StoStore_get)
  | 62 => some (msi_named,FSem.wk msi_named Fi_named)
  | 63 => some (msi_refused,FSem.wk msi_refused Fi_refused)
  | 64 => some (msi_done,FSem.wk msi_done Fi_done)
  | 65 => some (msi_set,FSem.wk msi_set Fi_set)
  | _ => none
 bxf := fun _ => none
 mv := []
 keep := fun _ => []
 keepB := fun _ => []
 keepX := fun _ => []
 keepXB := fun _ => []
theorem goodFi_atIn:∀ f ms F,Ei_atIn.fn f = some (ms,F) → Sound Tryd.prog f ms F := fun f ms F h => by
 unfold Ei_atIn at h
 dsimp only at h
 split at h
 ·injection h with h; injection h with e1 e2; subst e1 e2; exact Sound.wk si_StoStore_get
 ·injection h with h; injection h with e1 e2; subst e1 e2; exact Sound.wk si_named
 ·injection h with h; injection h with e1 e2; subst e1 e2; exact Sound.wk si_refused
 ·injection h with h; injection h with e1 e2; subst e1 e2; exact Sound.wk si_done
 ·injection h with h; injection h with e1 e2; subst e1 e2; exact Sound.wk si_set
 ·cases h
theorem goodBi_atIn:∀ f ms F,Ei_atIn.bxf f = some (ms,F) → SoundB Tryd.prog f ms F := fun f ms F h => by cases h
theorem goodi_atIn:Good Tryd.prog Ei_atIn := ⟨rfl,goodFi_atIn,goodBi_atIn⟩
noncomputable def Oi_atIn_0:Orc := fun _ _ => none
noncomputable def msi_atIn:List PM := [.rd,.own]
noncomputable def lsi_atIn:List (Nat×Code) := loopsAll 0 (Tryd.f60.body.getD .skip)
theorem ki_atIn_0:OrcOk Ei_atIn Oi_atIn_0 lsi_atIn 0 := orcOk_none
noncomputable def g_Ai_atIn (a0:List (ByteArray×(List Int))) (a1:Int) (a2:Int) (a3:Int) (a4:Int) (a5:Int) (a6:Int) (a7:Int):Bool := g_Ai_named (lit [(115:Nat)]) a3&&(g_Ai_StoStore_get a0 (g_Vi_named_0 (lit [(115:Nat)]) a3)&&bif a1 == (1:Int) then bif !g_Vi_StoStore_get_0 a0 (g_Vi_named_0 (lit [(115:Nat)]) a3) then true else true else bif g_Vi_StoStore_get_0 a0 (g_Vi_named_0 (lit [(115:Nat)]) a3) then true else decide ((0:Int) ≤ (0:Int) ∧ (0:Int) < (↑(List.length (g_Vi_StoStore_get_1 a0 (g_Vi_named_0 (lit [(115:Nat)]) a3))):Int))&&(decide (nat_lit 0 < List.length (g_Vi_StoStore_get_1 a0 (g_Vi_named_0 (lit [(115:Nat)]) a3)))&&bif at_ (Ty.int IntKind.i64) (g_Vi_StoStore_get_1 a0 (g_Vi_named_0 (lit [(115:Nat)]) a3)) (nat_lit 0) != a2 then true else bif a1 == (5:Int) then true else true))
noncomputable def g_Vi_atIn_0 (a0:List (ByteArray×(List Int))) (a1:Int) (a2:Int) (a3:Int) (a4:Int) (a5:Int) (a6:Int) (a7:Int):Bool := bif a1 == (1:Int) then bif !g_Vi_StoStore_get_0 a0 (g_Vi_named_0 (lit [(115:Nat)]) a3) then false else true else bif g_Vi_StoStore_get_0 a0 (g_Vi_named_0 (lit [(115:Nat)]) a3) then false else bif at_ (Ty.int IntKind.i64) (g_Vi_StoStore_get_1 a0 (g_Vi_named_0 (lit [(115:Nat)]) a3)) (nat_lit 0) != a2 then false else bif a1 == (5:Int) then true else true
noncomputable def g_Vi_atIn_1 (a0:List (ByteArray×(List Int))) (a1:Int) (a2:Int) (a3:Int) (a4:Int) (a5:Int) (a6:Int) (a7:Int):List ByteArray := bif a1 == (1:Int) then bif !g_Vi_StoStore_get_0 a0 (g_Vi_named_0 (lit [(115:Nat)]) a3) then [g_Vi_named_0 (lit [(115:Nat)]) a3] else [g_Vi_named_0 (lit [(115:Nat)]) a3] else bif g_Vi_StoStore_get_0 a0 (g_Vi_named_0 (lit [(115:Nat)]) a3) then [g_Vi_named_0 (lit [(115:Nat)]) a3] else bif at_ (Ty.int IntKind.i64) (g_Vi_StoStore_get_1 a0 (g_Vi_named_0 (lit [(115:Nat)]) a3)) (nat_lit 0) != a2 then [g_Vi_named_0 (lit [(115:Nat)]) a3] else bif a1 == (5:Int) then [g_Vi_named_0 (lit [(115:Nat)]) a3] else [g_Vi_named_0 (lit [(115:Nat)]) a3]
noncomputable def g_Vi_atIn_2 (a0:List (ByteArray×(List Int))) (a1:Int) (a2:Int) (a3:Int) (a4:Int) (a5:Int) (a6:Int) (a7:Int):List (ByteArray×(Bool×(List Int))) := bif a1 == (1:Int) then bif !g_Vi_StoStore_get_0 a0 (g_Vi_named_0 (lit [(115:Nat)]) a3) then g_Vi_refused_0 [g_Vi_named_0 (lit [(115:Nat)]) a3] else [(g_Vi_named_0 (lit [(115:Nat)]) a3,false,[a2])] else bif g_Vi_StoStore_get_0 a0 (g_Vi_named_0 (lit [(115:Nat)]) a3) then g_Vi_refused_0 [g_Vi_named_0 (lit [(115:Nat)]) a3] else bif at_ (Ty.int IntKind.i64) (g_Vi_StoStore_get_1 a0 (g_Vi_named_0 (lit [(115:Nat)]) a3)) (nat_lit 0) != a2 then g_Vi_refused_0 [g_Vi_named_0 (lit [(115:Nat)]) a3] else bif a1 == (5:Int) then [(g_Vi_named_0 (lit [(115:Nat)]) a3,true,[])] else []
noncomputable def Fi_atIn:FSem := fun ys => match ys with
 | [.val true [.sl .any 42 (.pair .str (.sl 3 (.int .i64))) a0],.val true [.int .i64 a1,.int .i64 a2,.int .i64 a3,.int .i64 a4,.int .i64 a5,.int .i64 a6,.int .i64 a7]] => some ((g_Ai_atIn a0 a1 a2 a3 a4 a5 a6 a7),.val true [.bool (g_Vi_atIn_0 a0 a1 a2 a3 a4 a5 a6 a7),.own .any true 9 .str (g_Vi_atIn_1 a0 a1 a2 a3 a4 a5 a6 a7),.own .any true 76 (.pair .str (.pair .bool (.sl 3 (.int .i64)))) (g_Vi_atIn_2 a0 a1 a2 a3 a4 a5 a6 a7)],[])
 | _ => none
theorem vi_atIn (a0:List (ByteArray×(List Int))) (a1:Int) (a2:Int) (a3:Int) (a4:Int) (a5:Int) (a6:Int) (a7:Int):collapseH .std Ei_atIn Oi_atIn_0 (execFn Ei_atIn Tryd.f60 msi_atIn [.val true [.sl .any 42 (.pair .str (.sl 3 (.int .i64))) a0],.val true [.int .i64 a1,.int .i64 a2,.int .i64 a3,.int .i64 a4,.int .i64 a5,.int .i64 a6,.int .i64 a7]]) = some ((g_Ai_atIn a0 a1 a2 a3 a4 a5 a6 a7),.val true [.bool (g_Vi_atIn_0 a0 a1 a2 a3 a4 a5 a6 a7),.own .any true 9 .str (g_Vi_atIn_1 a0 a1 a2 a3 a4 a5 a6 a7),.own .any true 76 (.pair .str (.pair .bool (.sl 3 (.int .i64)))) (g_Vi_atIn_2 a0 a1 a2 a3 a4 a5 a6 a7)],[]) := by kernel_rfl
theorem si_atIn:Sound Tryd.prog 60 msi_atIn Fi_atIn := by
 refine fn_gen goodi_atIn (by kernel_rfl) .std (fn := Tryd.f60) (c := (Tryd.f60.body.getD .skip)) (o := Oi_atIn_0) (k := 0) (by kernel_rfl) (by kernel_rfl) (by kernel_rfl) (by kernel_rfl) (by decide) ki_atIn_0 ?_
 intro ys r outs h
 unfold Fi_atIn at h
 split at h
 ·exact (vi_atIn _ _ _ _ _ _ _ _).trans h
 ·cases h
noncomputable def Ei_SecSum:Env where
 tt := mkTI Tryd.prog
 fn := fun f => match f with
  | 56 => some (msi_in,FSem.wk msi_in Fi_in)
  | _ => none
 bxf := fun _ => none
 mv := []
 keep := fun _ => []
 keepB := fun _ => []
 keepX := fun _ => []
 keepXB := fun _ => []
theorem goodFi_SecSum:∀ f ms F,Ei_SecSum.fn f = some (ms,F) → Sound Tryd.prog f ms F := fun f ms F h => by
 unfold Ei_SecSum at h
 dsimp only at h
 split at h
 ·injection h with h; injection h with e1 e2; subst e1 e2; exact Sound.wk si_in
 ·cases h
theorem goodBi_SecSum:∀ f ms F,Ei_SecSum.bxf f = some (ms,F) → SoundB Tryd.prog f ms F := fun f ms F h => by cases h
theorem goodi_SecSum:Good Tryd.prog Ei_SecSum := ⟨rfl,goodFi_SecSum,goodBi_SecSum⟩
noncomputable def Oi_SecSum_0:Orc := fun _ _ => none
noncomputable def msi_SecSum:List PM := [.own]
noncomputable def lsi_SecSum:List (Nat×Code) := loopsAll 0 (Tryd.f96.body.getD .skip)
theorem ki_SecSum_0:OrcOk Ei_SecSum Oi_SecSum_0 lsi_SecSum 0 := orcOk_none
noncomputable def g_Ai_SecSum (a0:Int):Bool := g_Ai_in a0 (0:Int) (99:Int)&&(!g_Vi_in_0 a0 (0:Int) (99:Int) || true)
noncomputable def g_Vi_SecSum_0 (a0:Int):Int := bif !g_Vi_in_0 a0 (0:Int) (99:Int) then (-1:Int) else Int.tmod (IntKind.wrap IntKind.i64 (IntKind.wrap IntKind.i64 ((7919:Int) * a0) + (104:Int))) (9973:Int)
noncomputable def Fi_SecSum:FSem := fun ys => match ys with
 | [.val false [.int .i64 a0]] => some ((g_Ai_SecSum a0),.val false [.int .i64 (g_Vi_SecSum_0 a0)],[])
 | _ => none
theorem vi_SecSum (a0:Int):collapseH .std Ei_SecSum Oi_SecSum_0 (execFn Ei_SecSum Tryd.f96 msi_SecSum [.val false [.int .i64 a0]]) = some ((g_Ai_SecSum a0),.val false [.int .i64 (g_Vi_SecSum_0 a0)],[]) := by kernel_rfl
theorem si_SecSum:Sound Tryd.prog 96 msi_SecSum Fi_SecSum := by
 refine fn_gen goodi_SecSum (by kernel_rfl) .std (fn := Tryd.f96) (c := (Tryd.f96.body.getD .skip)) (o := Oi_SecSum_0) (k := 0) (by kernel_rfl) (by kernel_rfl) (by kernel_rfl) (by kernel_rfl) (by decide) ki_SecSum_0 ?_
 intro ys r outs h
 unfold Fi_SecSum at h
 split at h
 ·exact (vi_SecSum _).trans h
 ·cases h
noncomputable def Ei_next:Env where
 tt := mkTI Tryd.prog
 fn := fun f => match f with
  | 40 => some (msi_StoStore_get,FSem.wk msi_StoStore_get Fi_StoStore_get)
  | 56 => some (msi_in,FSem.wk msi_in Fi_in)
  | 62 => some (msi_named,FSem.wk msi_named Fi_named)
  | 63 => some (msi_refused,FSem.wk msi_refused Fi_refused)
  | 64 => some (msi_done,FSem.wk msi_done Fi_done)
  | 65 => some (msi_set,FSem.wk msi_set Fi_set)
  | _ => none
 bxf := fun _ => none
 mv := []
 keep := fun _ => []
 keepB := fun _ => []
 keepX := fun _ => []
 keepXB := fun _ => []
theorem goodFi_next:∀ f ms F,Ei_next.fn f = some (ms,F) → Sound Tryd.prog f ms F := fun f ms F h => by
 unfold Ei_next at h
 dsimp only at h
 split at h
 ·injection h with h; injection h with e1 e2; subst e1 e2; exact Sound.wk si_StoStore_get
 ·injection h with h; injection h with e1 e2; subst e1 e2; exact Sound.wk si_in
 ·injection h with h; injection h with e1 e2; subst e1 e2; exact Sound.wk si_named
 ·injection h with h; injection h with e1 e2; subst e1 e2; exact Sound.wk si_refused
 ·injection h with h; injection h with e1 e2; subst e1 e2; exact Sound.wk si_done
 ·injection h with h; injection h with e1 e2; subst e1 e2; exact Sound.wk si_set
 ·cases h
theorem goodBi_next:∀ f ms F,Ei_next.bxf f = some (ms,F) → SoundB Tryd.prog f ms F := fun f ms F h => by cases h
theorem goodi_next:Good Tryd.prog Ei_next := ⟨rfl,goodFi_next,goodBi_next⟩
noncomputable def Oi_next_0:Orc := fun _ _ => none
noncomputable def msi_next:List PM := [.rd,.own]
noncomputable def lsi_next:List (Nat×Code) := loopsAll 0 (Tryd.f94.body.getD .skip)
theorem ki_next_0:OrcOk Ei_next Oi_next_0 lsi_next 0 := orcOk_none
noncomputable def g_Ai_next (a0:List (ByteArray×(List Int))) (a1:Int) (a2:Int) (a3:Int) (a4:Int) (a5:Int) (a6:Int) (a7:Int):Bool := g_Ai_named (lit [(102:Nat)]) a6&&(g_Ai_StoStore_get a0 (g_Vi_named_0 (lit [(102:Nat)]) a6)&&bif g_Vi_StoStore_get_0 a0 (g_Vi_named_0 (lit [(102:Nat)]) a6) then true else decide ((0:Int) ≤ (2:Int) ∧ (2:Int) < (↑(List.length (g_Vi_StoStore_get_1 a0 (g_Vi_named_0 (lit [(102:Nat)]) a6))):Int))&&(decide (nat_lit 2 < List.length (g_Vi_StoStore_get_1 a0 (g_Vi_named_0 (lit [(102:Nat)]) a6)))&&bif at_ (Ty.int IntKind.i64) (g_Vi_StoStore_get_1 a0 (g_Vi_named_0 (lit [(102:Nat)]) a6)) (nat_lit 2) == (0:Int) then true else decide ((0:Int) ≤ (1:Int) ∧ (1:Int) < (↑(List.length (g_Vi_StoStore_get_1 a0 (g_Vi_named_0 (lit [(102:Nat)]) a6))):Int))&&(decide (nat_lit 1 < List.length (g_Vi_StoStore_get_1 a0 (g_Vi_named_0 (lit [(102:Nat)]) a6)))&&(g_Ai_in a7 (1:Int) (at_ (Ty.int IntKind.i64) (g_Vi_StoStore_get_1 a0 (g_Vi_named_0 (lit [(102:Nat)]) a6)) (nat_lit 1))&&bif !g_Vi_in_0 a7 (1:Int) (at_ (Ty.int IntKind.i64) (g_Vi_StoStore_get_1 a0 (g_Vi_named_0 (lit [(102:Nat)]) a6)) (nat_lit 1)) then true else decide ((0:Int) ≤ (1:Int) ∧ (1:Int) < (↑(List.length (g_Vi_StoStore_get_1 a0 (g_Vi_named_0 (lit [(102:Nat)]) a6))):Int))&&(decide (nat_lit 1 < List.length (g_Vi_StoStore_get_1 a0 (g_Vi_named_0 (lit [(102:Nat)]) a6)))&&bif at_ (Ty.int IntKind.i64) (g_Vi_StoStore_get_1 a0 (g_Vi_named_0 (lit [(102:Nat)]) a6)) (nat_lit 1) == (99:Int) then true else decide ((0:Int) ≤ (0:Int) ∧ (0:Int) < (↑(List.length (g_Vi_StoStore_get_1 a0 (g_Vi_named_0 (lit [(102:Nat)]) a6))):Int))&&(decide (nat_lit 0 < List.length (g_Vi_StoStore_get_1 a0 (g_Vi_named_0 (lit [(102:Nat)]) a6)))&&(decide ((0:Int) ≤ (1:Int) ∧ (1:Int) < (↑(List.length (g_Vi_StoStore_get_1 a0 (g_Vi_named_0 (lit [(102:Nat)]) a6))):Int))&&(decide (nat_lit 1 < List.length (g_Vi_StoStore_get_1 a0 (g_Vi_named_0 (lit [(102:Nat)]) a6)))&&(decide ((0:Int) ≤ (1:Int) ∧ (1:Int) < (↑(List.length (g_Vi_StoStore_get_1 a0 (g_Vi_named_0 (lit [(102:Nat)]) a6))):Int))&&(decide (nat_lit 1 < List.length (g_Vi_StoStore_get_1 a0 (g_Vi_named_0 (lit [(102:Nat)]) a6)))&&bif decide (a7 < at_ (Ty.int IntKind.i64) (g_Vi_StoStore_get_1 a0 (g_Vi_named_0 (lit [(102:Nat)]) a6)) (nat_lit 1)) then decide ((0:Int) ≤ (0:Int) ∧ (0:Int) < (↑(List.length (g_Vi_StoStore_get_1 a0 (g_Vi_named_0 (lit [(102:Nat)]) a6))):Int))&&(decide (nat_lit 0 < List.length (g_Vi_StoStore_get_1 a0 (g_Vi_named_0 (lit [(102:Nat)]) a6)))&&(decide ((0:Int) ≤ (1:Int) ∧ (1:Int) < (↑(List.length (g_Vi_StoStore_get_1 a0 (g_Vi_named_0 (lit [(102:Nat)]) a6))):Int))&&(decide (nat_lit 1 < List.length (g_Vi_StoStore_get_1 a0 (g_Vi_named_0 (lit [(102:Nat)]) a6)))&&(decide ((0:Int) ≤ (0:Int) ∧ (0:Int) < (↑(List.length (g_Vi_StoStore_get_1 a0 (g_Vi_named_0 (lit [(102:Nat)]) a6))):Int))&&(decide (nat_lit 0 < List.length (g_Vi_StoStore_get_1 a0 (g_Vi_named_0 (lit [(102:Nat)]) a6)))&&(g_Ai_named (lit [(117:Nat)]) (at_ (Ty.int IntKind.i64) (g_Vi_StoStore_get_1 a0 (g_Vi_named_0 (lit [(102:Nat)]) a6)) (nat_lit 0))&&true)))))) else decide ((0:Int) ≤ (0:Int) ∧ (0:Int) < (↑(List.length (g_Vi_StoStore_get_1 a0 (g_Vi_named_0 (lit [(102:Nat)]) a6))):Int))&&(decide (nat_lit 0 < List.length (g_Vi_StoStore_get_1 a0 (g_Vi_named_0 (lit [(102:Nat)]) a6)))&&(g_Ai_named (lit [(117:Nat)]) (at_ (Ty.int IntKind.i64) (g_Vi_StoStore_get_1 a0 (g_Vi_named_0 (lit [(102:Nat)]) a6)) (nat_lit 0))&&true))))))))))))
noncomputable def g_Vi_next_0 (a0:List (ByteArray×(List Int))) (a1:Int) (a2:Int) (a3:Int) (a4:Int) (a5:Int) (a6:Int) (a7:Int):Bool := bif g_Vi_StoStore_get_0 a0 (g_Vi_named_0 (lit [(102:Nat)]) a6) then false else bif at_ (Ty.int IntKind.i64) (g_Vi_StoStore_get_1 a0 (g_Vi_named_0 (lit [(102:Nat)]) a6)) (nat_lit 2) == (0:Int) then false else bif !g_Vi_in_0 a7 (1:Int) (at_ (Ty.int IntKind.i64) (g_Vi_StoStore_get_1 a0 (g_Vi_named_0 (lit [(102:Nat)]) a6)) (nat_lit 1)) then false else bif at_ (Ty.int IntKind.i64) (g_Vi_StoStore_get_1 a0 (g_Vi_named_0 (lit [(102:Nat)]) a6)) (nat_lit 1) == (99:Int) then false else bif decide (a7 < at_ (Ty.int IntKind.i64) (g_Vi_StoStore_get_1 a0 (g_Vi_named_0 (lit [(102:Nat)]) a6)) (nat_lit 1)) then true else true
noncomputable def g_Vi_next_1 (a0:List (ByteArray×(List Int))) (a1:Int) (a2:Int) (a3:Int) (a4:Int) (a5:Int) (a6:Int) (a7:Int):List ByteArray := bif g_Vi_StoStore_get_0 a0 (g_Vi_named_0 (lit [(102:Nat)]) a6) then [g_Vi_named_0 (lit [(102:Nat)]) a6] else bif at_ (Ty.int IntKind.i64) (g_Vi_StoStore_get_1 a0 (g_Vi_named_0 (lit [(102:Nat)]) a6)) (nat_lit 2) == (0:Int) then [g_Vi_named_0 (lit [(102:Nat)]) a6] else bif !g_Vi_in_0 a7 (1:Int) (at_ (Ty.int IntKind.i64) (g_Vi_StoStore_get_1 a0 (g_Vi_named_0 (lit [(102:Nat)]) a6)) (nat_lit 1)) then [g_Vi_named_0 (lit [(102:Nat)]) a6] else bif at_ (Ty.int IntKind.i64) (g_Vi_StoStore_get_1 a0 (g_Vi_named_0 (lit [(102:Nat)]) a6)) (nat_lit 1) == (99:Int) then [g_Vi_named_0 (lit [(102:Nat)]) a6] else bif decide (a7 < at_ (Ty.int IntKind.i64) (g_Vi_StoStore_get_1 a0 (g_Vi_named_0 (lit [(102:Nat)]) a6)) (nat_lit 1)) then [g_Vi_named_0 (lit [(102:Nat)]) a6,g_Vi_named_0 (lit [(117:Nat)]) (at_ (Ty.int IntKind.i64) (g_Vi_StoStore_get_1 a0 (g_Vi_named_0 (lit [(102:Nat)]) a6)) (nat_lit 0))] else [g_Vi_named_0 (lit [(102:Nat)]) a6,g_Vi_named_0 (lit [(117:Nat)]) (at_ (Ty.int IntKind.i64) (g_Vi_StoStore_get_1 a0 (g_Vi_named_0 (lit [(102:Nat)]) a6)) (nat_lit 0))]
noncomputable def g_Vi_next_2 (a0:List (ByteArray×(List Int))) (a1:Int) (a2:Int) (a3:Int) (a4:Int) (a5:Int) (a6:Int) (a7:Int):List (ByteArray×(Bool×(List Int))) := bif g_Vi_StoStore_get_0 a0 (g_Vi_named_0 (lit [(102:Nat)]) a6) then g_Vi_refused_0 [g_Vi_named_0 (lit [(102:Nat)]) a6] else bif at_ (Ty.int IntKind.i64) (g_Vi_StoStore_get_1 a0 (g_Vi_named_0 (lit [(102:Nat)]) a6)) (nat_lit 2) == (0:Int) then g_Vi_refused_0 [g_Vi_named_0 (lit [(102:Nat)]) a6] else bif !g_Vi_in_0 a7 (1:Int) (at_ (Ty.int IntKind.i64) (g_Vi_StoStore_get_1 a0 (g_Vi_named_0 (lit [(102:Nat)]) a6)) (nat_lit 1)) then g_Vi_refused_0 [g_Vi_named_0 (lit [(102:Nat)]) a6] else bif at_ (Ty.int IntKind.i64) (g_Vi_StoStore_get_1 a0 (g_Vi_named_0 (lit [(102:Nat)]) a6)) (nat_lit 1) == (99:Int) then g_Vi_refused_0 [g_Vi_named_0 (lit [(102:Nat)]) a6] else bif decide (a7 < at_ (Ty.int IntKind.i64) (g_Vi_StoStore_get_1 a0 (g_Vi_named_0 (lit [(102:Nat)]) a6)) (nat_lit 1)) then [(g_Vi_named_0 (lit [(102:Nat)]) a6,false,[at_ (Ty.int IntKind.i64) (g_Vi_StoStore_get_1 a0 (g_Vi_named_0 (lit [(102:Nat)]) a6)) (nat_lit 0),at_ (Ty.int IntKind.i64) (g_Vi_StoStore_get_1 a0 (g_Vi_named_0 (lit [(102:Nat)]) a6)) (nat_lit 1),(0:Int)])] else [(g_Vi_named_0 (lit [(102:Nat)]) a6,false,[at_ (Ty.int IntKind.i64) (g_Vi_StoStore_get_1 a0 (g_Vi_named_0 (lit [(102:Nat)]) a6)) (nat_lit 0),IntKind.wrap IntKind.i64 (at_ (Ty.int IntKind.i64) (g_Vi_StoStore_get_1 a0 (g_Vi_named_0 (lit [(102:Nat)]) a6)) (nat_lit 1) + (1:Int)),(1:Int)])]
noncomputable def Fi_next:FSem := fun ys => match ys with
 | [.val true [.sl .any 42 (.pair .str (.sl 3 (.int .i64))) a0],.val true [.int .i64 a1,.int .i64 a2,.int .i64 a3,.int .i64 a4,.int .i64 a5,.int .i64 a6,.int .i64 a7]] => some ((g_Ai_next a0 a1 a2 a3 a4 a5 a6 a7),.val true [.bool (g_Vi_next_0 a0 a1 a2 a3 a4 a5 a6 a7),.own .any true 9 .str (g_Vi_next_1 a0 a1 a2 a3 a4 a5 a6 a7),.own .any true 76 (.pair .str (.pair .bool (.sl 3 (.int .i64)))) (g_Vi_next_2 a0 a1 a2 a3 a4 a5 a6 a7)],[])
 | _ => none
theorem vi_next (a0:List (ByteArray×(List Int))) (a1:Int) (a2:Int) (a3:Int) (a4:Int) (a5:Int) (a6:Int) (a7:Int):collapseH .std Ei_next Oi_next_0 (execFn Ei_next Tryd.f94 msi_next [.val true [.sl .any 42 (.pair .str (.sl 3 (.int .i64))) a0],.val true [.int .i64 a1,.int .i64 a2,.int .i64 a3,.int .i64 a4,.int .i64 a5,.int .i64 a6,.int .i64 a7]]) = some ((g_Ai_next a0 a1 a2 a3 a4 a5 a6 a7),.val true [.bool (g_Vi_next_0 a0 a1 a2 a3 a4 a5 a6 a7),.own .any true 9 .str (g_Vi_next_1 a0 a1 a2 a3 a4 a5 a6 a7),.own .any true 76 (.pair .str (.pair .bool (.sl 3 (.int .i64)))) (g_Vi_next_2 a0 a1 a2 a3 a4 a5 a6 a7)],[]) := by kernel_rfl
theorem si_next:Sound Tryd.prog 94 msi_next Fi_next := by
 refine fn_gen goodi_next (by kernel_rfl) .std (fn := Tryd.f94) (c := (Tryd.f94.body.getD .skip)) (o := Oi_next_0) (k := 0) (by kernel_rfl) (by kernel_rfl) (by kernel_rfl) (by kernel_rfl) (by decide) ki_next_0 ?_
 intro ys r outs h
 unfold Fi_next at h
 split at h
 ·exact (vi_next _ _ _ _ _ _ _ _).trans h
 ·cases h
noncomputable def Ei_out:Env where
 tt := mkTI Tryd.prog
 fn := fun f => match f with
  | 62 => some (msi_named,FSem.wk msi_named Fi_named)
  | 64 => some (msi_done,FSem.wk msi_done Fi_done)
  | 65 => some (msi_set,FSem.wk msi_set Fi_set)
  | _ => none
 bxf := fun _ => none
 mv := []
 keep := fun b => match b with
  | 0 => [(3,false),(4,false),(5,false),(14,false),(15,false),(16,false)]
  | _ => []
 keepB := fun b => match b with
  | 0 => [(3,false),(4,false),(5,false)]
  | _ => []
 keepX := fun b => match b with
  | 0 => [(4,false),(5,false)]
  | _ => []
 keepXB := fun b => match b with
  | 0 => [(4,false),(5,false)]
  | _ => []
theorem goodFi_out:∀ f ms F,Ei_out.fn f = some (ms,F) → Sound Tryd.prog f ms F := fun f ms F h => by
 unfold Ei_out at h
 dsimp only at h
 split at h
 ·injection h with h; injection h with e1 e2; subst e1 e2; exact Sound.wk si_named
 ·injection h with h; injection h with e1 e2; subst e1 e2; exact Sound.wk si_done
 ·injection h with h; injection h with e1 e2; subst e1 e2; exact Sound.wk si_set
 ·cases h
theorem goodBi_out:∀ f ms F,Ei_out.bxf f = some (ms,F) → SoundB Tryd.prog f ms F := fun f ms F h => by cases h
theorem goodi_out:Good Tryd.prog Ei_out := ⟨rfl,goodFi_out,goodBi_out⟩
noncomputable def Oi_out_0:Orc := fun _ _ => none
noncomputable def msi_out:List PM := [.rd,.own]
noncomputable def lsi_out:List (Nat×Code) := loopsAll 0 (Tryd.f95.body.getD .skip)
noncomputable def ci_out_0:Code := (loopOf 0 (Tryd.f95.body.getD .skip)).getD .skip
theorem lseqi_out:lsi_out = [(0,ci_out_0)] := by kernel_rfl
theorem mi_out_0:∀ p,p ∈ lsi_out → p.1 = 0 → p.2 = ci_out_0 := by
 intro p hp
 rw [lseqi_out] at hp
 simp only [List.mem_cons,List.not_mem_nil,or_false] at hp
 subst hp; simp
theorem ki_out_0:OrcOk Ei_out Oi_out_0 lsi_out 0 := orcOk_none
noncomputable def hi_out_0 (y0:List (ByteArray×(List Int))) (y1:Int) (y2:Int) (y3:Int) (y4:Int) (y5:Int) (y6:Int) (y7:Int) (y8:Int) (y9:Int) (y10:Bool) (y11:List ByteArray) (y12:List (ByteArray×(Bool×(List Int)))) (y13:Bool) (y14:List ByteArray) (y15:List (ByteArray×(Bool×(List Int)))):List (Pl×LV) := [(.T 3,.t (.val false [.ptr 3 0 0])),(.T 4,.t (.val false [.ptr 4 0 0])),(.T 5,.t (.val false [.ptr 5 0 0])),(.T 14,.t (.val false [.sl .any 42 (.pair .str (.sl 3 (.int .i64))) y0])),(.T 15,.t (.val false [.int .i64 y1])),(.T 16,.t (.val false [.int .i64 y2])),(.B 3,.b 0 false [.int .i64 y3,.int .i64 y4,.int .i64 y5,.int .i64 y6,.int .i64 y7,.int .i64 y8,.int .i64 y9]),(.B 4,.b 0 false [.bool y10,.row 4 3 0,.row 4 5 0]),(.R 4 3,.r 0 (some ⟨false,.any,true,9,.str,y11⟩)),(.R 4 5,.r 0 (some ⟨false,.any,true,76,(.pair .str (.pair .bool (.sl 3 (.int .i64)))),y12⟩)),(.B 5,.b 0 false [.bool y13,.row 5 3 0,.row 5 5 0]),(.R 5 3,.r 0 (some ⟨false,.any,true,9,.str,y14⟩)),(.R 5 5,.r 0 (some ⟨false,.any,true,76,(.pair .str (.pair .bool (.sl 3 (.int .i64)))),y15⟩))]
noncomputable def g_Si_out_0 (y0:List (ByteArray×(List Int))) (y1:Int) (y3:Int) (y4:Int) (y5:Int) (y6:Int) (y7:Int) (y8:Int) (y9:Int) (y10:Bool) (y11:List ByteArray) (y12:List (ByteArray×(Bool×(List Int)))) (y13:Bool):(Int×(List ByteArray)×(List (ByteArray×(Bool×(List Int))))) → RT (Int×(List ByteArray)×(List (ByteArray×(Bool×(List Int))))) (((List ByteArray)×(List (ByteArray×(Bool×(List Int))))))
 | (y2,y14,y15) => .br (true) (.br (decide (y2 < y1)) (.br (decide ((0:Int) ≤ y2 ∧ y2 < (↑(List.length y0):Int))) (.br (decide ((0:Int) ≤ (0:Int) ∧ (0:Int) < (↑(ByteArray.size (at_ (Ty.pair Ty.str (Ty.sl (nat_lit 3) (Ty.int IntKind.i64))) y0 (Int.toNat y2)).1):Int))) (.br (true) (.br (byteAt (at_ (Ty.pair Ty.str (Ty.sl (nat_lit 3) (Ty.int IntKind.i64))) y0 (Int.toNat y2)).1 (nat_lit 0) == (102:Int)) (.br (decide ((0:Int) ≤ (0:Int) ∧ (0:Int) < (↑(List.length (at_ (Ty.pair Ty.str (Ty.sl (nat_lit 3) (Ty.int IntKind.i64))) y0 (Int.toNat y2)).2):Int))) (.br (true) (.br (at_ (Ty.int IntKind.i64) (at_ (Ty.pair Ty.str (Ty.sl (nat_lit 3) (Ty.int IntKind.i64))) y0 (Int.toNat y2)).2 (nat_lit 0) == y4) (.br (decide ((0:Int) ≤ (2:Int) ∧ (2:Int) < (↑(List.length (at_ (Ty.pair Ty.str (Ty.sl (nat_lit 3) (Ty.int IntKind.i64))) y0 (Int.toNat y2)).2):Int))) (.br (true) (.br (at_ (Ty.int IntKind.i64) (at_ (Ty.pair Ty.str (Ty.sl (nat_lit 3) (Ty.int IntKind.i64))) y0 (Int.toNat y2)).2 (nat_lit 2) == (1:Int)) (.br (decide ((List.length y14 + List.length [(at_ (Ty.pair Ty.str (Ty.sl (nat_lit 3) (Ty.int IntKind.i64))) y0 (Int.toNat y2)).1]) * nat_lit 16 ≤ nat_lit 140737488355328 ∧ List.length y14 + List.length [(at_ (Ty.pair Ty.str (Ty.sl (nat_lit 3) (Ty.int IntKind.i64))) y0 (Int.toNat y2)).1] ≤ nat_lit 9223372036854775807)) (.br (decide ((0:Int) ≤ (1:Int) ∧ (1:Int) < (↑(List.length (at_ (Ty.pair Ty.str (Ty.sl (nat_lit 3) (Ty.int IntKind.i64))) y0 (Int.toNat y2)).2):Int))) (.br (true) (.br (decide ((List.length y15 + List.length [((at_ (Ty.pair Ty.str (Ty.sl (nat_lit 3) (Ty.int IntKind.i64))) y0 (Int.toNat y2)).1,false,[y4,at_ (Ty.int IntKind.i64) (at_ (Ty.pair Ty.str (Ty.sl (nat_lit 3) (Ty.int IntKind.i64))) y0 (Int.toNat y2)).2 (nat_lit 1),(0:Int)])]) * nat_lit 48 ≤ nat_lit 140737488355328 ∧ List.length y15 + List.length [((at_ (Ty.pair Ty.str (Ty.sl (nat_lit 3) (Ty.int IntKind.i64))) y0 (Int.toNat y2)).1,false,[y4,at_ (Ty.int IntKind.i64) (at_ (Ty.pair Ty.str (Ty.sl (nat_lit 3) (Ty.int IntKind.i64))) y0 (Int.toNat y2)).2 (nat_lit 1),(0:Int)])] ≤ nat_lit 9223372036854775807)) (.br (true) (.go ((IntKind.wrap IntKind.i64 (y2 + (1:Int)),y14 ++ [(at_ (Ty.pair Ty.str (Ty.sl (nat_lit 3) (Ty.int IntKind.i64))) y0 (Int.toNat y2)).1],y15 ++ [((at_ (Ty.pair Ty.str (Ty.sl (nat_lit 3) (Ty.int IntKind.i64))) y0 (Int.toNat y2)).1,false,[y4,at_ (Ty.int IntKind.i64) (at_ (Ty.pair Ty.str (Ty.sl (nat_lit 3) (Ty.int IntKind.i64))) y0 (Int.toNat y2)).2 (nat_lit 1),(0:Int)])]))) .bad) .bad) .bad) .bad) .bad) (.br (true) (.go ((IntKind.wrap IntKind.i64 (y2 + (1:Int)),y14,y15))) .bad)) .bad) .bad) (.br (true) (.go ((IntKind.wrap IntKind.i64 (y2 + (1:Int)),y14,y15))) .bad)) .bad) .bad) (.br (true) (.go ((IntKind.wrap IntKind.i64 (y2 + (1:Int)),y14,y15))) .bad)) .bad) .bad) .bad) (.out ((y14,y15)))) .bad
noncomputable def g_Li_out_0 (y0:List (ByteArray×(List Int))) (y1:Int) (y3:Int) (y4:Int) (y5:Int) (y6:Int) (y7:Int) (y8:Int) (y9:Int) (y10:Bool) (y11:List ByteArray) (y12:List (ByteArray×(Bool×(List Int)))) (y13:Bool) (x:Int×(List ByteArray)×(List (ByteArray×(Bool×(List Int))))):Option (((List ByteArray)×(List (ByteArray×(Bool×(List Int)))))) := loopO (g_Si_out_0 y0 y1 y3 y4 y5 y6 y7 y8 y9 y10 y11 y12 y13) x
noncomputable def xi_out_0 (y0:List (ByteArray×(List Int))) (y1:Int) (y3:Int) (y4:Int) (y5:Int) (y6:Int) (y7:Int) (y8:Int) (y9:Int) (y10:Bool) (y11:List ByteArray) (y12:List (ByteArray×(Bool×(List Int)))) (y13:Bool):(((List ByteArray)×(List (ByteArray×(Bool×(List Int)))))) → Ex×List (Pl×LV) := fun r => (.exit 0,[(.T 4,.t (.val false [.ptr 4 0 0])),(.T 5,.t (.val false [.ptr 5 0 0])),(.B 4,.b 0 false [.bool y10,.row 4 3 0,.row 4 5 0]),(.R 4 3,.r 0 (some ⟨false,.any,true,9,.str,y11⟩)),(.R 4 5,.r 0 (some ⟨false,.any,true,76,(.pair .str (.pair .bool (.sl 3 (.int .i64)))),y12⟩)),(.B 5,.b 0 false [.bool y13,.row 5 3 0,.row 5 5 0]),(.R 5 3,.r 0 (some ⟨false,.any,true,9,.str,r.1⟩)),(.R 5 5,.r 0 (some ⟨false,.any,true,76,(.pair .str (.pair .bool (.sl 3 (.int .i64)))),r.2⟩))])
noncomputable def Oi_out_1:Orc := fun b h => match b,h with
 | 0,[(.T 3,.t (.val false [.ptr 3 0 0])),(.T 4,.t (.val false [.ptr 4 0 0])),(.T 5,.t (.val false [.ptr 5 0 0])),(.T 14,.t (.val false [.sl .any 42 (.pair .str (.sl 3 (.int .i64))) y0])),(.T 15,.t (.val false [.int .i64 y1])),(.T 16,.t (.val false [.int .i64 y2])),(.B 3,.b 0 false [.int .i64 y3,.int .i64 y4,.int .i64 y5,.int .i64 y6,.int .i64 y7,.int .i64 y8,.int .i64 y9]),(.B 4,.b 0 false [.bool y10,.row 4 3 0,.row 4 5 0]),(.R 4 3,.r 0 (some ⟨false,.any,true,9,.str,y11⟩)),(.R 4 5,.r 0 (some ⟨false,.any,true,76,(.pair .str (.pair .bool (.sl 3 (.int .i64)))),y12⟩)),(.B 5,.b 0 false [.bool y13,.row 5 3 0,.row 5 5 0]),(.R 5 3,.r 0 (some ⟨false,.any,true,9,.str,y14⟩)),(.R 5 5,.r 0 (some ⟨false,.any,true,76,(.pair .str (.pair .bool (.sl 3 (.int .i64)))),y15⟩))] => some (okO (g_Li_out_0 y0 y1 y3 y4 y5 y6 y7 y8 y9 y10 y11 y12 y13 (y2,y14,y15)),(.leaf (.exit 0) [(.T 4,.t (.val false [.ptr 4 0 0])),(.T 5,.t (.val false [.ptr 5 0 0])),(.B 4,.b 0 false [.bool y10,.row 4 3 0,.row 4 5 0]),(.R 4 3,.r 0 (some ⟨false,.any,true,9,.str,y11⟩)),(.R 4 5,.r 0 (some ⟨false,.any,true,76,(.pair .str (.pair .bool (.sl 3 (.int .i64)))),y12⟩)),(.B 5,.b 0 false [.bool y13,.row 5 3 0,.row 5 5 0]),(.R 5 3,.r 0 (some ⟨false,.any,true,9,.str,(valO (g_Li_out_0 y0 y1 y3 y4 y5 y6 y7 y8 y9 y10 y11 y12 y13 (y2,y14,y15))).1⟩)),(.R 5 5,.r 0 (some ⟨false,.any,true,76,(.pair .str (.pair .bool (.sl 3 (.int .i64)))),(valO (g_Li_out_0 y0 y1 y3 y4 y5 y6 y7 y8 y9 y10 y11 y12 y13 (y2,y14,y15))).2⟩))]))
 | b,h => Oi_out_0 b h
theorem bi_out_0 (y0:List (ByteArray×(List Int))) (y1:Int) (y2:Int) (y3:Int) (y4:Int) (y5:Int) (y6:Int) (y7:Int) (y8:Int) (y9:Int) (y10:Bool) (y11:List ByteArray) (y12:List (ByteArray×(Bool×(List Int)))) (y13:Bool) (y14:List ByteArray) (y15:List (ByteArray×(Bool×(List Int)))):Tr.bt Ei_out Oi_out_0 (exec Ei_out 0 ci_out_0 (St.of (hi_out_0 y0 y1 y2 y3 y4 y5 y6 y7 y8 y9 y10 y11 y12 y13 y14 y15)) (leafRd Ei_out 0)) = (g_Si_out_0 y0 y1 y3 y4 y5 y6 y7 y8 y9 y10 y11 y12 y13 (y2,y14,y15)).bt (fun ((y2,y14,y15):Int×(List ByteArray)×(List (ByteArray×(Bool×(List Int))))) => (hi_out_0 y0 y1 y2 y3 y4 y5 y6 y7 y8 y9 y10 y11 y12 y13 y14 y15)) (xi_out_0 y0 y1 y3 y4 y5 y6 y7 y8 y9 y10 y11 y12 y13) := by kernel_rfl
theorem ki_out_1:OrcOk Ei_out Oi_out_1 lsi_out 1 := orc_add ki_out_0 (fun n p hp h ex h' ho => by
 obtain ⟨b,c⟩ := p
 obtain ⟨xt,h1,h2⟩ := ho
 have h1:Oi_out_1 b h = some (true,xt) := h1
 unfold Oi_out_1 at h1
 split at h1
 ·injection h1 with h1
  injection h1 with e1 e2
  subst e2
  have hc:c = ci_out_0 := mi_out_0 _ hp rfl
  subst hc
  right
  rename_i y0 y1 y2 y3 y4 y5 y6 y7 y8 y9 y10 y11 y12 y13 y14 y15
  have key := LT_step ki_out_0 hp (fun q hq => loopsAll_in _ _ _ _ hp hq) (fun ((y2,y14,y15):Int×(List ByteArray)×(List (ByteArray×(Bool×(List Int))))) => (hi_out_0 y0 y1 y2 y3 y4 y5 y6 y7 y8 y9 y10 y11 y12 y13 y14 y15)) (xi_out_0 y0 y1 y3 y4 y5 y6 y7 y8 y9 y10 y11 y12 y13) (g_Si_out_0 y0 y1 y3 y4 y5 y6 y7 y8 y9 y10 y11 y12 y13) (fun x => by first | exact bi_out_0 y0 y1 x.1 y3 y4 y5 y6 y7 y8 y9 y10 y11 y12 y13 x.2.1 x.2.2) n (x := (y2,y14,y15)) (okO_some e1)
  have hx:∀ r,XT.sel (.leaf (.exit 0) [(.T 4,.t (.val false [.ptr 4 0 0])),(.T 5,.t (.val false [.ptr 5 0 0])),(.B 4,.b 0 false [.bool y10,.row 4 3 0,.row 4 5 0]),(.R 4 3,.r 0 (some ⟨false,.any,true,9,.str,y11⟩)),(.R 4 5,.r 0 (some ⟨false,.any,true,76,(.pair .str (.pair .bool (.sl 3 (.int .i64)))),y12⟩)),(.B 5,.b 0 false [.bool y13,.row 5 3 0,.row 5 5 0]),(.R 5 3,.r 0 (some ⟨false,.any,true,9,.str,r.1⟩)),(.R 5 5,.r 0 (some ⟨false,.any,true,76,(.pair .str (.pair .bool (.sl 3 (.int .i64)))),r.2⟩))]) = xi_out_0 y0 y1 y3 y4 y5 y6 y7 y8 y9 y10 y11 y12 y13 r := fun r => by first | rfl | (rcases r with r | r <;> rfl) | (rcases r with r | r | r <;> rfl) | (rcases r with r | r | r | r <;> rfl)
  have h3 := (hx (valO (g_Li_out_0 y0 y1 y3 y4 y5 y6 y7 y8 y9 y10 y11 y12 y13 (y2,y14,y15)))).symm.trans h2
  have e3 := congrArg Prod.fst h3
  have e4 := congrArg Prod.snd h3
  simp only at e3 e4
  rw [← e3,← e4]
  exact key
 ·exact .inl ⟨xt,h1,h2⟩)
noncomputable def g_Ai_out (a0:List (ByteArray×(List Int))) (a1:Int) (a2:Int) (a3:Int) (a4:Int) (a5:Int) (a6:Int) (a7:Int):Bool := g_Ai_named (lit [(117:Nat)]) a2&&okO (g_Li_out_0 a0 (↑(List.length a0):Int) a1 a2 a3 a4 a5 a6 a7 false [] [] true ((0:Int),[g_Vi_named_0 (lit [(117:Nat)]) a2],[]))
noncomputable def g_Vi_out_0 (a0:List (ByteArray×(List Int))) (a1:Int) (a2:Int) (a3:Int) (a4:Int) (a5:Int) (a6:Int) (a7:Int):List ByteArray := (valO (g_Li_out_0 a0 (↑(List.length a0):Int) a1 a2 a3 a4 a5 a6 a7 false [] [] true ((0:Int),[g_Vi_named_0 (lit [(117:Nat)]) a2],[]))).1
noncomputable def g_Vi_out_1 (a0:List (ByteArray×(List Int))) (a1:Int) (a2:Int) (a3:Int) (a4:Int) (a5:Int) (a6:Int) (a7:Int):List (ByteArray×(Bool×(List Int))) := (valO (g_Li_out_0 a0 (↑(List.length a0):Int) a1 a2 a3 a4 a5 a6 a7 false [] [] true ((0:Int),[g_Vi_named_0 (lit [(117:Nat)]) a2],[]))).2
noncomputable def Fi_out:FSem := fun ys => match ys with
 | [.val true [.sl .any 42 (.pair .str (.sl 3 (.int .i64))) a0],.val true [.int .i64 a1,.int .i64 a2,.int .i64 a3,.int .i64 a4,.int .i64 a5,.int .i64 a6,.int .i64 a7]] => some ((g_Ai_out a0 a1 a2 a3 a4 a5 a6 a7),.val true [.bool true,.own .any true 9 .str (g_Vi_out_0 a0 a1 a2 a3 a4 a5 a6 a7),.own .any true 76 (.pair .str (.pair .bool (.sl 3 (.int .i64)))) (g_Vi_out_1 a0 a1 a2 a3 a4 a5 a6 a7)],[])
 | _ => none
theorem vi_out (a0:List (ByteArray×(List Int))) (a1:Int) (a2:Int) (a3:Int) (a4:Int) (a5:Int) (a6:Int) (a7:Int):collapseH .std Ei_out Oi_out_1 (execFn Ei_out Tryd.f95 msi_out [.val true [.sl .any 42 (.pair .str (.sl 3 (.int .i64))) a0],.val true [.int .i64 a1,.int .i64 a2,.int .i64 a3,.int .i64 a4,.int .i64 a5,.int .i64 a6,.int .i64 a7]]) = some ((g_Ai_out a0 a1 a2 a3 a4 a5 a6 a7),.val true [.bool true,.own .any true 9 .str (g_Vi_out_0 a0 a1 a2 a3 a4 a5 a6 a7),.own .any true 76 (.pair .str (.pair .bool (.sl 3 (.int .i64)))) (g_Vi_out_1 a0 a1 a2 a3 a4 a5 a6 a7)],[]) := by kernel_rfl
theorem si_out:Sound Tryd.prog 95 msi_out Fi_out := by
 refine fn_gen goodi_out (by kernel_rfl) .std (fn := Tryd.f95) (c := (Tryd.f95.body.getD .skip)) (o := Oi_out_1) (k := 1) (by kernel_rfl) (by kernel_rfl) (by kernel_rfl) (by kernel_rfl) (by decide) ki_out_1 ?_
 intro ys r outs h
 unfold Fi_out at h
 split at h
 ·exact (vi_out _ _ _ _ _ _ _ _).trans h
 ·cases h
noncomputable def Ei_trade:Env where
 tt := mkTI Tryd.prog
 fn := fun f => match f with
  | 40 => some (msi_StoStore_get,FSem.wk msi_StoStore_get Fi_StoStore_get)
  | 62 => some (msi_named,FSem.wk msi_named Fi_named)
  | 63 => some (msi_refused,FSem.wk msi_refused Fi_refused)
  | 64 => some (msi_done,FSem.wk msi_done Fi_done)
  | 65 => some (msi_set,FSem.wk msi_set Fi_set)
  | 96 => some (msi_SecSum,FSem.wk msi_SecSum Fi_SecSum)
  | _ => none
 bxf := fun _ => none
 mv := []
 keep := fun _ => []
 keepB := fun _ => []
 keepX := fun _ => []
 keepXB := fun _ => []
theorem goodFi_trade:∀ f ms F,Ei_trade.fn f = some (ms,F) → Sound Tryd.prog f ms F := fun f ms F h => by
 unfold Ei_trade at h
 dsimp only at h
 split at h
 ·injection h with h; injection h with e1 e2; subst e1 e2; exact Sound.wk si_StoStore_get
 ·injection h with h; injection h with e1 e2; subst e1 e2; exact Sound.wk si_named
 ·injection h with h; injection h with e1 e2; subst e1 e2; exact Sound.wk si_refused
 ·injection h with h; injection h with e1 e2; subst e1 e2; exact Sound.wk si_done
 ·injection h with h; injection h with e1 e2; subst e1 e2; exact Sound.wk si_set
 ·injection h with h; injection h with e1 e2; subst e1 e2; exact Sound.wk si_SecSum
 ·cases h
theorem goodBi_trade:∀ f ms F,Ei_trade.bxf f = some (ms,F) → SoundB Tryd.prog f ms F := fun f ms F h => by cases h
theorem goodi_trade:Good Tryd.prog Ei_trade := ⟨rfl,goodFi_trade,goodBi_trade⟩
noncomputable def Oi_trade_0:Orc := fun _ _ => none
noncomputable def msi_trade:List PM := [.rd,.own]
noncomputable def lsi_trade:List (Nat×Code) := loopsAll 0 (Tryd.f93.body.getD .skip)
theorem ki_trade_0:OrcOk Ei_trade Oi_trade_0 lsi_trade 0 := orcOk_none
noncomputable def g_Ai_trade (a0:List (ByteArray×(List Int))) (a1:Int) (a2:Int) (a3:Int) (a4:Int) (a5:Int) (a6:Int) (a7:Int):Bool := g_Ai_named (lit [(99:Nat)]) a4&&(g_Ai_named (lit [(102:Nat)]) a6&&(g_Ai_StoStore_get a0 (g_Vi_named_0 (lit [(99:Nat)]) a4)&&bif g_Vi_StoStore_get_0 a0 (g_Vi_named_0 (lit [(99:Nat)]) a4) then true else g_Ai_StoStore_get a0 (g_Vi_named_0 (lit [(102:Nat)]) a6)&&bif !g_Vi_StoStore_get_0 a0 (g_Vi_named_0 (lit [(102:Nat)]) a6) then true else g_Ai_SecSum a5&&(decide ((0:Int) ≤ (1:Int) ∧ (1:Int) < (↑(List.length (g_Vi_StoStore_get_1 a0 (g_Vi_named_0 (lit [(99:Nat)]) a4))):Int))&&(decide (nat_lit 1 < List.length (g_Vi_StoStore_get_1 a0 (g_Vi_named_0 (lit [(99:Nat)]) a4)))&&bif g_Vi_SecSum_0 a5 != at_ (Ty.int IntKind.i64) (g_Vi_StoStore_get_1 a0 (g_Vi_named_0 (lit [(99:Nat)]) a4)) (nat_lit 1) then true else decide ((0:Int) ≤ (0:Int) ∧ (0:Int) < (↑(List.length (g_Vi_StoStore_get_1 a0 (g_Vi_named_0 (lit [(99:Nat)]) a4))):Int))&&(decide (nat_lit 0 < List.length (g_Vi_StoStore_get_1 a0 (g_Vi_named_0 (lit [(99:Nat)]) a4)))&&(g_Ai_named (lit [(117:Nat)]) (at_ (Ty.int IntKind.i64) (g_Vi_StoStore_get_1 a0 (g_Vi_named_0 (lit [(99:Nat)]) a4)) (nat_lit 0))&&(decide ((0:Int) ≤ (0:Int) ∧ (0:Int) < (↑(List.length (g_Vi_StoStore_get_1 a0 (g_Vi_named_0 (lit [(99:Nat)]) a4))):Int))&&(decide (nat_lit 0 < List.length (g_Vi_StoStore_get_1 a0 (g_Vi_named_0 (lit [(99:Nat)]) a4)))&&true))))))))
noncomputable def g_Vi_trade_0 (a0:List (ByteArray×(List Int))) (a1:Int) (a2:Int) (a3:Int) (a4:Int) (a5:Int) (a6:Int) (a7:Int):Bool := bif g_Vi_StoStore_get_0 a0 (g_Vi_named_0 (lit [(99:Nat)]) a4) then false else bif !g_Vi_StoStore_get_0 a0 (g_Vi_named_0 (lit [(102:Nat)]) a6) then false else bif g_Vi_SecSum_0 a5 != at_ (Ty.int IntKind.i64) (g_Vi_StoStore_get_1 a0 (g_Vi_named_0 (lit [(99:Nat)]) a4)) (nat_lit 1) then false else true
noncomputable def g_Vi_trade_1 (a0:List (ByteArray×(List Int))) (a1:Int) (a2:Int) (a3:Int) (a4:Int) (a5:Int) (a6:Int) (a7:Int):List ByteArray := bif g_Vi_StoStore_get_0 a0 (g_Vi_named_0 (lit [(99:Nat)]) a4) then [g_Vi_named_0 (lit [(99:Nat)]) a4,g_Vi_named_0 (lit [(102:Nat)]) a6] else bif !g_Vi_StoStore_get_0 a0 (g_Vi_named_0 (lit [(102:Nat)]) a6) then [g_Vi_named_0 (lit [(99:Nat)]) a4,g_Vi_named_0 (lit [(102:Nat)]) a6] else bif g_Vi_SecSum_0 a5 != at_ (Ty.int IntKind.i64) (g_Vi_StoStore_get_1 a0 (g_Vi_named_0 (lit [(99:Nat)]) a4)) (nat_lit 1) then [g_Vi_named_0 (lit [(99:Nat)]) a4,g_Vi_named_0 (lit [(102:Nat)]) a6] else [g_Vi_named_0 (lit [(99:Nat)]) a4,g_Vi_named_0 (lit [(102:Nat)]) a6,g_Vi_named_0 (lit [(117:Nat)]) (at_ (Ty.int IntKind.i64) (g_Vi_StoStore_get_1 a0 (g_Vi_named_0 (lit [(99:Nat)]) a4)) (nat_lit 0))]
noncomputable def g_Vi_trade_2 (a0:List (ByteArray×(List Int))) (a1:Int) (a2:Int) (a3:Int) (a4:Int) (a5:Int) (a6:Int) (a7:Int):List (ByteArray×(Bool×(List Int))) := bif g_Vi_StoStore_get_0 a0 (g_Vi_named_0 (lit [(99:Nat)]) a4) then g_Vi_refused_0 [g_Vi_named_0 (lit [(99:Nat)]) a4,g_Vi_named_0 (lit [(102:Nat)]) a6] else bif !g_Vi_StoStore_get_0 a0 (g_Vi_named_0 (lit [(102:Nat)]) a6) then g_Vi_refused_0 [g_Vi_named_0 (lit [(99:Nat)]) a4,g_Vi_named_0 (lit [(102:Nat)]) a6] else bif g_Vi_SecSum_0 a5 != at_ (Ty.int IntKind.i64) (g_Vi_StoStore_get_1 a0 (g_Vi_named_0 (lit [(99:Nat)]) a4)) (nat_lit 1) then g_Vi_refused_0 [g_Vi_named_0 (lit [(99:Nat)]) a4,g_Vi_named_0 (lit [(102:Nat)]) a6] else [(g_Vi_named_0 (lit [(99:Nat)]) a4,true,[]),(g_Vi_named_0 (lit [(102:Nat)]) a6,false,[at_ (Ty.int IntKind.i64) (g_Vi_StoStore_get_1 a0 (g_Vi_named_0 (lit [(99:Nat)]) a4)) (nat_lit 0),(1:Int),(1:Int)])]
noncomputable def Fi_trade:FSem := fun ys => match ys with
 | [.val true [.sl .any 42 (.pair .str (.sl 3 (.int .i64))) a0],.val true [.int .i64 a1,.int .i64 a2,.int .i64 a3,.int .i64 a4,.int .i64 a5,.int .i64 a6,.int .i64 a7]] => some ((g_Ai_trade a0 a1 a2 a3 a4 a5 a6 a7),.val true [.bool (g_Vi_trade_0 a0 a1 a2 a3 a4 a5 a6 a7),.own .any true 9 .str (g_Vi_trade_1 a0 a1 a2 a3 a4 a5 a6 a7),.own .any true 76 (.pair .str (.pair .bool (.sl 3 (.int .i64)))) (g_Vi_trade_2 a0 a1 a2 a3 a4 a5 a6 a7)],[])
 | _ => none
theorem vi_trade (a0:List (ByteArray×(List Int))) (a1:Int) (a2:Int) (a3:Int) (a4:Int) (a5:Int) (a6:Int) (a7:Int):collapseH .std Ei_trade Oi_trade_0 (execFn Ei_trade Tryd.f93 msi_trade [.val true [.sl .any 42 (.pair .str (.sl 3 (.int .i64))) a0],.val true [.int .i64 a1,.int .i64 a2,.int .i64 a3,.int .i64 a4,.int .i64 a5,.int .i64 a6,.int .i64 a7]]) = some ((g_Ai_trade a0 a1 a2 a3 a4 a5 a6 a7),.val true [.bool (g_Vi_trade_0 a0 a1 a2 a3 a4 a5 a6 a7),.own .any true 9 .str (g_Vi_trade_1 a0 a1 a2 a3 a4 a5 a6 a7),.own .any true 76 (.pair .str (.pair .bool (.sl 3 (.int .i64)))) (g_Vi_trade_2 a0 a1 a2 a3 a4 a5 a6 a7)],[]) := by kernel_rfl
theorem si_trade:Sound Tryd.prog 93 msi_trade Fi_trade := by
 refine fn_gen goodi_trade (by kernel_rfl) .std (fn := Tryd.f93) (c := (Tryd.f93.body.getD .skip)) (o := Oi_trade_0) (k := 0) (by kernel_rfl) (by kernel_rfl) (by kernel_rfl) (by kernel_rfl) (by decide) ki_trade_0 ?_
 intro ys r outs h
 unfold Fi_trade at h
 split at h
 ·exact (vi_trade _ _ _ _ _ _ _ _).trans h
 ·cases h
noncomputable def Ei_atMay:Env where
 tt := mkTI Tryd.prog
 fn := fun f => match f with
  | 40 => some (msi_StoStore_get,FSem.wk msi_StoStore_get Fi_StoStore_get)
  | 62 => some (msi_named,FSem.wk msi_named Fi_named)
  | 63 => some (msi_refused,FSem.wk msi_refused Fi_refused)
  | 64 => some (msi_done,FSem.wk msi_done Fi_done)
  | 65 => some (msi_set,FSem.wk msi_set Fi_set)
  | 93 => some (msi_trade,FSem.wk msi_trade Fi_trade)
  | 94 => some (msi_next,FSem.wk msi_next Fi_next)
  | 95 => some (msi_out,FSem.wk msi_out Fi_out)
  | 96 => some (msi_SecSum,FSem.wk msi_SecSum Fi_SecSum)
  | _ => none
 bxf := fun _ => none
 mv := []
 keep := fun _ => []
 keepB := fun _ => []
 keepX := fun _ => []
 keepXB := fun _ => []
theorem goodFi_atMay:∀ f ms F,Ei_atMay.fn f = some (ms,F) → Sound Tryd.prog f ms F := fun f ms F h => by
 unfold Ei_atMay at h
 dsimp only at h
 split at h
 ·injection h with h; injection h with e1 e2; subst e1 e2; exact Sound.wk si_StoStore_get
 ·injection h with h; injection h with e1 e2; subst e1 e2; exact Sound.wk si_named
 ·injection h with h; injection h with e1 e2; subst e1 e2; exact Sound.wk si_refused
 ·injection h with h; injection h with e1 e2; subst e1 e2; exact Sound.wk si_done
 ·injection h with h; injection h with e1 e2; subst e1 e2; exact Sound.wk si_set
 ·injection h with h; injection h with e1 e2; subst e1 e2; exact Sound.wk si_trade
 ·injection h with h; injection h with e1 e2; subst e1 e2; exact Sound.wk si_next
 ·injection h with h; injection h with e1 e2; subst e1 e2; exact Sound.wk si_out
 ·injection h with h; injection h with e1 e2; subst e1 e2; exact Sound.wk si_SecSum
 ·cases h
theorem goodBi_atMay:∀ f ms F,Ei_atMay.bxf f = some (ms,F) → SoundB Tryd.prog f ms F := fun f ms F h => by cases h
theorem goodi_atMay:Good Tryd.prog Ei_atMay := ⟨rfl,goodFi_atMay,goodBi_atMay⟩
noncomputable def Oi_atMay_0:Orc := fun _ _ => none
noncomputable def msi_atMay:List PM := [.rd,.own]
noncomputable def lsi_atMay:List (Nat×Code) := loopsAll 0 (Tryd.f61.body.getD .skip)
theorem ki_atMay_0:OrcOk Ei_atMay Oi_atMay_0 lsi_atMay 0 := orcOk_none
noncomputable def g_Ai_atMay (a0:List (ByteArray×(List Int))) (a1:Int) (a2:Int) (a3:Int) (a4:Int) (a5:Int) (a6:Int) (a7:Int):Bool := bif a1 == (3:Int) then g_Ai_trade a0 a1 a2 a3 a4 a5 a6 a7 else bif a1 == (4:Int) then g_Ai_next a0 a1 a2 a3 a4 a5 a6 a7 else bif a1 == (5:Int) then g_Ai_out a0 a1 a2 a3 a4 a5 a6 a7 else g_Ai_named (lit [(99:Nat)]) a4&&(g_Ai_StoStore_get a0 (g_Vi_named_0 (lit [(99:Nat)]) a4)&&bif !g_Vi_StoStore_get_0 a0 (g_Vi_named_0 (lit [(99:Nat)]) a4) then true else g_Ai_SecSum a5&&true)
noncomputable def g_Vi_atMay_0 (a0:List (ByteArray×(List Int))) (a1:Int) (a2:Int) (a3:Int) (a4:Int) (a5:Int) (a6:Int) (a7:Int):Bool := bif a1 == (3:Int) then g_Vi_trade_0 a0 a1 a2 a3 a4 a5 a6 a7 else bif a1 == (4:Int) then g_Vi_next_0 a0 a1 a2 a3 a4 a5 a6 a7 else bif a1 == (5:Int) then true else bif !g_Vi_StoStore_get_0 a0 (g_Vi_named_0 (lit [(99:Nat)]) a4) then false else true
noncomputable def g_Vi_atMay_1 (a0:List (ByteArray×(List Int))) (a1:Int) (a2:Int) (a3:Int) (a4:Int) (a5:Int) (a6:Int) (a7:Int):List ByteArray := bif a1 == (3:Int) then g_Vi_trade_1 a0 a1 a2 a3 a4 a5 a6 a7 else bif a1 == (4:Int) then g_Vi_next_1 a0 a1 a2 a3 a4 a5 a6 a7 else bif a1 == (5:Int) then g_Vi_out_0 a0 a1 a2 a3 a4 a5 a6 a7 else bif !g_Vi_StoStore_get_0 a0 (g_Vi_named_0 (lit [(99:Nat)]) a4) then [g_Vi_named_0 (lit [(99:Nat)]) a4] else [g_Vi_named_0 (lit [(99:Nat)]) a4]
noncomputable def g_Vi_atMay_2 (a0:List (ByteArray×(List Int))) (a1:Int) (a2:Int) (a3:Int) (a4:Int) (a5:Int) (a6:Int) (a7:Int):List (ByteArray×(Bool×(List Int))) := bif a1 == (3:Int) then g_Vi_trade_2 a0 a1 a2 a3 a4 a5 a6 a7 else bif a1 == (4:Int) then g_Vi_next_2 a0 a1 a2 a3 a4 a5 a6 a7 else bif a1 == (5:Int) then g_Vi_out_1 a0 a1 a2 a3 a4 a5 a6 a7 else bif !g_Vi_StoStore_get_0 a0 (g_Vi_named_0 (lit [(99:Nat)]) a4) then g_Vi_refused_0 [g_Vi_named_0 (lit [(99:Nat)]) a4] else [(g_Vi_named_0 (lit [(99:Nat)]) a4,false,[a2,g_Vi_SecSum_0 a5])]
noncomputable def Fi_atMay:FSem := fun ys => match ys with
 | [.val true [.sl .any 42 (.pair .str (.sl 3 (.int .i64))) a0],.val true [.int .i64 a1,.int .i64 a2,.int .i64 a3,.int .i64 a4,.int .i64 a5,.int .i64 a6,.int .i64 a7]] => some ((g_Ai_atMay a0 a1 a2 a3 a4 a5 a6 a7),.val true [.bool (g_Vi_atMay_0 a0 a1 a2 a3 a4 a5 a6 a7),.own .any true 9 .str (g_Vi_atMay_1 a0 a1 a2 a3 a4 a5 a6 a7),.own .any true 76 (.pair .str (.pair .bool (.sl 3 (.int .i64)))) (g_Vi_atMay_2 a0 a1 a2 a3 a4 a5 a6 a7)],[])
 | _ => none
theorem vi_atMay (a0:List (ByteArray×(List Int))) (a1:Int) (a2:Int) (a3:Int) (a4:Int) (a5:Int) (a6:Int) (a7:Int):collapseH .std Ei_atMay Oi_atMay_0 (execFn Ei_atMay Tryd.f61 msi_atMay [.val true [.sl .any 42 (.pair .str (.sl 3 (.int .i64))) a0],.val true [.int .i64 a1,.int .i64 a2,.int .i64 a3,.int .i64 a4,.int .i64 a5,.int .i64 a6,.int .i64 a7]]) = some ((g_Ai_atMay a0 a1 a2 a3 a4 a5 a6 a7),.val true [.bool (g_Vi_atMay_0 a0 a1 a2 a3 a4 a5 a6 a7),.own .any true 9 .str (g_Vi_atMay_1 a0 a1 a2 a3 a4 a5 a6 a7),.own .any true 76 (.pair .str (.pair .bool (.sl 3 (.int .i64)))) (g_Vi_atMay_2 a0 a1 a2 a3 a4 a5 a6 a7)],[]) := by kernel_rfl
theorem si_atMay:Sound Tryd.prog 61 msi_atMay Fi_atMay := by
 refine fn_gen goodi_atMay (by kernel_rfl) .std (fn := Tryd.f61) (c := (Tryd.f61.body.getD .skip)) (o := Oi_atMay_0) (k := 0) (by kernel_rfl) (by kernel_rfl) (by kernel_rfl) (by kernel_rfl) (by decide) ki_atMay_0 ?_
 intro ys r outs h
 unfold Fi_atMay at h
 split at h
 ·exact (vi_atMay _ _ _ _ _ _ _ _).trans h
 ·cases h
noncomputable def Ei_isTx:Env where
 tt := mkTI Tryd.prog
 fn := fun f => match f with
  | 56 => some (msi_in,FSem.wk msi_in Fi_in)
  | _ => none
 bxf := fun _ => none
 mv := []
 keep := fun _ => []
 keepB := fun _ => []
 keepX := fun _ => []
 keepXB := fun _ => []
theorem goodFi_isTx:∀ f ms F,Ei_isTx.fn f = some (ms,F) → Sound Tryd.prog f ms F := fun f ms F h => by
 unfold Ei_isTx at h
 dsimp only at h
 split at h
 ·injection h with h; injection h with e1 e2; subst e1 e2; exact Sound.wk si_in
 ·cases h
theorem goodBi_isTx:∀ f ms F,Ei_isTx.bxf f = some (ms,F) → SoundB Tryd.prog f ms F := fun f ms F h => by cases h
theorem goodi_isTx:Good Tryd.prog Ei_isTx := ⟨rfl,goodFi_isTx,goodBi_isTx⟩
noncomputable def Oi_isTx_0:Orc := fun _ _ => none
noncomputable def msi_isTx:List PM := [.own]
noncomputable def lsi_isTx:List (Nat×Code) := loopsAll 0 (Tryd.f29.body.getD .skip)
theorem ki_isTx_0:OrcOk Ei_isTx Oi_isTx_0 lsi_isTx 0 := orcOk_none
noncomputable def g_Ai_isTx (a0:Int):Bool := g_Ai_in a0 (0:Int) (29:Int)
noncomputable def g_Vi_isTx_0 (a0:Int):Bool := g_Vi_in_0 a0 (0:Int) (29:Int)
noncomputable def Fi_isTx:FSem := fun ys => match ys with
 | [.val false [.int .i64 a0]] => some ((g_Ai_isTx a0),.val false [.bool (g_Vi_isTx_0 a0)],[])
 | _ => none
theorem vi_isTx (a0:Int):collapseH .std Ei_isTx Oi_isTx_0 (execFn Ei_isTx Tryd.f29 msi_isTx [.val false [.int .i64 a0]]) = some ((g_Ai_isTx a0),.val false [.bool (g_Vi_isTx_0 a0)],[]) := by kernel_rfl
theorem si_isTx:Sound Tryd.prog 29 msi_isTx Fi_isTx := by
 refine fn_gen goodi_isTx (by kernel_rfl) .std (fn := Tryd.f29) (c := (Tryd.f29.body.getD .skip)) (o := Oi_isTx_0) (k := 0) (by kernel_rfl) (by kernel_rfl) (by kernel_rfl) (by kernel_rfl) (by decide) ki_isTx_0 ?_
 intro ys r outs h
 unfold Fi_isTx at h
 split at h
 ·exact (vi_isTx _).trans h
 ·cases h
noncomputable def Eslices_Index_int_int:Env where
 tt := mkTI Tryd.prog
 fn := fun _ => none
 bxf := fun _ => none
 mv := []
 keep := fun b => match b with
  | 0 => [(0,false),(1,false),(7,false),(8,false)]
  | _ => []
 keepB := fun b => match b with
  | 0 => []
  | _ => []
 keepX := fun b => match b with
  | 0 => [(4,false)]
  | _ => []
 keepXB := fun b => match b with
  | 0 => []
  | _ => []
theorem goodFslices_Index_int_int:∀ f ms F,Eslices_Index_int_int.fn f = some (ms,F) → Sound Tryd.prog f ms F := fun f ms F h => by cases h
theorem goodBslices_Index_int_int:∀ f ms F,Eslices_Index_int_int.bxf f = some (ms,F) → SoundB Tryd.prog f ms F := fun f ms F h => by cases h
theorem goodslices_Index_int_int:Good Tryd.prog Eslices_Index_int_int := ⟨rfl,goodFslices_Index_int_int,goodBslices_Index_int_int⟩
noncomputable def Oslices_Index_int_int_0:Orc := fun _ _ => none
noncomputable def msslices_Index_int_int:List PM := [.rd,.own]
noncomputable def lsslices_Index_int_int:List (Nat×Code) := loopsAll 0 (Tryd.f92.body.getD .skip)
noncomputable def cslices_Index_int_int_0:Code := (loopOf 0 (Tryd.f92.body.getD .skip)).getD .skip
theorem lseqslices_Index_int_int:lsslices_Index_int_int = [(0,cslices_Index_int_int_0)] := by kernel_rfl
theorem mslices_Index_int_int_0:∀ p,p ∈ lsslices_Index_int_int → p.1 = 0 → p.2 = cslices_Index_int_int_0 := by
 intro p hp
 rw [lseqslices_Index_int_int] at hp
 simp only [List.mem_cons,List.not_mem_nil,or_false] at hp
 subst hp; simp
theorem kslices_Index_int_int_0:OrcOk Eslices_Index_int_int Oslices_Index_int_int_0 lsslices_Index_int_int 0 := orcOk_none
noncomputable def hslices_Index_int_int_0 (y0:List Int) (y1:Int) (y2:Int) (y3:Int):List (Pl×LV) := [(.T 0,.t (.val false [.sl .any 3 (.int .i64) y0])),(.T 1,.t (.val false [.int .i64 y1])),(.T 7,.t (.val false [.int .i64 y2])),(.T 8,.t (.val false [.int .i64 y3]))]
noncomputable def g_Sslices_Index_int_int_0 (y0:List Int) (y1:Int) (y2:Int):(Int) → RT (Int) ((Int) ⊕ (Unit))
 | y3 => .br (true) (.br (decide (y3 < y2)) (.br (decide ((0:Int) ≤ y3 ∧ y3 < (↑(List.length y0):Int))) (.br (true) (.br (y1 == at_ (Ty.int IntKind.i64) y0 (Int.toNat y3)) (.out (.inl y3)) (.br (true) (.go (IntKind.wrap IntKind.i64 (y3 + (1:Int)))) .bad)) .bad) .bad) (.out (.inr (())))) .bad
noncomputable def g_Lslices_Index_int_int_0 (y0:List Int) (y1:Int) (y2:Int) (x:Int):Option ((Int) ⊕ (Unit)) := loopO (g_Sslices_Index_int_int_0 y0 y1 y2) x
noncomputable def xslices_Index_int_int_0 (y0:List Int) (y1:Int) (y2:Int):((Int) ⊕ (Unit)) → Ex×List (Pl×LV) := fun
 | .inl r => (.ret,[(.T 4,.t (.val false [.int .i64 r]))])
 | .inr (r) => (.exit 0,[(.T 4,.t (.val false [.undef]))])
noncomputable def Oslices_Index_int_int_1:Orc := fun b h => match b,h with
 | 0,[(.T 0,.t (.val false [.sl .any 3 (.int .i64) y0])),(.T 1,.t (.val false [.int .i64 y1])),(.T 7,.t (.val false [.int .i64 y2])),(.T 8,.t (.val false [.int .i64 y3]))] => some (okO (g_Lslices_Index_int_int_0 y0 y1 y2 y3),(.br (isL (valO (g_Lslices_Index_int_int_0 y0 y1 y2 y3))) (.leaf .ret [(.T 4,.t (.val false [.int .i64 (getL (valO (g_Lslices_Index_int_int_0 y0 y1 y2 y3)))]))]) (.leaf (.exit 0) [(.T 4,.t (.val false [.undef]))])))
 | b,h => Oslices_Index_int_int_0 b h
theorem bslices_Index_int_int_0 (y0:List Int) (y1:Int) (y2:Int) (y3:Int):Tr.bt Eslices_Index_int_int Oslices_Index_int_int_0 (exec Eslices_Index_int_int 0 cslices_Index_int_int_0 (St.of (hslices_Index_int_int_0 y0 y1 y2 y3)) (leafRd Eslices_Index_int_int 0)) = (g_Sslices_Index_int_int_0 y0 y1 y2 y3).bt (fun (y3:Int) => (hslices_Index_int_int_0 y0 y1 y2 y3)) (xslices_Index_int_int_0 y0 y1 y2) := by kernel_rfl
theorem kslices_Index_int_int_1:OrcOk Eslices_Index_int_int Oslices_Index_int_int_1 lsslices_Index_int_int 1 := orc_add kslices_Index_int_int_0 (fun n p hp h ex h' ho => by
 obtain ⟨b,c⟩ := p
 obtain ⟨xt,h1,h2⟩ := ho
 have h1:Oslices_Index_int_int_1 b h = some (true,xt) := h1
 unfold Oslices_Index_int_int_1 at h1
 split at h1
 ·injection h1 with h1
  injection h1 with e1 e2
  subst e2
  have hc:c = cslices_Index_int_int_0 := mslices_Index_int_int_0 _ hp rfl
  subst hc
  right
  rename_i y0 y1 y2 y3
  have key := LT_step kslices_Index_int_int_0 hp (fun q hq => loopsAll_in _ _ _ _ hp hq) (fun (y3:Int) => (hslices_Index_int_int_0 y0 y1 y2 y3)) (xslices_Index_int_int_0 y0 y1 y2) (g_Sslices_Index_int_int_0 y0 y1 y2) (fun x => by first | exact bslices_Index_int_int_0 y0 y1 y2 x) n (x := y3) (okO_some e1)
  have hx:∀ r,XT.sel (.br (isL r) (.leaf .ret [(.T 4,.t (.val false [.int .i64 (getL r)]))]) (.leaf (.exit 0) [(.T 4,.t (.val false [.undef]))])) = xslices_Index_int_int_0 y0 y1 y2 r := fun r => by first | rfl | (rcases r with r | r <;> rfl) | (rcases r with r | r | r <;> rfl) | (rcases r with r | r | r | r <;> rfl)
  have h3 := (hx (valO (g_Lslices_Index_int_int_0 y0 y1 y2 y3))).symm.trans h2
  have e3 := congrArg Prod.fst h3
  have e4 := congrArg Prod.snd h3
  simp only at e3 e4
  rw [← e3,← e4]
  exact key
 ·exact .inl ⟨xt,h1,h2⟩)
noncomputable def g_Aslices_Index_int_int (a0:List Int) (a1:Int):Bool := okO (g_Lslices_Index_int_int_0 a0 a1 (↑(List.length a0):Int) (0:Int))
noncomputable def g_Vslices_Index_int_int_0 (a0:List Int) (a1:Int):Int := bif isL (valO (g_Lslices_Index_int_int_0 a0 a1 (↑(List.length a0):Int) (0:Int))) then getL (valO (g_Lslices_Index_int_int_0 a0 a1 (↑(List.length a0):Int) (0:Int))) else (-1:Int)
noncomputable def Fslices_Index_int_int:FSem := fun ys => match ys with
 | [.val false [.sl .any 3 (.int .i64) a0],.val false [.int .i64 a1]] => some ((g_Aslices_Index_int_int a0 a1),.val false [.int .i64 (g_Vslices_Index_int_int_0 a0 a1)],[])
 | _ => none
theorem vslices_Index_int_int (a0:List Int) (a1:Int):collapseH .std Eslices_Index_int_int Oslices_Index_int_int_1 (execFn Eslices_Index_int_int Tryd.f92 msslices_Index_int_int [.val false [.sl .any 3 (.int .i64) a0],.val false [.int .i64 a1]]) = some ((g_Aslices_Index_int_int a0 a1),.val false [.int .i64 (g_Vslices_Index_int_int_0 a0 a1)],[]) := by kernel_rfl
theorem sslices_Index_int_int:Sound Tryd.prog 92 msslices_Index_int_int Fslices_Index_int_int := by
 refine fn_gen goodslices_Index_int_int (by kernel_rfl) .std (fn := Tryd.f92) (c := (Tryd.f92.body.getD .skip)) (o := Oslices_Index_int_int_1) (k := 1) (by kernel_rfl) (by kernel_rfl) (by kernel_rfl) (by kernel_rfl) (by decide) kslices_Index_int_int_1 ?_
 intro ys r outs h
 unfold Fslices_Index_int_int at h
 split at h
 ·exact (vslices_Index_int_int _ _).trans h
 ·cases h
noncomputable def Eslices_Contains_int_int:Env where
 tt := mkTI Tryd.prog
 fn := fun f => match f with
  | 92 => some (msslices_Index_int_int,FSem.wk msslices_Index_int_int Fslices_Index_int_int)
  | _ => none
 bxf := fun _ => none
 mv := []
 keep := fun _ => []
 keepB := fun _ => []
 keepX := fun _ => []
 keepXB := fun _ => []
theorem goodFslices_Contains_int_int:∀ f ms F,Eslices_Contains_int_int.fn f = some (ms,F) → Sound Tryd.prog f ms F := fun f ms F h => by
 unfold Eslices_Contains_int_int at h
 dsimp only at h
 split at h
 ·injection h with h; injection h with e1 e2; subst e1 e2; exact Sound.wk sslices_Index_int_int
 ·cases h
theorem goodBslices_Contains_int_int:∀ f ms F,Eslices_Contains_int_int.bxf f = some (ms,F) → SoundB Tryd.prog f ms F := fun f ms F h => by cases h
theorem goodslices_Contains_int_int:Good Tryd.prog Eslices_Contains_int_int := ⟨rfl,goodFslices_Contains_int_int,goodBslices_Contains_int_int⟩
noncomputable def Oslices_Contains_int_int_0:Orc := fun _ _ => none
noncomputable def msslices_Contains_int_int:List PM := [.rd,.own]
noncomputable def lsslices_Contains_int_int:List (Nat×Code) := loopsAll 0 (Tryd.f59.body.getD .skip)
theorem kslices_Contains_int_int_0:OrcOk Eslices_Contains_int_int Oslices_Contains_int_int_0 lsslices_Contains_int_int 0 := orcOk_none
noncomputable def g_Aslices_Contains_int_int (a0:List Int) (a1:Int):Bool := g_Aslices_Index_int_int a0 a1&&true
noncomputable def g_Vslices_Contains_int_int_0 (a0:List Int) (a1:Int):Bool := decide (g_Vslices_Index_int_int_0 a0 a1 ≥ (0:Int))
noncomputable def Fslices_Contains_int_int:FSem := fun ys => match ys with
 | [.val false [.sl .any 3 (.int .i64) a0],.val false [.int .i64 a1]] => some ((g_Aslices_Contains_int_int a0 a1),.val false [.bool (g_Vslices_Contains_int_int_0 a0 a1)],[])
 | _ => none
theorem vslices_Contains_int_int (a0:List Int) (a1:Int):collapseH .std Eslices_Contains_int_int Oslices_Contains_int_int_0 (execFn Eslices_Contains_int_int Tryd.f59 msslices_Contains_int_int [.val false [.sl .any 3 (.int .i64) a0],.val false [.int .i64 a1]]) = some ((g_Aslices_Contains_int_int a0 a1),.val false [.bool (g_Vslices_Contains_int_int_0 a0 a1)],[]) := by kernel_rfl
theorem sslices_Contains_int_int:Sound Tryd.prog 59 msslices_Contains_int_int Fslices_Contains_int_int := by
 refine fn_gen goodslices_Contains_int_int (by kernel_rfl) .std (fn := Tryd.f59) (c := (Tryd.f59.body.getD .skip)) (o := Oslices_Contains_int_int_0) (k := 0) (by kernel_rfl) (by kernel_rfl) (by kernel_rfl) (by kernel_rfl) (by decide) kslices_Contains_int_int_0 ?_
 intro ys r outs h
 unfold Fslices_Contains_int_int at h
 split at h
 ·exact (vslices_Contains_int_int _ _).trans h
 ·cases h
noncomputable def Ei_PlcPlan:Env where
 tt := mkTI Tryd.prog
 fn := fun f => match f with
  | 29 => some (msi_isTx,FSem.wk msi_isTx Fi_isTx)
  | 31 => some (msi_OpPlaces,FSem.wk msi_OpPlaces Fi_OpPlaces)
  | 34 => some (msi_PlcOk,FSem.wk msi_PlcOk Fi_PlcOk)
  | 40 => some (msi_StoStore_get,FSem.wk msi_StoStore_get Fi_StoStore_get)
  | 59 => some (msslices_Contains_int_int,FSem.wk msslices_Contains_int_int Fslices_Contains_int_int)
  | 60 => some (msi_atIn,FSem.wk msi_atIn Fi_atIn)
  | 61 => some (msi_atMay,FSem.wk msi_atMay Fi_atMay)
  | 62 => some (msi_named,FSem.wk msi_named Fi_named)
  | 63 => some (msi_refused,FSem.wk msi_refused Fi_refused)
  | 64 => some (msi_done,FSem.wk msi_done Fi_done)
  | 65 => some (msi_set,FSem.wk msi_set Fi_set)
  | _ => none
 bxf := fun _ => none
 mv := []
 keep := fun _ => []
 keepB := fun _ => []
 keepX := fun _ => []
 keepXB := fun _ => []
theorem goodFi_PlcPlan:∀ f ms F,Ei_PlcPlan.fn f = some (ms,F) → Sound Tryd.prog f ms F := fun f ms F h => by
 unfold Ei_PlcPlan at h
 dsimp only at h
 split at h
 ·injection h with h; injection h with e1 e2; subst e1 e2; exact Sound.wk si_isTx
 ·injection h with h; injection h with e1 e2; subst e1 e2; exact Sound.wk si_OpPlaces
 ·injection h with h; injection h with e1 e2; subst e1 e2; exact Sound.wk si_PlcOk
 ·injection h with h; injection h with e1 e2; subst e1 e2; exact Sound.wk si_StoStore_get
 ·injection h with h; injection h with e1 e2; subst e1 e2; exact Sound.wk sslices_Contains_int_int
 ·injection h with h; injection h with e1 e2; subst e1 e2; exact Sound.wk si_atIn
 ·injection h with h; injection h with e1 e2; subst e1 e2; exact Sound.wk si_atMay
 ·injection h with h; injection h with e1 e2; subst e1 e2; exact Sound.wk si_named
 ·injection h with h; injection h with e1 e2; subst e1 e2; exact Sound.wk si_refused
 ·injection h with h; injection h with e1 e2; subst e1 e2; exact Sound.wk si_done
 ·injection h with h; injection h with e1 e2; subst e1 e2; exact Sound.wk si_set
 ·cases h
theorem goodBi_PlcPlan:∀ f ms F,Ei_PlcPlan.bxf f = some (ms,F) → SoundB Tryd.prog f ms F := fun f ms F h => by cases h
theorem goodi_PlcPlan:Good Tryd.prog Ei_PlcPlan := ⟨rfl,goodFi_PlcPlan,goodBi_PlcPlan⟩
noncomputable def Oi_PlcPlan_0:Orc := fun _ _ => none
noncomputable def msi_PlcPlan:List PM := [.own,.rd,.own,.own]
noncomputable def lsi_PlcPlan:List (Nat×Code) := loopsAll 0 (Tryd.f32.body.getD .skip)
theorem ki_PlcPlan_0:OrcOk Ei_PlcPlan Oi_PlcPlan_0 lsi_PlcPlan 0 := orcOk_none
noncomputable def g_Ai_PlcPlan (a0:Int) (a1:List (ByteArray×(List Int))) (a2:Int) (a3:Int) (a4:Int) (a5:Int) (a6:Int) (a7:Int) (a8:Int) (a9:Int):Bool := g_Ai_PlcOk a0 a1&&(!g_Vi_PlcOk_0 a0 a1 || g_Ai_isTx a2&&(!g_Vi_isTx_0 a2 || g_Ai_OpPlaces a3 a4 a5 a6 a7 a8 a9&&(g_Aslices_Contains_int_int (g_Vi_OpPlaces_0 a3 a4 a5 a6 a7 a8 a9) a0&&(!g_Vslices_Contains_int_int_0 (g_Vi_OpPlaces_0 a3 a4 a5 a6 a7 a8 a9) a0 || bif a0 == (1:Int) then g_Ai_atIn a1 a3 a4 a5 a6 a7 a8 a9 else bif a0 == (2:Int) then g_Ai_atMay a1 a3 a4 a5 a6 a7 a8 a9 else g_Ai_named (lit [(97:Nat)]) a2&&(g_Ai_StoStore_get a1 (g_Vi_named_0 (lit [(97:Nat)]) a2)&&bif !g_Vi_StoStore_get_0 a1 (g_Vi_named_0 (lit [(97:Nat)]) a2) then true else true)))))
noncomputable def g_Vi_PlcPlan_0 (a0:Int) (a1:List (ByteArray×(List Int))) (a2:Int) (a3:Int) (a4:Int) (a5:Int) (a6:Int) (a7:Int) (a8:Int) (a9:Int):Bool := bif !g_Vi_PlcOk_0 a0 a1 then false else bif !g_Vi_isTx_0 a2 then false else bif !g_Vslices_Contains_int_int_0 (g_Vi_OpPlaces_0 a3 a4 a5 a6 a7 a8 a9) a0 then false else bif a0 == (1:Int) then g_Vi_atIn_0 a1 a3 a4 a5 a6 a7 a8 a9 else bif a0 == (2:Int) then g_Vi_atMay_0 a1 a3 a4 a5 a6 a7 a8 a9 else bif !g_Vi_StoStore_get_0 a1 (g_Vi_named_0 (lit [(97:Nat)]) a2) then false else true
noncomputable def g_Vi_PlcPlan_1 (a0:Int) (a1:List (ByteArray×(List Int))) (a2:Int) (a3:Int) (a4:Int) (a5:Int) (a6:Int) (a7:Int) (a8:Int) (a9:Int):List ByteArray := bif !g_Vi_PlcOk_0 a0 a1 then [] else bif !g_Vi_isTx_0 a2 then [] else bif !g_Vslices_Contains_int_int_0 (g_Vi_OpPlaces_0 a3 a4 a5 a6 a7 a8 a9) a0 then [] else bif a0 == (1:Int) then g_Vi_atIn_1 a1 a3 a4 a5 a6 a7 a8 a9 else bif a0 == (2:Int) then g_Vi_atMay_1 a1 a3 a4 a5 a6 a7 a8 a9 else bif !g_Vi_StoStore_get_0 a1 (g_Vi_named_0 (lit [(97:Nat)]) a2) then [g_Vi_named_0 (lit [(97:Nat)]) a2] else [g_Vi_named_0 (lit [(97:Nat)]) a2]
noncomputable def g_Vi_PlcPlan_2 (a0:Int) (a1:List (ByteArray×(List Int))) (a2:Int) (a3:Int) (a4:Int) (a5:Int) (a6:Int) (a7:Int) (a8:Int) (a9:Int):List (ByteArray×(Bool×(List Int))) := bif !g_Vi_PlcOk_0 a0 a1 then [] else bif !g_Vi_isTx_0 a2 then [] else bif !g_Vslices_Contains_int_int_0 (g_Vi_OpPlaces_0 a3 a4 a5 a6 a7 a8 a9) a0 then [] else bif a0 == (1:Int) then g_Vi_atIn_2 a1 a3 a4 a5 a6 a7 a8 a9 else bif a0 == (2:Int) then g_Vi_atMay_2 a1 a3 a4 a5 a6 a7 a8 a9 else bif !g_Vi_StoStore_get_0 a1 (g_Vi_named_0 (lit [(97:Nat)]) a2) then g_Vi_refused_0 [g_Vi_named_0 (lit [(97:Nat)]) a2] else [(g_Vi_named_0 (lit [(97:Nat)]) a2,false,[a3])]
noncomputable def Fi_PlcPlan:FSem := fun ys => match ys with
 | [.val false [.int .i64 a0],.val true [.sl .any 42 (.pair .str (.sl 3 (.int .i64))) a1],.val false [.int .i64 a2],.val true [.int .i64 a3,.int .i64 a4,.int .i64 a5,.int .i64 a6,.int .i64 a7,.int .i64 a8,.int .i64 a9]] => some ((g_Ai_PlcPlan a0 a1 a2 a3 a4 a5 a6 a7 a8 a9),.val true [.bool (g_Vi_PlcPlan_0 a0 a1 a2 a3 a4 a5 a6 a7 a8 a9),.own .any true 9 .str (g_Vi_PlcPlan_1 a0 a1 a2 a3 a4 a5 a6 a7 a8 a9),.own .any true 76 (.pair .str (.pair .bool (.sl 3 (.int .i64)))) (g_Vi_PlcPlan_2 a0 a1 a2 a3 a4 a5 a6 a7 a8 a9)],[])
 | _ => none
theorem vi_PlcPlan (a0:Int) (a1:List (ByteArray×(List Int))) (a2:Int) (a3:Int) (a4:Int) (a5:Int) (a6:Int) (a7:Int) (a8:Int) (a9:Int):collapseH .std Ei_PlcPlan Oi_PlcPlan_0 (execFn Ei_PlcPlan Tryd.f32 msi_PlcPlan [.val false [.int .i64 a0],.val true [.sl .any 42 (.pair .str (.sl 3 (.int .i64))) a1],.val false [.int .i64 a2],.val true [.int .i64 a3,.int .i64 a4,.int .i64 a5,.int .i64 a6,.int .i64 a7,.int .i64 a8,.int .i64 a9]]) = some ((g_Ai_PlcPlan a0 a1 a2 a3 a4 a5 a6 a7 a8 a9),.val true [.bool (g_Vi_PlcPlan_0 a0 a1 a2 a3 a4 a5 a6 a7 a8 a9),.own .any true 9 .str (g_Vi_PlcPlan_1 a0 a1 a2 a3 a4 a5 a6 a7 a8 a9),.own .any true 76 (.pair .str (.pair .bool (.sl 3 (.int .i64)))) (g_Vi_PlcPlan_2 a0 a1 a2 a3 a4 a5 a6 a7 a8 a9)],[]) := by kernel_rfl
theorem si_PlcPlan:Sound Tryd.prog 32 msi_PlcPlan Fi_PlcPlan := by
 refine fn_gen goodi_PlcPlan (by kernel_rfl) .std (fn := Tryd.f32) (c := (Tryd.f32.body.getD .skip)) (o := Oi_PlcPlan_0) (k := 0) (by kernel_rfl) (by kernel_rfl) (by kernel_rfl) (by kernel_rfl) (by decide) ki_PlcPlan_0 ?_
 intro ys r outs h
 unfold Fi_PlcPlan at h
 split at h
 ·exact (vi_PlcPlan _ _ _ _ _ _ _ _ _ _).trans h
 ·cases h
noncomputable def Eslices_Clone_int_int_a:Env where
 tt := mkTI Tryd.prog
 fn := fun _ => none
 bxf := fun _ => none
 mv := []
 keep := fun _ => []
 keepB := fun _ => []
 keepX := fun _ => []
 keepXB := fun _ => []
theorem goodFslices_Clone_int_int_a:∀ f ms F,Eslices_Clone_int_int_a.fn f = some (ms,F) → Sound Tryd.prog f ms F := fun f ms F h => by cases h
theorem goodBslices_Clone_int_int_a:∀ f ms F,Eslices_Clone_int_int_a.bxf f = some (ms,F) → SoundB Tryd.prog f ms F := fun f ms F h => by cases h
theorem goodslices_Clone_int_int_a:Good Tryd.prog Eslices_Clone_int_int_a := ⟨rfl,goodFslices_Clone_int_int_a,goodBslices_Clone_int_int_a⟩
noncomputable def Oslices_Clone_int_int_a_0:Orc := fun _ _ => none
noncomputable def msslices_Clone_int_int_a:List PM := [.rd]
noncomputable def lsslices_Clone_int_int_a:List (Nat×Code) := loopsAll 0 (Tryd.f58.body.getD .skip)
theorem kslices_Clone_int_int_a_0:OrcOk Eslices_Clone_int_int_a Oslices_Clone_int_int_a_0 lsslices_Clone_int_int_a 0 := orcOk_none
noncomputable def g_Vslices_Clone_int_int_a_0:List Int := []
noncomputable def Fslices_Clone_int_int_a:FSem := fun ys => match ys with
 | [.val false [.nil 3 (.int .i64)]] => some (true,.val false [.own .any true 3 (.int .i64) g_Vslices_Clone_int_int_a_0],[])
 | _ => none
theorem vslices_Clone_int_int_a:collapseH .std Eslices_Clone_int_int_a Oslices_Clone_int_int_a_0 (execFn Eslices_Clone_int_int_a Tryd.f58 msslices_Clone_int_int_a [.val false [.nil 3 (.int .i64)]]) = some (true,.val false [.own .any true 3 (.int .i64) g_Vslices_Clone_int_int_a_0],[]) := by kernel_rfl
theorem sslices_Clone_int_int_a:Sound Tryd.prog 58 msslices_Clone_int_int_a Fslices_Clone_int_int_a := by
 refine fn_gen goodslices_Clone_int_int_a (by kernel_rfl) .std (fn := Tryd.f58) (c := (Tryd.f58.body.getD .skip)) (o := Oslices_Clone_int_int_a_0) (k := 0) (by kernel_rfl) (by kernel_rfl) (by kernel_rfl) (by kernel_rfl) (by decide) kslices_Clone_int_int_a_0 ?_
 intro ys r outs h
 unfold Fslices_Clone_int_int_a at h
 split at h
 ·exact (vslices_Clone_int_int_a).trans h
 ·cases h
noncomputable def Eslices_Clone_int_int_b:Env where
 tt := mkTI Tryd.prog
 fn := fun _ => none
 bxf := fun _ => none
 mv := []
 keep := fun _ => []
 keepB := fun _ => []
 keepX := fun _ => []
 keepXB := fun _ => []
theorem goodFslices_Clone_int_int_b:∀ f ms F,Eslices_Clone_int_int_b.fn f = some (ms,F) → Sound Tryd.prog f ms F := fun f ms F h => by cases h
theorem goodBslices_Clone_int_int_b:∀ f ms F,Eslices_Clone_int_int_b.bxf f = some (ms,F) → SoundB Tryd.prog f ms F := fun f ms F h => by cases h
theorem goodslices_Clone_int_int_b:Good Tryd.prog Eslices_Clone_int_int_b := ⟨rfl,goodFslices_Clone_int_int_b,goodBslices_Clone_int_int_b⟩
noncomputable def Oslices_Clone_int_int_b_0:Orc := fun _ _ => none
noncomputable def msslices_Clone_int_int_b:List PM := [.rd]
noncomputable def lsslices_Clone_int_int_b:List (Nat×Code) := loopsAll 0 (Tryd.f58.body.getD .skip)
theorem kslices_Clone_int_int_b_0:OrcOk Eslices_Clone_int_int_b Oslices_Clone_int_int_b_0 lsslices_Clone_int_int_b 0 := orcOk_none
noncomputable def g_Aslices_Clone_int_int_b (a0:List Int):Bool := decide ((nat_lit 0 + List.length a0) * nat_lit 8 ≤ nat_lit 140737488355328 ∧ nat_lit 0 + List.length a0 ≤ nat_lit 9223372036854775807)
noncomputable def g_Vslices_Clone_int_int_b_0 (a0:List Int):List Int := [] ++ a0
noncomputable def Fslices_Clone_int_int_b:FSem := fun ys => match ys with
 | [.val false [.sl .non 3 (.int .i64) a0]] => some ((g_Aslices_Clone_int_int_b a0),.val false [.own .any true 3 (.int .i64) (g_Vslices_Clone_int_int_b_0 a0)],[])
 | _ => none
theorem vslices_Clone_int_int_b (a0:List Int):collapseH .std Eslices_Clone_int_int_b Oslices_Clone_int_int_b_0 (execFn Eslices_Clone_int_int_b Tryd.f58 msslices_Clone_int_int_b [.val false [.sl .non 3 (.int .i64) a0]]) = some ((g_Aslices_Clone_int_int_b a0),.val false [.own .any true 3 (.int .i64) (g_Vslices_Clone_int_int_b_0 a0)],[]) := by kernel_rfl
theorem sslices_Clone_int_int_b:Sound Tryd.prog 58 msslices_Clone_int_int_b Fslices_Clone_int_int_b := by
 refine fn_gen goodslices_Clone_int_int_b (by kernel_rfl) .std (fn := Tryd.f58) (c := (Tryd.f58.body.getD .skip)) (o := Oslices_Clone_int_int_b_0) (k := 0) (by kernel_rfl) (by kernel_rfl) (by kernel_rfl) (by kernel_rfl) (by decide) kslices_Clone_int_int_b_0 ?_
 intro ys r outs h
 unfold Fslices_Clone_int_int_b at h
 split at h
 ·exact (vslices_Clone_int_int_b _).trans h
 ·cases h
def msslices_Clone_int_int:List PM := [.rd]
noncomputable def Fslices_Clone_int_int:FSem := fun ys => match ys with
 | [.val false [.sl .any 3 (.int .i64) a0]] => some ((g_Aslices_Clone_int_int_b a0),.val false [.own .any true 3 (.int .i64) a0],[])
 | _ => none
theorem sslices_Clone_int_int:Sound Tryd.prog 58 msslices_Clone_int_int Fslices_Clone_int_int := by
 refine sound_cases (el := 3) (e := (.int .i64)) sslices_Clone_int_int_a sslices_Clone_int_int_b (fun ys r outs h => ?_)
 unfold Fslices_Clone_int_int at h
 split at h
 ·rename_i a0
  simp only [Option.some.injEq,Prod.mk.injEq] at h
  obtain ⟨h1,rfl,rfl⟩ := h
  refine ⟨a0,rfl,fun e => ?_,?_⟩
  ·subst e
   rfl
  ·show some ((g_Aslices_Clone_int_int_b a0),RV.val false [Cell.own .any true 3 (.int .i64) ([] ++ a0)],[]) = _
   rw [h1,List.nil_append]
 ·cases h
noncomputable def Ei_StoStore_copied:Env where
 tt := mkTI Tryd.prog
 fn := fun f => match f with
  | 58 => some (msslices_Clone_int_int,FSem.wk msslices_Clone_int_int Fslices_Clone_int_int)
  | _ => none
 bxf := fun _ => none
 mv := []
 keep := fun b => match b with
  | 0 => [(2,false),(3,false),(7,false),(8,false),(9,false)]
  | _ => []
 keepB := fun b => match b with
  | 0 => [(2,false),(3,false)]
  | _ => []
 keepX := fun b => match b with
  | 0 => [(2,false),(3,false)]
  | _ => []
 keepXB := fun b => match b with
  | 0 => [(2,false),(3,false)]
  | _ => []
theorem goodFi_StoStore_copied:∀ f ms F,Ei_StoStore_copied.fn f = some (ms,F) → Sound Tryd.prog f ms F := fun f ms F h => by
 unfold Ei_StoStore_copied at h
 dsimp only at h
 split at h
 ·injection h with h; injection h with e1 e2; subst e1 e2; exact Sound.wk sslices_Clone_int_int
 ·cases h
theorem goodBi_StoStore_copied:∀ f ms F,Ei_StoStore_copied.bxf f = some (ms,F) → SoundB Tryd.prog f ms F := fun f ms F h => by cases h
theorem goodi_StoStore_copied:Good Tryd.prog Ei_StoStore_copied := ⟨rfl,goodFi_StoStore_copied,goodBi_StoStore_copied⟩
noncomputable def Oi_StoStore_copied_0:Orc := fun _ _ => none
noncomputable def msi_StoStore_copied:List PM := [.rd]
noncomputable def lsi_StoStore_copied:List (Nat×Code) := loopsAll 0 (Tryd.f30.body.getD .skip)
noncomputable def ci_StoStore_copied_0:Code := (loopOf 0 (Tryd.f30.body.getD .skip)).getD .skip
theorem lseqi_StoStore_copied:lsi_StoStore_copied = [(0,ci_StoStore_copied_0)] := by kernel_rfl
theorem mi_StoStore_copied_0:∀ p,p ∈ lsi_StoStore_copied → p.1 = 0 → p.2 = ci_StoStore_copied_0 := by
 intro p hp
 rw [lseqi_StoStore_copied] at hp
 simp only [List.mem_cons,List.not_mem_nil,or_false] at hp
 subst hp; simp
theorem ki_StoStore_copied_0:OrcOk Ei_StoStore_copied Oi_StoStore_copied_0 lsi_StoStore_copied 0 := orcOk_none
noncomputable def hi_StoStore_copied_0 (y0:List (ByteArray×(List Int))) (y1:Int) (y2:Int) (y3:List (ByteArray×(List Int))) (y4:List (ByteArray×(List Int))):List (Pl×LV) := [(.T 2,.t (.val false [.ptr 2 0 0])),(.T 3,.t (.val false [.ptr 3 0 0])),(.T 7,.t (.val false [.sl .any 42 (.pair .str (.sl 3 (.int .i64))) y0])),(.T 8,.t (.val false [.int .i64 y1])),(.T 9,.t (.val false [.int .i64 y2])),(.B 2,.b 0 false [.row 2 1 0]),(.R 2 1,.r 0 (some ⟨false,.any,true,42,(.pair .str (.sl 3 (.int .i64))),y3⟩)),(.B 3,.b 0 false [.row 3 1 0]),(.R 3 1,.r 0 (some ⟨false,.any,true,42,(.pair .str (.sl 3 (.int .i64))),y4⟩))]
noncomputable def g_Si_StoStore_copied_0 (y0:List (ByteArray×(List Int))) (y1:Int) (y3:List (ByteArray×(List Int))):(Int×(List (ByteArray×(List Int)))) → RT (Int×(List (ByteArray×(List Int)))) (((List (ByteArray×(List Int)))))
 | (y2,y4) => .br (true) (.br (decide (y2 < y1)) (.br (decide ((0:Int) ≤ y2 ∧ y2 < (↑(List.length y0):Int))) (.br (g_Aslices_Clone_int_int_b (at_ (Ty.pair Ty.str (Ty.sl (nat_lit 3) (Ty.int IntKind.i64))) y0 (Int.toNat y2)).2) (.br (decide ((List.length y4 + List.length [((at_ (Ty.pair Ty.str (Ty.sl (nat_lit 3) (Ty.int IntKind.i64))) y0 (Int.toNat y2)).1,(at_ (Ty.pair Ty.str (Ty.sl (nat_lit 3) (Ty.int IntKind.i64))) y0 (Int.toNat y2)).2)]) * nat_lit 40 ≤ nat_lit 140737488355328 ∧ List.length y4 + List.length [((at_ (Ty.pair Ty.str (Ty.sl (nat_lit 3) (Ty.int IntKind.i64))) y0 (Int.toNat y2)).1,(at_ (Ty.pair Ty.str (Ty.sl (nat_lit 3) (Ty.int IntKind.i64))) y0 (Int.toNat y2)).2)] ≤ nat_lit 9223372036854775807)) (.br (true) (.go ((IntKind.wrap IntKind.i64 (y2 + (1:Int)),y4 ++ [((at_ (Ty.pair Ty.str (Ty.sl (nat_lit 3) (Ty.int IntKind.i64))) y0 (Int.toNat y2)).1,(at_ (Ty.pair Ty.str (Ty.sl (nat_lit 3) (Ty.int IntKind.i64))) y0 (Int.toNat y2)).2)]))) .bad) .bad) .bad) .bad) (.out (y4))) .bad
noncomputable def g_Li_StoStore_copied_0 (y0:List (ByteArray×(List Int))) (y1:Int) (y3:List (ByteArray×(List Int))) (x:Int×(List (ByteArray×(List Int)))):Option (((List (ByteArray×(List Int))))) := loopO (g_Si_StoStore_copied_0 y0 y1 y3) x
noncomputable def xi_StoStore_copied_0 (y0:List (ByteArray×(List Int))) (y1:Int) (y3:List (ByteArray×(List Int))):(((List (ByteArray×(List Int))))) → Ex×List (Pl×LV) := fun r => (.exit 0,[(.T 2,.t (.val false [.ptr 2 0 0])),(.T 3,.t (.val false [.ptr 3 0 0])),(.B 2,.b 0 false [.row 2 1 0]),(.R 2 1,.r 0 (some ⟨false,.any,true,42,(.pair .str (.sl 3 (.int .i64))),y3⟩)),(.B 3,.b 0 false [.row 3 1 0]),(.R 3 1,.r 0 (some ⟨false,.any,true,42,(.pair .str (.sl 3 (.int .i64))),r⟩))])
noncomputable def Oi_StoStore_copied_1:Orc := fun b h => match b,h with
 | 0,[(.T 2,.t (.val false [.ptr 2 0 0])),(.T 3,.t (.val false [.ptr 3 0 0])),(.T 7,.t (.val false [.sl .any 42 (.pair .str (.sl 3 (.int .i64))) y0])),(.T 8,.t (.val false [.int .i64 y1])),(.T 9,.t (.val false [.int .i64 y2])),(.B 2,.b 0 false [.row 2 1 0]),(.R 2 1,.r 0 (some ⟨false,.any,true,42,(.pair .str (.sl 3 (.int .i64))),y3⟩)),(.B 3,.b 0 false [.row 3 1 0]),(.R 3 1,.r 0 (some ⟨false,.any,true,42,(.pair .str (.sl 3 (.int .i64))),y4⟩))] => some (okO (g_Li_StoStore_copied_0 y0 y1 y3 (y2,y4)),(.leaf (.exit 0) [(.T 2,.t (.val false [.ptr 2 0 0])),(.T 3,.t (.val false [.ptr 3 0 0])),(.B 2,.b 0 false [.row 2 1 0]),(.R 2 1,.r 0 (some ⟨false,.any,true,42,(.pair .str (.sl 3 (.int .i64))),y3⟩)),(.B 3,.b 0 false [.row 3 1 0]),(.R 3 1,.r 0 (some ⟨false,.any,true,42,(.pair .str (.sl 3 (.int .i64))),(valO (g_Li_StoStore_copied_0 y0 y1 y3 (y2,y4)))⟩))]))
 | b,h => Oi_StoStore_copied_0 b h
theorem bi_StoStore_copied_0 (y0:List (ByteArray×(List Int))) (y1:Int) (y2:Int) (y3:List (ByteArray×(List Int))) (y4:List (ByteArray×(List Int))):Tr.bt Ei_StoStore_copied Oi_StoStore_copied_0 (exec Ei_StoStore_copied 0 ci_StoStore_copied_0 (St.of (hi_StoStore_copied_0 y0 y1 y2 y3 y4)) (leafRd Ei_StoStore_copied 0)) = (g_Si_StoStore_copied_0 y0 y1 y3 (y2,y4)).bt (fun ((y2,y4):Int×(List (ByteArray×(List Int)))) => (hi_StoStore_copied_0 y0 y1 y2 y3 y4)) (xi_StoStore_copied_0 y0 y1 y3) := by kernel_rfl
theorem ki_StoStore_copied_1:OrcOk Ei_StoStore_copied Oi_StoStore_copied_1 lsi_StoStore_copied 1 := orc_add ki_StoStore_copied_0 (fun n p hp h ex h' ho => by
 obtain ⟨b,c⟩ := p
 obtain ⟨xt,h1,h2⟩ := ho
 have h1:Oi_StoStore_copied_1 b h = some (true,xt) := h1
 unfold Oi_StoStore_copied_1 at h1
 split at h1
 ·injection h1 with h1
  injection h1 with e1 e2
  subst e2
  have hc:c = ci_StoStore_copied_0 := mi_StoStore_copied_0 _ hp rfl
  subst hc
  right
  rename_i y0 y1 y2 y3 y4
  have key := LT_step ki_StoStore_copied_0 hp (fun q hq => loopsAll_in _ _ _ _ hp hq) (fun ((y2,y4):Int×(List (ByteArray×(List Int)))) => (hi_StoStore_copied_0 y0 y1 y2 y3 y4)) (xi_StoStore_copied_0 y0 y1 y3) (g_Si_StoStore_copied_0 y0 y1 y3) (fun x => by first | exact bi_StoStore_copied_0 y0 y1 x.1 y3 x.2) n (x := (y2,y4)) (okO_some e1)
  have hx:∀ r,XT.sel (.leaf (.exit 0) [(.T 2,.t (.val false [.ptr 2 0 0])),(.T 3,.t (.val false [.ptr 3 0 0])),(.B 2,.b 0 false [.row 2 1 0]),(.R 2 1,.r 0 (some ⟨false,.any,true,42,(.pair .str (.sl 3 (.int .i64))),y3⟩)),(.B 3,.b 0 false [.row 3 1 0]),(.R 3 1,.r 0 (some ⟨false,.any,true,42,(.pair .str (.sl 3 (.int .i64))),r⟩))]) = xi_StoStore_copied_0 y0 y1 y3 r := fun r => by first | rfl | (rcases r with r | r <;> rfl) | (rcases r with r | r | r <;> rfl) | (rcases r with r | r | r | r <;> rfl)
  have h3 := (hx (valO (g_Li_StoStore_copied_0 y0 y1 y3 (y2,y4)))).symm.trans h2
  have e3 := congrArg Prod.fst h3
  have e4 := congrArg Prod.snd h3
  simp only at e3 e4
  rw [← e3,← e4]
  exact key
 ·exact .inl ⟨xt,h1,h2⟩)
noncomputable def g_Ai_StoStore_copied (a0:List (ByteArray×(List Int))):Bool := okO (g_Li_StoStore_copied_0 a0 (↑(List.length a0):Int) [] ((0:Int),[]))
noncomputable def g_Vi_StoStore_copied_0 (a0:List (ByteArray×(List Int))):List (ByteArray×(List Int)) := valO (g_Li_StoStore_copied_0 a0 (↑(List.length a0):Int) [] ((0:Int),[]))
noncomputable def Fi_StoStore_copied:FSem := fun ys => match ys with
 | [.val true [.sl .any 42 (.pair .str (.sl 3 (.int .i64))) a0]] => some ((g_Ai_StoStore_copied a0),.val true [.own .any true 42 (.pair .str (.sl 3 (.int .i64))) (g_Vi_StoStore_copied_0 a0)],[])
 | _ => none
theorem vi_StoStore_copied (a0:List (ByteArray×(List Int))):collapseH .std Ei_StoStore_copied Oi_StoStore_copied_1 (execFn Ei_StoStore_copied Tryd.f30 msi_StoStore_copied [.val true [.sl .any 42 (.pair .str (.sl 3 (.int .i64))) a0]]) = some ((g_Ai_StoStore_copied a0),.val true [.own .any true 42 (.pair .str (.sl 3 (.int .i64))) (g_Vi_StoStore_copied_0 a0)],[]) := by kernel_rfl
theorem si_StoStore_copied:Sound Tryd.prog 30 msi_StoStore_copied Fi_StoStore_copied := by
 refine fn_gen goodi_StoStore_copied (by kernel_rfl) .std (fn := Tryd.f30) (c := (Tryd.f30.body.getD .skip)) (o := Oi_StoStore_copied_1) (k := 1) (by kernel_rfl) (by kernel_rfl) (by kernel_rfl) (by kernel_rfl) (by decide) ki_StoStore_copied_1 ?_
 intro ys r outs h
 unfold Fi_StoStore_copied at h
 split at h
 ·exact (vi_StoStore_copied _).trans h
 ·cases h
section
variable {P:Program}
theorem run_copy_rowN (w:World) (dT sT ty elem:TypeId) (sz:Nat) (g o dLen dCap:Nat) (a:Addr) (sLen sCap:Nat) (cur:Array Value) (t:TypeId) (cs:List Value)
  (hu:P.underlying dT = some (.slice elem)) (hs:(P.info? elem).map (·.size) = some sz)
  (hg:w.heap[g]? = some (.cells cur t (0,0))) (hn:cs.length = Nat.min sLen dLen * sz)
  (hsrc:∀ j v,cs[j]? = some v → w.cell? (a.add j) = some v) (hfit:o + cs.length ≤ cur.size) (h1:∀ v ∈ cs,v.oneCell' = true) :
  (Builtin.copy_ #[dT,sT] ty #[.slice (some ⟨g,o,none⟩) dLen dCap,.slice (some a) sLen sCap]).run P w =
   .ok (goInt (Nat.min sLen dLen)) (w.setRow g (cur.toList.take o ++ cs ++ cur.toList.drop (o + cs.length)).toArray) := by
 have hl := run_loadCells_list (P := P) w a cs hsrc
 have hst := run_storeCells_at P g o t cs 0 cur w hg (by simpa using hfit) h1
 cases hq:P.info? elem with
 | none => simp [hq] at hs
 | some i =>
  have hi:i.size = sz := by simpa [hq] using hs
  simp only [Nat.add_zero] at hst
  simp [Builtin.copy_,run_underlying hu,Builtin.lenOf,Builtin.firstCells,sizeOf,typeInfo,hq,hi,← hn,hl,hst]
theorem run_clear_rowN (w:World) (t e ty:TypeId) (z:Value) (ht:P.underlying t = some (.slice e)) (hv:∀ w,(zeroValue e).run P w = .ok z w) (h1:∀ u ∈ z.cells.toList,u.oneCell' = true) (g o n c:Nat) (hn:0 < n) (cur:Array Value) (te:TypeId)
  (hg:w.heap[g]? = some (.cells cur te (0,0))) (hfit:o + n * z.cells.size ≤ cur.size) (hz:0 < z.cells.size) :
  ∃ cs:List Value,cs.length = n * z.cells.size ∧ (Builtin.clear_ #[t] ty #[.slice (some ⟨g,o,none⟩) n c]).run P w = .ok (.tuple #[]) (w.setRow g (cur.toList.take o ++ cs ++ cur.toList.drop (o + cs.length)).toArray) := by
 have hlen:(Builtin.zeroCells z.cells n).toList.length = n * z.cells.size := by simp [Builtin.zeroCells]
 refine ⟨(Builtin.zeroCells z.cells n).toList,hlen,?_⟩
 have hst := run_storeCells_at P g o te (Builtin.zeroCells z.cells n).toList 0 cur w hg (by rw [hlen]; omega) (by
  intro u hu
  simp only [Builtin.zeroCells,Array.toList_map,List.mem_map] at hu
  obtain ⟨i,_,rfl⟩ := hu
  have hi:i % z.cells.size < z.cells.size := Nat.mod_lt _ hz
  rw [getElem!_pos z.cells _ hi]
  exact h1 _ (Array.getElem_mem_toList hi))
 simp only [Nat.add_zero] at hst
 obtain ⟨m,rfl⟩:∃ m,n = m + 1 := ⟨n - 1,by omega⟩
 simp only [Builtin.clear_,run_underlying ht,hv,Sem.run_bind,Result.andThen_ok,hst]
 simp [run_underlying ht,hv,hst]
end
section
variable {α:Type}
theorem ins_low (vals v2:List α) {a b sz:Nat} (h:a + sz ≤ b) (hb:b ≤ vals.length):((vals.take b ++ v2 ++ vals.drop b).drop a).take sz = (vals.drop a).take sz := by
 apply List.ext_getElem?
 intro k
 simp only [List.getElem?_take,List.getElem?_drop,List.append_assoc]
 by_cases hk:k < sz
 ·rw [if_pos hk,if_pos hk,List.getElem?_append_left (by rw [List.length_take]; omega),List.getElem?_take,if_pos (by omega)]
 ·rw [if_neg hk,if_neg hk]
theorem ins_mid (vals v2:List α) {a b sz:Nat} (h:a + sz ≤ v2.length) (hb:b ≤ vals.length):((vals.take b ++ v2 ++ vals.drop b).drop (b + a)).take sz = (v2.drop a).take sz := by
 have hl:(vals.take b).length = b := by rw [List.length_take]; omega
 apply List.ext_getElem?
 intro k
 simp only [List.getElem?_take,List.getElem?_drop,List.append_assoc]
 by_cases hk:k < sz
 ·rw [if_pos hk,if_pos hk,List.getElem?_append_right (by omega),List.getElem?_append_left (by omega)]
  congr 1
  omega
 ·rw [if_neg hk,if_neg hk]
theorem ins_high (vals v2:List α) {a b sz:Nat} (h:b ≤ a) (hb:b ≤ vals.length):((vals.take b ++ v2 ++ vals.drop b).drop (a + v2.length)).take sz = (vals.drop a).take sz := by
 have hl:(vals.take b).length = b := by rw [List.length_take]; omega
 apply List.ext_getElem?
 intro k
 simp only [List.getElem?_take,List.getElem?_drop,List.append_assoc]
 by_cases hk:k < sz
 ·rw [if_pos hk,if_pos hk,List.getElem?_append_right (by omega),List.getElem?_append_right (by omega),List.getElem?_drop]
  congr 1
  omega
 ·rw [if_neg hk,if_neg hk]
theorem del_low (vals:List α) {a b c sz:Nat} (h:a + sz ≤ b) (hb:b ≤ vals.length):((vals.take b ++ vals.drop c).drop a).take sz = (vals.drop a).take sz := by
 apply List.ext_getElem?
 intro k
 simp only [List.getElem?_take,List.getElem?_drop]
 by_cases hk:k < sz
 ·rw [if_pos hk,if_pos hk,List.getElem?_append_left (by rw [List.length_take]; omega),List.getElem?_take,if_pos (by omega)]
 ·rw [if_neg hk,if_neg hk]
theorem del_high (vals:List α) {a b c sz:Nat} (hb:b ≤ vals.length):((vals.take b ++ vals.drop c).drop (b + a)).take sz = (vals.drop (c + a)).take sz := by
 have hl:(vals.take b).length = b := by rw [List.length_take]; omega
 apply List.ext_getElem?
 intro k
 simp only [List.getElem?_take,List.getElem?_drop]
 by_cases hk:k < sz
 ·rw [if_pos hk,if_pos hk,List.getElem?_append_right (by omega),List.getElem?_drop]
  congr 1
  omega
 ·rw [if_neg hk,if_neg hk]
theorem row_shift (cur vs:List α) {b n m:Nat} (hb:b ≤ n) (hm:vs.length = m) (hn:n + m ≤ cur.length) (A:List α)
  (hA:A = cur.take (b + m) ++ (cur.drop b).take (n - b) ++ cur.drop (b + m + (n - b))) :
  (A.take b ++ vs ++ A.drop (b + m)).take (n + m) = (cur.take n).take b ++ vs ++ (cur.take n).drop b := by
 subst hA
 apply List.ext_getElem?
 intro k
 have l1:(cur.take (b + m)).length = b + m := by rw [List.length_take]; omega
 have l2:((cur.drop b).take (n - b)).length = n - b := by rw [List.length_take,List.length_drop]; omega
 have l3:(cur.take b).length = b := by rw [List.length_take]; omega
 have e1:(cur.take (b + m) ++ (cur.drop b).take (n - b) ++ cur.drop (b + m + (n - b))).take b = cur.take b := by
  rw [List.append_assoc,List.take_append_of_le_length (by omega),List.take_take,Nat.min_eq_left (by omega)]
 have e2:(cur.take (b + m) ++ (cur.drop b).take (n - b) ++ cur.drop (b + m + (n - b))).drop (b + m) = (cur.drop b).take (n - b) ++ cur.drop (b + m + (n - b)) := by
  rw [List.append_assoc]
  exact List.drop_left' l1
 rw [e1,e2,List.take_take,Nat.min_eq_left (by omega),List.append_assoc,← List.append_assoc vs,← List.append_assoc,← List.append_assoc,List.take_left' (by simp only [List.length_append,l2,l3,hm]; omega),List.drop_take]
theorem row_grow (vals vs zs:List α) {b n m:Nat} (hb:b ≤ n) (hn:vals.length = n) (hm:vs.length = m) (A:List α) (hz:n + m ≤ b + zs.length)
  (hA:A = (vals.take b ++ zs).take b ++ vs ++ (vals.take b ++ zs).drop (b + m)) :
  (A.take (b + m) ++ vals.drop b ++ A.drop (b + m + (n - b))).take (n + m) = vals.take b ++ vs ++ vals.drop b := by
 subst hA
 have l1:(vals.take b).length = b := by rw [List.length_take]; omega
 have l2:(vals.drop b).length = n - b := by rw [List.length_drop]; omega
 have e1:((vals.take b ++ zs).take b ++ vs ++ (vals.take b ++ zs).drop (b + m)).take (b + m) = vals.take b ++ vs := by
  rw [List.take_left' (l₁ := (vals.take b ++ zs).take b ++ vs) (by rw [List.length_append,List.length_take,List.length_append]; omega),List.take_left' l1]
 rw [e1]
 rw [List.take_left' (l₁ := vals.take b ++ vs ++ vals.drop b) (by simp only [List.length_append,l1,l2,hm]; omega)]
theorem row_del (cur zs:List α) {b c n:Nat} (hb:b ≤ c) (hc:c ≤ n) (hn:n ≤ cur.length) (hz:zs.length = c - b) (A:List α)
  (hA:A = cur.take b ++ (cur.drop c).take (n - c) ++ cur.drop (b + (n - c))) :
  (A.take (b + (n - c)) ++ zs ++ A.drop (b + (n - c) + zs.length)).take (b + (n - c)) = (cur.take n).take b ++ (cur.take n).drop c := by
 subst hA
 have l1:(cur.take b).length = b := by rw [List.length_take]; omega
 have l2:((cur.drop c).take (n - c)).length = n - c := by rw [List.length_take,List.length_drop]; omega
 have e1:(cur.take b ++ (cur.drop c).take (n - c) ++ cur.drop (b + (n - c))).take (b + (n - c)) = cur.take b ++ (cur.drop c).take (n - c) := List.take_left' (by rw [List.length_append,l1,l2])
 rw [e1,List.append_assoc (cur.take b ++ _),List.take_left' (by rw [List.length_append,l1,l2]),List.take_take,Nat.min_eq_left (by omega),List.drop_take]
end
theorem own_one {w:World} {e:Ty} {l:List e.den} {vals:List Value} {ψ:Nat → Nat → Prop} (hz:0 < e.size) (hl:vals.length = l.length * e.size)
  (h:∀ (i:Nat) (x:e.den),l[i]? = some x → OWc w e x (ψ i) ((vals.drop (i * e.size)).take e.size)):∀ u ∈ vals,u.oneCell' = true := by
 intro u hu
 obtain ⟨k,hk,rfl⟩ := List.getElem_of_mem hu
 have hi:k / e.size < l.length := by rw [Nat.div_lt_iff_lt_mul hz]; omega
 have h1 := h _ _ (List.getElem?_eq_getElem hi)
 have h2 := (cellsOf_rep (X := bare w (fun _ => True)) e _ _ (OWc.ro (S := fun _ => True) (fun _ _ => trivial) _ _ _ h1)).2
 refine h2 _ (List.mem_of_getElem? (i := k % e.size) ?_)
 rw [List.getElem?_take,if_pos (Nat.mod_lt _ hz),List.getElem?_drop,Nat.mul_comm,Nat.div_add_mod,List.getElem?_eq_getElem hk]
theorem given_row {w:World} {S:Nat → Prop} {ψ:Nat → Nat → Prop} {z:NZ} {el:Nat} {e:Ty} {l:List e.den} {v:Value} (h:Given w S ψ .own (.val false [.own z true el e l]) v):RowRep w S (ψ 1) ⟨false,z,true,el,e,l⟩ v := by
 obtain ⟨vs,⟨_,h1⟩,h2,_⟩ := h
 match vs,h1 with
 | [x],h1 => rw [h2]; exact h1.1
theorem trip_row {w w':World} {S:Nat → Prop} {ψ:Nat → Nat → Nat → Prop} (hh:Hands w S ψ) {v v':Value} {φ:Nat → Prop} (hφ:∀ g,φ g → ∃ i c,ψ i c g) (hv:∀ g,v.ownBlock = some g → φ g)
  (hgr:w.grownBy w' v.ownBlock) (hv':v'.ownBlock = v.ownBlock ∨ v'.ownBlock = some w.heap.size) (hlt:∀ g,v'.ownBlock = some g → g < w'.heap.size)
  {z:NZ} {el:Nat} {e:Ty} {l:List e.den} (hr:RowRep w' S (fun g => φ g ∨ v'.ownBlock = some g) ⟨false,z,true,el,e,l⟩ v') :
  Trip w S ψ w' S (fun i c g => i = 0 ∧ c = 1 ∧ (φ g ∨ v'.ownBlock = some g)) ∧ ResRep w' S ((fun i c g => i = 0 ∧ c = 1 ∧ (φ g ∨ v'.ownBlock = some g)) 0) (.val false [.own z true el e l]) v' := by
 have old:∀ g,φ g → g < w.heap.size ∧ ¬ S g := fun g h => by obtain ⟨i,c,h⟩ := hφ g h; exact hh.own i c g h
 have both:∀ g,φ g ∨ v'.ownBlock = some g → φ g ∨ g = w.heap.size := by
  rintro g (h | h)
  ·exact .inl h
  ·rcases hv' with e | e
   ·exact .inl (hv g (e ▸ h))
   ·rw [e] at h; exact .inr (Option.some.inj h).symm
 refine ⟨⟨hgr.os,hgr.tape,hgr.output,hgr.size,fun g hg hn => ⟨hgr.block g hg fun e => hn (hφ g (hv g e.symm)),Iff.rfl,?_⟩,⟨fun g hg => Nat.lt_of_lt_of_le (hh.lt g hg) hgr.size,?_,fun i c i' c' g h1 h2 => ⟨h1.1.trans h2.1.symm,h1.2.1.trans h2.2.1.symm⟩⟩⟩,?_⟩
 ·rintro ⟨_,_,_,_,h⟩
  rcases both g h with h | h
  ·exact hn (hφ g h)
  ·omega
 ·rintro _ _ g ⟨_,_,h⟩
  refine ⟨?_,fun hS => ?_⟩
  ·rcases h with h | h
   ·exact Nat.lt_of_lt_of_le (old g h).1 hgr.size
   ·exact hlt g h
  ·rcases both g h with h | h
   ·exact (old g h).2 hS
   ·have := hh.lt g hS; omega
 ·refine ⟨[v'],⟨rfl,⟨RowRep.move (fun g hg => ⟨hg,rfl⟩) (fun g hg => ⟨⟨rfl,rfl,hg⟩,rfl⟩) hr,trivial⟩⟩,rfl,fun _ => rfl⟩
theorem row_insert {w w':World} {S φ φ2:Nat → Prop} {z z2:NZ} {el:Nat} {e:Ty} {l l2:List e.den} {v v2 v':Value} {i:Nat}
  (h:RowRep w S φ ⟨false,z,true,el,e,l⟩ v) (h2:RowRep w S φ2 ⟨false,z2,true,el,e,l2⟩ v2) (hap:∀ g,φ g → φ2 g → False) (hlt:∀ g,φ g ∨ φ2 g → g < w.heap.size) (hi:i ≤ l.length)
  (hgr:w.grownBy w' v.ownBlock) (hv':v'.ownBlock = v.ownBlock ∨ v'.ownBlock = some w.heap.size)
  (hown:∀ vals vals2,w.ownsRow 0 el e.size v l.length vals → w.ownsRow 0 el e.size v2 l2.length vals2 → w'.ownsRow 0 el e.size v' (l.length + l2.length) (vals.take (i * e.size) ++ vals2 ++ vals.drop (i * e.size))) :
  RowRep w' S (fun g => (φ g ∨ φ2 g) ∨ v'.ownBlock = some g) ⟨false,.any,true,el,e,l.take i ++ (l2 ++ l.drop i)⟩ v' := by
 obtain ⟨_,h⟩ := h
 obtain ⟨_,h2⟩ := h2
 rw [if_neg (by simp)] at h h2
 obtain ⟨vals,o1,o2,o3⟩ := h
 obtain ⟨vals2,p1,p2,p3⟩ := h2
 rw [if_pos rfl] at o3 p3
 obtain ⟨ψ,a1,a2,a3⟩ := o3
 obtain ⟨ψ2,b1,b2,b3⟩ := p3
 have ho := hown vals vals2 o1 p1
 have hl1:vals.length = l.length * e.size := o1.1
 have hl2:vals2.length = l2.length * e.size := p1.1
 have hb:i * e.size ≤ vals.length := by rw [hl1]; exact Nat.mul_le_mul_right _ hi
 have keep:∀ g,g < w.heap.size → v.ownBlock ≠ some g → w'.heap[g]? = w.heap[g]? := fun g hg hne => hgr.block g hg fun e => hne e.symm
 have new:∀ g,g < w.heap.size → v.ownBlock ≠ some g → v'.ownBlock ≠ some g := by
  intro g hg hne e
  rcases hv' with h | h
  ·exact hne (h ▸ e)
  ·rw [h] at e; have := Option.some.inj e; omega
 have f1:∀ j g,ψ j g → g < w.heap.size ∧ v.ownBlock ≠ some g := fun j g h => ⟨hlt g (.inl (a1 j g h).1),(a1 j g h).2⟩
 have f2:∀ j g,ψ2 j g → g < w.heap.size ∧ v.ownBlock ≠ some g := fun j g h => ⟨hlt g (.inr (b1 j g h).1),fun e => hap g (o2 g e) (b1 j g h).1⟩
 refine ⟨trivial,?_⟩
 rw [if_neg (by simp)]
 refine ⟨_,by simpa only [List.length_append,List.length_take,List.length_drop,Nat.min_eq_left hi,show i + (l2.length + (l.length - i)) = l.length + l2.length by omega] using ho,fun g hg => .inr hg,?_⟩
 rw [if_pos rfl]
 refine ⟨fun j => if j < i then ψ j else if j < i + l2.length then ψ2 (j - i) else ψ (j - l2.length),fun j g hg => ?_,fun j k g hj hk => ?_,fun j x hx => ?_⟩
 ·dsimp only at hg
  split at hg
  ·exact ⟨.inl (.inl (a1 _ _ hg).1),new g (f1 _ _ hg).1 (f1 _ _ hg).2⟩
  ·split at hg
   ·exact ⟨.inl (.inr (b1 _ _ hg).1),new g (f2 _ _ hg).1 (f2 _ _ hg).2⟩
   ·exact ⟨.inl (.inl (a1 _ _ hg).1),new g (f1 _ _ hg).1 (f1 _ _ hg).2⟩
 ·dsimp only at hj hk
  split at hj <;> split at hk
  ·exact a2 _ _ _ hj hk
  ·split at hk
   ·exact (hap g (a1 _ _ hj).1 (b1 _ _ hk).1).elim
   ·have := a2 _ _ _ hj hk; omega
  ·split at hj
   ·exact (hap g (a1 _ _ hk).1 (b1 _ _ hj).1).elim
   ·have := a2 _ _ _ hj hk; omega
  ·split at hj <;> split at hk
   ·have := b2 _ _ _ hj hk; omega
   ·exact (hap g (a1 _ _ hk).1 (b1 _ _ hj).1).elim
   ·exact (hap g (a1 _ _ hj).1 (b1 _ _ hk).1).elim
   ·have := a2 _ _ _ hj hk; omega
 ·have hx:(l.take i ++ (l2 ++ l.drop i))[j]? = some x := hx
  have hlt':(l.take i).length = i := by rw [List.length_take]; omega
  dsimp only
  split
  ·rename_i hj
   rw [List.getElem?_append_left (by omega),List.getElem?_take,if_pos hj] at hx
   have e1:j * e.size + e.size ≤ i * e.size := by rw [← Nat.succ_mul]; exact Nat.mul_le_mul_right _ hj
   rw [ins_low vals vals2 e1 hb]
   exact OWc.move (fun g hg => ⟨hg,keep g (f1 _ _ hg).1 (f1 _ _ hg).2⟩) _ _ _ (a3 j x hx)
  ·rename_i hj
   rw [List.getElem?_append_right (by omega),hlt'] at hx
   split
   ·rename_i hj2
    rw [List.getElem?_append_left (by omega)] at hx
    have e1:(j - i) * e.size + e.size ≤ vals2.length := by rw [hl2,← Nat.succ_mul]; exact Nat.mul_le_mul_right _ (by omega)
    have e2:j * e.size = i * e.size + (j - i) * e.size := by rw [← Nat.add_mul]; congr 1; omega
    rw [e2,ins_mid vals vals2 e1 hb]
    exact OWc.move (fun g hg => ⟨hg,keep g (f2 _ _ hg).1 (f2 _ _ hg).2⟩) _ _ _ (b3 _ x hx)
   ·rename_i hj2
    rw [List.getElem?_append_right (by omega),List.getElem?_drop,show i + (j - i - l2.length) = j - l2.length by omega] at hx
    have e2:j * e.size = (j - l2.length) * e.size + vals2.length := by rw [hl2,← Nat.add_mul]; congr 1; omega
    have e3:i * e.size ≤ (j - l2.length) * e.size := Nat.mul_le_mul_right _ (by omega)
    rw [e2,ins_high vals vals2 e3 hb]
    exact OWc.move (fun g hg => ⟨hg,keep g (f1 _ _ hg).1 (f1 _ _ hg).2⟩) _ _ _ (a3 _ x hx)
theorem row_delete {w w':World} {S φ:Nat → Prop} {z:NZ} {el:Nat} {e:Ty} {l:List e.den} {v v':Value} {i k:Nat}
  (h:RowRep w S φ ⟨false,z,true,el,e,l⟩ v) (hlt:∀ g,φ g → g < w.heap.size) (hi:i ≤ k) (hk:k ≤ l.length)
  (hgr:w.grownBy w' v.ownBlock) (hv':v'.ownBlock = v.ownBlock)
  (hown:∀ vals,w.ownsRow 0 el e.size v l.length vals → w'.ownsRow 0 el e.size v' (l.length - (k - i)) (vals.take (i * e.size) ++ vals.drop (k * e.size))) :
  RowRep w' S (fun g => φ g ∨ v'.ownBlock = some g) ⟨false,.any,true,el,e,l.take i ++ l.drop k⟩ v' := by
 obtain ⟨_,h⟩ := h
 rw [if_neg (by simp)] at h
 obtain ⟨vals,o1,o2,o3⟩ := h
 rw [if_pos rfl] at o3
 obtain ⟨ψ,a1,a2,a3⟩ := o3
 have ho := hown vals o1
 have hl1:vals.length = l.length * e.size := o1.1
 have hb:i * e.size ≤ vals.length := by rw [hl1]; exact Nat.mul_le_mul_right _ (by omega)
 have f1:∀ j g,ψ j g → g < w.heap.size ∧ v.ownBlock ≠ some g := fun j g h => ⟨hlt g (a1 j g h).1,(a1 j g h).2⟩
 have keep:∀ j g,ψ j g → w'.heap[g]? = w.heap[g]? := fun j g h => hgr.block g (f1 j g h).1 fun e => (f1 j g h).2 e.symm
 refine ⟨trivial,?_⟩
 rw [if_neg (by simp)]
 refine ⟨_,by simpa only [List.length_append,List.length_take,List.length_drop,Nat.min_eq_left (show i ≤ l.length by omega),show i + (l.length - k) = l.length - (k - i) by omega] using ho,fun g hg => .inr hg,?_⟩
 rw [if_pos rfl]
 refine ⟨fun j => if j < i then ψ j else ψ (j + (k - i)),fun j g hg => ?_,fun j m g hj hm => ?_,fun j x hx => ?_⟩
 ·dsimp only at hg
  split at hg
  ·exact ⟨.inl (a1 _ _ hg).1,by rw [hv']; exact (a1 _ _ hg).2⟩
  ·exact ⟨.inl (a1 _ _ hg).1,by rw [hv']; exact (a1 _ _ hg).2⟩
 ·dsimp only at hj hm
  split at hj <;> split at hm <;> (have := a2 _ _ _ hj hm; omega)
 ·have hx:(l.take i ++ l.drop k)[j]? = some x := hx
  have hlt':(l.take i).length = i := by rw [List.length_take]; omega
  dsimp only
  split
  ·rename_i hj
   rw [List.getElem?_append_left (by omega),List.getElem?_take,if_pos hj] at hx
   have e1:j * e.size + e.size ≤ i * e.size := by rw [← Nat.succ_mul]; exact Nat.mul_le_mul_right _ hj
   rw [del_low vals e1 hb]
   exact OWc.move (fun g hg => ⟨hg,keep _ g hg⟩) _ _ _ (a3 j x hx)
  ·rename_i hj
   rw [List.getElem?_append_right (by omega),hlt',List.getElem?_drop] at hx
   have e2:j * e.size = i * e.size + (j - i) * e.size := by rw [← Nat.add_mul]; congr 1; omega
   have e3:k * e.size + (j - i) * e.size = (j + (k - i)) * e.size := by rw [← Nat.add_mul]; congr 1; omega
   rw [e2,del_high vals hb,e3]
   rw [show k + (j - i) = j + (k - i) by omega] at hx
   exact OWc.move (fun g hg => ⟨hg,keep _ g hg⟩) _ _ _ (a3 _ x hx)
end Go.Proofs.YtliagpcoflhphaaDoor.E
section
namespace Go.Proofs.YtliagpcoflhphaaDoor.E
open Go Go.RowKit Go.Shelf Go.Lib
set_option linter.all false
theorem step_append_runQ {P:Program} {ops:Array Oper} {o:Oper} {a:Act} {w:World} {K:Act → World → Prop} {Q:Exit → Act → World → Prop} {E:Prop}
  (hg:o.guard = none) (d x:Operand) (dT sT:TypeId) (hop:o.op = Op.call { callee := Callee.builtin Builtin.append,args := #[d,x],argTypes := #[dT,sT] })
  (v u:Value) (hd:a.eval d = v) (hx:a.eval x = u) {v':Value} {w':World} (hr:(Builtin.append_ #[dT,sT] o.type #[v,u]).run P w = .ok v' w') (hK:K (a.put o.dst v') w') :
  if Region.wanted o (yielded ops a.tmps) = true then Oper.wp P o a w K Q else E := by
 have hw:Region.wanted o (yielded ops a.tmps) = true := by simp [Region.wanted,hg]
 rw [if_pos hw]
 unfold Oper.wp
 simp [execOp,hop,resolve,invoke,builtin,hd,hx,hr,Result.andThen]
 exact hK
set_option maxHeartbeats 4000000 in
set_option maxRecDepth 1000000 in
theorem del_f (g n c i j:Nat) (cur:Array Value) (w:World) (hg:w.heap[g]? = some (.cells cur 42 (0,0))) (hnc:n ≤ c) (hc63:c ≤ 9223372036854775807) (hcs:cur.size = c * 2) (hij:i < j) (hj:j ≤ n) (h1:∀ v ∈ cur.toList.take (n * 2),v.oneCell' = true) :
  Calls Tryd.prog 99 #[.slice (some ⟨g,0,none⟩) n c,.int .i64 i,.int .i64 j] w fun e w' => e = .returned (.slice (some ⟨g,0,none⟩) (i + (n - j)) c) ∧
   ∃ (A:List Value) (zs:List Value),A = cur.toList.take (i * 2) ++ (cur.toList.drop (j * 2)).take (n * 2 - j * 2) ++ cur.toList.drop (i * 2 + (n * 2 - j * 2)) ∧ zs.length = j * 2 - i * 2 ∧ w' = (w.drew.setRow g A.toArray).setRow g (A.take (i * 2 + (n * 2 - j * 2)) ++ zs ++ A.drop (i * 2 + (n * 2 - j * 2) + zs.length)).toArray := by
 have t0:Tryd.prog.underlying 30 = some (.slice 42) := by kernel_rfl
 have hsz:(Tryd.prog.info? 42).map (·.size) = some 2 := by kernel_rfl
 obtain ⟨i0,hi0,hz0⟩:∃ i0,Tryd.prog.info? 42 = some i0 ∧ i0.size = 2 := by
  cases h:Tryd.prog.info? 42 with
  | none => rw [h] at hsz; cases hsz
  | some i0 => rw [h] at hsz; exact ⟨i0,rfl,by simpa using hsz⟩
 obtain ⟨news,hnews⟩:∃ news,news = (cur.toList.drop (j * 2)).take (n * 2 - j * 2) := ⟨_,rfl⟩
 have hcl0:cur.toList.length = c * 2 := by rw [Array.length_toList]; exact hcs
 have hlen:news.length = n * 2 - j * 2 := by rw [hnews,List.length_take,List.length_drop]; omega
 have hget:∀ t u,news[t]? = some u → w.drew.cell? ⟨g,j * 2 + t,none⟩ = some u := by
  intro t u hu
  rw [hnews,List.getElem?_take] at hu
  split at hu
  ·rw [List.getElem?_drop,Array.getElem?_toList] at hu
   show w.cell? _ = _
   rw [cell_of_row w g (j * 2 + t) cur 42 (0,0) hg]
   exact hu
  ·cases hu
 have hone:∀ u ∈ news,u.oneCell' = true := by
  intro u hu
  refine h1 u ?_
  rw [hnews,← List.drop_take] at hu
  exact List.mem_of_mem_drop hu
 have hnl:news.length = (n - j) * 2 := by omega
 obtain ⟨A,hA⟩:∃ A:List Value,A = cur.toList.take (i * 2) ++ news ++ cur.toList.drop (i * 2 + news.length) := ⟨_,rfl⟩
 have hAl:A.length = c * 2 := by rw [hA]; simp only [List.length_append,List.length_take,List.length_drop,hcl0]; omega
 obtain ⟨W1,hW1⟩:∃ W1,W1 = w.drew.setRow g A.toArray := ⟨_,rfl⟩
 have hap:∀ (ad:Addr),(∀ t u,news[t]? = some u → w.drew.cell? (ad.add t) = some u) → ∀ ty sc,(Builtin.append_ #[30,30] ty #[.slice (some ⟨g,0,none⟩) i c,.slice (some ad) (n - j) sc]).run Tryd.prog w.drew = .ok (.slice (some ⟨g,0,none⟩) (i + (n - j)) c) W1 := by
  intro ad had ty sc
  have := run_append_room (P := Tryd.prog) w.drew 30 ty 42 i0 t0 hi0 g i c cur hg ad (n - j) sc news (by rw [hz0]; exact hnl) had hone (by omega) (by rw [hz0,hcs]; omega)
  rw [hz0] at this
  rw [this,hW1,hA]
 have hH1:W1.heap[g]? = some (.cells A.toArray 42 (0,0)) := by rw [hW1]; exact setRow_heap w.drew g cur _ 42 _ hg
 obtain ⟨zs,hzl,hcl⟩ := run_clear_rowN (P := Tryd.prog) W1 30 42 0 (.agg #[.string ⟨#[]⟩,.slice none 0 0]) t0 (fun _ => by kernel_rfl) (by intro u hu; simp [Value.cells] at hu; rcases hu with rfl | rfl <;> rfl) g ((i + (n - j)) * 2) (n - (i + (n - j))) (c - (i + (n - j))) (by omega) A.toArray 42 hH1 (by simp [Value.cells,hAl]; omega) (by simp [Value.cells])
 have hzl:zs.length = j * 2 - i * 2 := by rw [hzl]; simp [Value.cells]; omega
 obtain ⟨A0,hA0,hsrc⟩:∃ A0:Addr,(if c = j then some (⟨g,0,none⟩:Addr) else some ⟨g,j * 2,none⟩) = some A0 ∧ Hid (∀ t u,news[t]? = some u → w.drew.cell? (A0.add t) = some u) := by
  by_cases h:c = j
  ·refine ⟨⟨g,0,none⟩,by simp [h],fun t u hu => ?_⟩
   have h0:news.length = 0 := by omega
   rw [List.length_eq_zero_iff.1 h0] at hu
   simp at hu
  ·exact ⟨⟨g,j * 2,none⟩,by simp [h],fun t u hu => by rw [Addr.add_lit]; exact hget t u hu⟩
 have hic:i ≤ c := by omega
 have hjc:j ≤ c := by omega
 have mixed:Tryd.prog.follows .mixedOrders = true := by kernel_rfl
 have X1:Hid (W1 = w.drew.setRow g A.toArray) := hW1
 have X2:Hid (A = cur.toList.take (i * 2) ++ (cur.toList.drop (j * 2)).take (n * 2 - j * 2) ++ cur.toList.drop (i * 2 + (n * 2 - j * 2))) := by
  show A = _
  rw [hA,hlen,hnews]
 have X3:Hid (zs.length = j * 2 - i * 2) := hzl
 have hoff:(i + (n - j)) * 2 = i * 2 + (n * 2 - j * 2) := by omega
 rw [hoff] at hcl
 have X4:Hid ((i + (n - j)) * 2 = i * 2 + (n * 2 - j * 2)) := hoff
 rw [← hoff] at hcl
 clear hW1 hA hnews hH1 hget hone hcl0 hlen hnl hAl hzl hoff hg hcs h1
 go_enter Tryd.func99,Tryd.ntmps99
 go_wp2_with fail
 go_region_law_o (refine step_append_runQ rfl (.tmp 22) (.tmp 25) 30 30 rfl (.slice (some ⟨g,0,none⟩) i c) (.slice (some A0) (n - j) (c - j)) (by simp [Act.eval,Act.put]) (by simp [Act.eval,Act.put]) (hap A0 hsrc.out _ _) ?_)
 go_wp2
 go_ret
 refine ⟨rfl,A,zs,X2.out,X3.out,?_⟩
 have e:(n - (i + (n - j))) * 2 = zs.length := by rw [X3.out]; omega
 rw [← X1.out,← X4.out,e,List.append_assoc]
def msslices_Delete_i_StoItem_i_StoItem:List PM := [.own,.own,.own]
def g_Vslices_Delete_i_StoItem_i_StoItem_0 (l:List (ByteArray×List Int)) (i j:Int):List (ByteArray×List Int) := l.take i.toNat ++ l.drop j.toNat
def g_Aslices_Delete_i_StoItem_i_StoItem (l:List (ByteArray×List Int)) (i j:Int):Bool := decide (0 ≤ i ∧ i < j ∧ j ≤ l.length)
def Fslices_Delete_i_StoItem_i_StoItem:FSem := fun ys => match ys with
 | [.val false [.own .any true 42 (.pair .str (.sl 3 (.int .i64))) a0],.val false [.int .i64 a1],.val false [.int .i64 a2]] => some (g_Aslices_Delete_i_StoItem_i_StoItem a0 a1 a2,.val false [.own .any true 42 (.pair .str (.sl 3 (.int .i64))) (g_Vslices_Delete_i_StoItem_i_StoItem_0 a0 a1 a2)],[])
 | _ => none
theorem sslices_Delete_i_StoItem_i_StoItem:Sound Tryd.prog 99 msslices_Delete_i_StoItem_i_StoItem Fslices_Delete_i_StoItem_i_StoItem := by
 refine ⟨⟨_,Tryd.func99,by kernel_rfl,by kernel_rfl⟩,fun w S ψ ys vs r outs hF hh hg => ?_⟩
 unfold Fslices_Delete_i_StoItem_i_StoItem at hF
 split at hF
 ·rename_i l i j
  simp only [Option.some.injEq,Prod.mk.injEq,g_Aslices_Delete_i_StoItem_i_StoItem,decide_eq_true_eq] at hF
  obtain ⟨⟨h0,h1,h2⟩,rfl,rfl⟩ := hF
  match vs,hg with
  | [v0,v1,v2],hg =>
  have R := given_row hg.1
  have e1:v1 = .int .i64 i := given_plain hg.2.1 rfl
  have e2:v2 = .int .i64 j := given_plain hg.2.2.1 rfl
  subst e1 e2
  obtain ⟨i,rfl⟩:∃ k:Nat,i = (k:Int) := ⟨i.toNat,by omega⟩
  obtain ⟨j,rfl⟩:∃ k:Nat,j = (k:Int) := ⟨j.toNat,by omega⟩
  have R' := R
  obtain ⟨_,R'⟩ := R'
  rw [if_neg (by simp)] at R'
  obtain ⟨vals,o1,o2,o3⟩ := R'
  rw [if_pos rfl] at o3
  obtain ⟨ψ0,_,_,a3⟩ := o3
  have hone := own_one (e := .pair .str (.sl 3 (.int .i64))) (by decide) o1.1 a3
  have hsz:(Ty.pair .str (.sl 3 (.int .i64))).size = 2 := rfl
  rcases o1.2 with ⟨_,hn⟩ | ⟨g,cap,cur,rfl,_,hgg,hn,hcm,hcs,htake⟩
  ·exfalso
   have hn:l.length = 0 := hn
   omega
  ·have hn:l.length ≤ cap := hn
   have hcs:cur.size = cap * 2 := hcs
   have htake:cur.toList.take (l.length * 2) = vals := htake
   simp only [maxLen] at hcm
   refine Calls.mono (del_f g l.length cap i j cur w hgg hn hcm hcs (by omega) (by omega) (by rw [htake]; exact hone)) ?_
   rintro e w' ⟨rfl,A,zs,hA,hz,rfl⟩
   have hcl:cur.toList.length = cap * 2 := by rw [Array.length_toList]; exact hcs
   have hAl:A.length = cap * 2 := by rw [hA]; simp only [List.length_append,List.length_take,List.length_drop,hcl]; omega
   have hw1 := setRow_heap w.drew g cur A.toArray 42 _ hgg
   have hw2 := setRow_heap (w.drew.setRow g A.toArray) g A.toArray (A.take (i * 2 + (l.length * 2 - j * 2)) ++ zs ++ A.drop (i * 2 + (l.length * 2 - j * 2) + zs.length)).toArray 42 _ hw1
   have hgr:w.grownBy ((w.drew.setRow g A.toArray).setRow g (A.take (i * 2 + (l.length * 2 - j * 2)) ++ zs ++ A.drop (i * 2 + (l.length * 2 - j * 2) + zs.length)).toArray) (some g) := by
    refine ⟨rfl,rfl,rfl,by simp,fun k _ hk => ?_⟩
    have hk:k ≠ g := fun e => hk (by rw [e])
    rw [setRow_other _ g k _ hk,setRow_other _ g k _ hk]
    rfl
   have hr := row_delete (z := .any) (i := i) (k := j) R (w' := (w.drew.setRow g A.toArray).setRow g (A.take (i * 2 + (l.length * 2 - j * 2)) ++ zs ++ A.drop (i * 2 + (l.length * 2 - j * 2) + zs.length)).toArray) (v' := .slice (some ⟨g,0,none⟩) (i + (l.length - j)) cap) (fun g hg => (hh.own 0 1 g hg).1) (by omega) (by omega) hgr rfl (fun vals' ho => by
    have hv:vals' = vals := by
     rcases ho.2 with ⟨e,_⟩ | ⟨g',cap',cur',e,_,hg',_,_,_,ht'⟩
     ·cases e
     ·cases e
      rw [hgg] at hg'
      cases hg'
      rw [← ht',← htake]
      rfl
    subst hv
    have hl := row_del cur.toList zs (b := i * 2) (c := j * 2) (n := l.length * 2) (by omega) (by omega) (by omega) (by omega) A hA
    refine ⟨?_,.inr ⟨g,cap,_,by rw [show l.length - (j - i) = i + (l.length - j) by omega],Nat.zero_le _,hw2,by omega,by simp only [maxLen]; omega,?_,?_⟩⟩
    ·rw [hsz,List.length_append,List.length_take,List.length_drop,o1.1,hsz]
     show min (i * 2) (l.length * 2) + (l.length * 2 - j * 2) = (l.length - (j - i)) * 2
     omega
    ·rw [hsz]
     simp only [List.size_toArray,List.length_append,List.length_take,List.length_drop,hAl]
     omega
    ·rw [hsz,show (l.length - (j - i)) * 2 = i * 2 + (l.length * 2 - j * 2) by omega,← htake]
     exact hl)
   obtain ⟨t1,t2⟩ := trip_row hh (v := .slice (some ⟨g,0,none⟩) l.length cap) (v' := .slice (some ⟨g,0,none⟩) (i + (l.length - j)) cap) (φ := ψ 0 1) (fun g hg => ⟨0,1,hg⟩) o2 hgr (.inl rfl) (fun g' hg' => by cases hg'; exact (Array.getElem?_eq_some_iff.1 hw2).1) hr
   exact ⟨S,_,t1,t2,rfl⟩
 ·cases hF
end Go.Proofs.YtliagpcoflhphaaDoor.E
end
section
namespace Go.Proofs.YtliagpcoflhphaaDoor.E
open Go Go.RowKit Go.Shelf Go.Lib
set_option linter.all false
section
variable {P:Program}
theorem wp_copy_runQ (w:World) {o:Oper} {a:Act} {K:Act → World → Prop} {Q:Exit → Act → World → Prop} (d s:Operand) (t t':TypeId)
  (ho:o.op = .call { callee := .builtin .copy,args := #[d,s],argTypes := #[t,t'] }) (v u:Value) (hd:a.eval d = v) (hs:a.eval s = u) {v':Value} {w':World}
  (hr:(Builtin.copy_ #[t,t'] o.type #[v,u]).run P w = .ok v' w') (h:K (a.put o.dst v') w'):o.wp P a w K Q := by
 unfold Oper.wp execOp
 simp only [ho,resolve,invoke,builtin,Sem.run_bind,Sem.run_pure,Result.andThen_ok,List.map_toArray,List.map_cons,List.map_nil,hd,hs,hr]
 exact h
theorem wpList_copy_runQ (w:World) {ops:Array Oper} {rest:List Oper} {o:Oper} {a:Act} {Q:Exit → Act → World → Prop} (hgd:o.guard = none) (d s:Operand) (t t':TypeId)
  (ho:o.op = .call { callee := .builtin .copy,args := #[d,s],argTypes := #[t,t'] }) (v u:Value) (hd:a.eval d = v) (hs:a.eval s = u) {v':Value} {w':World}
  (hr:(Builtin.copy_ #[t,t'] o.type #[v,u]).run P w = .ok v' w') (h:wpList P ops Q rest (a.put o.dst v') w'):wpList P ops Q (o :: rest) a w :=
 wpList_plain hgd fun _ hK => wp_copy_runQ w d s t t' ho v u hd hs hr (hK _ _ h)
theorem step_copy_runQ {ops:Array Oper} {o:Oper} {a:Act} {w:World} {K:Act → World → Prop} {Q:Exit → Act → World → Prop} {E:Prop}
  (hg:o.guard = none) (d x:Operand) (dT sT:TypeId) (hop:o.op = Op.call { callee := Callee.builtin Builtin.copy,args := #[d,x],argTypes := #[dT,sT] })
  (v u:Value) (hd:a.eval d = v) (hx:a.eval x = u) {v':Value} {w':World} (hr:(Builtin.copy_ #[dT,sT] o.type #[v,u]).run P w = .ok v' w') (hK:K (a.put o.dst v') w') :
  if Region.wanted o (yielded ops a.tmps) = true then Oper.wp P o a w K Q else E := by
 have hw:Region.wanted o (yielded ops a.tmps) = true := by simp [Region.wanted,hg]
 rw [if_pos hw]
 unfold Oper.wp
 simp [execOp,hop,resolve,invoke,builtin,hd,hx,hr,Result.andThen]
 exact hK
end
theorem ins_facts:Tryd.prog.underlying 30 = some (.slice 42) ∧ Tryd.prog.underlying 3 = some (.int .i64) ∧ (Tryd.prog.info? 42).map (fun i => (i.zero,i.size,i.bytes)) = some (some (.agg #[.string ⟨#[]⟩,.slice none 0 0]),2,40) ∧ (Tryd.prog.info? 42).map (·.size) = some 2 := ⟨by kernel_rfl,by kernel_rfl,by kernel_rfl,by kernel_rfl⟩
set_option maxHeartbeats 4000000 in
set_option maxRecDepth 1000000 in
theorem ins_end (n vb m vc:Nat) (v:Value) (xs vs:List Value) (w:World) (hown:w.ownsRow 0 42 2 v n xs) (hm:0 < m) (hvl:vs.length = m * 2) (hvs:∀ j u,vs[j]? = some u → w.cell? ⟨vb,j,none⟩ = some u) (h1:∀ u ∈ vs,u.oneCell' = true) (hbig:n + m ≤ 1000000) :
  Calls Tryd.prog 100 #[v,.int .i64 n,.slice (some ⟨vb,0,none⟩) m vc] w fun e w' => ∃ v',e = .returned v' ∧ w'.ownsRow 0 42 2 v' (n + m) (xs ++ vs) ∧ w.grownBy w' v.ownBlock ∧ (v'.ownBlock = v.ownBlock ∨ v'.ownBlock = some w.heap.size) := by
 obtain ⟨t0,t3,i3,_⟩ := ins_facts
 obtain ⟨i0,hi0,hz0,hzs,hzb⟩ := info_parts i3
 have hz1:¬ ((m:Int) = 0) := by omega
 have hrun:∀ ty,∃ v' w',(Builtin.append_ #[30,30] ty #[v,.slice (some ⟨vb,0,none⟩) m vc]).run Tryd.prog w = .ok v' w' ∧ w'.ownsRow 0 42 2 v' (n + m) (xs ++ vs) ∧ w.grownBy w' v.ownBlock ∧ (v'.ownBlock = v.ownBlock ∨ v'.ownBlock = some w.heap.size) := fun ty => by
  have := append_own (P := Tryd.prog) (w := w) (ty := ty) t0 hi0 hz0 (by rw [hzs]; rfl) (by rw [hzs]; decide) (by rw [hzs]; exact hown) (ad := ⟨vb,0,none⟩) (m := m) (c := vc) (news := vs) (by rw [hzs]; exact hvl) (fun j u hu => by rw [Addr.add_lit,Nat.zero_add]; exact hvs j u hu) h1 (by simp only [maxLen]; omega) (by rw [hzb]; omega)
  rw [hzs] at this
  exact this
 have mixed:Tryd.prog.follows .mixedOrders = true := by kernel_rfl
 rcases hown.2 with ⟨rfl,rfl⟩ | ⟨g,cap,cur,rfl,_,hgg,hn,hcm,hcs,htake⟩
 ·obtain ⟨v',w',hr,k1,k2,k3⟩ := hrun 30
  go_enter Tryd.func100,Tryd.ntmps100
  go_wp2_with (at_builtin; refine Lib.wpList_append_run _ rfl _ _ _ _ rfl _ _ rfl rfl _ _ hr ?_)
  go_ret
  exact ⟨_,rfl,k1,k2,k3⟩
 ·obtain ⟨v',w',hr,k1,k2,k3⟩ := hrun 30
  simp only [maxLen] at hcm
  go_enter Tryd.func100,Tryd.ntmps100
  go_wp2_with (at_builtin; refine Lib.wpList_append_run _ rfl _ _ _ _ rfl _ _ rfl rfl _ _ hr ?_)
  all_goals (go_ret; exact ⟨_,rfl,k1,k2,k3⟩)
set_option maxHeartbeats 4000000 in
set_option maxRecDepth 1000000 in
theorem ins_shift (g n c i vb m vc:Nat) (cur:Array Value) (vs:List Value) (w:World) (hg:w.heap[g]? = some (.cells cur 42 (0,0))) (hi:i < n) (hm:0 < m) (hroom:n + m ≤ c) (hc63:c ≤ 9223372036854775807) (hcs:cur.size = c * 2) (hvb:vb ≠ g)
  (curv:Array Value) (hv:w.heap[vb]? = some (.cells curv 42 (0,0))) (hvl:vs.length = m * 2) (hvs:∀ j u,vs[j]? = some u → w.cell? ⟨vb,j,none⟩ = some u) (h1c:∀ v ∈ cur.toList.take (n * 2),v.oneCell' = true) (h1v:∀ v ∈ vs,v.oneCell' = true) :
  Calls Tryd.prog 100 #[.slice (some ⟨g,0,none⟩) n c,.int .i64 i,.slice (some ⟨vb,0,none⟩) m vc] w fun e w' => ∃ v',e = .returned v' ∧ w'.ownsRow 0 42 2 v' (n + m) ((cur.toList.take (n * 2)).take (i * 2) ++ vs ++ (cur.toList.take (n * 2)).drop (i * 2)) ∧ w.grownBy w' (some g) ∧ (v'.ownBlock = some g ∨ v'.ownBlock = some w.heap.size) := by
 obtain ⟨t0,t3,i3,hsz⟩ := ins_facts
 have u0 := run_underlying t0
 have hz1:¬ ((m:Int) = 0) := by omega
 have hz2:¬ ((i:Int) = (n:Int)) := by omega
 have hcl:cur.toList.length = c * 2 := by rw [Array.length_toList]; exact hcs
 obtain ⟨cs,hcs0⟩:∃ cs,cs = (cur.toList.drop (i * 2)).take (n * 2 - i * 2) := ⟨_,rfl⟩
 have hdl:cs.length = n * 2 - i * 2 := by rw [hcs0,List.length_take,List.length_drop]; omega
 have hcsc:∀ (W:World),W.heap[g]? = w.heap[g]? → ∀ j v,cs[j]? = some v → W.cell? ⟨g,i * 2 + j,none⟩ = some v := fun W hW j v hj => by
  rw [hcs0,List.getElem?_take] at hj
  split at hj
  ·rw [List.getElem?_drop,Array.getElem?_toList] at hj
   rw [cell_of_row W g (i * 2 + j) cur 42 (0,0) (hW.trans hg)]
   exact hj
  ·cases hj
 have h1s:∀ v ∈ cs,v.oneCell' = true := fun v hv => by
  rw [hcs0,← List.drop_take] at hv
  exact h1c v (List.mem_of_mem_drop hv)
 obtain ⟨A,hA⟩:∃ A:List Value,A = cur.toList.take (i * 2 + m * 2) ++ cs ++ cur.toList.drop (i * 2 + m * 2 + cs.length) := ⟨_,rfl⟩
 have hAl:A.length = c * 2 := by rw [hA]; simp only [List.length_append,List.length_take,List.length_drop,hcl]; omega
 have hov:∀ lb cb,(callFunc 117 #[.slice (some ⟨vb,0,none⟩) m vc,.slice (some ⟨g,(i + m) * 2,none⟩) lb cb]).run Tryd.prog w = .ok (.value (.bool false)) w := fun lb cb => by
  rw [run_callFunc_extern Tryd.func117 (by kernel_rfl) (by kernel_rfl) (by kernel_rfl) (e := Extern.SlicesOverlaps.overlaps #[30,30] #[4]) (by kernel_rfl),
   Lib.run_overlaps_apart w 30 4 42 t0 2 (fun _ => by kernel_rfl) ⟨vb,0,none⟩ ⟨g,(i + m) * 2,none⟩ m vc lb cb hvb 42 42 curv.size cur.size (by simp [World.shape?,hv]) (by simp [World.shape?,hg]) (by omega) (by simp [World.frozen?,hv]) (by simp [World.frozen?,hv])]
  rfl
 have mixed:Tryd.prog.follows .mixedOrders = true := by kernel_rfl
 have hw1:IntKind.i64.wrap ((i:Int) + (m:Int)) = (i:Int) + (m:Int) := by rw [IntKind.wrap_i64]; omega
 have hb1:(0:Int) ≤ (i:Int) + (m:Int) := by omega
 have hin:i ≤ n := by omega
 have htn:((i:Int) + (m:Int)).toNat = i + m := by omega
 have hb2:¬ (c = i + m) := by omega
 have hb3:(i:Int) ≤ (n:Int) + (m:Int) := by omega
 have hb4:¬ (c = i) := by omega
 obtain ⟨k1,hk1⟩:∃ k1:Nat,k1 = Nat.min (n + m - i) (n + m - (i + m)) := ⟨_,rfl⟩
 have hcp1:∀ ty dc sc,(Builtin.copy_ #[30,30] ty #[.slice (some ⟨g,(i + m) * 2,none⟩) (n + m - (i + m)) dc,.slice (some ⟨g,i * 2,none⟩) (n + m - i) sc]).run Tryd.prog w.drew = .ok (goInt k1) (w.drew.setRow g A.toArray) := fun ty dc sc => by
  have hmin:Nat.min (n + m - i) (n + m - (i + m)) = n - i := by simp only [Nat.min_def]; split <;> omega
  have := run_copy_rowN (P := Tryd.prog) w.drew 30 30 ty 42 2 g ((i + m) * 2) (n + m - (i + m)) dc ⟨g,i * 2,none⟩ (n + m - i) sc cur 42 cs t0 hsz hg (by rw [hmin,hdl]; omega) (fun j v hj => by rw [Addr.add_lit]; exact hcsc w.drew rfl j v hj) (by rw [hdl]; omega) h1s
  rw [this,hk1,hA,show (i + m) * 2 = i * 2 + m * 2 by omega]
 obtain ⟨W1,hW1⟩:∃ W1,W1 = w.drew.setRow g A.toArray := ⟨_,rfl⟩
 have hH1:W1.heap[g]? = some (.cells A.toArray 42 (0,0)) := by rw [hW1]; exact setRow_heap w.drew g cur _ 42 _ hg
 have hV1:∀ x,x.block = vb → W1.cell? x = w.cell? x := fun x hx => by
  rw [hW1]
  exact World.cell?_of_block (by rw [hx,setRow_other _ g vb _ hvb]; rfl)
 obtain ⟨B,hB⟩:∃ B:List Value,B = A.take (i * 2) ++ vs ++ A.drop (i * 2 + m * 2) := ⟨_,rfl⟩
 obtain ⟨k2,hk2⟩:∃ k2:Nat,k2 = Nat.min m (n + m - i) := ⟨_,rfl⟩
 have hcp2:∀ (W:World),W.heap = W1.heap → ∀ ty dc,(Builtin.copy_ #[30,30] ty #[.slice (some ⟨g,i * 2,none⟩) (n + m - i) dc,.slice (some ⟨vb,0,none⟩) m vc]).run Tryd.prog W = .ok (goInt k2) (W.setRow g B.toArray) := fun W hW ty dc => by
  have hmin:Nat.min m (n + m - i) = m := by simp only [Nat.min_def]; split <;> omega
  have := run_copy_rowN (P := Tryd.prog) W 30 30 ty 42 2 g (i * 2) (n + m - i) dc ⟨vb,0,none⟩ m vc A.toArray 42 vs t0 hsz (by rw [hW]; exact hH1) (by rw [hmin,hvl]) (fun j v hj => by
   rw [Addr.add_lit,Nat.zero_add,World.cell?_of_block (w := W1) (w' := W) (by rw [hW]),hV1 _ rfl]; exact hvs j v hj) (by rw [hvl,List.size_toArray,hAl]; omega) h1v
  rw [this,hk2,hvl,hB]
 have fin:Hid (∀ (W:World),W.heap = W1.heap → W.os = w.os → W.tape = w.tape → W.output = w.output → (W.setRow g B.toArray).ownsRow 0 42 2 (.slice (some ⟨g,0,none⟩) (n + m) c) (n + m) ((cur.toList.take (n * 2)).take (i * 2) ++ vs ++ (cur.toList.take (n * 2)).drop (i * 2)) ∧ w.grownBy (W.setRow g B.toArray) (some g)) := by
  intro W e1 e2 e3 e4
  have hBl:B.length = c * 2 := by rw [hB]; simp only [List.length_append,List.length_take,List.length_drop,hAl,hvl]; omega
  have hh := setRow_heap W g A.toArray B.toArray 42 _ (by rw [e1]; exact hH1)
  refine ⟨⟨?_,.inr ⟨g,c,_,rfl,Nat.zero_le _,hh,hroom,by simp only [maxLen]; exact hc63,by rw [List.size_toArray,hBl],?_⟩⟩,⟨e2,e3,e4,?_,fun k _ hk => ?_⟩⟩
  ·simp only [List.length_append,List.length_take,List.length_drop,hcl,hvl]; omega
  ·rw [show (n + m) * 2 = n * 2 + m * 2 by omega,hB]
   exact row_shift cur.toList vs (b := i * 2) (n := n * 2) (m := m * 2) (by omega) hvl (by omega) A (by rw [hA,hdl,hcs0])
  ·have:(W.setRow g B.toArray).heap.size = W.heap.size := by simp
   rw [this,e1,hW1]
   simp
  ·have hk:k ≠ g := fun e => hk (by rw [e])
   rw [setRow_other _ g k _ hk,e1,hW1,setRow_other _ g k _ hk]
   rfl
 rw [← hW1] at hcp1
 have X1:Hid (W1 = w.drew.setRow g A.toArray) := hW1
 clear hW1 hA hB hk1 hk2 hH1 hV1 hcs0 hcsc h1s hcl hdl hAl hvl hvs h1c h1v hcs hg hv
 go_enter Tryd.func100,Tryd.ntmps100
 go_wp2_with (simp only [hov])
 go_region_law_o (refine step_copy_runQ rfl _ _ 30 30 rfl _ _ (by simp [Act.eval,Act.put]) (by simp [Act.eval,Act.put]) (hcp1 _ _ _) ?_)
 go_wp2_with (at_builtin; refine wpList_copy_runQ _ rfl _ _ 30 30 rfl _ _ rfl rfl (hcp2 _ rfl _ _) ?_)
 go_ret
 obtain ⟨f1,f2⟩ := fin.out W1 rfl (by rw [X1.out]; rfl) (by rw [X1.out]; rfl) (by rw [X1.out]; rfl)
 exact ⟨_,rfl,f1,f2,.inl rfl⟩
set_option maxHeartbeats 4000000 in
set_option maxRecDepth 1000000 in
theorem ins_grow (g n c i vb m vc:Nat) (cur:Array Value) (vs:List Value) (w:World) (hg:w.heap[g]? = some (.cells cur 42 (0,0))) (hi:i < n) (hm:0 < m) (hnc:n ≤ c) (hroom:c < n + m) (hbig:n + m ≤ 1000000) (hcs:cur.size = c * 2)
  (hvw:vb < w.heap.size) (hvl:vs.length = m * 2) (hvs:∀ j u,vs[j]? = some u → w.cell? ⟨vb,j,none⟩ = some u) (h1c:∀ v ∈ cur.toList.take (n * 2),v.oneCell' = true) (h1v:∀ v ∈ vs,v.oneCell' = true) :
  Calls Tryd.prog 100 #[.slice (some ⟨g,0,none⟩) n c,.int .i64 i,.slice (some ⟨vb,0,none⟩) m vc] w fun e w' => ∃ v',e = .returned v' ∧ w'.ownsRow 0 42 2 v' (n + m) ((cur.toList.take (n * 2)).take (i * 2) ++ vs ++ (cur.toList.take (n * 2)).drop (i * 2)) ∧ w.grownBy w' (some g) ∧ (v'.ownBlock = some g ∨ v'.ownBlock = some w.heap.size) := by
 obtain ⟨t0,t3,i3,hsz⟩ := ins_facts
 obtain ⟨i0,hi0,hz0,hzs,hzb⟩ := info_parts i3
 have u0 := run_underlying t0
 have u3 := run_underlying t3
 have hz1:¬ ((m:Int) = 0) := by omega
 have hz2:¬ ((i:Int) = (n:Int)) := by omega
 have hz3:(c:Int) < (n:Int) + (m:Int) := by omega
 have hbw:g < w.heap.size := (Array.getElem?_eq_some_iff.1 hg).1
 have hkk:(n:Int) + (m:Int) - (i:Int) = ((n + m - i:Nat):Int) := by omega
 have hik:i + (n + m - i) = n + m := by omega
 have hcl:cur.toList.length = c * 2 := by rw [Array.length_toList]; exact hcs
 obtain ⟨vals,hvals⟩:∃ vals,vals = cur.toList.take (n * 2) := ⟨_,rfl⟩
 have hvall:vals.length = n * 2 := by rw [hvals,List.length_take]; omega
 have hcell:∀ (W:World),W.heap[g]? = w.heap[g]? → ∀ j v,vals[j]? = some v → W.cell? ⟨g,j,none⟩ = some v := fun W hW j v hj => by
  rw [hvals,List.getElem?_take] at hj
  split at hj
  ·rw [Array.getElem?_toList] at hj
   rw [cell_of_row W g j cur 42 (0,0) (hW.trans hg)]
   exact hj
  ·cases hj
 have hold:(Builtin.firstCells i0.size i (.slice (some ⟨g,0,none⟩) i c)).run Tryd.prog w.drew = .ok (vals.take (i * 2)).toArray w.drew := by
  rw [hzs]
  exact run_firstCells_some w.drew 2 i ⟨g,0,none⟩ i c (vals.take (i * 2)) (by rw [List.length_take]; omega) (fun j v hj => by
   rw [Addr.add_lit,Nat.zero_add]
   rw [List.getElem?_take] at hj
   split at hj
   ·exact hcell w.drew rfl j v hj
   ·cases hj)
 have hrz:∀ ty,(Builtin.append_ #[30,3] ty #[.slice (some ⟨g,0,none⟩) i c,.int .i64 ((n:Int) + (m:Int) - (i:Int))]).run Tryd.prog w =
   .ok (.slice (some ⟨w.heap.size,0,none⟩) (n + m) (grownCap w (n + m) c 42)) (w.drew.alloc (.cells ((vals.take (i * 2)).toArray ++ Builtin.zeroCells (Value.agg #[.string ⟨#[]⟩,.slice none 0 0]).cells (n + m - i) ++ Builtin.zeroCells (Value.agg #[.string ⟨#[]⟩,.slice none 0 0]).cells (grownCap w (n + m) c 42 - (n + m))) 42)) := fun ty => by
  have h := Lib.run_append_grow_zeros w 30 3 ty 42 i0 _ .i64 .i64 t0 t3 hi0 hz0 (some ⟨g,0,none⟩) i c (vals.take (i * 2)) hold (n + m - i) (by omega) (by omega) (by omega) (by omega) (by rw [hzb]; omega) (by rw [hzb,hik]; exact growslice_fits hroom (by omega))
  rw [hik] at h
  rw [hkk]
  exact h
 obtain ⟨G,hG⟩:∃ G,G = grownCap w (n + m) c 42 := ⟨_,rfl⟩
 have hGn:n + m ≤ G := by rw [hG]; exact grownCap_ge w _ _ _
 have hG63:G ≤ 9223372036854775807 := by
  have := grownCap_le_maxLen w (n + m) c 42 (by unfold maxLen; omega)
  rw [← hG] at this
  unfold maxLen at this
  omega
 rw [← hG] at hrz
 have zl:∀ k,(Builtin.zeroCells (Value.agg #[.string ⟨#[]⟩,.slice none 0 0]).cells k).size = k * 2 := fun k => by simp [Builtin.zeroCells,Value.cells]
 obtain ⟨zs,hzs0⟩:∃ zs:List Value,zs = (Builtin.zeroCells (Value.agg #[.string ⟨#[]⟩,.slice none 0 0]).cells (n + m - i) ++ Builtin.zeroCells (Value.agg #[.string ⟨#[]⟩,.slice none 0 0]).cells (G - (n + m))).toList := ⟨_,rfl⟩
 have hzl:zs.length = (G - i) * 2 := by rw [hzs0]; simp only [Array.toList_append,List.length_append,Array.length_toList,zl]; omega
 obtain ⟨ROW,hROW⟩:∃ ROW:List Value,ROW = vals.take (i * 2) ++ zs := ⟨_,rfl⟩
 have hRl:ROW.length = G * 2 := by rw [hROW,List.length_append,List.length_take,hzl]; omega
 have hRA:(vals.take (i * 2)).toArray ++ Builtin.zeroCells (Value.agg #[.string ⟨#[]⟩,.slice none 0 0]).cells (n + m - i) ++ Builtin.zeroCells (Value.agg #[.string ⟨#[]⟩,.slice none 0 0]).cells (G - (n + m)) = ROW.toArray := by
  rw [hROW,hzs0]
  apply Array.toList_inj.1
  simp
 rw [hRA] at hrz
 obtain ⟨W1,hW1⟩:∃ W1,W1 = w.drew.alloc (.cells ROW.toArray 42) := ⟨_,rfl⟩
 rw [← hW1] at hrz
 have hH1:W1.heap[w.heap.size]? = some (.cells ROW.toArray 42 (0,0)) := by rw [hW1]; exact heap_alloc_new w.drew _
 have hold1:∀ k,k < w.heap.size → W1.heap[k]? = w.heap[k]? := fun k hk => by rw [hW1]; exact heap_alloc_old w.drew _ hk
 obtain ⟨R1,hR1⟩:∃ R1:List Value,R1 = ROW.take (i * 2) ++ vs ++ ROW.drop (i * 2 + m * 2) := ⟨_,rfl⟩
 have hR1l:R1.length = G * 2 := by rw [hR1]; simp only [List.length_append,List.length_take,List.length_drop,hRl,hvl]; omega
 obtain ⟨k1,hk1⟩:∃ k1:Nat,k1 = Nat.min m (n + m - i) := ⟨_,rfl⟩
 have hcpA:∀ (W:World),W.heap = W1.heap → ∀ ty dc,(Builtin.copy_ #[30,30] ty #[.slice (some ⟨w.heap.size,i * 2,none⟩) (n + m - i) dc,.slice (some ⟨vb,0,none⟩) m vc]).run Tryd.prog W = .ok (goInt k1) (W.setRow w.heap.size R1.toArray) := fun W hW ty dc => by
  have hmin:Nat.min m (n + m - i) = m := by simp only [Nat.min_def]; split <;> omega
  have := run_copy_rowN (P := Tryd.prog) W 30 30 ty 42 2 w.heap.size (i * 2) (n + m - i) dc ⟨vb,0,none⟩ m vc ROW.toArray 42 vs t0 hsz (by rw [hW]; exact hH1) (by rw [hmin,hvl]) (fun j v hj => by
   rw [Addr.add_lit,Nat.zero_add,World.cell?_of_block (w := w) (w' := W) (by rw [hW]; exact hold1 vb hvw)]; exact hvs j v hj) (by rw [hvl,List.size_toArray,hRl]; omega) h1v
  rw [this,hk1,hvl,hR1]
 obtain ⟨W2,hW2⟩:∃ W2,W2 = W1.setRow w.heap.size R1.toArray := ⟨_,rfl⟩
 have hH2:W2.heap[w.heap.size]? = some (.cells R1.toArray 42 (0,0)) := by rw [hW2]; exact setRow_heap W1 _ _ _ 42 _ hH1
 have hold2:∀ k,k < w.heap.size → W2.heap[k]? = w.heap[k]? := fun k hk => by rw [hW2,setRow_other _ _ _ _ (by omega)]; exact hold1 k hk
 obtain ⟨cs,hcs0⟩:∃ cs,cs = vals.drop (i * 2) := ⟨_,rfl⟩
 have hdl:cs.length = n * 2 - i * 2 := by rw [hcs0,List.length_drop]; omega
 have h1s:∀ v ∈ cs,v.oneCell' = true := fun v hv => by
  rw [hcs0,hvals] at hv
  exact h1c v (List.mem_of_mem_drop hv)
 obtain ⟨R2,hR2⟩:∃ R2:List Value,R2 = R1.take (i * 2 + m * 2) ++ cs ++ R1.drop (i * 2 + m * 2 + (n * 2 - i * 2)) := ⟨_,rfl⟩
 obtain ⟨k2,hk2⟩:∃ k2:Nat,k2 = Nat.min (n - i) (n + m - (i + m)) := ⟨_,rfl⟩
 have hcpB:∀ (W:World),W.heap = W2.heap → ∀ ty dc sc,(Builtin.copy_ #[30,30] ty #[.slice (some ⟨w.heap.size,(i + m) * 2,none⟩) (n + m - (i + m)) dc,.slice (some ⟨g,i * 2,none⟩) (n - i) sc]).run Tryd.prog W = .ok (goInt k2) (W.setRow w.heap.size R2.toArray) := fun W hW ty dc sc => by
  have hmin:Nat.min (n - i) (n + m - (i + m)) = n - i := by simp only [Nat.min_def]; split <;> omega
  have := run_copy_rowN (P := Tryd.prog) W 30 30 ty 42 2 w.heap.size ((i + m) * 2) (n + m - (i + m)) dc ⟨g,i * 2,none⟩ (n - i) sc R1.toArray 42 cs t0 hsz (by rw [hW]; exact hH2) (by rw [hmin,hdl]; omega) (fun j v hj => by
   rw [Addr.add_lit]
   refine hcell W (by rw [hW]; exact hold2 g hbw) _ v ?_
   rwa [hcs0,List.getElem?_drop] at hj) (by rw [hdl,List.size_toArray,hR1l]; omega) h1s
  rw [this,hk2,hR2,hdl,show (i + m) * 2 = i * 2 + m * 2 by omega]
 have fin:Hid (∀ (W:World),W.heap = W2.heap → W.os = w.os → W.tape = w.tape → W.output = w.output → (W.setRow w.heap.size R2.toArray).ownsRow 0 42 2 (.slice (some ⟨w.heap.size,0,none⟩) (n + m) G) (n + m) ((cur.toList.take (n * 2)).take (i * 2) ++ vs ++ (cur.toList.take (n * 2)).drop (i * 2)) ∧ w.grownBy (W.setRow w.heap.size R2.toArray) (some g)) := by
  intro W e1 e2 e3 e4
  have hR2l:R2.length = G * 2 := by rw [hR2]; simp only [List.length_append,List.length_take,List.length_drop,hR1l,hdl]; omega
  have hh := setRow_heap W w.heap.size R1.toArray R2.toArray 42 _ (by rw [e1]; exact hH2)
  have hs2:W2.heap.size = w.heap.size + 1 := by rw [hW2,hW1]; simp
  refine ⟨⟨?_,.inr ⟨w.heap.size,G,_,rfl,Nat.zero_le _,hh,hGn,by simp only [maxLen]; exact hG63,by rw [List.size_toArray,hR2l],?_⟩⟩,⟨e2,e3,e4,?_,fun k hk _ => ?_⟩⟩
  ·simp only [List.length_append,List.length_take,List.length_drop,hcl,hvl]; omega
  ·rw [show (n + m) * 2 = n * 2 + m * 2 by omega,hR2,hcs0,← hvals]
   exact row_grow vals vs zs (b := i * 2) (n := n * 2) (m := m * 2) (by omega) hvall hvl R1 (by rw [hzl]; omega) (by rw [hR1,hROW])
  ·have:(W.setRow w.heap.size R2.toArray).heap.size = W.heap.size := by simp
   rw [this,e1,hs2]
   omega
  ·rw [setRow_other _ _ _ _ (by omega),e1]
   exact hold2 k hk
 have X1:Hid (W1 = w.drew.alloc (.cells ROW.toArray 42)) := hW1
 have X2:Hid (W2 = W1.setRow w.heap.size R1.toArray) := hW2
 have hGi:¬ (G = i) := by omega
 have hGim:¬ (G = i + m) := by omega
 have hci:¬ (c = i) := by omega
 have hw1:IntKind.i64.wrap ((i:Int) + (m:Int)) = (i:Int) + (m:Int) := by rw [IntKind.wrap_i64]; omega
 have hb1:(0:Int) ≤ (i:Int) + (m:Int) := by omega
 have hin:i ≤ n := by omega
 have htn:((i:Int) + (m:Int)).toNat = i + m := by omega
 have hb3:(i:Int) ≤ (n:Int) := by omega
 have mixed:Tryd.prog.follows .mixedOrders = true := by kernel_rfl
 clear hkk hik hold hW1 hW2 hROW hRA hzs0 hzl hRl hG hR1 hR1l hk1 hR2 hk2 hcs0 hdl h1s hH1 hH2 hold1 hold2 hcell hvals hvall hcl hvl hvs h1c h1v hcs zl
 go_enter Tryd.func100,Tryd.ntmps100
 go_wp2_with (first
  | (at_builtin; refine Lib.wpList_append_run _ rfl _ _ _ _ rfl _ _ rfl rfl _ _ (hrz _) ?_)
  | (at_builtin; refine wpList_copy_runQ _ rfl _ _ 30 30 rfl _ _ rfl rfl (hcpA _ rfl _ _) ?_)
  | (at_builtin; refine wpList_copy_runQ _ rfl _ _ 30 30 rfl _ _ rfl rfl (hcpB _ rfl _ _ _) ?_))
 have e2:((W1.setRow w.heap.size R1.toArray).drew).heap = W2.heap := by rw [X2.out]; rfl
 go_region_law_o (refine step_copy_runQ rfl _ _ 30 30 rfl (.slice (some ⟨w.heap.size,(i + m) * 2,none⟩) (n + m - (i + m)) (G - (i + m))) (.slice (some ⟨g,i * 2,none⟩) (n - i) (c - i)) (by simp [Act.eval,Act.put]) (by simp [Act.eval,Act.put]) (hcpB _ e2 3 (G - (i + m)) (c - i)) ?_)
 go_wp2
 go_ret
 obtain ⟨f1,f2⟩ := fin.out ((W1.setRow w.heap.size R1.toArray).drew) e2 (by rw [X1.out]; rfl) (by rw [X1.out]; rfl) (by rw [X1.out]; rfl)
 exact ⟨_,rfl,f1,f2,.inr rfl⟩
def msslices_Insert_i_StoItem_i_StoItem:List PM := [.own,.own,.own]
def g_Vslices_Insert_i_StoItem_i_StoItem_0 (l:List (ByteArray×List Int)) (i:Int) (x:List (ByteArray×List Int)):List (ByteArray×List Int) := l.take i.toNat ++ (x ++ l.drop i.toNat)
def g_Aslices_Insert_i_StoItem_i_StoItem (l:List (ByteArray×List Int)) (i:Int) (x:List (ByteArray×List Int)):Bool := decide ((0 ≤ i ∧ i ≤ l.length) ∧ 0 < x.length ∧ l.length + x.length ≤ 1000000)
def Fslices_Insert_i_StoItem_i_StoItem:FSem := fun ys => match ys with
 | [.val false [.own .any true 42 (.pair .str (.sl 3 (.int .i64))) a0],.val false [.int .i64 a1],.val false [.own .any true 42 (.pair .str (.sl 3 (.int .i64))) a2]] => some (g_Aslices_Insert_i_StoItem_i_StoItem a0 a1 a2,.val false [.own .any true 42 (.pair .str (.sl 3 (.int .i64))) (g_Vslices_Insert_i_StoItem_i_StoItem_0 a0 a1 a2)],[])
 | _ => none
theorem sslices_Insert_i_StoItem_i_StoItem:Sound Tryd.prog 100 msslices_Insert_i_StoItem_i_StoItem Fslices_Insert_i_StoItem_i_StoItem := by
 refine ⟨⟨_,Tryd.func100,by kernel_rfl,by kernel_rfl⟩,fun w S ψ ys vs r outs hF hh hg => ?_⟩
 unfold Fslices_Insert_i_StoItem_i_StoItem at hF
 split at hF
 ·rename_i l i x
  simp only [Option.some.injEq,Prod.mk.injEq,g_Aslices_Insert_i_StoItem_i_StoItem,decide_eq_true_eq] at hF
  obtain ⟨⟨⟨h0,h1⟩,h2,h3⟩,rfl,rfl⟩ := hF
  match vs,hg with
  | [v0,v1,v2],hg =>
  have R := given_row hg.1
  have R2 := given_row hg.2.2.1
  have e1:v1 = .int .i64 i := given_plain hg.2.1 rfl
  subst e1
  obtain ⟨i,rfl⟩:∃ k:Nat,i = (k:Int) := ⟨i.toNat,by omega⟩
  have hap:∀ g,ψ 0 1 g → ψ 2 1 g → False := fun g a b => by have := (hh.apart 0 1 2 1 g a b).1; omega
  have R' := R
  obtain ⟨_,R'⟩ := R'
  rw [if_neg (by simp)] at R'
  obtain ⟨vals,o1,o2,o3⟩ := R'
  rw [if_pos rfl] at o3
  obtain ⟨ψ0,_,_,a3⟩ := o3
  have R2' := R2
  obtain ⟨_,R2'⟩ := R2'
  rw [if_neg (by simp)] at R2'
  obtain ⟨vals2,p1,p2,p3⟩ := R2'
  rw [if_pos rfl] at p3
  obtain ⟨ψ2,_,_,b3⟩ := p3
  have hone := own_one (e := .pair .str (.sl 3 (.int .i64))) (by decide) o1.1 a3
  have hone2 := own_one (e := .pair .str (.sl 3 (.int .i64))) (by decide) p1.1 b3
  have hsz:(Ty.pair .str (.sl 3 (.int .i64))).size = 2 := rfl
  have uniq:∀ {v:Value} {n:Nat} {a b:List Value},w.ownsRow 0 42 2 v n a → w.ownsRow 0 42 2 v n b → a = b := by
   intro v n a b ha hb
   rcases ha.2 with ⟨rfl,rfl⟩ | ⟨g,cap,cur,rfl,_,hg',_,_,_,ht⟩
   ·have ea:a = [] := List.eq_nil_of_length_eq_zero (by simpa using ha.1)
    have eb:b = [] := List.eq_nil_of_length_eq_zero (by simpa using hb.1)
    rw [ea,eb]
   ·rcases hb.2 with ⟨e,_⟩ | ⟨g',cap',cur',e,_,hg2,_,_,_,ht2⟩
    ·cases e
    ·cases e
     rw [hg'] at hg2
     cases hg2
     rw [← ht,← ht2]
  rcases p1.2 with ⟨_,hn⟩ | ⟨vb,vc,curv,rfl,_,hvg,hvn,_,hvcs,hvt⟩
  ·exfalso
   have hn:x.length = 0 := hn
   omega
  ·have hvl:vals2.length = x.length * 2 := p1.1
   have hvs:∀ j u,vals2[j]? = some u → w.cell? ⟨vb,j,none⟩ = some u := fun j u hu => by
    have := p1.cells (g := vb) rfl j u hu
    rwa [Addr.add_lit,Nat.zero_add] at this
   have hvw:vb < w.heap.size := (Array.getElem?_eq_some_iff.1 hvg).1
   have hx1:0 < x.length := h2
   -- what the call leaves
   have key:Calls Tryd.prog 100 #[v0,.int .i64 (i:Int),.slice (some ⟨vb,0,none⟩) x.length vc] w fun e w' => ∃ v',e = .returned v' ∧ w'.ownsRow 0 42 2 v' (l.length + x.length) (vals.take (i * 2) ++ vals2 ++ vals.drop (i * 2)) ∧ w.grownBy w' v0.ownBlock ∧ (v'.ownBlock = v0.ownBlock ∨ v'.ownBlock = some w.heap.size) := by
    by_cases he:i = l.length
    ·subst he
     have o1l:vals.length = l.length * 2 := o1.1
     have := ins_end l.length vb x.length vc v0 vals vals2 w o1 hx1 hvl hvs hone2 (by omega)
     refine Calls.mono this ?_
     rintro e w' ⟨v',e1,e2,e3,e4⟩
     refine ⟨v',e1,?_,e3,e4⟩
     rw [List.take_of_length_le (by omega),List.drop_of_length_le (by omega),List.append_nil]
     exact e2
    ·rcases o1.2 with ⟨_,hn⟩ | ⟨g,cap,cur,rfl,_,hgg,hn,hcm,hcs,htake⟩
     ·exfalso
      have hn:l.length = 0 := hn
      omega
     ·have hn:l.length ≤ cap := hn
      have hcs:cur.size = cap * 2 := hcs
      have htake:cur.toList.take (l.length * 2) = vals := htake
      simp only [maxLen] at hcm
      have hne:vb ≠ g := fun e => hap g (o2 g rfl) (p2 g (by rw [← e]; rfl))
      rw [← htake]
      by_cases hr:l.length + x.length ≤ cap
      ·exact ins_shift g l.length cap i vb x.length vc cur vals2 w hgg (by omega) hx1 hr hcm hcs hne curv hvg hvl hvs (by rw [htake]; exact hone) hone2
      ·exact ins_grow g l.length cap i vb x.length vc cur vals2 w hgg (by omega) hx1 hn (by omega) (by omega) hcs hvw hvl hvs (by rw [htake]; exact hone) hone2
   refine Calls.mono key ?_
   rintro e w' ⟨v',rfl,k1,k2,k3⟩
   have hr := row_insert (w' := w') (v' := v') (i := i) R R2 hap (fun g hg => hg.elim (fun h => (hh.own 0 1 g h).1) (fun h => (hh.own 2 1 g h).1)) (by show i ≤ l.length; omega) k2 k3 (fun vals' vals2' a b => by
    rw [uniq a o1,uniq b p1]
    exact k1)
   obtain ⟨t1,t2⟩ := trip_row hh (v := v0) (v' := v') (φ := fun g => ψ 0 1 g ∨ ψ 2 1 g) (fun g hg => hg.elim (fun h => ⟨0,1,h⟩) (fun h => ⟨2,1,h⟩)) (fun g hg => .inl (o2 g hg)) k2 k3 (fun g' hg' => (k1.lt g' hg').2) hr
   exact ⟨S,_,t1,t2,rfl⟩
 ·cases hF
end Go.Proofs.YtliagpcoflhphaaDoor.E
end
namespace Go.Proofs.YtliagpcoflhphaaDoor.E
open Go
set_option maxRecDepth 100000
set_option maxHeartbeats 0
noncomputable def Ei_StoStore_write:Env where
 tt := mkTI Tryd.prog
 fn := fun f => match f with
  | 58 => some (msslices_Clone_int_int,FSem.wk msslices_Clone_int_int Fslices_Clone_int_int)
  | 75 => some (msi_StoStore_find,FSem.wk msi_StoStore_find Fi_StoStore_find)
  | 99 => some (msslices_Delete_i_StoItem_i_StoItem,FSem.wk msslices_Delete_i_StoItem_i_StoItem Fslices_Delete_i_StoItem_i_StoItem)
  | 100 => some (msslices_Insert_i_StoItem_i_StoItem,FSem.wk msslices_Insert_i_StoItem_i_StoItem Fslices_Insert_i_StoItem_i_StoItem)
  | _ => none
 bxf := fun _ => none
 mv := []
 keep := fun _ => []
 keepB := fun _ => []
 keepX := fun _ => []
 keepXB := fun _ => []
theorem goodFi_StoStore_write:∀ f ms F,Ei_StoStore_write.fn f = some (ms,F) → Sound Tryd.prog f ms F := fun f ms F h => by
 unfold Ei_StoStore_write at h
 dsimp only at h
 split at h
 ·injection h with h; injection h with e1 e2; subst e1 e2; exact Sound.wk sslices_Clone_int_int
 ·injection h with h; injection h with e1 e2; subst e1 e2; exact Sound.wk si_StoStore_find
 ·injection h with h; injection h with e1 e2; subst e1 e2; exact Sound.wk sslices_Delete_i_StoItem_i_StoItem
 ·injection h with h; injection h with e1 e2; subst e1 e2; exact Sound.wk sslices_Insert_i_StoItem_i_StoItem
 ·cases h
theorem goodBi_StoStore_write:∀ f ms F,Ei_StoStore_write.bxf f = some (ms,F) → SoundB Tryd.prog f ms F := fun f ms F h => by cases h
theorem goodi_StoStore_write:Good Tryd.prog Ei_StoStore_write := ⟨rfl,goodFi_StoStore_write,goodBi_StoStore_write⟩
noncomputable def Oi_StoStore_write_0:Orc := fun _ _ => none
noncomputable def msi_StoStore_write:List PM := [.bx,.rd]
noncomputable def lsi_StoStore_write:List (Nat×Code) := loopsAll 0 (Tryd.f68.body.getD .skip)
theorem ki_StoStore_write_0:OrcOk Ei_StoStore_write Oi_StoStore_write_0 lsi_StoStore_write 0 := orcOk_none
noncomputable def g_Ai_StoStore_write (a0:List (ByteArray×(List Int))) (a1:ByteArray) (a2:Bool) (a3:List Int):Bool := g_Ai_StoStore_find a0 a1&&bif a2 then bif g_Vslices_BinarySearchFunc_i_StoItem_i_StoItem_string__i_StoStore_find_1_1 a0 a1 then g_Aslices_Delete_i_StoItem_i_StoItem a0 (g_Vslices_BinarySearchFunc_i_StoItem_i_StoItem_string__i_StoStore_find_1_0 a0 a1) (IntKind.wrap IntKind.i64 (g_Vslices_BinarySearchFunc_i_StoItem_i_StoItem_string__i_StoStore_find_1_0 a0 a1 + (1:Int))) else a2 || bif g_Vslices_BinarySearchFunc_i_StoItem_i_StoItem_string__i_StoStore_find_1_1 a0 a1 then g_Aslices_Clone_int_int_b a3&&(decide ((0:Int) ≤ g_Vslices_BinarySearchFunc_i_StoItem_i_StoItem_string__i_StoStore_find_1_0 a0 a1 ∧ g_Vslices_BinarySearchFunc_i_StoItem_i_StoItem_string__i_StoStore_find_1_0 a0 a1 < (↑(List.length a0):Int))&&decide (Int.toNat (g_Vslices_BinarySearchFunc_i_StoItem_i_StoItem_string__i_StoStore_find_1_0 a0 a1) < List.length a0)) else g_Aslices_Clone_int_int_b a3&&g_Aslices_Insert_i_StoItem_i_StoItem a0 (g_Vslices_BinarySearchFunc_i_StoItem_i_StoItem_string__i_StoStore_find_1_0 a0 a1) [(a1,a3)] else a2 || bif g_Vslices_BinarySearchFunc_i_StoItem_i_StoItem_string__i_StoStore_find_1_1 a0 a1 then g_Aslices_Clone_int_int_b a3&&(decide ((0:Int) ≤ g_Vslices_BinarySearchFunc_i_StoItem_i_StoItem_string__i_StoStore_find_1_0 a0 a1 ∧ g_Vslices_BinarySearchFunc_i_StoItem_i_StoItem_string__i_StoStore_find_1_0 a0 a1 < (↑(List.length a0):Int))&&decide (Int.toNat (g_Vslices_BinarySearchFunc_i_StoItem_i_StoItem_string__i_StoStore_find_1_0 a0 a1) < List.length a0)) else g_Aslices_Clone_int_int_b a3&&g_Aslices_Insert_i_StoItem_i_StoItem a0 (g_Vslices_BinarySearchFunc_i_StoItem_i_StoItem_string__i_StoStore_find_1_0 a0 a1) [(a1,a3)]
noncomputable def g_Vi_StoStore_write_0 (a0:List (ByteArray×(List Int))) (a1:ByteArray) (a2:Bool) (a3:List Int):List (ByteArray×(List Int)) := bif a2 then bif g_Vslices_BinarySearchFunc_i_StoItem_i_StoItem_string__i_StoStore_find_1_1 a0 a1 then g_Vslices_Delete_i_StoItem_i_StoItem_0 a0 (g_Vslices_BinarySearchFunc_i_StoItem_i_StoItem_string__i_StoStore_find_1_0 a0 a1) (IntKind.wrap IntKind.i64 (g_Vslices_BinarySearchFunc_i_StoItem_i_StoItem_string__i_StoStore_find_1_0 a0 a1 + (1:Int))) else bif a2 then a0 else bif g_Vslices_BinarySearchFunc_i_StoItem_i_StoItem_string__i_StoStore_find_1_1 a0 a1 then updE (Ty.pair Ty.str (Ty.sl (nat_lit 3) (Ty.int IntKind.i64))) a0 (Int.toNat (g_Vslices_BinarySearchFunc_i_StoItem_i_StoItem_string__i_StoStore_find_1_0 a0 a1)) fun x => (x.1,a3) else g_Vslices_Insert_i_StoItem_i_StoItem_0 a0 (g_Vslices_BinarySearchFunc_i_StoItem_i_StoItem_string__i_StoStore_find_1_0 a0 a1) [(a1,a3)] else bif a2 then a0 else bif g_Vslices_BinarySearchFunc_i_StoItem_i_StoItem_string__i_StoStore_find_1_1 a0 a1 then updE (Ty.pair Ty.str (Ty.sl (nat_lit 3) (Ty.int IntKind.i64))) a0 (Int.toNat (g_Vslices_BinarySearchFunc_i_StoItem_i_StoItem_string__i_StoStore_find_1_0 a0 a1)) fun x => (x.1,a3) else g_Vslices_Insert_i_StoItem_i_StoItem_0 a0 (g_Vslices_BinarySearchFunc_i_StoItem_i_StoItem_string__i_StoStore_find_1_0 a0 a1) [(a1,a3)]
noncomputable def Fi_StoStore_write:FSem := fun ys => match ys with
 | [.val true [.own .any true 42 (.pair .str (.sl 3 (.int .i64))) a0],.val true [.str a1,.bool a2,.sl .any 3 (.int .i64) a3]] => some ((g_Ai_StoStore_write a0 a1 a2 a3),.tup [],[[.own .any true 42 (.pair .str (.sl 3 (.int .i64))) (g_Vi_StoStore_write_0 a0 a1 a2 a3)]])
 | _ => none
theorem vi_StoStore_write (a0:List (ByteArray×(List Int))) (a1:ByteArray) (a2:Bool) (a3:List Int):collapseH .std Ei_StoStore_write Oi_StoStore_write_0 (execFn Ei_StoStore_write Tryd.f68 msi_StoStore_write [.val true [.own .any true 42 (.pair .str (.sl 3 (.int .i64))) a0],.val true [.str a1,.bool a2,.sl .any 3 (.int .i64) a3]]) = some ((g_Ai_StoStore_write a0 a1 a2 a3),.tup [],[[.own .any true 42 (.pair .str (.sl 3 (.int .i64))) (g_Vi_StoStore_write_0 a0 a1 a2 a3)]]) := by kernel_rfl
theorem si_StoStore_write:Sound Tryd.prog 68 msi_StoStore_write Fi_StoStore_write := by
 refine fn_gen goodi_StoStore_write (by kernel_rfl) .std (fn := Tryd.f68) (c := (Tryd.f68.body.getD .skip)) (o := Oi_StoStore_write_0) (k := 0) (by kernel_rfl) (by kernel_rfl) (by kernel_rfl) (by kernel_rfl) (by decide) ki_StoStore_write_0 ?_
 intro ys r outs h
 unfold Fi_StoStore_write at h
 split at h
 ·exact (vi_StoStore_write _ _ _ _).trans h
 ·cases h
noncomputable def Ei_WrtOk:Env where
 tt := mkTI Tryd.prog
 fn := fun f => match f with
  | 73 => some (msi_keyOk,FSem.wk msi_keyOk Fi_keyOk)
  | 74 => some (msi_valOk,FSem.wk msi_valOk Fi_valOk)
  | _ => none
 bxf := fun _ => none
 mv := []
 keep := fun _ => []
 keepB := fun _ => []
 keepX := fun _ => []
 keepXB := fun _ => []
theorem goodFi_WrtOk:∀ f ms F,Ei_WrtOk.fn f = some (ms,F) → Sound Tryd.prog f ms F := fun f ms F h => by
 unfold Ei_WrtOk at h
 dsimp only at h
 split at h
 ·injection h with h; injection h with e1 e2; subst e1 e2; exact Sound.wk si_keyOk
 ·injection h with h; injection h with e1 e2; subst e1 e2; exact Sound.wk si_valOk
 ·cases h
theorem goodBi_WrtOk:∀ f ms F,Ei_WrtOk.bxf f = some (ms,F) → SoundB Tryd.prog f ms F := fun f ms F h => by cases h
theorem goodi_WrtOk:Good Tryd.prog Ei_WrtOk := ⟨rfl,goodFi_WrtOk,goodBi_WrtOk⟩
noncomputable def Oi_WrtOk_0:Orc := fun _ _ => none
noncomputable def msi_WrtOk:List PM := [.rd]
noncomputable def lsi_WrtOk:List (Nat×Code) := loopsAll 0 (Tryd.f38.body.getD .skip)
theorem ki_WrtOk_0:OrcOk Ei_WrtOk Oi_WrtOk_0 lsi_WrtOk 0 := orcOk_none
noncomputable def g_Ai_WrtOk (a0:ByteArray) (a1:Bool) (a2:List Int):Bool := bif a1 then g_Ai_keyOk a0&&(!g_Vi_keyOk_0 a0 || true) else g_Ai_keyOk a0&&(!g_Vi_keyOk_0 a0 || g_Ai_valOk a2)
noncomputable def g_Vi_WrtOk_0 (a0:ByteArray) (a1:Bool) (a2:List Int):Bool := bif a1 then bif g_Vi_keyOk_0 a0 then (↑(List.length a2):Int) == (0:Int) else false else bif g_Vi_keyOk_0 a0 then g_Vi_valOk_0 a2 else false
noncomputable def Fi_WrtOk:FSem := fun ys => match ys with
 | [.val true [.str a0,.bool a1,.sl .any 3 (.int .i64) a2]] => some ((g_Ai_WrtOk a0 a1 a2),.val false [.bool (g_Vi_WrtOk_0 a0 a1 a2)],[])
 | _ => none
theorem vi_WrtOk (a0:ByteArray) (a1:Bool) (a2:List Int):collapseH .std Ei_WrtOk Oi_WrtOk_0 (execFn Ei_WrtOk Tryd.f38 msi_WrtOk [.val true [.str a0,.bool a1,.sl .any 3 (.int .i64) a2]]) = some ((g_Ai_WrtOk a0 a1 a2),.val false [.bool (g_Vi_WrtOk_0 a0 a1 a2)],[]) := by kernel_rfl
theorem si_WrtOk:Sound Tryd.prog 38 msi_WrtOk Fi_WrtOk := by
 refine fn_gen goodi_WrtOk (by kernel_rfl) .std (fn := Tryd.f38) (c := (Tryd.f38.body.getD .skip)) (o := Oi_WrtOk_0) (k := 0) (by kernel_rfl) (by kernel_rfl) (by kernel_rfl) (by kernel_rfl) (by decide) ki_WrtOk_0 ?_
 intro ys r outs h
 unfold Fi_WrtOk at h
 split at h
 ·exact (vi_WrtOk _ _ _).trans h
 ·cases h
noncomputable def Ei_StoDo_1:Env where
 tt := mkTI Tryd.prog
 fn := fun f => match f with
  | 38 => some (msi_WrtOk,FSem.wk msi_WrtOk Fi_WrtOk)
  | _ => none
 bxf := fun _ => none
 mv := []
 keep := fun _ => []
 keepB := fun _ => []
 keepX := fun _ => []
 keepXB := fun _ => []
theorem goodFi_StoDo_1:∀ f ms F,Ei_StoDo_1.fn f = some (ms,F) → Sound Tryd.prog f ms F := fun f ms F h => by
 unfold Ei_StoDo_1 at h
 dsimp only at h
 split at h
 ·injection h with h; injection h with e1 e2; subst e1 e2; exact Sound.wk si_WrtOk
 ·cases h
theorem goodBi_StoDo_1:∀ f ms F,Ei_StoDo_1.bxf f = some (ms,F) → SoundB Tryd.prog f ms F := fun f ms F h => by cases h
theorem goodi_StoDo_1:Good Tryd.prog Ei_StoDo_1 := ⟨rfl,goodFi_StoDo_1,goodBi_StoDo_1⟩
noncomputable def Oi_StoDo_1_0:Orc := fun _ _ => none
noncomputable def msi_StoDo_1:List PM := [.rd]
noncomputable def lsi_StoDo_1:List (Nat×Code) := loopsAll 0 (Tryd.f67.body.getD .skip)
theorem ki_StoDo_1_0:OrcOk Ei_StoDo_1 Oi_StoDo_1_0 lsi_StoDo_1 0 := orcOk_none
noncomputable def g_Ai_StoDo_1 (a0:ByteArray) (a1:Bool) (a2:List Int):Bool := g_Ai_WrtOk a0 a1 a2
noncomputable def Fi_StoDo_1:FSem := fun ys => match ys with
 | [.val true [.str a0,.bool a1,.sl .any 3 (.int .i64) a2]] => some ((g_Ai_StoDo_1 a0 a1 a2),.val false [.bool (!g_Vi_WrtOk_0 a0 a1 a2)],[])
 | _ => none
theorem vi_StoDo_1 (a0:ByteArray) (a1:Bool) (a2:List Int):collapseH .std Ei_StoDo_1 Oi_StoDo_1_0 (execFn Ei_StoDo_1 Tryd.f67 msi_StoDo_1 [.val true [.str a0,.bool a1,.sl .any 3 (.int .i64) a2]]) = some ((g_Ai_StoDo_1 a0 a1 a2),.val false [.bool (!g_Vi_WrtOk_0 a0 a1 a2)],[]) := by kernel_rfl
theorem si_StoDo_1:Sound Tryd.prog 67 msi_StoDo_1 Fi_StoDo_1 := by
 refine fn_gen goodi_StoDo_1 (by kernel_rfl) .std (fn := Tryd.f67) (c := (Tryd.f67.body.getD .skip)) (o := Oi_StoDo_1_0) (k := 0) (by kernel_rfl) (by kernel_rfl) (by kernel_rfl) (by kernel_rfl) (by decide) ki_StoDo_1_0 ?_
 intro ys r outs h
 unfold Fi_StoDo_1 at h
 split at h
 ·exact (vi_StoDo_1 _ _ _).trans h
 ·cases h
noncomputable def Eslices_IndexFunc_i_StoWrite_i_StoWrite__i_StoDo_1:Env where
 tt := mkTI Tryd.prog
 fn := fun f => match f with
  | 67 => some (msi_StoDo_1,FSem.wk msi_StoDo_1 Fi_StoDo_1)
  | _ => none
 bxf := fun _ => none
 mv := []
 keep := fun b => match b with
  | 0 => [(0,false),(1,false),(7,false),(8,false)]
  | _ => []
 keepB := fun b => match b with
  | 0 => []
  | _ => []
 keepX := fun b => match b with
  | 0 => [(4,false)]
  | _ => []
 keepXB := fun b => match b with
  | 0 => []
  | _ => []
theorem goodFslices_IndexFunc_i_StoWrite_i_StoWrite__i_StoDo_1:∀ f ms F,Eslices_IndexFunc_i_StoWrite_i_StoWrite__i_StoDo_1.fn f = some (ms,F) → Sound Tryd.prog f ms F := fun f ms F h => by
 unfold Eslices_IndexFunc_i_StoWrite_i_StoWrite__i_StoDo_1 at h
 dsimp only at h
 split at h
 ·injection h with h; injection h with e1 e2; subst e1 e2; exact Sound.wk si_StoDo_1
 ·cases h
theorem goodBslices_IndexFunc_i_StoWrite_i_StoWrite__i_StoDo_1:∀ f ms F,Eslices_IndexFunc_i_StoWrite_i_StoWrite__i_StoDo_1.bxf f = some (ms,F) → SoundB Tryd.prog f ms F := fun f ms F h => by cases h
theorem goodslices_IndexFunc_i_StoWrite_i_StoWrite__i_StoDo_1:Good Tryd.prog Eslices_IndexFunc_i_StoWrite_i_StoWrite__i_StoDo_1 := ⟨rfl,goodFslices_IndexFunc_i_StoWrite_i_StoWrite__i_StoDo_1,goodBslices_IndexFunc_i_StoWrite_i_StoWrite__i_StoDo_1⟩
noncomputable def Oslices_IndexFunc_i_StoWrite_i_StoWrite__i_StoDo_1_0:Orc := fun _ _ => none
noncomputable def msslices_IndexFunc_i_StoWrite_i_StoWrite__i_StoDo_1:List PM := [.rd,.rd]
noncomputable def lsslices_IndexFunc_i_StoWrite_i_StoWrite__i_StoDo_1:List (Nat×Code) := loopsAll 0 (Tryd.f98.body.getD .skip)
noncomputable def cslices_IndexFunc_i_StoWrite_i_StoWrite__i_StoDo_1_0:Code := (loopOf 0 (Tryd.f98.body.getD .skip)).getD .skip
theorem lseqslices_IndexFunc_i_StoWrite_i_StoWrite__i_StoDo_1:lsslices_IndexFunc_i_StoWrite_i_StoWrite__i_StoDo_1 = [(0,cslices_IndexFunc_i_StoWrite_i_StoWrite__i_StoDo_1_0)] := by kernel_rfl
theorem mslices_IndexFunc_i_StoWrite_i_StoWrite__i_StoDo_1_0:∀ p,p ∈ lsslices_IndexFunc_i_StoWrite_i_StoWrite__i_StoDo_1 → p.1 = 0 → p.2 = cslices_IndexFunc_i_StoWrite_i_StoWrite__i_StoDo_1_0 := by
 intro p hp
 rw [lseqslices_IndexFunc_i_StoWrite_i_StoWrite__i_StoDo_1] at hp
 simp only [List.mem_cons,List.not_mem_nil,or_false] at hp
 subst hp; simp
theorem kslices_IndexFunc_i_StoWrite_i_StoWrite__i_StoDo_1_0:OrcOk Eslices_IndexFunc_i_StoWrite_i_StoWrite__i_StoDo_1 Oslices_IndexFunc_i_StoWrite_i_StoWrite__i_StoDo_1_0 lsslices_IndexFunc_i_StoWrite_i_StoWrite__i_StoDo_1 0 := orcOk_none
noncomputable def hslices_IndexFunc_i_StoWrite_i_StoWrite__i_StoDo_1_0 (y0:List (ByteArray×(Bool×(List Int)))) (y1:Int) (y2:Int):List (Pl×LV) := [(.T 0,.t (.val false [.sl .any 76 (.pair .str (.pair .bool (.sl 3 (.int .i64)))) y0])),(.T 1,.t (.val false [.fn 67 []])),(.T 7,.t (.val false [.int .i64 y1])),(.T 8,.t (.val false [.int .i64 y2]))]
noncomputable def g_Sslices_IndexFunc_i_StoWrite_i_StoWrite__i_StoDo_1_0 (y0:List (ByteArray×(Bool×(List Int)))) (y1:Int):(Int) → RT (Int) ((Int) ⊕ (Unit))
 | y2 => .br (true) (.br (decide (y2 < y1)) (.br (decide ((0:Int) ≤ y2 ∧ y2 < (↑(List.length y0):Int))) (.br (g_Ai_StoDo_1 (at_ (Ty.pair Ty.str (Ty.pair Ty.bool (Ty.sl (nat_lit 3) (Ty.int IntKind.i64)))) y0 (Int.toNat y2)).1 (at_ (Ty.pair Ty.str (Ty.pair Ty.bool (Ty.sl (nat_lit 3) (Ty.int IntKind.i64)))) y0 (Int.toNat y2)).2.1 (at_ (Ty.pair Ty.str (Ty.pair Ty.bool (Ty.sl (nat_lit 3) (Ty.int IntKind.i64)))) y0 (Int.toNat y2)).2.2) (.br (!g_Vi_WrtOk_0 (at_ (Ty.pair Ty.str (Ty.pair Ty.bool (Ty.sl (nat_lit 3) (Ty.int IntKind.i64)))) y0 (Int.toNat y2)).1 (at_ (Ty.pair Ty.str (Ty.pair Ty.bool (Ty.sl (nat_lit 3) (Ty.int IntKind.i64)))) y0 (Int.toNat y2)).2.1 (at_ (Ty.pair Ty.str (Ty.pair Ty.bool (Ty.sl (nat_lit 3) (Ty.int IntKind.i64)))) y0 (Int.toNat y2)).2.2) (.out (.inl y2)) (.br (true) (.go (IntKind.wrap IntKind.i64 (y2 + (1:Int)))) .bad)) .bad) .bad) (.out (.inr (())))) .bad
noncomputable def g_Lslices_IndexFunc_i_StoWrite_i_StoWrite__i_StoDo_1_0 (y0:List (ByteArray×(Bool×(List Int)))) (y1:Int) (x:Int):Option ((Int) ⊕ (Unit)) := loopO (g_Sslices_IndexFunc_i_StoWrite_i_StoWrite__i_StoDo_1_0 y0 y1) x
noncomputable def xslices_IndexFunc_i_StoWrite_i_StoWrite__i_StoDo_1_0 (y0:List (ByteArray×(Bool×(List Int)))) (y1:Int):((Int) ⊕ (Unit)) → Ex×List (Pl×LV) := fun
 | .inl r => (.ret,[(.T 4,.t (.val false [.int .i64 r]))])
 | .inr (r) => (.exit 0,[(.T 4,.t (.val false [.undef]))])
noncomputable def Oslices_IndexFunc_i_StoWrite_i_StoWrite__i_StoDo_1_1:Orc := fun b h => match b,h with
 | 0,[(.T 0,.t (.val false [.sl .any 76 (.pair .str (.pair .bool (.sl 3 (.int .i64)))) y0])),(.T 1,.t (.val false [.fn 67 []])),(.T 7,.t (.val false [.int .i64 y1])),(.T 8,.t (.val false [.int .i64 y2]))] => some (okO (g_Lslices_IndexFunc_i_StoWrite_i_StoWrite__i_StoDo_1_0 y0 y1 y2),(.br (isL (valO (g_Lslices_IndexFunc_i_StoWrite_i_StoWrite__i_StoDo_1_0 y0 y1 y2))) (.leaf .ret [(.T 4,.t (.val false [.int .i64 (getL (valO (g_Lslices_IndexFunc_i_StoWrite_i_StoWrite__i_StoDo_1_0 y0 y1 y2)))]))]) (.leaf (.exit 0) [(.T 4,.t (.val false [.undef]))])))
 | b,h => Oslices_IndexFunc_i_StoWrite_i_StoWrite__i_StoDo_1_0 b h
theorem bslices_IndexFunc_i_StoWrite_i_StoWrite__i_StoDo_1_0 (y0:List (ByteArray×(Bool×(List Int)))) (y1:Int) (y2:Int):Tr.bt Eslices_IndexFunc_i_StoWrite_i_StoWrite__i_StoDo_1 Oslices_IndexFunc_i_StoWrite_i_StoWrite__i_StoDo_1_0 (exec Eslices_IndexFunc_i_StoWrite_i_StoWrite__i_StoDo_1 0 cslices_IndexFunc_i_StoWrite_i_StoWrite__i_StoDo_1_0 (St.of (hslices_IndexFunc_i_StoWrite_i_StoWrite__i_StoDo_1_0 y0 y1 y2)) (leafRd Eslices_IndexFunc_i_StoWrite_i_StoWrite__i_StoDo_1 0)) = (g_Sslices_IndexFunc_i_StoWrite_i_StoWrite__i_StoDo_1_0 y0 y1 y2).bt (fun (y2:Int) => (hslices_IndexFunc_i_StoWrite_i_StoWrite__i_StoDo_1_0 y0 y1 y2)) (xslices_IndexFunc_i_StoWrite_i_StoWrite__i_StoDo_1_0 y0 y1) := by kernel_rfl
theorem kslices_IndexFunc_i_StoWrite_i_StoWrite__i_StoDo_1_1:OrcOk Eslices_IndexFunc_i_StoWrite_i_StoWrite__i_StoDo_1 Oslices_IndexFunc_i_StoWrite_i_StoWrite__i_StoDo_1_1 lsslices_IndexFunc_i_StoWrite_i_StoWrite__i_StoDo_1 1 := orc_add kslices_IndexFunc_i_StoWrite_i_StoWrite__i_StoDo_1_0 (fun n p hp h ex h' ho => by
 obtain ⟨b,c⟩ := p
 obtain ⟨xt,h1,h2⟩ := ho
 have h1:Oslices_IndexFunc_i_StoWrite_i_StoWrite__i_StoDo_1_1 b h = some (true,xt) := h1
 unfold Oslices_IndexFunc_i_StoWrite_i_StoWrite__i_StoDo_1_1 at h1
 split at h1
 ·injection h1 with h1
  injection h1 with e1 e2
  subst e2
  have hc:c = cslices_IndexFunc_i_StoWrite_i_StoWrite__i_StoDo_1_0 := mslices_IndexFunc_i_StoWrite_i_StoWrite__i_StoDo_1_0 _ hp rfl
  subst hc
  right
  rename_i y0 y1 y2
  have key := LT_step kslices_IndexFunc_i_StoWrite_i_StoWrite__i_StoDo_1_0 hp (fun q hq => loopsAll_in _ _ _ _ hp hq) (fun (y2:Int) => (hslices_IndexFunc_i_StoWrite_i_StoWrite__i_StoDo_1_0 y0 y1 y2)) (xslices_IndexFunc_i_StoWrite_i_StoWrite__i_StoDo_1_0 y0 y1) (g_Sslices_IndexFunc_i_StoWrite_i_StoWrite__i_StoDo_1_0 y0 y1) (fun x => by first | exact bslices_IndexFunc_i_StoWrite_i_StoWrite__i_StoDo_1_0 y0 y1 x) n (x := y2) (okO_some e1)
  have hx:∀ r,XT.sel (.br (isL r) (.leaf .ret [(.T 4,.t (.val false [.int .i64 (getL r)]))]) (.leaf (.exit 0) [(.T 4,.t (.val false [.undef]))])) = xslices_IndexFunc_i_StoWrite_i_StoWrite__i_StoDo_1_0 y0 y1 r := fun r => by first | rfl | (rcases r with r | r <;> rfl) | (rcases r with r | r | r <;> rfl) | (rcases r with r | r | r | r <;> rfl)
  have h3 := (hx (valO (g_Lslices_IndexFunc_i_StoWrite_i_StoWrite__i_StoDo_1_0 y0 y1 y2))).symm.trans h2
  have e3 := congrArg Prod.fst h3
  have e4 := congrArg Prod.snd h3
  simp only at e3 e4
  rw [← e3,← e4]
  exact key
 ·exact .inl ⟨xt,h1,h2⟩)
noncomputable def g_Aslices_IndexFunc_i_StoWrite_i_StoWrite__i_StoDo_1 (a0:List (ByteArray×(Bool×(List Int)))):Bool := okO (g_Lslices_IndexFunc_i_StoWrite_i_StoWrite__i_StoDo_1_0 a0 (↑(List.length a0):Int) (0:Int))
noncomputable def g_Vslices_IndexFunc_i_StoWrite_i_StoWrite__i_StoDo_1_0 (a0:List (ByteArray×(Bool×(List Int)))):Int := bif isL (valO (g_Lslices_IndexFunc_i_StoWrite_i_StoWrite__i_StoDo_1_0 a0 (↑(List.length a0):Int) (0:Int))) then getL (valO (g_Lslices_IndexFunc_i_StoWrite_i_StoWrite__i_StoDo_1_0 a0 (↑(List.length a0):Int) (0:Int))) else (-1:Int)
noncomputable def Fslices_IndexFunc_i_StoWrite_i_StoWrite__i_StoDo_1:FSem := fun ys => match ys with
 | [.val false [.sl .any 76 (.pair .str (.pair .bool (.sl 3 (.int .i64)))) a0],.val false [.fn 67 []]] => some ((g_Aslices_IndexFunc_i_StoWrite_i_StoWrite__i_StoDo_1 a0),.val false [.int .i64 (g_Vslices_IndexFunc_i_StoWrite_i_StoWrite__i_StoDo_1_0 a0)],[])
 | _ => none
theorem vslices_IndexFunc_i_StoWrite_i_StoWrite__i_StoDo_1 (a0:List (ByteArray×(Bool×(List Int)))):collapseH .std Eslices_IndexFunc_i_StoWrite_i_StoWrite__i_StoDo_1 Oslices_IndexFunc_i_StoWrite_i_StoWrite__i_StoDo_1_1 (execFn Eslices_IndexFunc_i_StoWrite_i_StoWrite__i_StoDo_1 Tryd.f98 msslices_IndexFunc_i_StoWrite_i_StoWrite__i_StoDo_1 [.val false [.sl .any 76 (.pair .str (.pair .bool (.sl 3 (.int .i64)))) a0],.val false [.fn 67 []]]) = some ((g_Aslices_IndexFunc_i_StoWrite_i_StoWrite__i_StoDo_1 a0),.val false [.int .i64 (g_Vslices_IndexFunc_i_StoWrite_i_StoWrite__i_StoDo_1_0 a0)],[]) := by kernel_rfl
theorem sslices_IndexFunc_i_StoWrite_i_StoWrite__i_StoDo_1:Sound Tryd.prog 98 msslices_IndexFunc_i_StoWrite_i_StoWrite__i_StoDo_1 Fslices_IndexFunc_i_StoWrite_i_StoWrite__i_StoDo_1 := by
 refine fn_gen goodslices_IndexFunc_i_StoWrite_i_StoWrite__i_StoDo_1 (by kernel_rfl) .std (fn := Tryd.f98) (c := (Tryd.f98.body.getD .skip)) (o := Oslices_IndexFunc_i_StoWrite_i_StoWrite__i_StoDo_1_1) (k := 1) (by kernel_rfl) (by kernel_rfl) (by kernel_rfl) (by kernel_rfl) (by decide) kslices_IndexFunc_i_StoWrite_i_StoWrite__i_StoDo_1_1 ?_
 intro ys r outs h
 unfold Fslices_IndexFunc_i_StoWrite_i_StoWrite__i_StoDo_1 at h
 split at h
 ·exact (vslices_IndexFunc_i_StoWrite_i_StoWrite__i_StoDo_1 _).trans h
 ·cases h
noncomputable def Eslices_ContainsFunc_i_StoWrite_i_StoWrite__i_StoDo_1:Env where
 tt := mkTI Tryd.prog
 fn := fun f => match f with
  | 67 => some (msi_StoDo_1,FSem.wk msi_StoDo_1 Fi_StoDo_1)
  | 98 => some (msslices_IndexFunc_i_StoWrite_i_StoWrite__i_StoDo_1,FSem.wk msslices_IndexFunc_i_StoWrite_i_StoWrite__i_StoDo_1 Fslices_IndexFunc_i_StoWrite_i_StoWrite__i_StoDo_1)
  | _ => none
 bxf := fun _ => none
 mv := []
 keep := fun _ => []
 keepB := fun _ => []
 keepX := fun _ => []
 keepXB := fun _ => []
theorem goodFslices_ContainsFunc_i_StoWrite_i_StoWrite__i_StoDo_1:∀ f ms F,Eslices_ContainsFunc_i_StoWrite_i_StoWrite__i_StoDo_1.fn f = some (ms,F) → Sound Tryd.prog f ms F := fun f ms F h => by
 unfold Eslices_ContainsFunc_i_StoWrite_i_StoWrite__i_StoDo_1 at h
 dsimp only at h
 split at h
 ·injection h with h; injection h with e1 e2; subst e1 e2; exact Sound.wk si_StoDo_1
 ·injection h with h; injection h with e1 e2; subst e1 e2; exact Sound.wk sslices_IndexFunc_i_StoWrite_i_StoWrite__i_StoDo_1
 ·cases h
theorem goodBslices_ContainsFunc_i_StoWrite_i_StoWrite__i_StoDo_1:∀ f ms F,Eslices_ContainsFunc_i_StoWrite_i_StoWrite__i_StoDo_1.bxf f = some (ms,F) → SoundB Tryd.prog f ms F := fun f ms F h => by cases h
theorem goodslices_ContainsFunc_i_StoWrite_i_StoWrite__i_StoDo_1:Good Tryd.prog Eslices_ContainsFunc_i_StoWrite_i_StoWrite__i_StoDo_1 := ⟨rfl,goodFslices_ContainsFunc_i_StoWrite_i_StoWrite__i_StoDo_1,goodBslices_ContainsFunc_i_StoWrite_i_StoWrite__i_StoDo_1⟩
noncomputable def Oslices_ContainsFunc_i_StoWrite_i_StoWrite__i_StoDo_1_0:Orc := fun _ _ => none
noncomputable def msslices_ContainsFunc_i_StoWrite_i_StoWrite__i_StoDo_1:List PM := [.rd,.rd]
noncomputable def lsslices_ContainsFunc_i_StoWrite_i_StoWrite__i_StoDo_1:List (Nat×Code) := loopsAll 0 (Tryd.f66.body.getD .skip)
theorem kslices_ContainsFunc_i_StoWrite_i_StoWrite__i_StoDo_1_0:OrcOk Eslices_ContainsFunc_i_StoWrite_i_StoWrite__i_StoDo_1 Oslices_ContainsFunc_i_StoWrite_i_StoWrite__i_StoDo_1_0 lsslices_ContainsFunc_i_StoWrite_i_StoWrite__i_StoDo_1 0 := orcOk_none
noncomputable def g_Aslices_ContainsFunc_i_StoWrite_i_StoWrite__i_StoDo_1 (a0:List (ByteArray×(Bool×(List Int)))):Bool := g_Aslices_IndexFunc_i_StoWrite_i_StoWrite__i_StoDo_1 a0&&true
noncomputable def g_Vslices_ContainsFunc_i_StoWrite_i_StoWrite__i_StoDo_1_0 (a0:List (ByteArray×(Bool×(List Int)))):Bool := decide (g_Vslices_IndexFunc_i_StoWrite_i_StoWrite__i_StoDo_1_0 a0 ≥ (0:Int))
noncomputable def Fslices_ContainsFunc_i_StoWrite_i_StoWrite__i_StoDo_1:FSem := fun ys => match ys with
 | [.val false [.sl .any 76 (.pair .str (.pair .bool (.sl 3 (.int .i64)))) a0],.val false [.fn 67 []]] => some ((g_Aslices_ContainsFunc_i_StoWrite_i_StoWrite__i_StoDo_1 a0),.val false [.bool (g_Vslices_ContainsFunc_i_StoWrite_i_StoWrite__i_StoDo_1_0 a0)],[])
 | _ => none
theorem vslices_ContainsFunc_i_StoWrite_i_StoWrite__i_StoDo_1 (a0:List (ByteArray×(Bool×(List Int)))):collapseH .std Eslices_ContainsFunc_i_StoWrite_i_StoWrite__i_StoDo_1 Oslices_ContainsFunc_i_StoWrite_i_StoWrite__i_StoDo_1_0 (execFn Eslices_ContainsFunc_i_StoWrite_i_StoWrite__i_StoDo_1 Tryd.f66 msslices_ContainsFunc_i_StoWrite_i_StoWrite__i_StoDo_1 [.val false [.sl .any 76 (.pair .str (.pair .bool (.sl 3 (.int .i64)))) a0],.val false [.fn 67 []]]) = some ((g_Aslices_ContainsFunc_i_StoWrite_i_StoWrite__i_StoDo_1 a0),.val false [.bool (g_Vslices_ContainsFunc_i_StoWrite_i_StoWrite__i_StoDo_1_0 a0)],[]) := by kernel_rfl
theorem sslices_ContainsFunc_i_StoWrite_i_StoWrite__i_StoDo_1:Sound Tryd.prog 66 msslices_ContainsFunc_i_StoWrite_i_StoWrite__i_StoDo_1 Fslices_ContainsFunc_i_StoWrite_i_StoWrite__i_StoDo_1 := by
 refine fn_gen goodslices_ContainsFunc_i_StoWrite_i_StoWrite__i_StoDo_1 (by kernel_rfl) .std (fn := Tryd.f66) (c := (Tryd.f66.body.getD .skip)) (o := Oslices_ContainsFunc_i_StoWrite_i_StoWrite__i_StoDo_1_0) (k := 0) (by kernel_rfl) (by kernel_rfl) (by kernel_rfl) (by kernel_rfl) (by decide) kslices_ContainsFunc_i_StoWrite_i_StoWrite__i_StoDo_1_0 ?_
 intro ys r outs h
 unfold Fslices_ContainsFunc_i_StoWrite_i_StoWrite__i_StoDo_1 at h
 split at h
 ·exact (vslices_ContainsFunc_i_StoWrite_i_StoWrite__i_StoDo_1 _).trans h
 ·cases h
end Go.Proofs.YtliagpcoflhphaaDoor.E
