/- What the functions that are reached do, by the engine: for the proof (laws.FnExactDiskFall): part 1. No conditions. -/
import Derived.Test.YtcceeikolcdodaaDoorEc
import Derived.Test.YtcceeikolcdodaaDoorProg
import Derived.Test.YtcceeikolcdodaaDoorShelf
set_option linter.all false
namespace Go.Proofs.YtcceeikolcdodaaDoor.E
open Go
set_option maxRecDepth 100000
set_option maxHeartbeats 0
noncomputable def Ei_in:Env where
 tt := mkTI Tryd.prog
 fn := fun _ => none
 bxf := fun _ => none
 mv := []
 keep := fun _ => []
 keepB := fun _ => []
 keepX := fun _ => []
 keepXB := fun _ => []
theorem goodFi_in:∀ f ms F,Ei_in.fn f = some (ms,F) → Sound Tryd.prog f ms F := fun f ms F h => by cases h
theorem goodBi_in:∀ f ms F,Ei_in.bxf f = some (ms,F) → SoundB Tryd.prog f ms F := fun f ms F h => by cases h
theorem goodi_in:Good Tryd.prog Ei_in := ⟨rfl,goodFi_in,goodBi_in⟩
noncomputable def Oi_in_0:Orc := fun _ _ => none
noncomputable def msi_in:List PM := [.own,.own,.own]
noncomputable def lsi_in:List (Nat×Code) := loopsAll 0 (Tryd.f29.body.getD .skip)
theorem ki_in_0:OrcOk Ei_in Oi_in_0 lsi_in 0 := orcOk_none
noncomputable def g_Ai_in (a0:Int) (a1:Int) (a2:Int):Bool := !decide (a0 ≥ a1) || true
noncomputable def g_Vi_in_0 (a0:Int) (a1:Int) (a2:Int):Bool := bif decide (a0 ≥ a1) then decide (a0 ≤ a2) else false
noncomputable def Fi_in:FSem := fun ys => match ys with
 | [.val false [.int .i64 a0],.val false [.int .i64 a1],.val false [.int .i64 a2]] => some ((g_Ai_in a0 a1 a2),.val false [.bool (g_Vi_in_0 a0 a1 a2)],[])
 | _ => none
theorem vi_in (a0:Int) (a1:Int) (a2:Int):collapseH .std Ei_in Oi_in_0 (execFn Ei_in Tryd.f29 msi_in [.val false [.int .i64 a0],.val false [.int .i64 a1],.val false [.int .i64 a2]]) = some ((g_Ai_in a0 a1 a2),.val false [.bool (g_Vi_in_0 a0 a1 a2)],[]) := by kernel_rfl
theorem si_in:Sound Tryd.prog 29 msi_in Fi_in := by
 refine fn_gen goodi_in (by kernel_rfl) .std (fn := Tryd.f29) (c := (Tryd.f29.body.getD .skip)) (o := Oi_in_0) (k := 0) (by kernel_rfl) (by kernel_rfl) (by kernel_rfl) (by kernel_rfl) (by decide) ki_in_0 ?_
 intro ys r outs h
 unfold Fi_in at h
 split at h
 ·exact (vi_in _ _ _).trans h
 ·cases h
noncomputable def Ei_isTx:Env where
 tt := mkTI Tryd.prog
 fn := fun f => match f with
  | 29 => some (msi_in,FSem.wk msi_in Fi_in)
  | _ => none
 bxf := fun _ => none
 mv := []
 keep := fun _ => []
 keepB := fun _ => []
 keepX := fun _ => []
 keepXB := fun _ => []
theorem goodFi_isTx:∀ f ms F,Ei_isTx.fn f = some (ms,F) → Sound Tryd.prog f ms F := fun f ms F h => by
 unfold Ei_isTx at h
 dsimp only at h
 split at h
 ·injection h with h; injection h with e1 e2; subst e1 e2; exact Sound.wk si_in
 ·cases h
theorem goodBi_isTx:∀ f ms F,Ei_isTx.bxf f = some (ms,F) → SoundB Tryd.prog f ms F := fun f ms F h => by cases h
theorem goodi_isTx:Good Tryd.prog Ei_isTx := ⟨rfl,goodFi_isTx,goodBi_isTx⟩
noncomputable def Oi_isTx_0:Orc := fun _ _ => none
noncomputable def msi_isTx:List PM := [.own]
noncomputable def lsi_isTx:List (Nat×Code) := loopsAll 0 (Tryd.f43.body.getD .skip)
theorem ki_isTx_0:OrcOk Ei_isTx Oi_isTx_0 lsi_isTx 0 := orcOk_none
noncomputable def g_Ai_isTx (a0:Int):Bool := g_Ai_in a0 (0:Int) (29:Int)
noncomputable def g_Vi_isTx_0 (a0:Int):Bool := g_Vi_in_0 a0 (0:Int) (29:Int)
noncomputable def Fi_isTx:FSem := fun ys => match ys with
 | [.val false [.int .i64 a0]] => some ((g_Ai_isTx a0),.val false [.bool (g_Vi_isTx_0 a0)],[])
 | _ => none
theorem vi_isTx (a0:Int):collapseH .std Ei_isTx Oi_isTx_0 (execFn Ei_isTx Tryd.f43 msi_isTx [.val false [.int .i64 a0]]) = some ((g_Ai_isTx a0),.val false [.bool (g_Vi_isTx_0 a0)],[]) := by kernel_rfl
theorem si_isTx:Sound Tryd.prog 43 msi_isTx Fi_isTx := by
 refine fn_gen goodi_isTx (by kernel_rfl) .std (fn := Tryd.f43) (c := (Tryd.f43.body.getD .skip)) (o := Oi_isTx_0) (k := 0) (by kernel_rfl) (by kernel_rfl) (by kernel_rfl) (by kernel_rfl) (by decide) ki_isTx_0 ?_
 intro ys r outs h
 unfold Fi_isTx at h
 split at h
 ·exact (vi_isTx _).trans h
 ·cases h
def msstrings_Trim:List PM := [.own,.own]
def g_trim (s c:ByteArray):ByteArray := ⟨(Lib.trimS s.data.toList c.data.toList).toArray⟩
def g_ascii (c:ByteArray):Bool := c.data.toList.all fun b => decide (b.toNat < 128)
def Fstrings_Trim:FSem := fun ys => match ys with
 | [.val false [.str s],.val false [.str c]] => some (decide (s.size ≤ 9223372036854775807)&&(decide (c.size < 4294967281)&&g_ascii c),.val false [.str (g_trim s c)],[])
 | _ => none
theorem sstrings_Trim:Sound Tryd.prog 63 msstrings_Trim Fstrings_Trim := by
 refine sound_plain (by simp [msstrings_Trim]) ⟨_,Tryd.func63,by kernel_rfl,by kernel_rfl⟩ (fun w ys r outs h => ?_)
 unfold Fstrings_Trim at h
 split at h
 ·rename_i s c
  simp only [Option.some.injEq,Prod.mk.injEq,Bool.and_eq_true,decide_eq_true_eq] at h
  obtain ⟨⟨h1,h2,h3⟩,rfl,rfl⟩ := h
  refine ⟨rfl,[.string s,.string c],.string (g_trim s c),rfl,rfl,?_⟩
  exact Tryd.strings_Trim_laid s c w h1 h2 (fun j b hb => by
   have := List.all_eq_true.1 h3 b (List.mem_of_getElem? hb)
   simpa using this)
 ·cases h
noncomputable def Ei_keyOk:Env where
 tt := mkTI Tryd.prog
 fn := fun f => match f with
  | 29 => some (msi_in,FSem.wk msi_in Fi_in)
  | 63 => some (msstrings_Trim,FSem.wk msstrings_Trim Fstrings_Trim)
  | _ => none
 bxf := fun _ => none
 mv := []
 keep := fun _ => []
 keepB := fun _ => []
 keepX := fun _ => []
 keepXB := fun _ => []
theorem goodFi_keyOk:∀ f ms F,Ei_keyOk.fn f = some (ms,F) → Sound Tryd.prog f ms F := fun f ms F h => by
 unfold Ei_keyOk at h
 dsimp only at h
 split at h
 ·injection h with h; injection h with e1 e2; subst e1 e2; exact Sound.wk si_in
 ·injection h with h; injection h with e1 e2; subst e1 e2; exact Sound.wk sstrings_Trim
 ·cases h
theorem goodBi_keyOk:∀ f ms F,Ei_keyOk.bxf f = some (ms,F) → SoundB Tryd.prog f ms F := fun f ms F h => by cases h
theorem goodi_keyOk:Good Tryd.prog Ei_keyOk := ⟨rfl,goodFi_keyOk,goodBi_keyOk⟩
noncomputable def Oi_keyOk_0:Orc := fun _ _ => none
noncomputable def msi_keyOk:List PM := [.own]
noncomputable def lsi_keyOk:List (Nat×Code) := loopsAll 0 (Tryd.f46.body.getD .skip)
theorem ki_keyOk_0:OrcOk Ei_keyOk Oi_keyOk_0 lsi_keyOk 0 := orcOk_none
noncomputable def g_Ai_keyOk (a0:ByteArray):Bool := g_Ai_in (↑(ByteArray.size a0):Int) (2:Int) (3:Int)&&(!g_Vi_in_0 (↑(ByteArray.size a0):Int) (2:Int) (3:Int) || decide ((0:Int) ≤ (0:Int) ∧ (0:Int) < (↑(ByteArray.size a0):Int))&&(g_Ai_in (IntKind.wrap IntKind.i64 (byteAt a0 (nat_lit 0))) (97:Int) (122:Int)&&(!g_Vi_in_0 (IntKind.wrap IntKind.i64 (byteAt a0 (nat_lit 0))) (97:Int) (122:Int) || decide ((0:Int) ≤ (1:Int) ∧ (1:Int) ≤ (↑(ByteArray.size a0):Int))&&(decide (ByteArray.size (ByteArray.extract a0 (nat_lit 1) (ByteArray.size a0)) ≤ nat_lit 9223372036854775807)&&g_ascii (lit [(48:Nat),(49:Nat),(50:Nat),(51:Nat),(52:Nat),(53:Nat),(54:Nat),(55:Nat),(56:Nat),(57:Nat)])&&true))))
noncomputable def g_Vi_keyOk_0 (a0:ByteArray):Bool := bif g_Vi_in_0 (↑(ByteArray.size a0):Int) (2:Int) (3:Int) then bif g_Vi_in_0 (IntKind.wrap IntKind.i64 (byteAt a0 (nat_lit 0))) (97:Int) (122:Int) then ByteArray.toList (g_trim (ByteArray.extract a0 (nat_lit 1) (ByteArray.size a0)) (lit [(48:Nat),(49:Nat),(50:Nat),(51:Nat),(52:Nat),(53:Nat),(54:Nat),(55:Nat),(56:Nat),(57:Nat)])) == [] else false else false
noncomputable def Fi_keyOk:FSem := fun ys => match ys with
 | [.val false [.str a0]] => some ((g_Ai_keyOk a0),.val false [.bool (g_Vi_keyOk_0 a0)],[])
 | _ => none
theorem vi_keyOk (a0:ByteArray):collapseH .std Ei_keyOk Oi_keyOk_0 (execFn Ei_keyOk Tryd.f46 msi_keyOk [.val false [.str a0]]) = some ((g_Ai_keyOk a0),.val false [.bool (g_Vi_keyOk_0 a0)],[]) := by kernel_rfl
theorem si_keyOk:Sound Tryd.prog 46 msi_keyOk Fi_keyOk := by
 refine fn_gen goodi_keyOk (by kernel_rfl) .std (fn := Tryd.f46) (c := (Tryd.f46.body.getD .skip)) (o := Oi_keyOk_0) (k := 0) (by kernel_rfl) (by kernel_rfl) (by kernel_rfl) (by kernel_rfl) (by decide) ki_keyOk_0 ?_
 intro ys r outs h
 unfold Fi_keyOk at h
 split at h
 ·exact (vi_keyOk _).trans h
 ·cases h
noncomputable def Ei_valOk_1:Env where
 tt := mkTI Tryd.prog
 fn := fun f => match f with
  | 29 => some (msi_in,FSem.wk msi_in Fi_in)
  | _ => none
 bxf := fun _ => none
 mv := []
 keep := fun _ => []
 keepB := fun _ => []
 keepX := fun _ => []
 keepXB := fun _ => []
theorem goodFi_valOk_1:∀ f ms F,Ei_valOk_1.fn f = some (ms,F) → Sound Tryd.prog f ms F := fun f ms F h => by
 unfold Ei_valOk_1 at h
 dsimp only at h
 split at h
 ·injection h with h; injection h with e1 e2; subst e1 e2; exact Sound.wk si_in
 ·cases h
theorem goodBi_valOk_1:∀ f ms F,Ei_valOk_1.bxf f = some (ms,F) → SoundB Tryd.prog f ms F := fun f ms F h => by cases h
theorem goodi_valOk_1:Good Tryd.prog Ei_valOk_1 := ⟨rfl,goodFi_valOk_1,goodBi_valOk_1⟩
noncomputable def Oi_valOk_1_0:Orc := fun _ _ => none
noncomputable def msi_valOk_1:List PM := [.own]
noncomputable def lsi_valOk_1:List (Nat×Code) := loopsAll 0 (Tryd.f79.body.getD .skip)
theorem ki_valOk_1_0:OrcOk Ei_valOk_1 Oi_valOk_1_0 lsi_valOk_1 0 := orcOk_none
noncomputable def g_Ai_valOk_1 (a0:Int):Bool := g_Ai_in a0 (0:Int) (9999:Int)
noncomputable def g_Vi_valOk_1_0 (a0:Int):Bool := !g_Vi_in_0 a0 (0:Int) (9999:Int)
noncomputable def Fi_valOk_1:FSem := fun ys => match ys with
 | [.val false [.int .i64 a0]] => some ((g_Ai_valOk_1 a0),.val false [.bool (g_Vi_valOk_1_0 a0)],[])
 | _ => none
theorem vi_valOk_1 (a0:Int):collapseH .std Ei_valOk_1 Oi_valOk_1_0 (execFn Ei_valOk_1 Tryd.f79 msi_valOk_1 [.val false [.int .i64 a0]]) = some ((g_Ai_valOk_1 a0),.val false [.bool (g_Vi_valOk_1_0 a0)],[]) := by kernel_rfl
theorem si_valOk_1:Sound Tryd.prog 79 msi_valOk_1 Fi_valOk_1 := by
 refine fn_gen goodi_valOk_1 (by kernel_rfl) .std (fn := Tryd.f79) (c := (Tryd.f79.body.getD .skip)) (o := Oi_valOk_1_0) (k := 0) (by kernel_rfl) (by kernel_rfl) (by kernel_rfl) (by kernel_rfl) (by decide) ki_valOk_1_0 ?_
 intro ys r outs h
 unfold Fi_valOk_1 at h
 split at h
 ·exact (vi_valOk_1 _).trans h
 ·cases h
noncomputable def Eslices_IndexFunc_int_int__i_valOk_1:Env where
 tt := mkTI Tryd.prog
 fn := fun f => match f with
  | 79 => some (msi_valOk_1,FSem.wk msi_valOk_1 Fi_valOk_1)
  | _ => none
 bxf := fun _ => none
 mv := []
 keep := fun b => match b with
  | 0 => [(0,false),(1,false),(7,false),(8,false)]
  | _ => []
 keepB := fun b => match b with
  | 0 => []
  | _ => []
 keepX := fun b => match b with
  | 0 => [(4,false)]
  | _ => []
 keepXB := fun b => match b with
  | 0 => []
  | _ => []
theorem goodFslices_IndexFunc_int_int__i_valOk_1:∀ f ms F,Eslices_IndexFunc_int_int__i_valOk_1.fn f = some (ms,F) → Sound Tryd.prog f ms F := fun f ms F h => by
 unfold Eslices_IndexFunc_int_int__i_valOk_1 at h
 dsimp only at h
 split at h
 ·injection h with h; injection h with e1 e2; subst e1 e2; exact Sound.wk si_valOk_1
 ·cases h
theorem goodBslices_IndexFunc_int_int__i_valOk_1:∀ f ms F,Eslices_IndexFunc_int_int__i_valOk_1.bxf f = some (ms,F) → SoundB Tryd.prog f ms F := fun f ms F h => by cases h
theorem goodslices_IndexFunc_int_int__i_valOk_1:Good Tryd.prog Eslices_IndexFunc_int_int__i_valOk_1 := ⟨rfl,goodFslices_IndexFunc_int_int__i_valOk_1,goodBslices_IndexFunc_int_int__i_valOk_1⟩
noncomputable def Oslices_IndexFunc_int_int__i_valOk_1_0:Orc := fun _ _ => none
noncomputable def msslices_IndexFunc_int_int__i_valOk_1:List PM := [.rd,.rd]
noncomputable def lsslices_IndexFunc_int_int__i_valOk_1:List (Nat×Code) := loopsAll 0 (Tryd.f85.body.getD .skip)
noncomputable def cslices_IndexFunc_int_int__i_valOk_1_0:Code := (loopOf 0 (Tryd.f85.body.getD .skip)).getD .skip
theorem lseqslices_IndexFunc_int_int__i_valOk_1:lsslices_IndexFunc_int_int__i_valOk_1 = [(0,cslices_IndexFunc_int_int__i_valOk_1_0)] := by kernel_rfl
theorem mslices_IndexFunc_int_int__i_valOk_1_0:∀ p,p ∈ lsslices_IndexFunc_int_int__i_valOk_1 → p.1 = 0 → p.2 = cslices_IndexFunc_int_int__i_valOk_1_0 := by
 intro p hp
 rw [lseqslices_IndexFunc_int_int__i_valOk_1] at hp
 simp only [List.mem_cons,List.not_mem_nil,or_false] at hp
 subst hp; simp
theorem kslices_IndexFunc_int_int__i_valOk_1_0:OrcOk Eslices_IndexFunc_int_int__i_valOk_1 Oslices_IndexFunc_int_int__i_valOk_1_0 lsslices_IndexFunc_int_int__i_valOk_1 0 := orcOk_none
noncomputable def hslices_IndexFunc_int_int__i_valOk_1_0 (y0:List Int) (y1:Int) (y2:Int):List (Pl×LV) := [(.T 0,.t (.val false [.sl .any 3 (.int .i64) y0])),(.T 1,.t (.val false [.fn 79 []])),(.T 7,.t (.val false [.int .i64 y1])),(.T 8,.t (.val false [.int .i64 y2]))]
noncomputable def g_Sslices_IndexFunc_int_int__i_valOk_1_0 (y0:List Int) (y1:Int):(Int) → RT (Int) ((Int) ⊕ (Unit))
 | y2 => .br (true) (.br (decide (y2 < y1)) (.br (decide ((0:Int) ≤ y2 ∧ y2 < (↑(List.length y0):Int))) (.br (g_Ai_valOk_1 (at_ (Ty.int IntKind.i64) y0 (Int.toNat y2))) (.br (g_Vi_valOk_1_0 (at_ (Ty.int IntKind.i64) y0 (Int.toNat y2))) (.out (.inl y2)) (.br (true) (.go (IntKind.wrap IntKind.i64 (y2 + (1:Int)))) .bad)) .bad) .bad) (.out (.inr (())))) .bad
noncomputable def g_Lslices_IndexFunc_int_int__i_valOk_1_0 (y0:List Int) (y1:Int) (x:Int):Option ((Int) ⊕ (Unit)) := loopO (g_Sslices_IndexFunc_int_int__i_valOk_1_0 y0 y1) x
noncomputable def xslices_IndexFunc_int_int__i_valOk_1_0 (y0:List Int) (y1:Int):((Int) ⊕ (Unit)) → Ex×List (Pl×LV) := fun
 | .inl r => (.ret,[(.T 4,.t (.val false [.int .i64 r]))])
 | .inr (r) => (.exit 0,[(.T 4,.t (.val false [.undef]))])
noncomputable def Oslices_IndexFunc_int_int__i_valOk_1_1:Orc := fun b h => match b,h with
 | 0,[(.T 0,.t (.val false [.sl .any 3 (.int .i64) y0])),(.T 1,.t (.val false [.fn 79 []])),(.T 7,.t (.val false [.int .i64 y1])),(.T 8,.t (.val false [.int .i64 y2]))] => some (okO (g_Lslices_IndexFunc_int_int__i_valOk_1_0 y0 y1 y2),(.br (isL (valO (g_Lslices_IndexFunc_int_int__i_valOk_1_0 y0 y1 y2))) (.leaf .ret [(.T 4,.t (.val false [.int .i64 (getL (valO (g_Lslices_IndexFunc_int_int__i_valOk_1_0 y0 y1 y2)))]))]) (.leaf (.exit 0) [(.T 4,.t (.val false [.undef]))])))
 | b,h => Oslices_IndexFunc_int_int__i_valOk_1_0 b h
theorem bslices_IndexFunc_int_int__i_valOk_1_0 (y0:List Int) (y1:Int) (y2:Int):Tr.bt Eslices_IndexFunc_int_int__i_valOk_1 Oslices_IndexFunc_int_int__i_valOk_1_0 (exec Eslices_IndexFunc_int_int__i_valOk_1 0 cslices_IndexFunc_int_int__i_valOk_1_0 (St.of (hslices_IndexFunc_int_int__i_valOk_1_0 y0 y1 y2)) (leafRd Eslices_IndexFunc_int_int__i_valOk_1 0)) = (g_Sslices_IndexFunc_int_int__i_valOk_1_0 y0 y1 y2).bt (fun (y2:Int) => (hslices_IndexFunc_int_int__i_valOk_1_0 y0 y1 y2)) (xslices_IndexFunc_int_int__i_valOk_1_0 y0 y1) := by kernel_rfl
theorem kslices_IndexFunc_int_int__i_valOk_1_1:OrcOk Eslices_IndexFunc_int_int__i_valOk_1 Oslices_IndexFunc_int_int__i_valOk_1_1 lsslices_IndexFunc_int_int__i_valOk_1 1 := orc_add kslices_IndexFunc_int_int__i_valOk_1_0 (fun n p hp h ex h' ho => by
 obtain ⟨b,c⟩ := p
 obtain ⟨xt,h1,h2⟩ := ho
 have h1:Oslices_IndexFunc_int_int__i_valOk_1_1 b h = some (true,xt) := h1
 unfold Oslices_IndexFunc_int_int__i_valOk_1_1 at h1
 split at h1
 ·injection h1 with h1
  injection h1 with e1 e2
  subst e2
  have hc:c = cslices_IndexFunc_int_int__i_valOk_1_0 := mslices_IndexFunc_int_int__i_valOk_1_0 _ hp rfl
  subst hc
  right
  rename_i y0 y1 y2
  have key := LT_step kslices_IndexFunc_int_int__i_valOk_1_0 hp (fun q hq => loopsAll_in _ _ _ _ hp hq) (fun (y2:Int) => (hslices_IndexFunc_int_int__i_valOk_1_0 y0 y1 y2)) (xslices_IndexFunc_int_int__i_valOk_1_0 y0 y1) (g_Sslices_IndexFunc_int_int__i_valOk_1_0 y0 y1) (fun x => by first | exact bslices_IndexFunc_int_int__i_valOk_1_0 y0 y1 x) n (x := y2) (okO_some e1)
  have hx:∀ r,XT.sel (.br (isL r) (.leaf .ret [(.T 4,.t (.val false [.int .i64 (getL r)]))]) (.leaf (.exit 0) [(.T 4,.t (.val false [.undef]))])) = xslices_IndexFunc_int_int__i_valOk_1_0 y0 y1 r := fun r => by first | rfl | (rcases r with r | r <;> rfl) | (rcases r with r | r | r <;> rfl) | (rcases r with r | r | r | r <;> rfl)
  have h3 := (hx (valO (g_Lslices_IndexFunc_int_int__i_valOk_1_0 y0 y1 y2))).symm.trans h2
  have e3 := congrArg Prod.fst h3
  have e4 := congrArg Prod.snd h3
  simp only at e3 e4
  rw [← e3,← e4]
  exact key
 ·exact .inl ⟨xt,h1,h2⟩)
noncomputable def g_Aslices_IndexFunc_int_int__i_valOk_1 (a0:List Int):Bool := okO (g_Lslices_IndexFunc_int_int__i_valOk_1_0 a0 (↑(List.length a0):Int) (0:Int))
noncomputable def g_Vslices_IndexFunc_int_int__i_valOk_1_0 (a0:List Int):Int := bif isL (valO (g_Lslices_IndexFunc_int_int__i_valOk_1_0 a0 (↑(List.length a0):Int) (0:Int))) then getL (valO (g_Lslices_IndexFunc_int_int__i_valOk_1_0 a0 (↑(List.length a0):Int) (0:Int))) else (-1:Int)
noncomputable def Fslices_IndexFunc_int_int__i_valOk_1:FSem := fun ys => match ys with
 | [.val false [.sl .any 3 (.int .i64) a0],.val false [.fn 79 []]] => some ((g_Aslices_IndexFunc_int_int__i_valOk_1 a0),.val false [.int .i64 (g_Vslices_IndexFunc_int_int__i_valOk_1_0 a0)],[])
 | _ => none
theorem vslices_IndexFunc_int_int__i_valOk_1 (a0:List Int):collapseH .std Eslices_IndexFunc_int_int__i_valOk_1 Oslices_IndexFunc_int_int__i_valOk_1_1 (execFn Eslices_IndexFunc_int_int__i_valOk_1 Tryd.f85 msslices_IndexFunc_int_int__i_valOk_1 [.val false [.sl .any 3 (.int .i64) a0],.val false [.fn 79 []]]) = some ((g_Aslices_IndexFunc_int_int__i_valOk_1 a0),.val false [.int .i64 (g_Vslices_IndexFunc_int_int__i_valOk_1_0 a0)],[]) := by kernel_rfl
theorem sslices_IndexFunc_int_int__i_valOk_1:Sound Tryd.prog 85 msslices_IndexFunc_int_int__i_valOk_1 Fslices_IndexFunc_int_int__i_valOk_1 := by
 refine fn_gen goodslices_IndexFunc_int_int__i_valOk_1 (by kernel_rfl) .std (fn := Tryd.f85) (c := (Tryd.f85.body.getD .skip)) (o := Oslices_IndexFunc_int_int__i_valOk_1_1) (k := 1) (by kernel_rfl) (by kernel_rfl) (by kernel_rfl) (by kernel_rfl) (by decide) kslices_IndexFunc_int_int__i_valOk_1_1 ?_
 intro ys r outs h
 unfold Fslices_IndexFunc_int_int__i_valOk_1 at h
 split at h
 ·exact (vslices_IndexFunc_int_int__i_valOk_1 _).trans h
 ·cases h
noncomputable def Eslices_ContainsFunc_int_int__i_valOk_1:Env where
 tt := mkTI Tryd.prog
 fn := fun f => match f with
  | 79 => some (msi_valOk_1,FSem.wk msi_valOk_1 Fi_valOk_1)
  | 85 => some (msslices_IndexFunc_int_int__i_valOk_1,FSem.wk msslices_IndexFunc_int_int__i_valOk_1 Fslices_IndexFunc_int_int__i_valOk_1)
  | _ => none
 bxf := fun _ => none
 mv := []
 keep := fun _ => []
 keepB := fun _ => []
 keepX := fun _ => []
 keepXB := fun _ => []
theorem goodFslices_ContainsFunc_int_int__i_valOk_1:∀ f ms F,Eslices_ContainsFunc_int_int__i_valOk_1.fn f = some (ms,F) → Sound Tryd.prog f ms F := fun f ms F h => by
 unfold Eslices_ContainsFunc_int_int__i_valOk_1 at h
 dsimp only at h
 split at h
 ·injection h with h; injection h with e1 e2; subst e1 e2; exact Sound.wk si_valOk_1
 ·injection h with h; injection h with e1 e2; subst e1 e2; exact Sound.wk sslices_IndexFunc_int_int__i_valOk_1
 ·cases h
theorem goodBslices_ContainsFunc_int_int__i_valOk_1:∀ f ms F,Eslices_ContainsFunc_int_int__i_valOk_1.bxf f = some (ms,F) → SoundB Tryd.prog f ms F := fun f ms F h => by cases h
theorem goodslices_ContainsFunc_int_int__i_valOk_1:Good Tryd.prog Eslices_ContainsFunc_int_int__i_valOk_1 := ⟨rfl,goodFslices_ContainsFunc_int_int__i_valOk_1,goodBslices_ContainsFunc_int_int__i_valOk_1⟩
noncomputable def Oslices_ContainsFunc_int_int__i_valOk_1_0:Orc := fun _ _ => none
noncomputable def msslices_ContainsFunc_int_int__i_valOk_1:List PM := [.rd,.rd]
noncomputable def lsslices_ContainsFunc_int_int__i_valOk_1:List (Nat×Code) := loopsAll 0 (Tryd.f78.body.getD .skip)
theorem kslices_ContainsFunc_int_int__i_valOk_1_0:OrcOk Eslices_ContainsFunc_int_int__i_valOk_1 Oslices_ContainsFunc_int_int__i_valOk_1_0 lsslices_ContainsFunc_int_int__i_valOk_1 0 := orcOk_none
noncomputable def g_Aslices_ContainsFunc_int_int__i_valOk_1 (a0:List Int):Bool := g_Aslices_IndexFunc_int_int__i_valOk_1 a0&&true
noncomputable def g_Vslices_ContainsFunc_int_int__i_valOk_1_0 (a0:List Int):Bool := decide (g_Vslices_IndexFunc_int_int__i_valOk_1_0 a0 ≥ (0:Int))
noncomputable def Fslices_ContainsFunc_int_int__i_valOk_1:FSem := fun ys => match ys with
 | [.val false [.sl .any 3 (.int .i64) a0],.val false [.fn 79 []]] => some ((g_Aslices_ContainsFunc_int_int__i_valOk_1 a0),.val false [.bool (g_Vslices_ContainsFunc_int_int__i_valOk_1_0 a0)],[])
 | _ => none
theorem vslices_ContainsFunc_int_int__i_valOk_1 (a0:List Int):collapseH .std Eslices_ContainsFunc_int_int__i_valOk_1 Oslices_ContainsFunc_int_int__i_valOk_1_0 (execFn Eslices_ContainsFunc_int_int__i_valOk_1 Tryd.f78 msslices_ContainsFunc_int_int__i_valOk_1 [.val false [.sl .any 3 (.int .i64) a0],.val false [.fn 79 []]]) = some ((g_Aslices_ContainsFunc_int_int__i_valOk_1 a0),.val false [.bool (g_Vslices_ContainsFunc_int_int__i_valOk_1_0 a0)],[]) := by kernel_rfl
theorem sslices_ContainsFunc_int_int__i_valOk_1:Sound Tryd.prog 78 msslices_ContainsFunc_int_int__i_valOk_1 Fslices_ContainsFunc_int_int__i_valOk_1 := by
 refine fn_gen goodslices_ContainsFunc_int_int__i_valOk_1 (by kernel_rfl) .std (fn := Tryd.f78) (c := (Tryd.f78.body.getD .skip)) (o := Oslices_ContainsFunc_int_int__i_valOk_1_0) (k := 0) (by kernel_rfl) (by kernel_rfl) (by kernel_rfl) (by kernel_rfl) (by decide) kslices_ContainsFunc_int_int__i_valOk_1_0 ?_
 intro ys r outs h
 unfold Fslices_ContainsFunc_int_int__i_valOk_1 at h
 split at h
 ·exact (vslices_ContainsFunc_int_int__i_valOk_1 _).trans h
 ·cases h
noncomputable def Ei_valOk:Env where
 tt := mkTI Tryd.prog
 fn := fun f => match f with
  | 29 => some (msi_in,FSem.wk msi_in Fi_in)
  | 78 => some (msslices_ContainsFunc_int_int__i_valOk_1,FSem.wk msslices_ContainsFunc_int_int__i_valOk_1 Fslices_ContainsFunc_int_int__i_valOk_1)
  | _ => none
 bxf := fun _ => none
 mv := []
 keep := fun _ => []
 keepB := fun _ => []
 keepX := fun _ => []
 keepXB := fun _ => []
theorem goodFi_valOk:∀ f ms F,Ei_valOk.fn f = some (ms,F) → Sound Tryd.prog f ms F := fun f ms F h => by
 unfold Ei_valOk at h
 dsimp only at h
 split at h
 ·injection h with h; injection h with e1 e2; subst e1 e2; exact Sound.wk si_in
 ·injection h with h; injection h with e1 e2; subst e1 e2; exact Sound.wk sslices_ContainsFunc_int_int__i_valOk_1
 ·cases h
theorem goodBi_valOk:∀ f ms F,Ei_valOk.bxf f = some (ms,F) → SoundB Tryd.prog f ms F := fun f ms F h => by cases h
theorem goodi_valOk:Good Tryd.prog Ei_valOk := ⟨rfl,goodFi_valOk,goodBi_valOk⟩
noncomputable def Oi_valOk_0:Orc := fun _ _ => none
noncomputable def msi_valOk:List PM := [.rd]
noncomputable def lsi_valOk:List (Nat×Code) := loopsAll 0 (Tryd.f65.body.getD .skip)
theorem ki_valOk_0:OrcOk Ei_valOk Oi_valOk_0 lsi_valOk 0 := orcOk_none
noncomputable def g_Ai_valOk (a0:List Int):Bool := g_Ai_in (↑(List.length a0):Int) (1:Int) (3:Int)&&(!g_Vi_in_0 (↑(List.length a0):Int) (1:Int) (3:Int) || g_Aslices_ContainsFunc_int_int__i_valOk_1 a0)
noncomputable def g_Vi_valOk_0 (a0:List Int):Bool := bif g_Vi_in_0 (↑(List.length a0):Int) (1:Int) (3:Int) then !g_Vslices_ContainsFunc_int_int__i_valOk_1_0 a0 else false
noncomputable def Fi_valOk:FSem := fun ys => match ys with
 | [.val false [.sl .any 3 (.int .i64) a0]] => some ((g_Ai_valOk a0),.val false [.bool (g_Vi_valOk_0 a0)],[])
 | _ => none
theorem vi_valOk (a0:List Int):collapseH .std Ei_valOk Oi_valOk_0 (execFn Ei_valOk Tryd.f65 msi_valOk [.val false [.sl .any 3 (.int .i64) a0]]) = some ((g_Ai_valOk a0),.val false [.bool (g_Vi_valOk_0 a0)],[]) := by kernel_rfl
theorem si_valOk:Sound Tryd.prog 65 msi_valOk Fi_valOk := by
 refine fn_gen goodi_valOk (by kernel_rfl) .std (fn := Tryd.f65) (c := (Tryd.f65.body.getD .skip)) (o := Oi_valOk_0) (k := 0) (by kernel_rfl) (by kernel_rfl) (by kernel_rfl) (by kernel_rfl) (by decide) ki_valOk_0 ?_
 intro ys r outs h
 unfold Fi_valOk at h
 split at h
 ·exact (vi_valOk _).trans h
 ·cases h
noncomputable def Ei_WrtOk:Env where
 tt := mkTI Tryd.prog
 fn := fun f => match f with
  | 46 => some (msi_keyOk,FSem.wk msi_keyOk Fi_keyOk)
  | 65 => some (msi_valOk,FSem.wk msi_valOk Fi_valOk)
  | _ => none
 bxf := fun _ => none
 mv := []
 keep := fun _ => []
 keepB := fun _ => []
 keepX := fun _ => []
 keepXB := fun _ => []
theorem goodFi_WrtOk:∀ f ms F,Ei_WrtOk.fn f = some (ms,F) → Sound Tryd.prog f ms F := fun f ms F h => by
 unfold Ei_WrtOk at h
 dsimp only at h
 split at h
 ·injection h with h; injection h with e1 e2; subst e1 e2; exact Sound.wk si_keyOk
 ·injection h with h; injection h with e1 e2; subst e1 e2; exact Sound.wk si_valOk
 ·cases h
theorem goodBi_WrtOk:∀ f ms F,Ei_WrtOk.bxf f = some (ms,F) → SoundB Tryd.prog f ms F := fun f ms F h => by cases h
theorem goodi_WrtOk:Good Tryd.prog Ei_WrtOk := ⟨rfl,goodFi_WrtOk,goodBi_WrtOk⟩
noncomputable def Oi_WrtOk_0:Orc := fun _ _ => none
noncomputable def msi_WrtOk:List PM := [.rd]
noncomputable def lsi_WrtOk:List (Nat×Code) := loopsAll 0 (Tryd.f49.body.getD .skip)
theorem ki_WrtOk_0:OrcOk Ei_WrtOk Oi_WrtOk_0 lsi_WrtOk 0 := orcOk_none
noncomputable def g_Ai_WrtOk (a0:ByteArray) (a1:Bool) (a2:List Int):Bool := bif a1 then g_Ai_keyOk a0&&(!g_Vi_keyOk_0 a0 || true) else g_Ai_keyOk a0&&(!g_Vi_keyOk_0 a0 || g_Ai_valOk a2)
noncomputable def g_Vi_WrtOk_0 (a0:ByteArray) (a1:Bool) (a2:List Int):Bool := bif a1 then bif g_Vi_keyOk_0 a0 then (↑(List.length a2):Int) == (0:Int) else false else bif g_Vi_keyOk_0 a0 then g_Vi_valOk_0 a2 else false
noncomputable def Fi_WrtOk:FSem := fun ys => match ys with
 | [.val true [.str a0,.bool a1,.sl .any 3 (.int .i64) a2]] => some ((g_Ai_WrtOk a0 a1 a2),.val false [.bool (g_Vi_WrtOk_0 a0 a1 a2)],[])
 | _ => none
theorem vi_WrtOk (a0:ByteArray) (a1:Bool) (a2:List Int):collapseH .std Ei_WrtOk Oi_WrtOk_0 (execFn Ei_WrtOk Tryd.f49 msi_WrtOk [.val true [.str a0,.bool a1,.sl .any 3 (.int .i64) a2]]) = some ((g_Ai_WrtOk a0 a1 a2),.val false [.bool (g_Vi_WrtOk_0 a0 a1 a2)],[]) := by kernel_rfl
theorem si_WrtOk:Sound Tryd.prog 49 msi_WrtOk Fi_WrtOk := by
 refine fn_gen goodi_WrtOk (by kernel_rfl) .std (fn := Tryd.f49) (c := (Tryd.f49.body.getD .skip)) (o := Oi_WrtOk_0) (k := 0) (by kernel_rfl) (by kernel_rfl) (by kernel_rfl) (by kernel_rfl) (by decide) ki_WrtOk_0 ?_
 intro ys r outs h
 unfold Fi_WrtOk at h
 split at h
 ·exact (vi_WrtOk _ _ _).trans h
 ·cases h
noncomputable def Eslices_Index_string_string:Env where
 tt := mkTI Tryd.prog
 fn := fun _ => none
 bxf := fun _ => none
 mv := []
 keep := fun b => match b with
  | 0 => [(0,false),(1,false),(7,false),(8,false)]
  | _ => []
 keepB := fun b => match b with
  | 0 => []
  | _ => []
 keepX := fun b => match b with
  | 0 => [(4,false)]
  | _ => []
 keepXB := fun b => match b with
  | 0 => []
  | _ => []
theorem goodFslices_Index_string_string:∀ f ms F,Eslices_Index_string_string.fn f = some (ms,F) → Sound Tryd.prog f ms F := fun f ms F h => by cases h
theorem goodBslices_Index_string_string:∀ f ms F,Eslices_Index_string_string.bxf f = some (ms,F) → SoundB Tryd.prog f ms F := fun f ms F h => by cases h
theorem goodslices_Index_string_string:Good Tryd.prog Eslices_Index_string_string := ⟨rfl,goodFslices_Index_string_string,goodBslices_Index_string_string⟩
noncomputable def Oslices_Index_string_string_0:Orc := fun _ _ => none
noncomputable def msslices_Index_string_string:List PM := [.rd,.own]
noncomputable def lsslices_Index_string_string:List (Nat×Code) := loopsAll 0 (Tryd.f66.body.getD .skip)
noncomputable def cslices_Index_string_string_0:Code := (loopOf 0 (Tryd.f66.body.getD .skip)).getD .skip
theorem lseqslices_Index_string_string:lsslices_Index_string_string = [(0,cslices_Index_string_string_0)] := by kernel_rfl
theorem mslices_Index_string_string_0:∀ p,p ∈ lsslices_Index_string_string → p.1 = 0 → p.2 = cslices_Index_string_string_0 := by
 intro p hp
 rw [lseqslices_Index_string_string] at hp
 simp only [List.mem_cons,List.not_mem_nil,or_false] at hp
 subst hp; simp
theorem kslices_Index_string_string_0:OrcOk Eslices_Index_string_string Oslices_Index_string_string_0 lsslices_Index_string_string 0 := orcOk_none
noncomputable def hslices_Index_string_string_0 (y0:List ByteArray) (y1:ByteArray) (y2:Int) (y3:Int):List (Pl×LV) := [(.T 0,.t (.val false [.sl .any 9 .str y0])),(.T 1,.t (.val false [.str y1])),(.T 7,.t (.val false [.int .i64 y2])),(.T 8,.t (.val false [.int .i64 y3]))]
noncomputable def g_Sslices_Index_string_string_0 (y0:List ByteArray) (y1:ByteArray) (y2:Int):(Int) → RT (Int) ((Int) ⊕ (Unit))
 | y3 => .br (true) (.br (decide (y3 < y2)) (.br (decide ((0:Int) ≤ y3 ∧ y3 < (↑(List.length y0):Int))) (.br (true) (.br (ByteArray.toList y1 == ByteArray.toList (at_ Ty.str y0 (Int.toNat y3))) (.out (.inl y3)) (.br (true) (.go (IntKind.wrap IntKind.i64 (y3 + (1:Int)))) .bad)) .bad) .bad) (.out (.inr (())))) .bad
noncomputable def g_Lslices_Index_string_string_0 (y0:List ByteArray) (y1:ByteArray) (y2:Int) (x:Int):Option ((Int) ⊕ (Unit)) := loopO (g_Sslices_Index_string_string_0 y0 y1 y2) x
noncomputable def xslices_Index_string_string_0 (y0:List ByteArray) (y1:ByteArray) (y2:Int):((Int) ⊕ (Unit)) → Ex×List (Pl×LV) := fun
 | .inl r => (.ret,[(.T 4,.t (.val false [.int .i64 r]))])
 | .inr (r) => (.exit 0,[(.T 4,.t (.val false [.undef]))])
noncomputable def Oslices_Index_string_string_1:Orc := fun b h => match b,h with
 | 0,[(.T 0,.t (.val false [.sl .any 9 .str y0])),(.T 1,.t (.val false [.str y1])),(.T 7,.t (.val false [.int .i64 y2])),(.T 8,.t (.val false [.int .i64 y3]))] => some (okO (g_Lslices_Index_string_string_0 y0 y1 y2 y3),(.br (isL (valO (g_Lslices_Index_string_string_0 y0 y1 y2 y3))) (.leaf .ret [(.T 4,.t (.val false [.int .i64 (getL (valO (g_Lslices_Index_string_string_0 y0 y1 y2 y3)))]))]) (.leaf (.exit 0) [(.T 4,.t (.val false [.undef]))])))
 | b,h => Oslices_Index_string_string_0 b h
theorem bslices_Index_string_string_0 (y0:List ByteArray) (y1:ByteArray) (y2:Int) (y3:Int):Tr.bt Eslices_Index_string_string Oslices_Index_string_string_0 (exec Eslices_Index_string_string 0 cslices_Index_string_string_0 (St.of (hslices_Index_string_string_0 y0 y1 y2 y3)) (leafRd Eslices_Index_string_string 0)) = (g_Sslices_Index_string_string_0 y0 y1 y2 y3).bt (fun (y3:Int) => (hslices_Index_string_string_0 y0 y1 y2 y3)) (xslices_Index_string_string_0 y0 y1 y2) := by kernel_rfl
theorem kslices_Index_string_string_1:OrcOk Eslices_Index_string_string Oslices_Index_string_string_1 lsslices_Index_string_string 1 := orc_add kslices_Index_string_string_0 (fun n p hp h ex h' ho => by
 obtain ⟨b,c⟩ := p
 obtain ⟨xt,h1,h2⟩ := ho
 have h1:Oslices_Index_string_string_1 b h = some (true,xt) := h1
 unfold Oslices_Index_string_string_1 at h1
 split at h1
 ·injection h1 with h1
  injection h1 with e1 e2
  subst e2
  have hc:c = cslices_Index_string_string_0 := mslices_Index_string_string_0 _ hp rfl
  subst hc
  right
  rename_i y0 y1 y2 y3
  have key := LT_step kslices_Index_string_string_0 hp (fun q hq => loopsAll_in _ _ _ _ hp hq) (fun (y3:Int) => (hslices_Index_string_string_0 y0 y1 y2 y3)) (xslices_Index_string_string_0 y0 y1 y2) (g_Sslices_Index_string_string_0 y0 y1 y2) (fun x => by first | exact bslices_Index_string_string_0 y0 y1 y2 x) n (x := y3) (okO_some e1)
  have hx:∀ r,XT.sel (.br (isL r) (.leaf .ret [(.T 4,.t (.val false [.int .i64 (getL r)]))]) (.leaf (.exit 0) [(.T 4,.t (.val false [.undef]))])) = xslices_Index_string_string_0 y0 y1 y2 r := fun r => by first | rfl | (rcases r with r | r <;> rfl) | (rcases r with r | r | r <;> rfl) | (rcases r with r | r | r | r <;> rfl)
  have h3 := (hx (valO (g_Lslices_Index_string_string_0 y0 y1 y2 y3))).symm.trans h2
  have e3 := congrArg Prod.fst h3
  have e4 := congrArg Prod.snd h3
  simp only at e3 e4
  rw [← e3,← e4]
  exact key
 ·exact .inl ⟨xt,h1,h2⟩)
noncomputable def g_Aslices_Index_string_string (a0:List ByteArray) (a1:ByteArray):Bool := okO (g_Lslices_Index_string_string_0 a0 a1 (↑(List.length a0):Int) (0:Int))
noncomputable def g_Vslices_Index_string_string_0 (a0:List ByteArray) (a1:ByteArray):Int := bif isL (valO (g_Lslices_Index_string_string_0 a0 a1 (↑(List.length a0):Int) (0:Int))) then getL (valO (g_Lslices_Index_string_string_0 a0 a1 (↑(List.length a0):Int) (0:Int))) else (-1:Int)
noncomputable def Fslices_Index_string_string:FSem := fun ys => match ys with
 | [.val false [.sl .any 9 .str a0],.val false [.str a1]] => some ((g_Aslices_Index_string_string a0 a1),.val false [.int .i64 (g_Vslices_Index_string_string_0 a0 a1)],[])
 | _ => none
theorem vslices_Index_string_string (a0:List ByteArray) (a1:ByteArray):collapseH .std Eslices_Index_string_string Oslices_Index_string_string_1 (execFn Eslices_Index_string_string Tryd.f66 msslices_Index_string_string [.val false [.sl .any 9 .str a0],.val false [.str a1]]) = some ((g_Aslices_Index_string_string a0 a1),.val false [.int .i64 (g_Vslices_Index_string_string_0 a0 a1)],[]) := by kernel_rfl
theorem sslices_Index_string_string:Sound Tryd.prog 66 msslices_Index_string_string Fslices_Index_string_string := by
 refine fn_gen goodslices_Index_string_string (by kernel_rfl) .std (fn := Tryd.f66) (c := (Tryd.f66.body.getD .skip)) (o := Oslices_Index_string_string_1) (k := 1) (by kernel_rfl) (by kernel_rfl) (by kernel_rfl) (by kernel_rfl) (by decide) kslices_Index_string_string_1 ?_
 intro ys r outs h
 unfold Fslices_Index_string_string at h
 split at h
 ·exact (vslices_Index_string_string _ _).trans h
 ·cases h
noncomputable def Eslices_Contains_string_string:Env where
 tt := mkTI Tryd.prog
 fn := fun f => match f with
  | 66 => some (msslices_Index_string_string,FSem.wk msslices_Index_string_string Fslices_Index_string_string)
  | _ => none
 bxf := fun _ => none
 mv := []
 keep := fun _ => []
 keepB := fun _ => []
 keepX := fun _ => []
 keepXB := fun _ => []
theorem goodFslices_Contains_string_string:∀ f ms F,Eslices_Contains_string_string.fn f = some (ms,F) → Sound Tryd.prog f ms F := fun f ms F h => by
 unfold Eslices_Contains_string_string at h
 dsimp only at h
 split at h
 ·injection h with h; injection h with e1 e2; subst e1 e2; exact Sound.wk sslices_Index_string_string
 ·cases h
theorem goodBslices_Contains_string_string:∀ f ms F,Eslices_Contains_string_string.bxf f = some (ms,F) → SoundB Tryd.prog f ms F := fun f ms F h => by cases h
theorem goodslices_Contains_string_string:Good Tryd.prog Eslices_Contains_string_string := ⟨rfl,goodFslices_Contains_string_string,goodBslices_Contains_string_string⟩
noncomputable def Oslices_Contains_string_string_0:Orc := fun _ _ => none
noncomputable def msslices_Contains_string_string:List PM := [.rd,.own]
noncomputable def lsslices_Contains_string_string:List (Nat×Code) := loopsAll 0 (Tryd.f50.body.getD .skip)
theorem kslices_Contains_string_string_0:OrcOk Eslices_Contains_string_string Oslices_Contains_string_string_0 lsslices_Contains_string_string 0 := orcOk_none
noncomputable def g_Aslices_Contains_string_string (a0:List ByteArray) (a1:ByteArray):Bool := g_Aslices_Index_string_string a0 a1&&true
noncomputable def g_Vslices_Contains_string_string_0 (a0:List ByteArray) (a1:ByteArray):Bool := decide (g_Vslices_Index_string_string_0 a0 a1 ≥ (0:Int))
noncomputable def Fslices_Contains_string_string:FSem := fun ys => match ys with
 | [.val false [.sl .any 9 .str a0],.val false [.str a1]] => some ((g_Aslices_Contains_string_string a0 a1),.val false [.bool (g_Vslices_Contains_string_string_0 a0 a1)],[])
 | _ => none
theorem vslices_Contains_string_string (a0:List ByteArray) (a1:ByteArray):collapseH .std Eslices_Contains_string_string Oslices_Contains_string_string_0 (execFn Eslices_Contains_string_string Tryd.f50 msslices_Contains_string_string [.val false [.sl .any 9 .str a0],.val false [.str a1]]) = some ((g_Aslices_Contains_string_string a0 a1),.val false [.bool (g_Vslices_Contains_string_string_0 a0 a1)],[]) := by kernel_rfl
theorem sslices_Contains_string_string:Sound Tryd.prog 50 msslices_Contains_string_string Fslices_Contains_string_string := by
 refine fn_gen goodslices_Contains_string_string (by kernel_rfl) .std (fn := Tryd.f50) (c := (Tryd.f50.body.getD .skip)) (o := Oslices_Contains_string_string_0) (k := 0) (by kernel_rfl) (by kernel_rfl) (by kernel_rfl) (by kernel_rfl) (by decide) kslices_Contains_string_string_0 ?_
 intro ys r outs h
 unfold Fslices_Contains_string_string at h
 split at h
 ·exact (vslices_Contains_string_string _ _).trans h
 ·cases h
noncomputable def Ei_NoteOk_2:Env where
 tt := mkTI Tryd.prog
 fn := fun f => match f with
  | 49 => some (msi_WrtOk,FSem.wk msi_WrtOk Fi_WrtOk)
  | 50 => some (msslices_Contains_string_string,FSem.wk msslices_Contains_string_string Fslices_Contains_string_string)
  | _ => none
 bxf := fun _ => none
 mv := []
 keep := fun _ => []
 keepB := fun _ => []
 keepX := fun _ => []
 keepXB := fun _ => []
theorem goodFi_NoteOk_2:∀ f ms F,Ei_NoteOk_2.fn f = some (ms,F) → Sound Tryd.prog f ms F := fun f ms F h => by
 unfold Ei_NoteOk_2 at h
 dsimp only at h
 split at h
 ·injection h with h; injection h with e1 e2; subst e1 e2; exact Sound.wk si_WrtOk
 ·injection h with h; injection h with e1 e2; subst e1 e2; exact Sound.wk sslices_Contains_string_string
 ·cases h
theorem goodBi_NoteOk_2:∀ f ms F,Ei_NoteOk_2.bxf f = some (ms,F) → SoundB Tryd.prog f ms F := fun f ms F h => by cases h
theorem goodi_NoteOk_2:Good Tryd.prog Ei_NoteOk_2 := ⟨rfl,goodFi_NoteOk_2,goodBi_NoteOk_2⟩
noncomputable def Oi_NoteOk_2_0:Orc := fun _ _ => none
noncomputable def msi_NoteOk_2:List PM := [.rd,.rd]
noncomputable def lsi_NoteOk_2:List (Nat×Code) := loopsAll 0 (Tryd.f48.body.getD .skip)
theorem ki_NoteOk_2_0:OrcOk Ei_NoteOk_2 Oi_NoteOk_2_0 lsi_NoteOk_2 0 := orcOk_none
noncomputable def g_Ai_NoteOk_2 (a0:ByteArray) (a1:Bool) (a2:List Int) (c0:Int×(Int×((List ByteArray)×(List (ByteArray×(Bool×(List Int))))))):Bool := g_Ai_WrtOk a0 a1 a2&&(!g_Vi_WrtOk_0 a0 a1 a2 || g_Aslices_Contains_string_string c0.2.2.1 a0)
noncomputable def g_Vi_NoteOk_2_0 (a0:ByteArray) (a1:Bool) (a2:List Int) (c0:Int×(Int×((List ByteArray)×(List (ByteArray×(Bool×(List Int))))))):Bool := bif !g_Vi_WrtOk_0 a0 a1 a2 then true else !g_Vslices_Contains_string_string_0 c0.2.2.1 a0
noncomputable def Fi_NoteOk_2:FSem := fun ys => match ys with
 | [.val true [.str a0,.bool a1,.sl .any 3 (.int .i64) a2],.val false [.sptr (.pair (.int .i64) (.pair (.int .i64) (.pair (.sl 9 .str) (.sl 64 (.pair .str (.pair .bool (.sl 3 (.int .i64)))))))) c0 0]] => some ((g_Ai_NoteOk_2 a0 a1 a2 c0),.val false [.bool (g_Vi_NoteOk_2_0 a0 a1 a2 c0)],[])
 | _ => none
theorem vi_NoteOk_2 (a0:ByteArray) (a1:Bool) (a2:List Int) (c0:Int×(Int×((List ByteArray)×(List (ByteArray×(Bool×(List Int))))))):collapseH .std Ei_NoteOk_2 Oi_NoteOk_2_0 (execFn Ei_NoteOk_2 Tryd.f48 msi_NoteOk_2 [.val true [.str a0,.bool a1,.sl .any 3 (.int .i64) a2],.val false [.sptr (.pair (.int .i64) (.pair (.int .i64) (.pair (.sl 9 .str) (.sl 64 (.pair .str (.pair .bool (.sl 3 (.int .i64)))))))) c0 0]]) = some ((g_Ai_NoteOk_2 a0 a1 a2 c0),.val false [.bool (g_Vi_NoteOk_2_0 a0 a1 a2 c0)],[]) := by kernel_rfl
theorem si_NoteOk_2:Sound Tryd.prog 48 msi_NoteOk_2 Fi_NoteOk_2 := by
 refine fn_gen goodi_NoteOk_2 (by kernel_rfl) .std (fn := Tryd.f48) (c := (Tryd.f48.body.getD .skip)) (o := Oi_NoteOk_2_0) (k := 0) (by kernel_rfl) (by kernel_rfl) (by kernel_rfl) (by kernel_rfl) (by decide) ki_NoteOk_2_0 ?_
 intro ys r outs h
 unfold Fi_NoteOk_2 at h
 split at h
 ·exact (vi_NoteOk_2 _ _ _ _).trans h
 ·cases h
noncomputable def Eslices_IndexFunc_i_StoWrite_i_StoWrite__i_NoteOk_2:Env where
 tt := mkTI Tryd.prog
 fn := fun f => match f with
  | 48 => some (msi_NoteOk_2,FSem.wk msi_NoteOk_2 Fi_NoteOk_2)
  | _ => none
 bxf := fun _ => none
 mv := []
 keep := fun b => match b with
  | 0 => [(0,false),(1,false),(7,false),(8,false)]
  | _ => []
 keepB := fun b => match b with
  | 0 => []
  | _ => []
 keepX := fun b => match b with
  | 0 => [(4,false)]
  | _ => []
 keepXB := fun b => match b with
  | 0 => []
  | _ => []
theorem goodFslices_IndexFunc_i_StoWrite_i_StoWrite__i_NoteOk_2:∀ f ms F,Eslices_IndexFunc_i_StoWrite_i_StoWrite__i_NoteOk_2.fn f = some (ms,F) → Sound Tryd.prog f ms F := fun f ms F h => by
 unfold Eslices_IndexFunc_i_StoWrite_i_StoWrite__i_NoteOk_2 at h
 dsimp only at h
 split at h
 ·injection h with h; injection h with e1 e2; subst e1 e2; exact Sound.wk si_NoteOk_2
 ·cases h
theorem goodBslices_IndexFunc_i_StoWrite_i_StoWrite__i_NoteOk_2:∀ f ms F,Eslices_IndexFunc_i_StoWrite_i_StoWrite__i_NoteOk_2.bxf f = some (ms,F) → SoundB Tryd.prog f ms F := fun f ms F h => by cases h
theorem goodslices_IndexFunc_i_StoWrite_i_StoWrite__i_NoteOk_2:Good Tryd.prog Eslices_IndexFunc_i_StoWrite_i_StoWrite__i_NoteOk_2 := ⟨rfl,goodFslices_IndexFunc_i_StoWrite_i_StoWrite__i_NoteOk_2,goodBslices_IndexFunc_i_StoWrite_i_StoWrite__i_NoteOk_2⟩
noncomputable def Oslices_IndexFunc_i_StoWrite_i_StoWrite__i_NoteOk_2_0:Orc := fun _ _ => none
noncomputable def msslices_IndexFunc_i_StoWrite_i_StoWrite__i_NoteOk_2:List PM := [.rd,.rd]
noncomputable def lsslices_IndexFunc_i_StoWrite_i_StoWrite__i_NoteOk_2:List (Nat×Code) := loopsAll 0 (Tryd.f64.body.getD .skip)
noncomputable def cslices_IndexFunc_i_StoWrite_i_StoWrite__i_NoteOk_2_0:Code := (loopOf 0 (Tryd.f64.body.getD .skip)).getD .skip
theorem lseqslices_IndexFunc_i_StoWrite_i_StoWrite__i_NoteOk_2:lsslices_IndexFunc_i_StoWrite_i_StoWrite__i_NoteOk_2 = [(0,cslices_IndexFunc_i_StoWrite_i_StoWrite__i_NoteOk_2_0)] := by kernel_rfl
theorem mslices_IndexFunc_i_StoWrite_i_StoWrite__i_NoteOk_2_0:∀ p,p ∈ lsslices_IndexFunc_i_StoWrite_i_StoWrite__i_NoteOk_2 → p.1 = 0 → p.2 = cslices_IndexFunc_i_StoWrite_i_StoWrite__i_NoteOk_2_0 := by
 intro p hp
 rw [lseqslices_IndexFunc_i_StoWrite_i_StoWrite__i_NoteOk_2] at hp
 simp only [List.mem_cons,List.not_mem_nil,or_false] at hp
 subst hp; simp
theorem kslices_IndexFunc_i_StoWrite_i_StoWrite__i_NoteOk_2_0:OrcOk Eslices_IndexFunc_i_StoWrite_i_StoWrite__i_NoteOk_2 Oslices_IndexFunc_i_StoWrite_i_StoWrite__i_NoteOk_2_0 lsslices_IndexFunc_i_StoWrite_i_StoWrite__i_NoteOk_2 0 := orcOk_none
noncomputable def hslices_IndexFunc_i_StoWrite_i_StoWrite__i_NoteOk_2_0 (y0:List (ByteArray×(Bool×(List Int)))) (y1:Int×(Int×((List ByteArray)×(List (ByteArray×(Bool×(List Int))))))) (y2:Int) (y3:Int):List (Pl×LV) := [(.T 0,.t (.val false [.sl .any 64 (.pair .str (.pair .bool (.sl 3 (.int .i64)))) y0])),(.T 1,.t (.val false [.fn 48 [.sptr (.pair (.int .i64) (.pair (.int .i64) (.pair (.sl 9 .str) (.sl 64 (.pair .str (.pair .bool (.sl 3 (.int .i64)))))))) y1 0]])),(.T 7,.t (.val false [.int .i64 y2])),(.T 8,.t (.val false [.int .i64 y3]))]
noncomputable def g_Sslices_IndexFunc_i_StoWrite_i_StoWrite__i_NoteOk_2_0 (y0:List (ByteArray×(Bool×(List Int)))) (y1:Int×(Int×((List ByteArray)×(List (ByteArray×(Bool×(List Int))))))) (y2:Int):(Int) → RT (Int) ((Int) ⊕ (Unit))
 | y3 => .br (true) (.br (decide (y3 < y2)) (.br (decide ((0:Int) ≤ y3 ∧ y3 < (↑(List.length y0):Int))) (.br (g_Ai_NoteOk_2 (at_ (Ty.pair Ty.str (Ty.pair Ty.bool (Ty.sl (nat_lit 3) (Ty.int IntKind.i64)))) y0 (Int.toNat y3)).1 (at_ (Ty.pair Ty.str (Ty.pair Ty.bool (Ty.sl (nat_lit 3) (Ty.int IntKind.i64)))) y0 (Int.toNat y3)).2.1 (at_ (Ty.pair Ty.str (Ty.pair Ty.bool (Ty.sl (nat_lit 3) (Ty.int IntKind.i64)))) y0 (Int.toNat y3)).2.2 y1) (.br (g_Vi_NoteOk_2_0 (at_ (Ty.pair Ty.str (Ty.pair Ty.bool (Ty.sl (nat_lit 3) (Ty.int IntKind.i64)))) y0 (Int.toNat y3)).1 (at_ (Ty.pair Ty.str (Ty.pair Ty.bool (Ty.sl (nat_lit 3) (Ty.int IntKind.i64)))) y0 (Int.toNat y3)).2.1 (at_ (Ty.pair Ty.str (Ty.pair Ty.bool (Ty.sl (nat_lit 3) (Ty.int IntKind.i64)))) y0 (Int.toNat y3)).2.2 y1) (.out (.inl y3)) (.br (true) (.go (IntKind.wrap IntKind.i64 (y3 + (1:Int)))) .bad)) .bad) .bad) (.out (.inr (())))) .bad
noncomputable def g_Lslices_IndexFunc_i_StoWrite_i_StoWrite__i_NoteOk_2_0 (y0:List (ByteArray×(Bool×(List Int)))) (y1:Int×(Int×((List ByteArray)×(List (ByteArray×(Bool×(List Int))))))) (y2:Int) (x:Int):Option ((Int) ⊕ (Unit)) := loopO (g_Sslices_IndexFunc_i_StoWrite_i_StoWrite__i_NoteOk_2_0 y0 y1 y2) x
noncomputable def xslices_IndexFunc_i_StoWrite_i_StoWrite__i_NoteOk_2_0 (y0:List (ByteArray×(Bool×(List Int)))) (y1:Int×(Int×((List ByteArray)×(List (ByteArray×(Bool×(List Int))))))) (y2:Int):((Int) ⊕ (Unit)) → Ex×List (Pl×LV) := fun
 | .inl r => (.ret,[(.T 4,.t (.val false [.int .i64 r]))])
 | .inr (r) => (.exit 0,[(.T 4,.t (.val false [.undef]))])
noncomputable def Oslices_IndexFunc_i_StoWrite_i_StoWrite__i_NoteOk_2_1:Orc := fun b h => match b,h with
 | 0,[(.T 0,.t (.val false [.sl .any 64 (.pair .str (.pair .bool (.sl 3 (.int .i64)))) y0])),(.T 1,.t (.val false [.fn 48 [.sptr (.pair (.int .i64) (.pair (.int .i64) (.pair (.sl 9 .str) (.sl 64 (.pair .str (.pair .bool (.sl 3 (.int .i64)))))))) y1 0]])),(.T 7,.t (.val false [.int .i64 y2])),(.T 8,.t (.val false [.int .i64 y3]))] => some (okO (g_Lslices_IndexFunc_i_StoWrite_i_StoWrite__i_NoteOk_2_0 y0 y1 y2 y3),(.br (isL (valO (g_Lslices_IndexFunc_i_StoWrite_i_StoWrite__i_NoteOk_2_0 y0 y1 y2 y3))) (.leaf .ret [(.T 4,.t (.val false [.int .i64 (getL (valO (g_Lslices_IndexFunc_i_StoWrite_i_StoWrite__i_NoteOk_2_0 y0 y1 y2 y3)))]))]) (.leaf (.exit 0) [(.T 4,.t (.val false [.undef]))])))
 | b,h => Oslices_IndexFunc_i_StoWrite_i_StoWrite__i_NoteOk_2_0 b h
theorem bslices_IndexFunc_i_StoWrite_i_StoWrite__i_NoteOk_2_0 (y0:List (ByteArray×(Bool×(List Int)))) (y1:Int×(Int×((List ByteArray)×(List (ByteArray×(Bool×(List Int))))))) (y2:Int) (y3:Int):Tr.bt Eslices_IndexFunc_i_StoWrite_i_StoWrite__i_NoteOk_2 Oslices_IndexFunc_i_StoWrite_i_StoWrite__i_NoteOk_2_0 (exec Eslices_IndexFunc_i_StoWrite_i_StoWrite__i_NoteOk_2 0 cslices_IndexFunc_i_StoWrite_i_StoWrite__i_NoteOk_2_0 (St.of (hslices_IndexFunc_i_StoWrite_i_StoWrite__i_NoteOk_2_0 y0 y1 y2 y3)) (leafRd Eslices_IndexFunc_i_StoWrite_i_StoWrite__i_NoteOk_2 0)) = (g_Sslices_IndexFunc_i_StoWrite_i_StoWrite__i_NoteOk_2_0 y0 y1 y2 y3).bt (fun (y3:Int) => (hslices_IndexFunc_i_StoWrite_i_StoWrite__i_NoteOk_2_0 y0 y1 y2 y3)) (xslices_IndexFunc_i_StoWrite_i_StoWrite__i_NoteOk_2_0 y0 y1 y2) := by kernel_rfl
theorem kslices_IndexFunc_i_StoWrite_i_StoWrite__i_NoteOk_2_1:OrcOk Eslices_IndexFunc_i_StoWrite_i_StoWrite__i_NoteOk_2 Oslices_IndexFunc_i_StoWrite_i_StoWrite__i_NoteOk_2_1 lsslices_IndexFunc_i_StoWrite_i_StoWrite__i_NoteOk_2 1 := orc_add kslices_IndexFunc_i_StoWrite_i_StoWrite__i_NoteOk_2_0 (fun n p hp h ex h' ho => by
 obtain ⟨b,c⟩ := p
 obtain ⟨xt,h1,h2⟩ := ho
 have h1:Oslices_IndexFunc_i_StoWrite_i_StoWrite__i_NoteOk_2_1 b h = some (true,xt) := h1
 unfold Oslices_IndexFunc_i_StoWrite_i_StoWrite__i_NoteOk_2_1 at h1
 split at h1
 ·injection h1 with h1
  injection h1 with e1 e2
  subst e2
  have hc:c = cslices_IndexFunc_i_StoWrite_i_StoWrite__i_NoteOk_2_0 := mslices_IndexFunc_i_StoWrite_i_StoWrite__i_NoteOk_2_0 _ hp rfl
  subst hc
  right
  rename_i y0 y1 y2 y3
  have key := LT_step kslices_IndexFunc_i_StoWrite_i_StoWrite__i_NoteOk_2_0 hp (fun q hq => loopsAll_in _ _ _ _ hp hq) (fun (y3:Int) => (hslices_IndexFunc_i_StoWrite_i_StoWrite__i_NoteOk_2_0 y0 y1 y2 y3)) (xslices_IndexFunc_i_StoWrite_i_StoWrite__i_NoteOk_2_0 y0 y1 y2) (g_Sslices_IndexFunc_i_StoWrite_i_StoWrite__i_NoteOk_2_0 y0 y1 y2) (fun x => by first | exact bslices_IndexFunc_i_StoWrite_i_StoWrite__i_NoteOk_2_0 y0 y1 y2 x) n (x := y3) (okO_some e1)
  have hx:∀ r,XT.sel (.br (isL r) (.leaf .ret [(.T 4,.t (.val false [.int .i64 (getL r)]))]) (.leaf (.exit 0) [(.T 4,.t (.val false [.undef]))])) = xslices_IndexFunc_i_StoWrite_i_StoWrite__i_NoteOk_2_0 y0 y1 y2 r := fun r => by first | rfl | (rcases r with r | r <;> rfl) | (rcases r with r | r | r <;> rfl) | (rcases r with r | r | r | r <;> rfl)
  have h3 := (hx (valO (g_Lslices_IndexFunc_i_StoWrite_i_StoWrite__i_NoteOk_2_0 y0 y1 y2 y3))).symm.trans h2
  have e3 := congrArg Prod.fst h3
  have e4 := congrArg Prod.snd h3
  simp only at e3 e4
  rw [← e3,← e4]
  exact key
 ·exact .inl ⟨xt,h1,h2⟩)
noncomputable def g_Aslices_IndexFunc_i_StoWrite_i_StoWrite__i_NoteOk_2 (a0:List (ByteArray×(Bool×(List Int)))) (c0:Int×(Int×((List ByteArray)×(List (ByteArray×(Bool×(List Int))))))):Bool := okO (g_Lslices_IndexFunc_i_StoWrite_i_StoWrite__i_NoteOk_2_0 a0 c0 (↑(List.length a0):Int) (0:Int))
noncomputable def g_Vslices_IndexFunc_i_StoWrite_i_StoWrite__i_NoteOk_2_0 (a0:List (ByteArray×(Bool×(List Int)))) (c0:Int×(Int×((List ByteArray)×(List (ByteArray×(Bool×(List Int))))))):Int := bif isL (valO (g_Lslices_IndexFunc_i_StoWrite_i_StoWrite__i_NoteOk_2_0 a0 c0 (↑(List.length a0):Int) (0:Int))) then getL (valO (g_Lslices_IndexFunc_i_StoWrite_i_StoWrite__i_NoteOk_2_0 a0 c0 (↑(List.length a0):Int) (0:Int))) else (-1:Int)
noncomputable def Fslices_IndexFunc_i_StoWrite_i_StoWrite__i_NoteOk_2:FSem := fun ys => match ys with
 | [.val false [.sl .any 64 (.pair .str (.pair .bool (.sl 3 (.int .i64)))) a0],.val false [.fn 48 [.sptr (.pair (.int .i64) (.pair (.int .i64) (.pair (.sl 9 .str) (.sl 64 (.pair .str (.pair .bool (.sl 3 (.int .i64)))))))) c0 0]]] => some ((g_Aslices_IndexFunc_i_StoWrite_i_StoWrite__i_NoteOk_2 a0 c0),.val false [.int .i64 (g_Vslices_IndexFunc_i_StoWrite_i_StoWrite__i_NoteOk_2_0 a0 c0)],[])
 | _ => none
theorem vslices_IndexFunc_i_StoWrite_i_StoWrite__i_NoteOk_2 (a0:List (ByteArray×(Bool×(List Int)))) (c0:Int×(Int×((List ByteArray)×(List (ByteArray×(Bool×(List Int))))))):collapseH .std Eslices_IndexFunc_i_StoWrite_i_StoWrite__i_NoteOk_2 Oslices_IndexFunc_i_StoWrite_i_StoWrite__i_NoteOk_2_1 (execFn Eslices_IndexFunc_i_StoWrite_i_StoWrite__i_NoteOk_2 Tryd.f64 msslices_IndexFunc_i_StoWrite_i_StoWrite__i_NoteOk_2 [.val false [.sl .any 64 (.pair .str (.pair .bool (.sl 3 (.int .i64)))) a0],.val false [.fn 48 [.sptr (.pair (.int .i64) (.pair (.int .i64) (.pair (.sl 9 .str) (.sl 64 (.pair .str (.pair .bool (.sl 3 (.int .i64)))))))) c0 0]]]) = some ((g_Aslices_IndexFunc_i_StoWrite_i_StoWrite__i_NoteOk_2 a0 c0),.val false [.int .i64 (g_Vslices_IndexFunc_i_StoWrite_i_StoWrite__i_NoteOk_2_0 a0 c0)],[]) := by kernel_rfl
theorem sslices_IndexFunc_i_StoWrite_i_StoWrite__i_NoteOk_2:Sound Tryd.prog 64 msslices_IndexFunc_i_StoWrite_i_StoWrite__i_NoteOk_2 Fslices_IndexFunc_i_StoWrite_i_StoWrite__i_NoteOk_2 := by
 refine fn_gen goodslices_IndexFunc_i_StoWrite_i_StoWrite__i_NoteOk_2 (by kernel_rfl) .std (fn := Tryd.f64) (c := (Tryd.f64.body.getD .skip)) (o := Oslices_IndexFunc_i_StoWrite_i_StoWrite__i_NoteOk_2_1) (k := 1) (by kernel_rfl) (by kernel_rfl) (by kernel_rfl) (by kernel_rfl) (by decide) kslices_IndexFunc_i_StoWrite_i_StoWrite__i_NoteOk_2_1 ?_
 intro ys r outs h
 unfold Fslices_IndexFunc_i_StoWrite_i_StoWrite__i_NoteOk_2 at h
 split at h
 ·exact (vslices_IndexFunc_i_StoWrite_i_StoWrite__i_NoteOk_2 _ _).trans h
 ·cases h
noncomputable def Eslices_ContainsFunc_i_StoWrite_i_StoWrite__i_NoteOk_2:Env where
 tt := mkTI Tryd.prog
 fn := fun f => match f with
  | 48 => some (msi_NoteOk_2,FSem.wk msi_NoteOk_2 Fi_NoteOk_2)
  | 64 => some (msslices_IndexFunc_i_StoWrite_i_StoWrite__i_NoteOk_2,FSem.wk msslices_IndexFunc_i_StoWrite_i_StoWrite__i_NoteOk_2 Fslices_IndexFunc_i_StoWrite_i_StoWrite__i_NoteOk_2)
  | _ => none
 bxf := fun _ => none
 mv := []
 keep := fun _ => []
 keepB := fun _ => []
 keepX := fun _ => []
 keepXB := fun _ => []
theorem goodFslices_ContainsFunc_i_StoWrite_i_StoWrite__i_NoteOk_2:∀ f ms F,Eslices_ContainsFunc_i_StoWrite_i_StoWrite__i_NoteOk_2.fn f = some (ms,F) → Sound Tryd.prog f ms F := fun f ms F h => by
 unfold Eslices_ContainsFunc_i_StoWrite_i_StoWrite__i_NoteOk_2 at h
 dsimp only at h
 split at h
 ·injection h with h; injection h with e1 e2; subst e1 e2; exact Sound.wk si_NoteOk_2
 ·injection h with h; injection h with e1 e2; subst e1 e2; exact Sound.wk sslices_IndexFunc_i_StoWrite_i_StoWrite__i_NoteOk_2
 ·cases h
theorem goodBslices_ContainsFunc_i_StoWrite_i_StoWrite__i_NoteOk_2:∀ f ms F,Eslices_ContainsFunc_i_StoWrite_i_StoWrite__i_NoteOk_2.bxf f = some (ms,F) → SoundB Tryd.prog f ms F := fun f ms F h => by cases h
theorem goodslices_ContainsFunc_i_StoWrite_i_StoWrite__i_NoteOk_2:Good Tryd.prog Eslices_ContainsFunc_i_StoWrite_i_StoWrite__i_NoteOk_2 := ⟨rfl,goodFslices_ContainsFunc_i_StoWrite_i_StoWrite__i_NoteOk_2,goodBslices_ContainsFunc_i_StoWrite_i_StoWrite__i_NoteOk_2⟩
noncomputable def Oslices_ContainsFunc_i_StoWrite_i_StoWrite__i_NoteOk_2_0:Orc := fun _ _ => none
noncomputable def msslices_ContainsFunc_i_StoWrite_i_StoWrite__i_NoteOk_2:List PM := [.rd,.rd]
noncomputable def lsslices_ContainsFunc_i_StoWrite_i_StoWrite__i_NoteOk_2:List (Nat×Code) := loopsAll 0 (Tryd.f47.body.getD .skip)
theorem kslices_ContainsFunc_i_StoWrite_i_StoWrite__i_NoteOk_2_0:OrcOk Eslices_ContainsFunc_i_StoWrite_i_StoWrite__i_NoteOk_2 Oslices_ContainsFunc_i_StoWrite_i_StoWrite__i_NoteOk_2_0 lsslices_ContainsFunc_i_StoWrite_i_StoWrite__i_NoteOk_2 0 := orcOk_none
noncomputable def g_Aslices_ContainsFunc_i_StoWrite_i_StoWrite__i_NoteOk_2 (a0:List (ByteArray×(Bool×(List Int)))) (c0:Int×(Int×((List ByteArray)×(List (ByteArray×(Bool×(List Int))))))):Bool := g_Aslices_IndexFunc_i_StoWrite_i_StoWrite__i_NoteOk_2 a0 c0&&true
noncomputable def g_Vslices_ContainsFunc_i_StoWrite_i_StoWrite__i_NoteOk_2_0 (a0:List (ByteArray×(Bool×(List Int)))) (c0:Int×(Int×((List ByteArray)×(List (ByteArray×(Bool×(List Int))))))):Bool := decide (g_Vslices_IndexFunc_i_StoWrite_i_StoWrite__i_NoteOk_2_0 a0 c0 ≥ (0:Int))
noncomputable def Fslices_ContainsFunc_i_StoWrite_i_StoWrite__i_NoteOk_2:FSem := fun ys => match ys with
 | [.val false [.sl .any 64 (.pair .str (.pair .bool (.sl 3 (.int .i64)))) a0],.val false [.fn 48 [.sptr (.pair (.int .i64) (.pair (.int .i64) (.pair (.sl 9 .str) (.sl 64 (.pair .str (.pair .bool (.sl 3 (.int .i64)))))))) c0 0]]] => some ((g_Aslices_ContainsFunc_i_StoWrite_i_StoWrite__i_NoteOk_2 a0 c0),.val false [.bool (g_Vslices_ContainsFunc_i_StoWrite_i_StoWrite__i_NoteOk_2_0 a0 c0)],[])
 | _ => none
theorem vslices_ContainsFunc_i_StoWrite_i_StoWrite__i_NoteOk_2 (a0:List (ByteArray×(Bool×(List Int)))) (c0:Int×(Int×((List ByteArray)×(List (ByteArray×(Bool×(List Int))))))):collapseH .std Eslices_ContainsFunc_i_StoWrite_i_StoWrite__i_NoteOk_2 Oslices_ContainsFunc_i_StoWrite_i_StoWrite__i_NoteOk_2_0 (execFn Eslices_ContainsFunc_i_StoWrite_i_StoWrite__i_NoteOk_2 Tryd.f47 msslices_ContainsFunc_i_StoWrite_i_StoWrite__i_NoteOk_2 [.val false [.sl .any 64 (.pair .str (.pair .bool (.sl 3 (.int .i64)))) a0],.val false [.fn 48 [.sptr (.pair (.int .i64) (.pair (.int .i64) (.pair (.sl 9 .str) (.sl 64 (.pair .str (.pair .bool (.sl 3 (.int .i64)))))))) c0 0]]]) = some ((g_Aslices_ContainsFunc_i_StoWrite_i_StoWrite__i_NoteOk_2 a0 c0),.val false [.bool (g_Vslices_ContainsFunc_i_StoWrite_i_StoWrite__i_NoteOk_2_0 a0 c0)],[]) := by kernel_rfl
theorem sslices_ContainsFunc_i_StoWrite_i_StoWrite__i_NoteOk_2:Sound Tryd.prog 47 msslices_ContainsFunc_i_StoWrite_i_StoWrite__i_NoteOk_2 Fslices_ContainsFunc_i_StoWrite_i_StoWrite__i_NoteOk_2 := by
 refine fn_gen goodslices_ContainsFunc_i_StoWrite_i_StoWrite__i_NoteOk_2 (by kernel_rfl) .std (fn := Tryd.f47) (c := (Tryd.f47.body.getD .skip)) (o := Oslices_ContainsFunc_i_StoWrite_i_StoWrite__i_NoteOk_2_0) (k := 0) (by kernel_rfl) (by kernel_rfl) (by kernel_rfl) (by kernel_rfl) (by decide) kslices_ContainsFunc_i_StoWrite_i_StoWrite__i_NoteOk_2_0 ?_
 intro ys r outs h
 unfold Fslices_ContainsFunc_i_StoWrite_i_StoWrite__i_NoteOk_2 at h
 split at h
 ·exact (vslices_ContainsFunc_i_StoWrite_i_StoWrite__i_NoteOk_2 _ _).trans h
 ·cases h
noncomputable def Ei_NoteOk_1:Env where
 tt := mkTI Tryd.prog
 fn := fun f => match f with
  | 46 => some (msi_keyOk,FSem.wk msi_keyOk Fi_keyOk)
  | _ => none
 bxf := fun _ => none
 mv := []
 keep := fun _ => []
 keepB := fun _ => []
 keepX := fun _ => []
 keepXB := fun _ => []
theorem goodFi_NoteOk_1:∀ f ms F,Ei_NoteOk_1.fn f = some (ms,F) → Sound Tryd.prog f ms F := fun f ms F h => by
 unfold Ei_NoteOk_1 at h
 dsimp only at h
 split at h
 ·injection h with h; injection h with e1 e2; subst e1 e2; exact Sound.wk si_keyOk
 ·cases h
theorem goodBi_NoteOk_1:∀ f ms F,Ei_NoteOk_1.bxf f = some (ms,F) → SoundB Tryd.prog f ms F := fun f ms F h => by cases h
theorem goodi_NoteOk_1:Good Tryd.prog Ei_NoteOk_1 := ⟨rfl,goodFi_NoteOk_1,goodBi_NoteOk_1⟩
noncomputable def Oi_NoteOk_1_0:Orc := fun _ _ => none
noncomputable def msi_NoteOk_1:List PM := [.own]
noncomputable def lsi_NoteOk_1:List (Nat×Code) := loopsAll 0 (Tryd.f45.body.getD .skip)
theorem ki_NoteOk_1_0:OrcOk Ei_NoteOk_1 Oi_NoteOk_1_0 lsi_NoteOk_1 0 := orcOk_none
noncomputable def g_Ai_NoteOk_1 (a0:ByteArray):Bool := g_Ai_keyOk a0
noncomputable def Fi_NoteOk_1:FSem := fun ys => match ys with
 | [.val false [.str a0]] => some ((g_Ai_NoteOk_1 a0),.val false [.bool (!g_Vi_keyOk_0 a0)],[])
 | _ => none
theorem vi_NoteOk_1 (a0:ByteArray):collapseH .std Ei_NoteOk_1 Oi_NoteOk_1_0 (execFn Ei_NoteOk_1 Tryd.f45 msi_NoteOk_1 [.val false [.str a0]]) = some ((g_Ai_NoteOk_1 a0),.val false [.bool (!g_Vi_keyOk_0 a0)],[]) := by kernel_rfl
theorem si_NoteOk_1:Sound Tryd.prog 45 msi_NoteOk_1 Fi_NoteOk_1 := by
 refine fn_gen goodi_NoteOk_1 (by kernel_rfl) .std (fn := Tryd.f45) (c := (Tryd.f45.body.getD .skip)) (o := Oi_NoteOk_1_0) (k := 0) (by kernel_rfl) (by kernel_rfl) (by kernel_rfl) (by kernel_rfl) (by decide) ki_NoteOk_1_0 ?_
 intro ys r outs h
 unfold Fi_NoteOk_1 at h
 split at h
 ·exact (vi_NoteOk_1 _).trans h
 ·cases h
noncomputable def Eslices_IndexFunc_string_string__i_NoteOk_1:Env where
 tt := mkTI Tryd.prog
 fn := fun f => match f with
  | 45 => some (msi_NoteOk_1,FSem.wk msi_NoteOk_1 Fi_NoteOk_1)
  | _ => none
 bxf := fun _ => none
 mv := []
 keep := fun b => match b with
  | 0 => [(0,false),(1,false),(7,false),(8,false)]
  | _ => []
 keepB := fun b => match b with
  | 0 => []
  | _ => []
 keepX := fun b => match b with
  | 0 => [(4,false)]
  | _ => []
 keepXB := fun b => match b with
  | 0 => []
  | _ => []
theorem goodFslices_IndexFunc_string_string__i_NoteOk_1:∀ f ms F,Eslices_IndexFunc_string_string__i_NoteOk_1.fn f = some (ms,F) → Sound Tryd.prog f ms F := fun f ms F h => by
 unfold Eslices_IndexFunc_string_string__i_NoteOk_1 at h
 dsimp only at h
 split at h
 ·injection h with h; injection h with e1 e2; subst e1 e2; exact Sound.wk si_NoteOk_1
 ·cases h
theorem goodBslices_IndexFunc_string_string__i_NoteOk_1:∀ f ms F,Eslices_IndexFunc_string_string__i_NoteOk_1.bxf f = some (ms,F) → SoundB Tryd.prog f ms F := fun f ms F h => by cases h
theorem goodslices_IndexFunc_string_string__i_NoteOk_1:Good Tryd.prog Eslices_IndexFunc_string_string__i_NoteOk_1 := ⟨rfl,goodFslices_IndexFunc_string_string__i_NoteOk_1,goodBslices_IndexFunc_string_string__i_NoteOk_1⟩
noncomputable def Oslices_IndexFunc_string_string__i_NoteOk_1_0:Orc := fun _ _ => none
noncomputable def msslices_IndexFunc_string_string__i_NoteOk_1:List PM := [.rd,.rd]
noncomputable def lsslices_IndexFunc_string_string__i_NoteOk_1:List (Nat×Code) := loopsAll 0 (Tryd.f62.body.getD .skip)
noncomputable def cslices_IndexFunc_string_string__i_NoteOk_1_0:Code := (loopOf 0 (Tryd.f62.body.getD .skip)).getD .skip
theorem lseqslices_IndexFunc_string_string__i_NoteOk_1:lsslices_IndexFunc_string_string__i_NoteOk_1 = [(0,cslices_IndexFunc_string_string__i_NoteOk_1_0)] := by kernel_rfl
theorem mslices_IndexFunc_string_string__i_NoteOk_1_0:∀ p,p ∈ lsslices_IndexFunc_string_string__i_NoteOk_1 → p.1 = 0 → p.2 = cslices_IndexFunc_string_string__i_NoteOk_1_0 := by
 intro p hp
 rw [lseqslices_IndexFunc_string_string__i_NoteOk_1] at hp
 simp only [List.mem_cons,List.not_mem_nil,or_false] at hp
 subst hp; simp
theorem kslices_IndexFunc_string_string__i_NoteOk_1_0:OrcOk Eslices_IndexFunc_string_string__i_NoteOk_1 Oslices_IndexFunc_string_string__i_NoteOk_1_0 lsslices_IndexFunc_string_string__i_NoteOk_1 0 := orcOk_none
noncomputable def hslices_IndexFunc_string_string__i_NoteOk_1_0 (y0:List ByteArray) (y1:Int) (y2:Int):List (Pl×LV) := [(.T 0,.t (.val false [.sl .any 9 .str y0])),(.T 1,.t (.val false [.fn 45 []])),(.T 7,.t (.val false [.int .i64 y1])),(.T 8,.t (.val false [.int .i64 y2]))]
noncomputable def g_Sslices_IndexFunc_string_string__i_NoteOk_1_0 (y0:List ByteArray) (y1:Int):(Int) → RT (Int) ((Int) ⊕ (Unit))
 | y2 => .br (true) (.br (decide (y2 < y1)) (.br (decide ((0:Int) ≤ y2 ∧ y2 < (↑(List.length y0):Int))) (.br (g_Ai_NoteOk_1 (at_ Ty.str y0 (Int.toNat y2))) (.br (!g_Vi_keyOk_0 (at_ Ty.str y0 (Int.toNat y2))) (.out (.inl y2)) (.br (true) (.go (IntKind.wrap IntKind.i64 (y2 + (1:Int)))) .bad)) .bad) .bad) (.out (.inr (())))) .bad
noncomputable def g_Lslices_IndexFunc_string_string__i_NoteOk_1_0 (y0:List ByteArray) (y1:Int) (x:Int):Option ((Int) ⊕ (Unit)) := loopO (g_Sslices_IndexFunc_string_string__i_NoteOk_1_0 y0 y1) x
noncomputable def xslices_IndexFunc_string_string__i_NoteOk_1_0 (y0:List ByteArray) (y1:Int):((Int) ⊕ (Unit)) → Ex×List (Pl×LV) := fun
 | .inl r => (.ret,[(.T 4,.t (.val false [.int .i64 r]))])
 | .inr (r) => (.exit 0,[(.T 4,.t (.val false [.undef]))])
noncomputable def Oslices_IndexFunc_string_string__i_NoteOk_1_1:Orc := fun b h => match b,h with
 | 0,[(.T 0,.t (.val false [.sl .any 9 .str y0])),(.T 1,.t (.val false [.fn 45 []])),(.T 7,.t (.val false [.int .i64 y1])),(.T 8,.t (.val false [.int .i64 y2]))] => some (okO (g_Lslices_IndexFunc_string_string__i_NoteOk_1_0 y0 y1 y2),(.br (isL (valO (g_Lslices_IndexFunc_string_string__i_NoteOk_1_0 y0 y1 y2))) (.leaf .ret [(.T 4,.t (.val false [.int .i64 (getL (valO (g_Lslices_IndexFunc_string_string__i_NoteOk_1_0 y0 y1 y2)))]))]) (.leaf (.exit 0) [(.T 4,.t (.val false [.undef]))])))
 | b,h => Oslices_IndexFunc_string_string__i_NoteOk_1_0 b h
theorem bslices_IndexFunc_string_string__i_NoteOk_1_0 (y0:List ByteArray) (y1:Int) (y2:Int):Tr.bt Eslices_IndexFunc_string_string__i_NoteOk_1 Oslices_IndexFunc_string_string__i_NoteOk_1_0 (exec Eslices_IndexFunc_string_string__i_NoteOk_1 0 cslices_IndexFunc_string_string__i_NoteOk_1_0 (St.of (hslices_IndexFunc_string_string__i_NoteOk_1_0 y0 y1 y2)) (leafRd Eslices_IndexFunc_string_string__i_NoteOk_1 0)) = (g_Sslices_IndexFunc_string_string__i_NoteOk_1_0 y0 y1 y2).bt (fun (y2:Int) => (hslices_IndexFunc_string_string__i_NoteOk_1_0 y0 y1 y2)) (xslices_IndexFunc_string_string__i_NoteOk_1_0 y0 y1) := by kernel_rfl
theorem kslices_IndexFunc_string_string__i_NoteOk_1_1:OrcOk Eslices_IndexFunc_string_string__i_NoteOk_1 Oslices_IndexFunc_string_string__i_NoteOk_1_1 lsslices_IndexFunc_string_string__i_NoteOk_1 1 := orc_add kslices_IndexFunc_string_string__i_NoteOk_1_0 (fun n p hp h ex h' ho => by
 obtain ⟨b,c⟩ := p
 obtain ⟨xt,h1,h2⟩ := ho
 have h1:Oslices_IndexFunc_string_string__i_NoteOk_1_1 b h = some (true,xt) := h1
 unfold Oslices_IndexFunc_string_string__i_NoteOk_1_1 at h1
 split at h1
 ·injection h1 with h1
  injection h1 with e1 e2
  subst e2
  have hc:c = cslices_IndexFunc_string_string__i_NoteOk_1_0 := mslices_IndexFunc_string_string__i_NoteOk_1_0 _ hp rfl
  subst hc
  right
  rename_i y0 y1 y2
  have key := LT_step kslices_IndexFunc_string_string__i_NoteOk_1_0 hp (fun q hq => loopsAll_in _ _ _ _ hp hq) (fun (y2:Int) => (hslices_IndexFunc_string_string__i_NoteOk_1_0 y0 y1 y2)) (xslices_IndexFunc_string_string__i_NoteOk_1_0 y0 y1) (g_Sslices_IndexFunc_string_string__i_NoteOk_1_0 y0 y1) (fun x => by first | exact bslices_IndexFunc_string_string__i_NoteOk_1_0 y0 y1 x) n (x := y2) (okO_some e1)
  have hx:∀ r,XT.sel (.br (isL r) (.leaf .ret [(.T 4,.t (.val false [.int .i64 (getL r)]))]) (.leaf (.exit 0) [(.T 4,.t (.val false [.undef]))])) = xslices_IndexFunc_string_string__i_NoteOk_1_0 y0 y1 r := fun r => by first | rfl | (rcases r with r | r <;> rfl) | (rcases r with r | r | r <;> rfl) | (rcases r with r | r | r | r <;> rfl)
  have h3 := (hx (valO (g_Lslices_IndexFunc_string_string__i_NoteOk_1_0 y0 y1 y2))).symm.trans h2
  have e3 := congrArg Prod.fst h3
  have e4 := congrArg Prod.snd h3
  simp only at e3 e4
  rw [← e3,← e4]
  exact key
 ·exact .inl ⟨xt,h1,h2⟩)
noncomputable def g_Aslices_IndexFunc_string_string__i_NoteOk_1 (a0:List ByteArray):Bool := okO (g_Lslices_IndexFunc_string_string__i_NoteOk_1_0 a0 (↑(List.length a0):Int) (0:Int))
noncomputable def g_Vslices_IndexFunc_string_string__i_NoteOk_1_0 (a0:List ByteArray):Int := bif isL (valO (g_Lslices_IndexFunc_string_string__i_NoteOk_1_0 a0 (↑(List.length a0):Int) (0:Int))) then getL (valO (g_Lslices_IndexFunc_string_string__i_NoteOk_1_0 a0 (↑(List.length a0):Int) (0:Int))) else (-1:Int)
noncomputable def Fslices_IndexFunc_string_string__i_NoteOk_1:FSem := fun ys => match ys with
 | [.val false [.sl .any 9 .str a0],.val false [.fn 45 []]] => some ((g_Aslices_IndexFunc_string_string__i_NoteOk_1 a0),.val false [.int .i64 (g_Vslices_IndexFunc_string_string__i_NoteOk_1_0 a0)],[])
 | _ => none
theorem vslices_IndexFunc_string_string__i_NoteOk_1 (a0:List ByteArray):collapseH .std Eslices_IndexFunc_string_string__i_NoteOk_1 Oslices_IndexFunc_string_string__i_NoteOk_1_1 (execFn Eslices_IndexFunc_string_string__i_NoteOk_1 Tryd.f62 msslices_IndexFunc_string_string__i_NoteOk_1 [.val false [.sl .any 9 .str a0],.val false [.fn 45 []]]) = some ((g_Aslices_IndexFunc_string_string__i_NoteOk_1 a0),.val false [.int .i64 (g_Vslices_IndexFunc_string_string__i_NoteOk_1_0 a0)],[]) := by kernel_rfl
theorem sslices_IndexFunc_string_string__i_NoteOk_1:Sound Tryd.prog 62 msslices_IndexFunc_string_string__i_NoteOk_1 Fslices_IndexFunc_string_string__i_NoteOk_1 := by
 refine fn_gen goodslices_IndexFunc_string_string__i_NoteOk_1 (by kernel_rfl) .std (fn := Tryd.f62) (c := (Tryd.f62.body.getD .skip)) (o := Oslices_IndexFunc_string_string__i_NoteOk_1_1) (k := 1) (by kernel_rfl) (by kernel_rfl) (by kernel_rfl) (by kernel_rfl) (by decide) kslices_IndexFunc_string_string__i_NoteOk_1_1 ?_
 intro ys r outs h
 unfold Fslices_IndexFunc_string_string__i_NoteOk_1 at h
 split at h
 ·exact (vslices_IndexFunc_string_string__i_NoteOk_1 _).trans h
 ·cases h
noncomputable def Eslices_ContainsFunc_string_string__i_NoteOk_1:Env where
 tt := mkTI Tryd.prog
 fn := fun f => match f with
  | 45 => some (msi_NoteOk_1,FSem.wk msi_NoteOk_1 Fi_NoteOk_1)
  | 62 => some (msslices_IndexFunc_string_string__i_NoteOk_1,FSem.wk msslices_IndexFunc_string_string__i_NoteOk_1 Fslices_IndexFunc_string_string__i_NoteOk_1)
  | _ => none
 bxf := fun _ => none
 mv := []
 keep := fun _ => []
 keepB := fun _ => []
 keepX := fun _ => []
 keepXB := fun _ => []
theorem goodFslices_ContainsFunc_string_string__i_NoteOk_1:∀ f ms F,Eslices_ContainsFunc_string_string__i_NoteOk_1.fn f = some (ms,F) → Sound Tryd.prog f ms F := fun f ms F h => by
 unfold Eslices_ContainsFunc_string_string__i_NoteOk_1 at h
 dsimp only at h
 split at h
 ·injection h with h; injection h with e1 e2; subst e1 e2; exact Sound.wk si_NoteOk_1
 ·injection h with h; injection h with e1 e2; subst e1 e2; exact Sound.wk sslices_IndexFunc_string_string__i_NoteOk_1
 ·cases h
theorem goodBslices_ContainsFunc_string_string__i_NoteOk_1:∀ f ms F,Eslices_ContainsFunc_string_string__i_NoteOk_1.bxf f = some (ms,F) → SoundB Tryd.prog f ms F := fun f ms F h => by cases h
theorem goodslices_ContainsFunc_string_string__i_NoteOk_1:Good Tryd.prog Eslices_ContainsFunc_string_string__i_NoteOk_1 := ⟨rfl,goodFslices_ContainsFunc_string_string__i_NoteOk_1,goodBslices_ContainsFunc_string_string__i_NoteOk_1⟩
noncomputable def Oslices_ContainsFunc_string_string__i_NoteOk_1_0:Orc := fun _ _ => none
noncomputable def msslices_ContainsFunc_string_string__i_NoteOk_1:List PM := [.rd,.rd]
noncomputable def lsslices_ContainsFunc_string_string__i_NoteOk_1:List (Nat×Code) := loopsAll 0 (Tryd.f44.body.getD .skip)
theorem kslices_ContainsFunc_string_string__i_NoteOk_1_0:OrcOk Eslices_ContainsFunc_string_string__i_NoteOk_1 Oslices_ContainsFunc_string_string__i_NoteOk_1_0 lsslices_ContainsFunc_string_string__i_NoteOk_1 0 := orcOk_none
noncomputable def g_Aslices_ContainsFunc_string_string__i_NoteOk_1 (a0:List ByteArray):Bool := g_Aslices_IndexFunc_string_string__i_NoteOk_1 a0&&true
noncomputable def g_Vslices_ContainsFunc_string_string__i_NoteOk_1_0 (a0:List ByteArray):Bool := decide (g_Vslices_IndexFunc_string_string__i_NoteOk_1_0 a0 ≥ (0:Int))
noncomputable def Fslices_ContainsFunc_string_string__i_NoteOk_1:FSem := fun ys => match ys with
 | [.val false [.sl .any 9 .str a0],.val false [.fn 45 []]] => some ((g_Aslices_ContainsFunc_string_string__i_NoteOk_1 a0),.val false [.bool (g_Vslices_ContainsFunc_string_string__i_NoteOk_1_0 a0)],[])
 | _ => none
theorem vslices_ContainsFunc_string_string__i_NoteOk_1 (a0:List ByteArray):collapseH .std Eslices_ContainsFunc_string_string__i_NoteOk_1 Oslices_ContainsFunc_string_string__i_NoteOk_1_0 (execFn Eslices_ContainsFunc_string_string__i_NoteOk_1 Tryd.f44 msslices_ContainsFunc_string_string__i_NoteOk_1 [.val false [.sl .any 9 .str a0],.val false [.fn 45 []]]) = some ((g_Aslices_ContainsFunc_string_string__i_NoteOk_1 a0),.val false [.bool (g_Vslices_ContainsFunc_string_string__i_NoteOk_1_0 a0)],[]) := by kernel_rfl
theorem sslices_ContainsFunc_string_string__i_NoteOk_1:Sound Tryd.prog 44 msslices_ContainsFunc_string_string__i_NoteOk_1 Fslices_ContainsFunc_string_string__i_NoteOk_1 := by
 refine fn_gen goodslices_ContainsFunc_string_string__i_NoteOk_1 (by kernel_rfl) .std (fn := Tryd.f44) (c := (Tryd.f44.body.getD .skip)) (o := Oslices_ContainsFunc_string_string__i_NoteOk_1_0) (k := 0) (by kernel_rfl) (by kernel_rfl) (by kernel_rfl) (by kernel_rfl) (by decide) kslices_ContainsFunc_string_string__i_NoteOk_1_0 ?_
 intro ys r outs h
 unfold Fslices_ContainsFunc_string_string__i_NoteOk_1 at h
 split at h
 ·exact (vslices_ContainsFunc_string_string__i_NoteOk_1 _).trans h
 ·cases h
noncomputable def Ei_NoteOk:Env where
 tt := mkTI Tryd.prog
 fn := fun f => match f with
  | 29 => some (msi_in,FSem.wk msi_in Fi_in)
  | 43 => some (msi_isTx,FSem.wk msi_isTx Fi_isTx)
  | 44 => some (msslices_ContainsFunc_string_string__i_NoteOk_1,FSem.wk msslices_ContainsFunc_string_string__i_NoteOk_1 Fslices_ContainsFunc_string_string__i_NoteOk_1)
  | 47 => some (msslices_ContainsFunc_i_StoWrite_i_StoWrite__i_NoteOk_2,FSem.wk msslices_ContainsFunc_i_StoWrite_i_StoWrite__i_NoteOk_2 Fslices_ContainsFunc_i_StoWrite_i_StoWrite__i_NoteOk_2)
  | _ => none
 bxf := fun _ => none
 mv := []
 keep := fun _ => []
 keepB := fun _ => []
 keepX := fun _ => []
 keepXB := fun _ => []
theorem goodFi_NoteOk:∀ f ms F,Ei_NoteOk.fn f = some (ms,F) → Sound Tryd.prog f ms F := fun f ms F h => by
 unfold Ei_NoteOk at h
 dsimp only at h
 split at h
 ·injection h with h; injection h with e1 e2; subst e1 e2; exact Sound.wk si_in
 ·injection h with h; injection h with e1 e2; subst e1 e2; exact Sound.wk si_isTx
 ·injection h with h; injection h with e1 e2; subst e1 e2; exact Sound.wk sslices_ContainsFunc_string_string__i_NoteOk_1
 ·injection h with h; injection h with e1 e2; subst e1 e2; exact Sound.wk sslices_ContainsFunc_i_StoWrite_i_StoWrite__i_NoteOk_2
 ·cases h
theorem goodBi_NoteOk:∀ f ms F,Ei_NoteOk.bxf f = some (ms,F) → SoundB Tryd.prog f ms F := fun f ms F h => by cases h
theorem goodi_NoteOk:Good Tryd.prog Ei_NoteOk := ⟨rfl,goodFi_NoteOk,goodBi_NoteOk⟩
noncomputable def Oi_NoteOk_0:Orc := fun _ _ => none
noncomputable def msi_NoteOk:List PM := [.rd]
noncomputable def lsi_NoteOk:List (Nat×Code) := loopsAll 0 (Tryd.f27.body.getD .skip)
theorem ki_NoteOk_0:OrcOk Ei_NoteOk Oi_NoteOk_0 lsi_NoteOk 0 := orcOk_none
noncomputable def g_Ai_NoteOk (a0:Int) (a1:Int) (a2:List ByteArray) (a3:List (ByteArray×(Bool×(List Int)))):Bool := g_Ai_isTx a1&&(!g_Vi_isTx_0 a1 || g_Ai_in a0 (1:Int) (4:Int)&&(!g_Vi_in_0 a0 (1:Int) (4:Int) || bif a0 != (1:Int) then !(↑(List.length a2):Int) == (0:Int) || true else decide ((↑(List.length a2):Int) > (12:Int)) || (decide ((↑(List.length a3):Int) > (12:Int)) || g_Aslices_ContainsFunc_string_string__i_NoteOk_1 a2&&(g_Vslices_ContainsFunc_string_string__i_NoteOk_1_0 a2 || g_Aslices_ContainsFunc_i_StoWrite_i_StoWrite__i_NoteOk_2 a3 (a0,a1,a2,a3)))))
noncomputable def g_Vi_NoteOk_0 (a0:Int) (a1:Int) (a2:List ByteArray) (a3:List (ByteArray×(Bool×(List Int)))):Bool := bif !g_Vi_isTx_0 a1 then false else bif !g_Vi_in_0 a0 (1:Int) (4:Int) then false else bif a0 != (1:Int) then bif (↑(List.length a2):Int) == (0:Int) then (↑(List.length a3):Int) == (0:Int) else false else bif decide ((↑(List.length a2):Int) > (12:Int)) then false else bif decide ((↑(List.length a3):Int) > (12:Int)) then false else bif g_Vslices_ContainsFunc_string_string__i_NoteOk_1_0 a2 then false else !g_Vslices_ContainsFunc_i_StoWrite_i_StoWrite__i_NoteOk_2_0 a3 (a0,a1,a2,a3)
noncomputable def Fi_NoteOk:FSem := fun ys => match ys with
 | [.val true [.int .i64 a0,.int .i64 a1,.sl .any 9 .str a2,.sl .any 64 (.pair .str (.pair .bool (.sl 3 (.int .i64)))) a3]] => some ((g_Ai_NoteOk a0 a1 a2 a3),.val false [.bool (g_Vi_NoteOk_0 a0 a1 a2 a3)],[])
 | _ => none
theorem vi_NoteOk (a0:Int) (a1:Int) (a2:List ByteArray) (a3:List (ByteArray×(Bool×(List Int)))):collapseH .std Ei_NoteOk Oi_NoteOk_0 (execFn Ei_NoteOk Tryd.f27 msi_NoteOk [.val true [.int .i64 a0,.int .i64 a1,.sl .any 9 .str a2,.sl .any 64 (.pair .str (.pair .bool (.sl 3 (.int .i64)))) a3]]) = some ((g_Ai_NoteOk a0 a1 a2 a3),.val false [.bool (g_Vi_NoteOk_0 a0 a1 a2 a3)],[]) := by kernel_rfl
theorem si_NoteOk:Sound Tryd.prog 27 msi_NoteOk Fi_NoteOk := by
 refine fn_gen goodi_NoteOk (by kernel_rfl) .std (fn := Tryd.f27) (c := (Tryd.f27.body.getD .skip)) (o := Oi_NoteOk_0) (k := 0) (by kernel_rfl) (by kernel_rfl) (by kernel_rfl) (by kernel_rfl) (by decide) ki_NoteOk_0 ?_
 intro ys r outs h
 unfold Fi_NoteOk at h
 split at h
 ·exact (vi_NoteOk _ _ _ _).trans h
 ·cases h
noncomputable def Ei_DiskOk_1:Env where
 tt := mkTI Tryd.prog
 fn := fun f => match f with
  | 27 => some (msi_NoteOk,FSem.wk msi_NoteOk Fi_NoteOk)
  | _ => none
 bxf := fun _ => none
 mv := []
 keep := fun _ => []
 keepB := fun _ => []
 keepX := fun _ => []
 keepXB := fun _ => []
theorem goodFi_DiskOk_1:∀ f ms F,Ei_DiskOk_1.fn f = some (ms,F) → Sound Tryd.prog f ms F := fun f ms F h => by
 unfold Ei_DiskOk_1 at h
 dsimp only at h
 split at h
 ·injection h with h; injection h with e1 e2; subst e1 e2; exact Sound.wk si_NoteOk
 ·cases h
theorem goodBi_DiskOk_1:∀ f ms F,Ei_DiskOk_1.bxf f = some (ms,F) → SoundB Tryd.prog f ms F := fun f ms F h => by cases h
theorem goodi_DiskOk_1:Good Tryd.prog Ei_DiskOk_1 := ⟨rfl,goodFi_DiskOk_1,goodBi_DiskOk_1⟩
noncomputable def Oi_DiskOk_1_0:Orc := fun _ _ => none
noncomputable def msi_DiskOk_1:List PM := [.rd]
noncomputable def lsi_DiskOk_1:List (Nat×Code) := loopsAll 0 (Tryd.f26.body.getD .skip)
theorem ki_DiskOk_1_0:OrcOk Ei_DiskOk_1 Oi_DiskOk_1_0 lsi_DiskOk_1 0 := orcOk_none
noncomputable def g_Ai_DiskOk_1 (a0:Int) (a1:Int) (a2:List ByteArray) (a3:List (ByteArray×(Bool×(List Int)))):Bool := g_Ai_NoteOk a0 a1 a2 a3
noncomputable def Fi_DiskOk_1:FSem := fun ys => match ys with
 | [.val true [.int .i64 a0,.int .i64 a1,.sl .any 9 .str a2,.sl .any 64 (.pair .str (.pair .bool (.sl 3 (.int .i64)))) a3]] => some ((g_Ai_DiskOk_1 a0 a1 a2 a3),.val false [.bool (!g_Vi_NoteOk_0 a0 a1 a2 a3)],[])
 | _ => none
theorem vi_DiskOk_1 (a0:Int) (a1:Int) (a2:List ByteArray) (a3:List (ByteArray×(Bool×(List Int)))):collapseH .std Ei_DiskOk_1 Oi_DiskOk_1_0 (execFn Ei_DiskOk_1 Tryd.f26 msi_DiskOk_1 [.val true [.int .i64 a0,.int .i64 a1,.sl .any 9 .str a2,.sl .any 64 (.pair .str (.pair .bool (.sl 3 (.int .i64)))) a3]]) = some ((g_Ai_DiskOk_1 a0 a1 a2 a3),.val false [.bool (!g_Vi_NoteOk_0 a0 a1 a2 a3)],[]) := by kernel_rfl
theorem si_DiskOk_1:Sound Tryd.prog 26 msi_DiskOk_1 Fi_DiskOk_1 := by
 refine fn_gen goodi_DiskOk_1 (by kernel_rfl) .std (fn := Tryd.f26) (c := (Tryd.f26.body.getD .skip)) (o := Oi_DiskOk_1_0) (k := 0) (by kernel_rfl) (by kernel_rfl) (by kernel_rfl) (by kernel_rfl) (by decide) ki_DiskOk_1_0 ?_
 intro ys r outs h
 unfold Fi_DiskOk_1 at h
 split at h
 ·exact (vi_DiskOk_1 _ _ _ _).trans h
 ·cases h
noncomputable def Eslices_IndexFunc_i_LogNote_i_LogNote__i_DiskOk_1:Env where
 tt := mkTI Tryd.prog
 fn := fun f => match f with
  | 26 => some (msi_DiskOk_1,FSem.wk msi_DiskOk_1 Fi_DiskOk_1)
  | _ => none
 bxf := fun _ => none
 mv := []
 keep := fun b => match b with
  | 0 => [(0,false),(1,false),(7,false),(8,false)]
  | _ => []
 keepB := fun b => match b with
  | 0 => []
  | _ => []
 keepX := fun b => match b with
  | 0 => [(4,false)]
  | _ => []
 keepXB := fun b => match b with
  | 0 => []
  | _ => []
theorem goodFslices_IndexFunc_i_LogNote_i_LogNote__i_DiskOk_1:∀ f ms F,Eslices_IndexFunc_i_LogNote_i_LogNote__i_DiskOk_1.fn f = some (ms,F) → Sound Tryd.prog f ms F := fun f ms F h => by
 unfold Eslices_IndexFunc_i_LogNote_i_LogNote__i_DiskOk_1 at h
 dsimp only at h
 split at h
 ·injection h with h; injection h with e1 e2; subst e1 e2; exact Sound.wk si_DiskOk_1
 ·cases h
theorem goodBslices_IndexFunc_i_LogNote_i_LogNote__i_DiskOk_1:∀ f ms F,Eslices_IndexFunc_i_LogNote_i_LogNote__i_DiskOk_1.bxf f = some (ms,F) → SoundB Tryd.prog f ms F := fun f ms F h => by cases h
theorem goodslices_IndexFunc_i_LogNote_i_LogNote__i_DiskOk_1:Good Tryd.prog Eslices_IndexFunc_i_LogNote_i_LogNote__i_DiskOk_1 := ⟨rfl,goodFslices_IndexFunc_i_LogNote_i_LogNote__i_DiskOk_1,goodBslices_IndexFunc_i_LogNote_i_LogNote__i_DiskOk_1⟩
noncomputable def Oslices_IndexFunc_i_LogNote_i_LogNote__i_DiskOk_1_0:Orc := fun _ _ => none
noncomputable def msslices_IndexFunc_i_LogNote_i_LogNote__i_DiskOk_1:List PM := [.rd,.rd]
noncomputable def lsslices_IndexFunc_i_LogNote_i_LogNote__i_DiskOk_1:List (Nat×Code) := loopsAll 0 (Tryd.f51.body.getD .skip)
noncomputable def cslices_IndexFunc_i_LogNote_i_LogNote__i_DiskOk_1_0:Code := (loopOf 0 (Tryd.f51.body.getD .skip)).getD .skip
theorem lseqslices_IndexFunc_i_LogNote_i_LogNote__i_DiskOk_1:lsslices_IndexFunc_i_LogNote_i_LogNote__i_DiskOk_1 = [(0,cslices_IndexFunc_i_LogNote_i_LogNote__i_DiskOk_1_0)] := by kernel_rfl
theorem mslices_IndexFunc_i_LogNote_i_LogNote__i_DiskOk_1_0:∀ p,p ∈ lsslices_IndexFunc_i_LogNote_i_LogNote__i_DiskOk_1 → p.1 = 0 → p.2 = cslices_IndexFunc_i_LogNote_i_LogNote__i_DiskOk_1_0 := by
 intro p hp
 rw [lseqslices_IndexFunc_i_LogNote_i_LogNote__i_DiskOk_1] at hp
 simp only [List.mem_cons,List.not_mem_nil,or_false] at hp
 subst hp; simp
theorem kslices_IndexFunc_i_LogNote_i_LogNote__i_DiskOk_1_0:OrcOk Eslices_IndexFunc_i_LogNote_i_LogNote__i_DiskOk_1 Oslices_IndexFunc_i_LogNote_i_LogNote__i_DiskOk_1_0 lsslices_IndexFunc_i_LogNote_i_LogNote__i_DiskOk_1 0 := orcOk_none
noncomputable def hslices_IndexFunc_i_LogNote_i_LogNote__i_DiskOk_1_0 (y0:List (Int×(Int×((List ByteArray)×(List (ByteArray×(Bool×(List Int)))))))) (y1:Int) (y2:Int):List (Pl×LV) := [(.T 0,.t (.val false [.sl .any 43 (.pair (.int .i64) (.pair (.int .i64) (.pair (.sl 9 .str) (.sl 64 (.pair .str (.pair .bool (.sl 3 (.int .i64)))))))) y0])),(.T 1,.t (.val false [.fn 26 []])),(.T 7,.t (.val false [.int .i64 y1])),(.T 8,.t (.val false [.int .i64 y2]))]
noncomputable def g_Sslices_IndexFunc_i_LogNote_i_LogNote__i_DiskOk_1_0 (y0:List (Int×(Int×((List ByteArray)×(List (ByteArray×(Bool×(List Int)))))))) (y1:Int):(Int) → RT (Int) ((Int) ⊕ (Unit))
 | y2 => .br (true) (.br (decide (y2 < y1)) (.br (decide ((0:Int) ≤ y2 ∧ y2 < (↑(List.length y0):Int))) (.br (g_Ai_DiskOk_1 (at_ (Ty.pair (Ty.int IntKind.i64) (Ty.pair (Ty.int IntKind.i64) (Ty.pair (Ty.sl (nat_lit 9) Ty.str) (Ty.sl (nat_lit 64) (Ty.pair Ty.str (Ty.pair Ty.bool (Ty.sl (nat_lit 3) (Ty.int IntKind.i64)))))))) y0 (Int.toNat y2)).1 (at_ (Ty.pair (Ty.int IntKind.i64) (Ty.pair (Ty.int IntKind.i64) (Ty.pair (Ty.sl (nat_lit 9) Ty.str) (Ty.sl (nat_lit 64) (Ty.pair Ty.str (Ty.pair Ty.bool (Ty.sl (nat_lit 3) (Ty.int IntKind.i64)))))))) y0 (Int.toNat y2)).2.1 (at_ (Ty.pair (Ty.int IntKind.i64) (Ty.pair (Ty.int IntKind.i64) (Ty.pair (Ty.sl (nat_lit 9) Ty.str) (Ty.sl (nat_lit 64) (Ty.pair Ty.str (Ty.pair Ty.bool (Ty.sl (nat_lit 3) (Ty.int IntKind.i64)))))))) y0 (Int.toNat y2)).2.2.1 (at_ (Ty.pair (Ty.int IntKind.i64) (Ty.pair (Ty.int IntKind.i64) (Ty.pair (Ty.sl (nat_lit 9) Ty.str) (Ty.sl (nat_lit 64) (Ty.pair Ty.str (Ty.pair Ty.bool (Ty.sl (nat_lit 3) (Ty.int IntKind.i64)))))))) y0 (Int.toNat y2)).2.2.2) (.br (!g_Vi_NoteOk_0 (at_ (Ty.pair (Ty.int IntKind.i64) (Ty.pair (Ty.int IntKind.i64) (Ty.pair (Ty.sl (nat_lit 9) Ty.str) (Ty.sl (nat_lit 64) (Ty.pair Ty.str (Ty.pair Ty.bool (Ty.sl (nat_lit 3) (Ty.int IntKind.i64)))))))) y0 (Int.toNat y2)).1 (at_ (Ty.pair (Ty.int IntKind.i64) (Ty.pair (Ty.int IntKind.i64) (Ty.pair (Ty.sl (nat_lit 9) Ty.str) (Ty.sl (nat_lit 64) (Ty.pair Ty.str (Ty.pair Ty.bool (Ty.sl (nat_lit 3) (Ty.int IntKind.i64)))))))) y0 (Int.toNat y2)).2.1 (at_ (Ty.pair (Ty.int IntKind.i64) (Ty.pair (Ty.int IntKind.i64) (Ty.pair (Ty.sl (nat_lit 9) Ty.str) (Ty.sl (nat_lit 64) (Ty.pair Ty.str (Ty.pair Ty.bool (Ty.sl (nat_lit 3) (Ty.int IntKind.i64)))))))) y0 (Int.toNat y2)).2.2.1 (at_ (Ty.pair (Ty.int IntKind.i64) (Ty.pair (Ty.int IntKind.i64) (Ty.pair (Ty.sl (nat_lit 9) Ty.str) (Ty.sl (nat_lit 64) (Ty.pair Ty.str (Ty.pair Ty.bool (Ty.sl (nat_lit 3) (Ty.int IntKind.i64)))))))) y0 (Int.toNat y2)).2.2.2) (.out (.inl y2)) (.br (true) (.go (IntKind.wrap IntKind.i64 (y2 + (1:Int)))) .bad)) .bad) .bad) (.out (.inr (())))) .bad
noncomputable def g_Lslices_IndexFunc_i_LogNote_i_LogNote__i_DiskOk_1_0 (y0:List (Int×(Int×((List ByteArray)×(List (ByteArray×(Bool×(List Int)))))))) (y1:Int) (x:Int):Option ((Int) ⊕ (Unit)) := loopO (g_Sslices_IndexFunc_i_LogNote_i_LogNote__i_DiskOk_1_0 y0 y1) x
noncomputable def xslices_IndexFunc_i_LogNote_i_LogNote__i_DiskOk_1_0 (y0:List (Int×(Int×((List ByteArray)×(List (ByteArray×(Bool×(List Int)))))))) (y1:Int):((Int) ⊕ (Unit)) → Ex×List (Pl×LV) := fun
 | .inl r => (.ret,[(.T 4,.t (.val false [.int .i64 r]))])
 | .inr (r) => (.exit 0,[(.T 4,.t (.val false [.undef]))])
noncomputable def Oslices_IndexFunc_i_LogNote_i_LogNote__i_DiskOk_1_1:Orc := fun b h => match b,h with
 | 0,[(.T 0,.t (.val false [.sl .any 43 (.pair (.int .i64) (.pair (.int .i64) (.pair (.sl 9 .str) (.sl 64 (.pair .str (.pair .bool (.sl 3 (.int .i64)))))))) y0])),(.T 1,.t (.val false [.fn 26 []])),(.T 7,.t (.val false [.int .i64 y1])),(.T 8,.t (.val false [.int .i64 y2]))] => some (okO (g_Lslices_IndexFunc_i_LogNote_i_LogNote__i_DiskOk_1_0 y0 y1 y2),(.br (isL (valO (g_Lslices_IndexFunc_i_LogNote_i_LogNote__i_DiskOk_1_0 y0 y1 y2))) (.leaf .ret [(.T 4,.t (.val false [.int .i64 (getL (valO (g_Lslices_IndexFunc_i_LogNote_i_LogNote__i_DiskOk_1_0 y0 y1 y2)))]))]) (.leaf (.exit 0) [(.T 4,.t (.val false [.undef]))])))
 | b,h => Oslices_IndexFunc_i_LogNote_i_LogNote__i_DiskOk_1_0 b h
theorem bslices_IndexFunc_i_LogNote_i_LogNote__i_DiskOk_1_0 (y0:List (Int×(Int×((List ByteArray)×(List (ByteArray×(Bool×(List Int)))))))) (y1:Int) (y2:Int):Tr.bt Eslices_IndexFunc_i_LogNote_i_LogNote__i_DiskOk_1 Oslices_IndexFunc_i_LogNote_i_LogNote__i_DiskOk_1_0 (exec Eslices_IndexFunc_i_LogNote_i_LogNote__i_DiskOk_1 0 cslices_IndexFunc_i_LogNote_i_LogNote__i_DiskOk_1_0 (St.of (hslices_IndexFunc_i_LogNote_i_LogNote__i_DiskOk_1_0 y0 y1 y2)) (leafRd Eslices_IndexFunc_i_LogNote_i_LogNote__i_DiskOk_1 0)) = (g_Sslices_IndexFunc_i_LogNote_i_LogNote__i_DiskOk_1_0 y0 y1 y2).bt (fun (y2:Int) => (hslices_IndexFunc_i_LogNote_i_LogNote__i_DiskOk_1_0 y0 y1 y2)) (xslices_IndexFunc_i_LogNote_i_LogNote__i_DiskOk_1_0 y0 y1) := by kernel_rfl
theorem kslices_IndexFunc_i_LogNote_i_LogNote__i_DiskOk_1_1:OrcOk Eslices_IndexFunc_i_LogNote_i_LogNote__i_DiskOk_1 Oslices_IndexFunc_i_LogNote_i_LogNote__i_DiskOk_1_1 lsslices_IndexFunc_i_LogNote_i_LogNote__i_DiskOk_1 1 := orc_add kslices_IndexFunc_i_LogNote_i_LogNote__i_DiskOk_1_0 (fun n p hp h ex h' ho => by
 obtain ⟨b,c⟩ := p
 obtain ⟨xt,h1,h2⟩ := ho
 have h1:Oslices_IndexFunc_i_LogNote_i_LogNote__i_DiskOk_1_1 b h = some (true,xt) := h1
 unfold Oslices_IndexFunc_i_LogNote_i_LogNote__i_DiskOk_1_1 at h1
 split at h1
 ·injection h1 with h1
  injection h1 with e1 e2
  subst e2
  have hc:c = cslices_IndexFunc_i_LogNote_i_LogNote__i_DiskOk_1_0 := mslices_IndexFunc_i_LogNote_i_LogNote__i_DiskOk_1_0 _ hp rfl
  subst hc
  right
  rename_i y0 y1 y2
  have key := LT_step kslices_IndexFunc_i_LogNote_i_LogNote__i_DiskOk_1_0 hp (fun q hq => loopsAll_in _ _ _ _ hp hq) (fun (y2:Int) => (hslices_IndexFunc_i_LogNote_i_LogNote__i_DiskOk_1_0 y0 y1 y2)) (xslices_IndexFunc_i_LogNote_i_LogNote__i_DiskOk_1_0 y0 y1) (g_Sslices_IndexFunc_i_LogNote_i_LogNote__i_DiskOk_1_0 y0 y1) (fun x => by first | exact bslices_IndexFunc_i_LogNote_i_LogNote__i_DiskOk_1_0 y0 y1 x) n (x := y2) (okO_some e1)
  have hx:∀ r,XT.sel (.br (isL r) (.leaf .ret [(.T 4,.t (.val false [.int .i64 (getL r)]))]) (.leaf (.exit 0) [(.T 4,.t (.val false [.undef]))])) = xslices_IndexFunc_i_LogNote_i_LogNote__i_DiskOk_1_0 y0 y1 r := fun r => by first | rfl | (rcases r with r | r <;> rfl) | (rcases r with r | r | r <;> rfl) | (rcases r with r | r | r | r <;> rfl)
  have h3 := (hx (valO (g_Lslices_IndexFunc_i_LogNote_i_LogNote__i_DiskOk_1_0 y0 y1 y2))).symm.trans h2
  have e3 := congrArg Prod.fst h3
  have e4 := congrArg Prod.snd h3
  simp only at e3 e4
  rw [← e3,← e4]
  exact key
 ·exact .inl ⟨xt,h1,h2⟩)
noncomputable def g_Aslices_IndexFunc_i_LogNote_i_LogNote__i_DiskOk_1 (a0:List (Int×(Int×((List ByteArray)×(List (ByteArray×(Bool×(List Int)))))))):Bool := okO (g_Lslices_IndexFunc_i_LogNote_i_LogNote__i_DiskOk_1_0 a0 (↑(List.length a0):Int) (0:Int))
noncomputable def g_Vslices_IndexFunc_i_LogNote_i_LogNote__i_DiskOk_1_0 (a0:List (Int×(Int×((List ByteArray)×(List (ByteArray×(Bool×(List Int)))))))):Int := bif isL (valO (g_Lslices_IndexFunc_i_LogNote_i_LogNote__i_DiskOk_1_0 a0 (↑(List.length a0):Int) (0:Int))) then getL (valO (g_Lslices_IndexFunc_i_LogNote_i_LogNote__i_DiskOk_1_0 a0 (↑(List.length a0):Int) (0:Int))) else (-1:Int)
noncomputable def Fslices_IndexFunc_i_LogNote_i_LogNote__i_DiskOk_1:FSem := fun ys => match ys with
 | [.val false [.sl .any 43 (.pair (.int .i64) (.pair (.int .i64) (.pair (.sl 9 .str) (.sl 64 (.pair .str (.pair .bool (.sl 3 (.int .i64)))))))) a0],.val false [.fn 26 []]] => some ((g_Aslices_IndexFunc_i_LogNote_i_LogNote__i_DiskOk_1 a0),.val false [.int .i64 (g_Vslices_IndexFunc_i_LogNote_i_LogNote__i_DiskOk_1_0 a0)],[])
 | _ => none
theorem vslices_IndexFunc_i_LogNote_i_LogNote__i_DiskOk_1 (a0:List (Int×(Int×((List ByteArray)×(List (ByteArray×(Bool×(List Int)))))))):collapseH .std Eslices_IndexFunc_i_LogNote_i_LogNote__i_DiskOk_1 Oslices_IndexFunc_i_LogNote_i_LogNote__i_DiskOk_1_1 (execFn Eslices_IndexFunc_i_LogNote_i_LogNote__i_DiskOk_1 Tryd.f51 msslices_IndexFunc_i_LogNote_i_LogNote__i_DiskOk_1 [.val false [.sl .any 43 (.pair (.int .i64) (.pair (.int .i64) (.pair (.sl 9 .str) (.sl 64 (.pair .str (.pair .bool (.sl 3 (.int .i64)))))))) a0],.val false [.fn 26 []]]) = some ((g_Aslices_IndexFunc_i_LogNote_i_LogNote__i_DiskOk_1 a0),.val false [.int .i64 (g_Vslices_IndexFunc_i_LogNote_i_LogNote__i_DiskOk_1_0 a0)],[]) := by kernel_rfl
theorem sslices_IndexFunc_i_LogNote_i_LogNote__i_DiskOk_1:Sound Tryd.prog 51 msslices_IndexFunc_i_LogNote_i_LogNote__i_DiskOk_1 Fslices_IndexFunc_i_LogNote_i_LogNote__i_DiskOk_1 := by
 refine fn_gen goodslices_IndexFunc_i_LogNote_i_LogNote__i_DiskOk_1 (by kernel_rfl) .std (fn := Tryd.f51) (c := (Tryd.f51.body.getD .skip)) (o := Oslices_IndexFunc_i_LogNote_i_LogNote__i_DiskOk_1_1) (k := 1) (by kernel_rfl) (by kernel_rfl) (by kernel_rfl) (by kernel_rfl) (by decide) kslices_IndexFunc_i_LogNote_i_LogNote__i_DiskOk_1_1 ?_
 intro ys r outs h
 unfold Fslices_IndexFunc_i_LogNote_i_LogNote__i_DiskOk_1 at h
 split at h
 ·exact (vslices_IndexFunc_i_LogNote_i_LogNote__i_DiskOk_1 _).trans h
 ·cases h
noncomputable def Eslices_ContainsFunc_i_LogNote_i_LogNote__i_DiskOk_1:Env where
 tt := mkTI Tryd.prog
 fn := fun f => match f with
  | 26 => some (msi_DiskOk_1,FSem.wk msi_DiskOk_1 Fi_DiskOk_1)
  | 51 => some (msslices_IndexFunc_i_LogNote_i_LogNote__i_DiskOk_1,FSem.wk msslices_IndexFunc_i_LogNote_i_LogNote__i_DiskOk_1 Fslices_IndexFunc_i_LogNote_i_LogNote__i_DiskOk_1)
  | _ => none
 bxf := fun _ => none
 mv := []
 keep := fun _ => []
 keepB := fun _ => []
 keepX := fun _ => []
 keepXB := fun _ => []
theorem goodFslices_ContainsFunc_i_LogNote_i_LogNote__i_DiskOk_1:∀ f ms F,Eslices_ContainsFunc_i_LogNote_i_LogNote__i_DiskOk_1.fn f = some (ms,F) → Sound Tryd.prog f ms F := fun f ms F h => by
 unfold Eslices_ContainsFunc_i_LogNote_i_LogNote__i_DiskOk_1 at h
 dsimp only at h
 split at h
 ·injection h with h; injection h with e1 e2; subst e1 e2; exact Sound.wk si_DiskOk_1
 ·injection h with h; injection h with e1 e2; subst e1 e2; exact Sound.wk sslices_IndexFunc_i_LogNote_i_LogNote__i_DiskOk_1
 ·cases h
theorem goodBslices_ContainsFunc_i_LogNote_i_LogNote__i_DiskOk_1:∀ f ms F,Eslices_ContainsFunc_i_LogNote_i_LogNote__i_DiskOk_1.bxf f = some (ms,F) → SoundB Tryd.prog f ms F := fun f ms F h => by cases h
theorem goodslices_ContainsFunc_i_LogNote_i_LogNote__i_DiskOk_1:Good Tryd.prog Eslices_ContainsFunc_i_LogNote_i_LogNote__i_DiskOk_1 := ⟨rfl,goodFslices_ContainsFunc_i_LogNote_i_LogNote__i_DiskOk_1,goodBslices_ContainsFunc_i_LogNote_i_LogNote__i_DiskOk_1⟩
noncomputable def Oslices_ContainsFunc_i_LogNote_i_LogNote__i_DiskOk_1_0:Orc := fun _ _ => none
noncomputable def msslices_ContainsFunc_i_LogNote_i_LogNote__i_DiskOk_1:List PM := [.rd,.rd]
noncomputable def lsslices_ContainsFunc_i_LogNote_i_LogNote__i_DiskOk_1:List (Nat×Code) := loopsAll 0 (Tryd.f28.body.getD .skip)
theorem kslices_ContainsFunc_i_LogNote_i_LogNote__i_DiskOk_1_0:OrcOk Eslices_ContainsFunc_i_LogNote_i_LogNote__i_DiskOk_1 Oslices_ContainsFunc_i_LogNote_i_LogNote__i_DiskOk_1_0 lsslices_ContainsFunc_i_LogNote_i_LogNote__i_DiskOk_1 0 := orcOk_none
noncomputable def g_Aslices_ContainsFunc_i_LogNote_i_LogNote__i_DiskOk_1 (a0:List (Int×(Int×((List ByteArray)×(List (ByteArray×(Bool×(List Int)))))))):Bool := g_Aslices_IndexFunc_i_LogNote_i_LogNote__i_DiskOk_1 a0&&true
noncomputable def g_Vslices_ContainsFunc_i_LogNote_i_LogNote__i_DiskOk_1_0 (a0:List (Int×(Int×((List ByteArray)×(List (ByteArray×(Bool×(List Int)))))))):Bool := decide (g_Vslices_IndexFunc_i_LogNote_i_LogNote__i_DiskOk_1_0 a0 ≥ (0:Int))
noncomputable def Fslices_ContainsFunc_i_LogNote_i_LogNote__i_DiskOk_1:FSem := fun ys => match ys with
 | [.val false [.sl .any 43 (.pair (.int .i64) (.pair (.int .i64) (.pair (.sl 9 .str) (.sl 64 (.pair .str (.pair .bool (.sl 3 (.int .i64)))))))) a0],.val false [.fn 26 []]] => some ((g_Aslices_ContainsFunc_i_LogNote_i_LogNote__i_DiskOk_1 a0),.val false [.bool (g_Vslices_ContainsFunc_i_LogNote_i_LogNote__i_DiskOk_1_0 a0)],[])
 | _ => none
theorem vslices_ContainsFunc_i_LogNote_i_LogNote__i_DiskOk_1 (a0:List (Int×(Int×((List ByteArray)×(List (ByteArray×(Bool×(List Int)))))))):collapseH .std Eslices_ContainsFunc_i_LogNote_i_LogNote__i_DiskOk_1 Oslices_ContainsFunc_i_LogNote_i_LogNote__i_DiskOk_1_0 (execFn Eslices_ContainsFunc_i_LogNote_i_LogNote__i_DiskOk_1 Tryd.f28 msslices_ContainsFunc_i_LogNote_i_LogNote__i_DiskOk_1 [.val false [.sl .any 43 (.pair (.int .i64) (.pair (.int .i64) (.pair (.sl 9 .str) (.sl 64 (.pair .str (.pair .bool (.sl 3 (.int .i64)))))))) a0],.val false [.fn 26 []]]) = some ((g_Aslices_ContainsFunc_i_LogNote_i_LogNote__i_DiskOk_1 a0),.val false [.bool (g_Vslices_ContainsFunc_i_LogNote_i_LogNote__i_DiskOk_1_0 a0)],[]) := by kernel_rfl
theorem sslices_ContainsFunc_i_LogNote_i_LogNote__i_DiskOk_1:Sound Tryd.prog 28 msslices_ContainsFunc_i_LogNote_i_LogNote__i_DiskOk_1 Fslices_ContainsFunc_i_LogNote_i_LogNote__i_DiskOk_1 := by
 refine fn_gen goodslices_ContainsFunc_i_LogNote_i_LogNote__i_DiskOk_1 (by kernel_rfl) .std (fn := Tryd.f28) (c := (Tryd.f28.body.getD .skip)) (o := Oslices_ContainsFunc_i_LogNote_i_LogNote__i_DiskOk_1_0) (k := 0) (by kernel_rfl) (by kernel_rfl) (by kernel_rfl) (by kernel_rfl) (by decide) kslices_ContainsFunc_i_LogNote_i_LogNote__i_DiskOk_1_0 ?_
 intro ys r outs h
 unfold Fslices_ContainsFunc_i_LogNote_i_LogNote__i_DiskOk_1 at h
 split at h
 ·exact (vslices_ContainsFunc_i_LogNote_i_LogNote__i_DiskOk_1 _).trans h
 ·cases h
noncomputable def Ei_DiskOk:Env where
 tt := mkTI Tryd.prog
 fn := fun f => match f with
  | 28 => some (msslices_ContainsFunc_i_LogNote_i_LogNote__i_DiskOk_1,FSem.wk msslices_ContainsFunc_i_LogNote_i_LogNote__i_DiskOk_1 Fslices_ContainsFunc_i_LogNote_i_LogNote__i_DiskOk_1)
  | 29 => some (msi_in,FSem.wk msi_in Fi_in)
  | _ => none
 bxf := fun _ => none
 mv := []
 keep := fun _ => []
 keepB := fun _ => []
 keepX := fun _ => []
 keepXB := fun _ => []
theorem goodFi_DiskOk:∀ f ms F,Ei_DiskOk.fn f = some (ms,F) → Sound Tryd.prog f ms F := fun f ms F h => by
 unfold Ei_DiskOk at h
 dsimp only at h
 split at h
 ·injection h with h; injection h with e1 e2; subst e1 e2; exact Sound.wk sslices_ContainsFunc_i_LogNote_i_LogNote__i_DiskOk_1
 ·injection h with h; injection h with e1 e2; subst e1 e2; exact Sound.wk si_in
 ·cases h
theorem goodBi_DiskOk:∀ f ms F,Ei_DiskOk.bxf f = some (ms,F) → SoundB Tryd.prog f ms F := fun f ms F h => by cases h
theorem goodi_DiskOk:Good Tryd.prog Ei_DiskOk := ⟨rfl,goodFi_DiskOk,goodBi_DiskOk⟩
noncomputable def Oi_DiskOk_0:Orc := fun _ _ => none
noncomputable def msi_DiskOk:List PM := [.rd]
noncomputable def lsi_DiskOk:List (Nat×Code) := loopsAll 0 (Tryd.f15.body.getD .skip)
theorem ki_DiskOk_0:OrcOk Ei_DiskOk Oi_DiskOk_0 lsi_DiskOk 0 := orcOk_none
noncomputable def g_Ai_DiskOk (a0:List (Int×(Int×((List ByteArray)×(List (ByteArray×(Bool×(List Int)))))))) (a1:Int):Bool := !decide ((↑(List.length a0):Int) ≤ (120:Int)) || g_Aslices_ContainsFunc_i_LogNote_i_LogNote__i_DiskOk_1 a0&&(!!g_Vslices_ContainsFunc_i_LogNote_i_LogNote__i_DiskOk_1_0 a0 || g_Ai_in a1 (0:Int) (↑(List.length a0):Int))
noncomputable def g_Vi_DiskOk_0 (a0:List (Int×(Int×((List ByteArray)×(List (ByteArray×(Bool×(List Int)))))))) (a1:Int):Bool := bif decide ((↑(List.length a0):Int) ≤ (120:Int)) then bif !g_Vslices_ContainsFunc_i_LogNote_i_LogNote__i_DiskOk_1_0 a0 then g_Vi_in_0 a1 (0:Int) (↑(List.length a0):Int) else false else false
noncomputable def Fi_DiskOk:FSem := fun ys => match ys with
 | [.val true [.sl .any 43 (.pair (.int .i64) (.pair (.int .i64) (.pair (.sl 9 .str) (.sl 64 (.pair .str (.pair .bool (.sl 3 (.int .i64)))))))) a0,.int .i64 a1]] => some ((g_Ai_DiskOk a0 a1),.val false [.bool (g_Vi_DiskOk_0 a0 a1)],[])
 | _ => none
theorem vi_DiskOk (a0:List (Int×(Int×((List ByteArray)×(List (ByteArray×(Bool×(List Int)))))))) (a1:Int):collapseH .std Ei_DiskOk Oi_DiskOk_0 (execFn Ei_DiskOk Tryd.f15 msi_DiskOk [.val true [.sl .any 43 (.pair (.int .i64) (.pair (.int .i64) (.pair (.sl 9 .str) (.sl 64 (.pair .str (.pair .bool (.sl 3 (.int .i64)))))))) a0,.int .i64 a1]]) = some ((g_Ai_DiskOk a0 a1),.val false [.bool (g_Vi_DiskOk_0 a0 a1)],[]) := by kernel_rfl
theorem si_DiskOk:Sound Tryd.prog 15 msi_DiskOk Fi_DiskOk := by
 refine fn_gen goodi_DiskOk (by kernel_rfl) .std (fn := Tryd.f15) (c := (Tryd.f15.body.getD .skip)) (o := Oi_DiskOk_0) (k := 0) (by kernel_rfl) (by kernel_rfl) (by kernel_rfl) (by kernel_rfl) (by decide) ki_DiskOk_0 ?_
 intro ys r outs h
 unfold Fi_DiskOk at h
 split at h
 ·exact (vi_DiskOk _ _).trans h
 ·cases h
noncomputable def Eslices_Clone_int_int_a:Env where
 tt := mkTI Tryd.prog
 fn := fun _ => none
 bxf := fun _ => none
 mv := []
 keep := fun _ => []
 keepB := fun _ => []
 keepX := fun _ => []
 keepXB := fun _ => []
theorem goodFslices_Clone_int_int_a:∀ f ms F,Eslices_Clone_int_int_a.fn f = some (ms,F) → Sound Tryd.prog f ms F := fun f ms F h => by cases h
theorem goodBslices_Clone_int_int_a:∀ f ms F,Eslices_Clone_int_int_a.bxf f = some (ms,F) → SoundB Tryd.prog f ms F := fun f ms F h => by cases h
theorem goodslices_Clone_int_int_a:Good Tryd.prog Eslices_Clone_int_int_a := ⟨rfl,goodFslices_Clone_int_int_a,goodBslices_Clone_int_int_a⟩
noncomputable def Oslices_Clone_int_int_a_0:Orc := fun _ _ => none
noncomputable def msslices_Clone_int_int_a:List PM := [.rd]
noncomputable def lsslices_Clone_int_int_a:List (Nat×Code) := loopsAll 0 (Tryd.f67.body.getD .skip)
theorem kslices_Clone_int_int_a_0:OrcOk Eslices_Clone_int_int_a Oslices_Clone_int_int_a_0 lsslices_Clone_int_int_a 0 := orcOk_none
noncomputable def g_Vslices_Clone_int_int_a_0:List Int := []
noncomputable def Fslices_Clone_int_int_a:FSem := fun ys => match ys with
 | [.val false [.nil 3 (.int .i64)]] => some (true,.val false [.own .any true 3 (.int .i64) g_Vslices_Clone_int_int_a_0],[])
 | _ => none
theorem vslices_Clone_int_int_a:collapseH .std Eslices_Clone_int_int_a Oslices_Clone_int_int_a_0 (execFn Eslices_Clone_int_int_a Tryd.f67 msslices_Clone_int_int_a [.val false [.nil 3 (.int .i64)]]) = some (true,.val false [.own .any true 3 (.int .i64) g_Vslices_Clone_int_int_a_0],[]) := by kernel_rfl
theorem sslices_Clone_int_int_a:Sound Tryd.prog 67 msslices_Clone_int_int_a Fslices_Clone_int_int_a := by
 refine fn_gen goodslices_Clone_int_int_a (by kernel_rfl) .std (fn := Tryd.f67) (c := (Tryd.f67.body.getD .skip)) (o := Oslices_Clone_int_int_a_0) (k := 0) (by kernel_rfl) (by kernel_rfl) (by kernel_rfl) (by kernel_rfl) (by decide) kslices_Clone_int_int_a_0 ?_
 intro ys r outs h
 unfold Fslices_Clone_int_int_a at h
 split at h
 ·exact (vslices_Clone_int_int_a).trans h
 ·cases h
noncomputable def Eslices_Clone_int_int_b:Env where
 tt := mkTI Tryd.prog
 fn := fun _ => none
 bxf := fun _ => none
 mv := []
 keep := fun _ => []
 keepB := fun _ => []
 keepX := fun _ => []
 keepXB := fun _ => []
theorem goodFslices_Clone_int_int_b:∀ f ms F,Eslices_Clone_int_int_b.fn f = some (ms,F) → Sound Tryd.prog f ms F := fun f ms F h => by cases h
theorem goodBslices_Clone_int_int_b:∀ f ms F,Eslices_Clone_int_int_b.bxf f = some (ms,F) → SoundB Tryd.prog f ms F := fun f ms F h => by cases h
theorem goodslices_Clone_int_int_b:Good Tryd.prog Eslices_Clone_int_int_b := ⟨rfl,goodFslices_Clone_int_int_b,goodBslices_Clone_int_int_b⟩
noncomputable def Oslices_Clone_int_int_b_0:Orc := fun _ _ => none
noncomputable def msslices_Clone_int_int_b:List PM := [.rd]
noncomputable def lsslices_Clone_int_int_b:List (Nat×Code) := loopsAll 0 (Tryd.f67.body.getD .skip)
theorem kslices_Clone_int_int_b_0:OrcOk Eslices_Clone_int_int_b Oslices_Clone_int_int_b_0 lsslices_Clone_int_int_b 0 := orcOk_none
noncomputable def g_Aslices_Clone_int_int_b (a0:List Int):Bool := decide ((nat_lit 0 + List.length a0) * nat_lit 8 ≤ nat_lit 140737488355328 ∧ nat_lit 0 + List.length a0 ≤ nat_lit 9223372036854775807)
noncomputable def g_Vslices_Clone_int_int_b_0 (a0:List Int):List Int := [] ++ a0
noncomputable def Fslices_Clone_int_int_b:FSem := fun ys => match ys with
 | [.val false [.sl .non 3 (.int .i64) a0]] => some ((g_Aslices_Clone_int_int_b a0),.val false [.own .any true 3 (.int .i64) (g_Vslices_Clone_int_int_b_0 a0)],[])
 | _ => none
theorem vslices_Clone_int_int_b (a0:List Int):collapseH .std Eslices_Clone_int_int_b Oslices_Clone_int_int_b_0 (execFn Eslices_Clone_int_int_b Tryd.f67 msslices_Clone_int_int_b [.val false [.sl .non 3 (.int .i64) a0]]) = some ((g_Aslices_Clone_int_int_b a0),.val false [.own .any true 3 (.int .i64) (g_Vslices_Clone_int_int_b_0 a0)],[]) := by kernel_rfl
theorem sslices_Clone_int_int_b:Sound Tryd.prog 67 msslices_Clone_int_int_b Fslices_Clone_int_int_b := by
 refine fn_gen goodslices_Clone_int_int_b (by kernel_rfl) .std (fn := Tryd.f67) (c := (Tryd.f67.body.getD .skip)) (o := Oslices_Clone_int_int_b_0) (k := 0) (by kernel_rfl) (by kernel_rfl) (by kernel_rfl) (by kernel_rfl) (by decide) kslices_Clone_int_int_b_0 ?_
 intro ys r outs h
 unfold Fslices_Clone_int_int_b at h
 split at h
 ·exact (vslices_Clone_int_int_b _).trans h
 ·cases h
def msslices_Clone_int_int:List PM := [.rd]
noncomputable def Fslices_Clone_int_int:FSem := fun ys => match ys with
 | [.val false [.sl .any 3 (.int .i64) a0]] => some ((g_Aslices_Clone_int_int_b a0),.val false [.own .any true 3 (.int .i64) a0],[])
 | _ => none
theorem sslices_Clone_int_int:Sound Tryd.prog 67 msslices_Clone_int_int Fslices_Clone_int_int := by
 refine sound_cases (el := 3) (e := (.int .i64)) sslices_Clone_int_int_a sslices_Clone_int_int_b (fun ys r outs h => ?_)
 unfold Fslices_Clone_int_int at h
 split at h
 ·rename_i a0
  simp only [Option.some.injEq,Prod.mk.injEq] at h
  obtain ⟨h1,rfl,rfl⟩ := h
  refine ⟨a0,rfl,fun e => ?_,?_⟩
  ·subst e
   rfl
  ·show some ((g_Aslices_Clone_int_int_b a0),RV.val false [Cell.own .any true 3 (.int .i64) ([] ++ a0)],[]) = _
   rw [h1,List.nil_append]
 ·cases h
noncomputable def Ei_writesOf:Env where
 tt := mkTI Tryd.prog
 fn := fun f => match f with
  | 67 => some (msslices_Clone_int_int,FSem.wk msslices_Clone_int_int Fslices_Clone_int_int)
  | _ => none
 bxf := fun _ => none
 mv := []
 keep := fun b => match b with
  | 0 => [(3,false),(6,false),(7,false),(8,false)]
  | _ => []
 keepB := fun b => match b with
  | 0 => []
  | _ => []
 keepX := fun b => match b with
  | 0 => [(3,false)]
  | _ => []
 keepXB := fun b => match b with
  | 0 => []
  | _ => []
theorem goodFi_writesOf:∀ f ms F,Ei_writesOf.fn f = some (ms,F) → Sound Tryd.prog f ms F := fun f ms F h => by
 unfold Ei_writesOf at h
 dsimp only at h
 split at h
 ·injection h with h; injection h with e1 e2; subst e1 e2; exact Sound.wk sslices_Clone_int_int
 ·cases h
theorem goodBi_writesOf:∀ f ms F,Ei_writesOf.bxf f = some (ms,F) → SoundB Tryd.prog f ms F := fun f ms F h => by cases h
theorem goodi_writesOf:Good Tryd.prog Ei_writesOf := ⟨rfl,goodFi_writesOf,goodBi_writesOf⟩
noncomputable def Oi_writesOf_0:Orc := fun _ _ => none
noncomputable def msi_writesOf:List PM := [.rd]
noncomputable def lsi_writesOf:List (Nat×Code) := loopsAll 0 (Tryd.f53.body.getD .skip)
noncomputable def ci_writesOf_0:Code := (loopOf 0 (Tryd.f53.body.getD .skip)).getD .skip
theorem lseqi_writesOf:lsi_writesOf = [(0,ci_writesOf_0)] := by kernel_rfl
theorem mi_writesOf_0:∀ p,p ∈ lsi_writesOf → p.1 = 0 → p.2 = ci_writesOf_0 := by
 intro p hp
 rw [lseqi_writesOf] at hp
 simp only [List.mem_cons,List.not_mem_nil,or_false] at hp
 subst hp; simp
theorem ki_writesOf_0:OrcOk Ei_writesOf Oi_writesOf_0 lsi_writesOf 0 := orcOk_none
noncomputable def hi_writesOf_0 (y0:List (ByteArray×(Bool×(List Int)))) (y1:List (ByteArray×(Bool×(List Int)))) (y2:Int) (y3:Int):List (Pl×LV) := [(.T 3,.t (.val false [.row 3 0 0])),(.R 3 0,.r 0 (some ⟨false,.any,true,64,(.pair .str (.pair .bool (.sl 3 (.int .i64)))),y0⟩)),(.T 6,.t (.val false [.sl .any 64 (.pair .str (.pair .bool (.sl 3 (.int .i64)))) y1])),(.T 7,.t (.val false [.int .i64 y2])),(.T 8,.t (.val false [.int .i64 y3]))]
noncomputable def g_Si_writesOf_0 (y1:List (ByteArray×(Bool×(List Int)))) (y2:Int):((List (ByteArray×(Bool×(List Int))))×Int) → RT ((List (ByteArray×(Bool×(List Int))))×Int) (((List (ByteArray×(Bool×(List Int))))))
 | (y0,y3) => .br (true) (.br (decide (y3 < y2)) (.br (decide ((0:Int) ≤ y3 ∧ y3 < (↑(List.length y1):Int))) (.br (g_Aslices_Clone_int_int_b (at_ (Ty.pair Ty.str (Ty.pair Ty.bool (Ty.sl (nat_lit 3) (Ty.int IntKind.i64)))) y1 (Int.toNat y3)).2.2) (.br (decide ((List.length y0 + List.length [((at_ (Ty.pair Ty.str (Ty.pair Ty.bool (Ty.sl (nat_lit 3) (Ty.int IntKind.i64)))) y1 (Int.toNat y3)).1,(at_ (Ty.pair Ty.str (Ty.pair Ty.bool (Ty.sl (nat_lit 3) (Ty.int IntKind.i64)))) y1 (Int.toNat y3)).2.1,(at_ (Ty.pair Ty.str (Ty.pair Ty.bool (Ty.sl (nat_lit 3) (Ty.int IntKind.i64)))) y1 (Int.toNat y3)).2.2)]) * nat_lit 48 ≤ nat_lit 140737488355328 ∧ List.length y0 + List.length [((at_ (Ty.pair Ty.str (Ty.pair Ty.bool (Ty.sl (nat_lit 3) (Ty.int IntKind.i64)))) y1 (Int.toNat y3)).1,(at_ (Ty.pair Ty.str (Ty.pair Ty.bool (Ty.sl (nat_lit 3) (Ty.int IntKind.i64)))) y1 (Int.toNat y3)).2.1,(at_ (Ty.pair Ty.str (Ty.pair Ty.bool (Ty.sl (nat_lit 3) (Ty.int IntKind.i64)))) y1 (Int.toNat y3)).2.2)] ≤ nat_lit 9223372036854775807)) (.br (true) (.go ((y0 ++ [((at_ (Ty.pair Ty.str (Ty.pair Ty.bool (Ty.sl (nat_lit 3) (Ty.int IntKind.i64)))) y1 (Int.toNat y3)).1,(at_ (Ty.pair Ty.str (Ty.pair Ty.bool (Ty.sl (nat_lit 3) (Ty.int IntKind.i64)))) y1 (Int.toNat y3)).2.1,(at_ (Ty.pair Ty.str (Ty.pair Ty.bool (Ty.sl (nat_lit 3) (Ty.int IntKind.i64)))) y1 (Int.toNat y3)).2.2)],IntKind.wrap IntKind.i64 (y3 + (1:Int))))) .bad) .bad) .bad) .bad) (.out (y0))) .bad
noncomputable def g_Li_writesOf_0 (y1:List (ByteArray×(Bool×(List Int)))) (y2:Int) (x:(List (ByteArray×(Bool×(List Int))))×Int):Option (((List (ByteArray×(Bool×(List Int)))))) := loopO (g_Si_writesOf_0 y1 y2) x
noncomputable def xi_writesOf_0 (y1:List (ByteArray×(Bool×(List Int)))) (y2:Int):(((List (ByteArray×(Bool×(List Int)))))) → Ex×List (Pl×LV) := fun r => (.exit 0,[(.T 3,.t (.val false [.row 3 0 0])),(.R 3 0,.r 0 (some ⟨false,.any,true,64,(.pair .str (.pair .bool (.sl 3 (.int .i64)))),r⟩))])
noncomputable def Oi_writesOf_1:Orc := fun b h => match b,h with
 | 0,[(.T 3,.t (.val false [.row 3 0 0])),(.R 3 0,.r 0 (some ⟨false,.any,true,64,(.pair .str (.pair .bool (.sl 3 (.int .i64)))),y0⟩)),(.T 6,.t (.val false [.sl .any 64 (.pair .str (.pair .bool (.sl 3 (.int .i64)))) y1])),(.T 7,.t (.val false [.int .i64 y2])),(.T 8,.t (.val false [.int .i64 y3]))] => some (okO (g_Li_writesOf_0 y1 y2 (y0,y3)),(.leaf (.exit 0) [(.T 3,.t (.val false [.row 3 0 0])),(.R 3 0,.r 0 (some ⟨false,.any,true,64,(.pair .str (.pair .bool (.sl 3 (.int .i64)))),(valO (g_Li_writesOf_0 y1 y2 (y0,y3)))⟩))]))
 | b,h => Oi_writesOf_0 b h
theorem bi_writesOf_0 (y0:List (ByteArray×(Bool×(List Int)))) (y1:List (ByteArray×(Bool×(List Int)))) (y2:Int) (y3:Int):Tr.bt Ei_writesOf Oi_writesOf_0 (exec Ei_writesOf 0 ci_writesOf_0 (St.of (hi_writesOf_0 y0 y1 y2 y3)) (leafRd Ei_writesOf 0)) = (g_Si_writesOf_0 y1 y2 (y0,y3)).bt (fun ((y0,y3):(List (ByteArray×(Bool×(List Int))))×Int) => (hi_writesOf_0 y0 y1 y2 y3)) (xi_writesOf_0 y1 y2) := by kernel_rfl
theorem ki_writesOf_1:OrcOk Ei_writesOf Oi_writesOf_1 lsi_writesOf 1 := orc_add ki_writesOf_0 (fun n p hp h ex h' ho => by
 obtain ⟨b,c⟩ := p
 obtain ⟨xt,h1,h2⟩ := ho
 have h1:Oi_writesOf_1 b h = some (true,xt) := h1
 unfold Oi_writesOf_1 at h1
 split at h1
 ·injection h1 with h1
  injection h1 with e1 e2
  subst e2
  have hc:c = ci_writesOf_0 := mi_writesOf_0 _ hp rfl
  subst hc
  right
  rename_i y0 y1 y2 y3
  have key := LT_step ki_writesOf_0 hp (fun q hq => loopsAll_in _ _ _ _ hp hq) (fun ((y0,y3):(List (ByteArray×(Bool×(List Int))))×Int) => (hi_writesOf_0 y0 y1 y2 y3)) (xi_writesOf_0 y1 y2) (g_Si_writesOf_0 y1 y2) (fun x => by first | exact bi_writesOf_0 x.1 y1 y2 x.2) n (x := (y0,y3)) (okO_some e1)
  have hx:∀ r,XT.sel (.leaf (.exit 0) [(.T 3,.t (.val false [.row 3 0 0])),(.R 3 0,.r 0 (some ⟨false,.any,true,64,(.pair .str (.pair .bool (.sl 3 (.int .i64)))),r⟩))]) = xi_writesOf_0 y1 y2 r := fun r => by first | rfl | (rcases r with r | r <;> rfl) | (rcases r with r | r | r <;> rfl) | (rcases r with r | r | r | r <;> rfl)
  have h3 := (hx (valO (g_Li_writesOf_0 y1 y2 (y0,y3)))).symm.trans h2
  have e3 := congrArg Prod.fst h3
  have e4 := congrArg Prod.snd h3
  simp only at e3 e4
  rw [← e3,← e4]
  exact key
 ·exact .inl ⟨xt,h1,h2⟩)
noncomputable def g_Ai_writesOf (a0:List (ByteArray×(Bool×(List Int)))):Bool := okO (g_Li_writesOf_0 a0 (↑(List.length a0):Int) ([],(0:Int)))
noncomputable def g_Vi_writesOf_0 (a0:List (ByteArray×(Bool×(List Int)))):List (ByteArray×(Bool×(List Int))) := valO (g_Li_writesOf_0 a0 (↑(List.length a0):Int) ([],(0:Int)))
noncomputable def Fi_writesOf:FSem := fun ys => match ys with
 | [.val false [.sl .any 64 (.pair .str (.pair .bool (.sl 3 (.int .i64)))) a0]] => some ((g_Ai_writesOf a0),.val false [.own .any true 64 (.pair .str (.pair .bool (.sl 3 (.int .i64)))) (g_Vi_writesOf_0 a0)],[])
 | _ => none
theorem vi_writesOf (a0:List (ByteArray×(Bool×(List Int)))):collapseH .std Ei_writesOf Oi_writesOf_1 (execFn Ei_writesOf Tryd.f53 msi_writesOf [.val false [.sl .any 64 (.pair .str (.pair .bool (.sl 3 (.int .i64)))) a0]]) = some ((g_Ai_writesOf a0),.val false [.own .any true 64 (.pair .str (.pair .bool (.sl 3 (.int .i64)))) (g_Vi_writesOf_0 a0)],[]) := by kernel_rfl
theorem si_writesOf:Sound Tryd.prog 53 msi_writesOf Fi_writesOf := by
 refine fn_gen goodi_writesOf (by kernel_rfl) .std (fn := Tryd.f53) (c := (Tryd.f53.body.getD .skip)) (o := Oi_writesOf_1) (k := 1) (by kernel_rfl) (by kernel_rfl) (by kernel_rfl) (by kernel_rfl) (by decide) ki_writesOf_1 ?_
 intro ys r outs h
 unfold Fi_writesOf at h
 split at h
 ·exact (vi_writesOf _).trans h
 ·cases h
noncomputable def Eslices_Clone_string_string_a:Env where
 tt := mkTI Tryd.prog
 fn := fun _ => none
 bxf := fun _ => none
 mv := []
 keep := fun _ => []
 keepB := fun _ => []
 keepX := fun _ => []
 keepXB := fun _ => []
theorem goodFslices_Clone_string_string_a:∀ f ms F,Eslices_Clone_string_string_a.fn f = some (ms,F) → Sound Tryd.prog f ms F := fun f ms F h => by cases h
theorem goodBslices_Clone_string_string_a:∀ f ms F,Eslices_Clone_string_string_a.bxf f = some (ms,F) → SoundB Tryd.prog f ms F := fun f ms F h => by cases h
theorem goodslices_Clone_string_string_a:Good Tryd.prog Eslices_Clone_string_string_a := ⟨rfl,goodFslices_Clone_string_string_a,goodBslices_Clone_string_string_a⟩
noncomputable def Oslices_Clone_string_string_a_0:Orc := fun _ _ => none
noncomputable def msslices_Clone_string_string_a:List PM := [.rd]
noncomputable def lsslices_Clone_string_string_a:List (Nat×Code) := loopsAll 0 (Tryd.f52.body.getD .skip)
theorem kslices_Clone_string_string_a_0:OrcOk Eslices_Clone_string_string_a Oslices_Clone_string_string_a_0 lsslices_Clone_string_string_a 0 := orcOk_none
noncomputable def g_Vslices_Clone_string_string_a_0:List ByteArray := []
noncomputable def Fslices_Clone_string_string_a:FSem := fun ys => match ys with
 | [.val false [.nil 9 .str]] => some (true,.val false [.own .any true 9 .str g_Vslices_Clone_string_string_a_0],[])
 | _ => none
theorem vslices_Clone_string_string_a:collapseH .std Eslices_Clone_string_string_a Oslices_Clone_string_string_a_0 (execFn Eslices_Clone_string_string_a Tryd.f52 msslices_Clone_string_string_a [.val false [.nil 9 .str]]) = some (true,.val false [.own .any true 9 .str g_Vslices_Clone_string_string_a_0],[]) := by kernel_rfl
theorem sslices_Clone_string_string_a:Sound Tryd.prog 52 msslices_Clone_string_string_a Fslices_Clone_string_string_a := by
 refine fn_gen goodslices_Clone_string_string_a (by kernel_rfl) .std (fn := Tryd.f52) (c := (Tryd.f52.body.getD .skip)) (o := Oslices_Clone_string_string_a_0) (k := 0) (by kernel_rfl) (by kernel_rfl) (by kernel_rfl) (by kernel_rfl) (by decide) kslices_Clone_string_string_a_0 ?_
 intro ys r outs h
 unfold Fslices_Clone_string_string_a at h
 split at h
 ·exact (vslices_Clone_string_string_a).trans h
 ·cases h
noncomputable def Eslices_Clone_string_string_b:Env where
 tt := mkTI Tryd.prog
 fn := fun _ => none
 bxf := fun _ => none
 mv := []
 keep := fun _ => []
 keepB := fun _ => []
 keepX := fun _ => []
 keepXB := fun _ => []
theorem goodFslices_Clone_string_string_b:∀ f ms F,Eslices_Clone_string_string_b.fn f = some (ms,F) → Sound Tryd.prog f ms F := fun f ms F h => by cases h
theorem goodBslices_Clone_string_string_b:∀ f ms F,Eslices_Clone_string_string_b.bxf f = some (ms,F) → SoundB Tryd.prog f ms F := fun f ms F h => by cases h
theorem goodslices_Clone_string_string_b:Good Tryd.prog Eslices_Clone_string_string_b := ⟨rfl,goodFslices_Clone_string_string_b,goodBslices_Clone_string_string_b⟩
noncomputable def Oslices_Clone_string_string_b_0:Orc := fun _ _ => none
noncomputable def msslices_Clone_string_string_b:List PM := [.rd]
noncomputable def lsslices_Clone_string_string_b:List (Nat×Code) := loopsAll 0 (Tryd.f52.body.getD .skip)
theorem kslices_Clone_string_string_b_0:OrcOk Eslices_Clone_string_string_b Oslices_Clone_string_string_b_0 lsslices_Clone_string_string_b 0 := orcOk_none
noncomputable def g_Aslices_Clone_string_string_b (a0:List ByteArray):Bool := decide ((nat_lit 0 + List.length a0) * nat_lit 16 ≤ nat_lit 140737488355328 ∧ nat_lit 0 + List.length a0 ≤ nat_lit 9223372036854775807)
noncomputable def g_Vslices_Clone_string_string_b_0 (a0:List ByteArray):List ByteArray := [] ++ a0
noncomputable def Fslices_Clone_string_string_b:FSem := fun ys => match ys with
 | [.val false [.sl .non 9 .str a0]] => some ((g_Aslices_Clone_string_string_b a0),.val false [.own .any true 9 .str (g_Vslices_Clone_string_string_b_0 a0)],[])
 | _ => none
theorem vslices_Clone_string_string_b (a0:List ByteArray):collapseH .std Eslices_Clone_string_string_b Oslices_Clone_string_string_b_0 (execFn Eslices_Clone_string_string_b Tryd.f52 msslices_Clone_string_string_b [.val false [.sl .non 9 .str a0]]) = some ((g_Aslices_Clone_string_string_b a0),.val false [.own .any true 9 .str (g_Vslices_Clone_string_string_b_0 a0)],[]) := by kernel_rfl
theorem sslices_Clone_string_string_b:Sound Tryd.prog 52 msslices_Clone_string_string_b Fslices_Clone_string_string_b := by
 refine fn_gen goodslices_Clone_string_string_b (by kernel_rfl) .std (fn := Tryd.f52) (c := (Tryd.f52.body.getD .skip)) (o := Oslices_Clone_string_string_b_0) (k := 0) (by kernel_rfl) (by kernel_rfl) (by kernel_rfl) (by kernel_rfl) (by decide) kslices_Clone_string_string_b_0 ?_
 intro ys r outs h
 unfold Fslices_Clone_string_string_b at h
 split at h
 ·exact (vslices_Clone_string_string_b _).trans h
 ·cases h
def msslices_Clone_string_string:List PM := [.rd]
noncomputable def Fslices_Clone_string_string:FSem := fun ys => match ys with
 | [.val false [.sl .any 9 .str a0]] => some ((g_Aslices_Clone_string_string_b a0),.val false [.own .any true 9 .str a0],[])
 | _ => none
theorem sslices_Clone_string_string:Sound Tryd.prog 52 msslices_Clone_string_string Fslices_Clone_string_string := by
 refine sound_cases (el := 9) (e := .str) sslices_Clone_string_string_a sslices_Clone_string_string_b (fun ys r outs h => ?_)
 unfold Fslices_Clone_string_string at h
 split at h
 ·rename_i a0
  simp only [Option.some.injEq,Prod.mk.injEq] at h
  obtain ⟨h1,rfl,rfl⟩ := h
  refine ⟨a0,rfl,fun e => ?_,?_⟩
  ·subst e
   rfl
  ·show some ((g_Aslices_Clone_string_string_b a0),RV.val false [Cell.own .any true 9 .str ([] ++ a0)],[]) = _
   rw [h1,List.nil_append]
 ·cases h
noncomputable def Ei_LogNote_copied:Env where
 tt := mkTI Tryd.prog
 fn := fun f => match f with
  | 52 => some (msslices_Clone_string_string,FSem.wk msslices_Clone_string_string Fslices_Clone_string_string)
  | 53 => some (msi_writesOf,FSem.wk msi_writesOf Fi_writesOf)
  | _ => none
 bxf := fun _ => none
 mv := []
 keep := fun _ => []
 keepB := fun _ => []
 keepX := fun _ => []
 keepXB := fun _ => []
theorem goodFi_LogNote_copied:∀ f ms F,Ei_LogNote_copied.fn f = some (ms,F) → Sound Tryd.prog f ms F := fun f ms F h => by
 unfold Ei_LogNote_copied at h
 dsimp only at h
 split at h
 ·injection h with h; injection h with e1 e2; subst e1 e2; exact Sound.wk sslices_Clone_string_string
 ·injection h with h; injection h with e1 e2; subst e1 e2; exact Sound.wk si_writesOf
 ·cases h
theorem goodBi_LogNote_copied:∀ f ms F,Ei_LogNote_copied.bxf f = some (ms,F) → SoundB Tryd.prog f ms F := fun f ms F h => by cases h
theorem goodi_LogNote_copied:Good Tryd.prog Ei_LogNote_copied := ⟨rfl,goodFi_LogNote_copied,goodBi_LogNote_copied⟩
noncomputable def Oi_LogNote_copied_0:Orc := fun _ _ => none
noncomputable def msi_LogNote_copied:List PM := [.rd]
noncomputable def lsi_LogNote_copied:List (Nat×Code) := loopsAll 0 (Tryd.f30.body.getD .skip)
theorem ki_LogNote_copied_0:OrcOk Ei_LogNote_copied Oi_LogNote_copied_0 lsi_LogNote_copied 0 := orcOk_none
noncomputable def g_Ai_LogNote_copied (a0:Int) (a1:Int) (a2:List ByteArray) (a3:List (ByteArray×(Bool×(List Int)))):Bool := g_Aslices_Clone_string_string_b a2&&g_Ai_writesOf a3
noncomputable def Fi_LogNote_copied:FSem := fun ys => match ys with
 | [.val true [.int .i64 a0,.int .i64 a1,.sl .any 9 .str a2,.sl .any 64 (.pair .str (.pair .bool (.sl 3 (.int .i64)))) a3]] => some ((g_Ai_LogNote_copied a0 a1 a2 a3),.val true [.int .i64 a0,.int .i64 a1,.own .any true 9 .str a2,.own .any true 64 (.pair .str (.pair .bool (.sl 3 (.int .i64)))) (g_Vi_writesOf_0 a3)],[])
 | _ => none
theorem vi_LogNote_copied (a0:Int) (a1:Int) (a2:List ByteArray) (a3:List (ByteArray×(Bool×(List Int)))):collapseH .std Ei_LogNote_copied Oi_LogNote_copied_0 (execFn Ei_LogNote_copied Tryd.f30 msi_LogNote_copied [.val true [.int .i64 a0,.int .i64 a1,.sl .any 9 .str a2,.sl .any 64 (.pair .str (.pair .bool (.sl 3 (.int .i64)))) a3]]) = some ((g_Ai_LogNote_copied a0 a1 a2 a3),.val true [.int .i64 a0,.int .i64 a1,.own .any true 9 .str a2,.own .any true 64 (.pair .str (.pair .bool (.sl 3 (.int .i64)))) (g_Vi_writesOf_0 a3)],[]) := by kernel_rfl
theorem si_LogNote_copied:Sound Tryd.prog 30 msi_LogNote_copied Fi_LogNote_copied := by
 refine fn_gen goodi_LogNote_copied (by kernel_rfl) .std (fn := Tryd.f30) (c := (Tryd.f30.body.getD .skip)) (o := Oi_LogNote_copied_0) (k := 0) (by kernel_rfl) (by kernel_rfl) (by kernel_rfl) (by kernel_rfl) (by decide) ki_LogNote_copied_0 ?_
 intro ys r outs h
 unfold Fi_LogNote_copied at h
 split at h
 ·exact (vi_LogNote_copied _ _ _ _).trans h
 ·cases h
noncomputable def Ei_LogDisk_copied:Env where
 tt := mkTI Tryd.prog
 fn := fun f => match f with
  | 30 => some (msi_LogNote_copied,FSem.wk msi_LogNote_copied Fi_LogNote_copied)
  | _ => none
 bxf := fun _ => none
 mv := []
 keep := fun b => match b with
  | 0 => [(2,false),(3,false),(10,false),(11,false),(12,false)]
  | _ => []
 keepB := fun b => match b with
  | 0 => [(2,false),(3,false)]
  | _ => []
 keepX := fun b => match b with
  | 0 => [(2,false),(3,false)]
  | _ => []
 keepXB := fun b => match b with
  | 0 => [(2,false),(3,false)]
  | _ => []
theorem goodFi_LogDisk_copied:∀ f ms F,Ei_LogDisk_copied.fn f = some (ms,F) → Sound Tryd.prog f ms F := fun f ms F h => by
 unfold Ei_LogDisk_copied at h
 dsimp only at h
 split at h
 ·injection h with h; injection h with e1 e2; subst e1 e2; exact Sound.wk si_LogNote_copied
 ·cases h
theorem goodBi_LogDisk_copied:∀ f ms F,Ei_LogDisk_copied.bxf f = some (ms,F) → SoundB Tryd.prog f ms F := fun f ms F h => by cases h
theorem goodi_LogDisk_copied:Good Tryd.prog Ei_LogDisk_copied := ⟨rfl,goodFi_LogDisk_copied,goodBi_LogDisk_copied⟩
noncomputable def Oi_LogDisk_copied_0:Orc := fun _ _ => none
noncomputable def msi_LogDisk_copied:List PM := [.rd]
noncomputable def lsi_LogDisk_copied:List (Nat×Code) := loopsAll 0 (Tryd.f16.body.getD .skip)
noncomputable def ci_LogDisk_copied_0:Code := (loopOf 0 (Tryd.f16.body.getD .skip)).getD .skip
theorem lseqi_LogDisk_copied:lsi_LogDisk_copied = [(0,ci_LogDisk_copied_0)] := by kernel_rfl
theorem mi_LogDisk_copied_0:∀ p,p ∈ lsi_LogDisk_copied → p.1 = 0 → p.2 = ci_LogDisk_copied_0 := by
 intro p hp
 rw [lseqi_LogDisk_copied] at hp
 simp only [List.mem_cons,List.not_mem_nil,or_false] at hp
 subst hp; simp
theorem ki_LogDisk_copied_0:OrcOk Ei_LogDisk_copied Oi_LogDisk_copied_0 lsi_LogDisk_copied 0 := orcOk_none
noncomputable def hi_LogDisk_copied_0 (y0:List (Int×(Int×((List ByteArray)×(List (ByteArray×(Bool×(List Int)))))))) (y1:Int) (y2:Int) (y3:Int) (y4:List (Int×(Int×((List ByteArray)×(List (ByteArray×(Bool×(List Int)))))))) (y5:Int) (y6:List (Int×(Int×((List ByteArray)×(List (ByteArray×(Bool×(List Int)))))))):List (Pl×LV) := [(.T 2,.t (.val false [.ptr 2 0 0])),(.T 3,.t (.val false [.ptr 3 0 0])),(.T 10,.t (.val false [.sl .any 43 (.pair (.int .i64) (.pair (.int .i64) (.pair (.sl 9 .str) (.sl 64 (.pair .str (.pair .bool (.sl 3 (.int .i64)))))))) y0])),(.T 11,.t (.val false [.int .i64 y1])),(.T 12,.t (.val false [.int .i64 y2])),(.B 2,.b 0 false [.row 2 1 0,.int .i64 y3]),(.R 2 1,.r 0 (some ⟨false,.any,true,43,(.pair (.int .i64) (.pair (.int .i64) (.pair (.sl 9 .str) (.sl 64 (.pair .str (.pair .bool (.sl 3 (.int .i64)))))))),y4⟩)),(.B 3,.b 0 false [.row 3 1 0,.int .i64 y5]),(.R 3 1,.r 0 (some ⟨false,.any,true,43,(.pair (.int .i64) (.pair (.int .i64) (.pair (.sl 9 .str) (.sl 64 (.pair .str (.pair .bool (.sl 3 (.int .i64)))))))),y6⟩))]
noncomputable def g_Si_LogDisk_copied_0 (y0:List (Int×(Int×((List ByteArray)×(List (ByteArray×(Bool×(List Int)))))))) (y1:Int) (y3:Int) (y4:List (Int×(Int×((List ByteArray)×(List (ByteArray×(Bool×(List Int)))))))) (y5:Int):(Int×(List (Int×(Int×((List ByteArray)×(List (ByteArray×(Bool×(List Int))))))))) → RT (Int×(List (Int×(Int×((List ByteArray)×(List (ByteArray×(Bool×(List Int))))))))) (((List (Int×(Int×((List ByteArray)×(List (ByteArray×(Bool×(List Int))))))))))
 | (y2,y6) => .br (true) (.br (decide (y2 < y1)) (.br (decide ((0:Int) ≤ y2 ∧ y2 < (↑(List.length y0):Int))) (.br (g_Ai_LogNote_copied (at_ (Ty.pair (Ty.int IntKind.i64) (Ty.pair (Ty.int IntKind.i64) (Ty.pair (Ty.sl (nat_lit 9) Ty.str) (Ty.sl (nat_lit 64) (Ty.pair Ty.str (Ty.pair Ty.bool (Ty.sl (nat_lit 3) (Ty.int IntKind.i64)))))))) y0 (Int.toNat y2)).1 (at_ (Ty.pair (Ty.int IntKind.i64) (Ty.pair (Ty.int IntKind.i64) (Ty.pair (Ty.sl (nat_lit 9) Ty.str) (Ty.sl (nat_lit 64) (Ty.pair Ty.str (Ty.pair Ty.bool (Ty.sl (nat_lit 3) (Ty.int IntKind.i64)))))))) y0 (Int.toNat y2)).2.1 (at_ (Ty.pair (Ty.int IntKind.i64) (Ty.pair (Ty.int IntKind.i64) (Ty.pair (Ty.sl (nat_lit 9) Ty.str) (Ty.sl (nat_lit 64) (Ty.pair Ty.str (Ty.pair Ty.bool (Ty.sl (nat_lit 3) (Ty.int IntKind.i64)))))))) y0 (Int.toNat y2)).2.2.1 (at_ (Ty.pair (Ty.int IntKind.i64) (Ty.pair (Ty.int IntKind.i64) (Ty.pair (Ty.sl (nat_lit 9) Ty.str) (Ty.sl (nat_lit 64) (Ty.pair Ty.str (Ty.pair Ty.bool (Ty.sl (nat_lit 3) (Ty.int IntKind.i64)))))))) y0 (Int.toNat y2)).2.2.2) (.br (decide ((List.length y6 + List.length [((at_ (Ty.pair (Ty.int IntKind.i64) (Ty.pair (Ty.int IntKind.i64) (Ty.pair (Ty.sl (nat_lit 9) Ty.str) (Ty.sl (nat_lit 64) (Ty.pair Ty.str (Ty.pair Ty.bool (Ty.sl (nat_lit 3) (Ty.int IntKind.i64)))))))) y0 (Int.toNat y2)).1,(at_ (Ty.pair (Ty.int IntKind.i64) (Ty.pair (Ty.int IntKind.i64) (Ty.pair (Ty.sl (nat_lit 9) Ty.str) (Ty.sl (nat_lit 64) (Ty.pair Ty.str (Ty.pair Ty.bool (Ty.sl (nat_lit 3) (Ty.int IntKind.i64)))))))) y0 (Int.toNat y2)).2.1,(at_ (Ty.pair (Ty.int IntKind.i64) (Ty.pair (Ty.int IntKind.i64) (Ty.pair (Ty.sl (nat_lit 9) Ty.str) (Ty.sl (nat_lit 64) (Ty.pair Ty.str (Ty.pair Ty.bool (Ty.sl (nat_lit 3) (Ty.int IntKind.i64)))))))) y0 (Int.toNat y2)).2.2.1,g_Vi_writesOf_0 (at_ (Ty.pair (Ty.int IntKind.i64) (Ty.pair (Ty.int IntKind.i64) (Ty.pair (Ty.sl (nat_lit 9) Ty.str) (Ty.sl (nat_lit 64) (Ty.pair Ty.str (Ty.pair Ty.bool (Ty.sl (nat_lit 3) (Ty.int IntKind.i64)))))))) y0 (Int.toNat y2)).2.2.2)]) * nat_lit 64 ≤ nat_lit 140737488355328 ∧ List.length y6 + List.length [((at_ (Ty.pair (Ty.int IntKind.i64) (Ty.pair (Ty.int IntKind.i64) (Ty.pair (Ty.sl (nat_lit 9) Ty.str) (Ty.sl (nat_lit 64) (Ty.pair Ty.str (Ty.pair Ty.bool (Ty.sl (nat_lit 3) (Ty.int IntKind.i64)))))))) y0 (Int.toNat y2)).1,(at_ (Ty.pair (Ty.int IntKind.i64) (Ty.pair (Ty.int IntKind.i64) (Ty.pair (Ty.sl (nat_lit 9) Ty.str) (Ty.sl (nat_lit 64) (Ty.pair Ty.str (Ty.pair Ty.bool (Ty.sl (nat_lit 3) (Ty.int IntKind.i64)))))))) y0 (Int.toNat y2)).2.1,(at_ (Ty.pair (Ty.int IntKind.i64) (Ty.pair (Ty.int IntKind.i64) (Ty.pair (Ty.sl (nat_lit 9) Ty.str) (Ty.sl (nat_lit 64) (Ty.pair Ty.str (Ty.pair Ty.bool (Ty.sl (nat_lit 3) (Ty.int IntKind.i64)))))))) y0 (Int.toNat y2)).2.2.1,g_Vi_writesOf_0 (at_ (Ty.pair (Ty.int IntKind.i64) (Ty.pair (Ty.int IntKind.i64) (Ty.pair (Ty.sl (nat_lit 9) Ty.str) (Ty.sl (nat_lit 64) (Ty.pair Ty.str (Ty.pair Ty.bool (Ty.sl (nat_lit 3) (Ty.int IntKind.i64)))))))) y0 (Int.toNat y2)).2.2.2)] ≤ nat_lit 9223372036854775807)) (.br (true) (.go ((IntKind.wrap IntKind.i64 (y2 + (1:Int)),y6 ++ [((at_ (Ty.pair (Ty.int IntKind.i64) (Ty.pair (Ty.int IntKind.i64) (Ty.pair (Ty.sl (nat_lit 9) Ty.str) (Ty.sl (nat_lit 64) (Ty.pair Ty.str (Ty.pair Ty.bool (Ty.sl (nat_lit 3) (Ty.int IntKind.i64)))))))) y0 (Int.toNat y2)).1,(at_ (Ty.pair (Ty.int IntKind.i64) (Ty.pair (Ty.int IntKind.i64) (Ty.pair (Ty.sl (nat_lit 9) Ty.str) (Ty.sl (nat_lit 64) (Ty.pair Ty.str (Ty.pair Ty.bool (Ty.sl (nat_lit 3) (Ty.int IntKind.i64)))))))) y0 (Int.toNat y2)).2.1,(at_ (Ty.pair (Ty.int IntKind.i64) (Ty.pair (Ty.int IntKind.i64) (Ty.pair (Ty.sl (nat_lit 9) Ty.str) (Ty.sl (nat_lit 64) (Ty.pair Ty.str (Ty.pair Ty.bool (Ty.sl (nat_lit 3) (Ty.int IntKind.i64)))))))) y0 (Int.toNat y2)).2.2.1,g_Vi_writesOf_0 (at_ (Ty.pair (Ty.int IntKind.i64) (Ty.pair (Ty.int IntKind.i64) (Ty.pair (Ty.sl (nat_lit 9) Ty.str) (Ty.sl (nat_lit 64) (Ty.pair Ty.str (Ty.pair Ty.bool (Ty.sl (nat_lit 3) (Ty.int IntKind.i64)))))))) y0 (Int.toNat y2)).2.2.2)]))) .bad) .bad) .bad) .bad) (.out (y6))) .bad
noncomputable def g_Li_LogDisk_copied_0 (y0:List (Int×(Int×((List ByteArray)×(List (ByteArray×(Bool×(List Int)))))))) (y1:Int) (y3:Int) (y4:List (Int×(Int×((List ByteArray)×(List (ByteArray×(Bool×(List Int)))))))) (y5:Int) (x:Int×(List (Int×(Int×((List ByteArray)×(List (ByteArray×(Bool×(List Int))))))))):Option (((List (Int×(Int×((List ByteArray)×(List (ByteArray×(Bool×(List Int)))))))))) := loopO (g_Si_LogDisk_copied_0 y0 y1 y3 y4 y5) x
noncomputable def xi_LogDisk_copied_0 (y0:List (Int×(Int×((List ByteArray)×(List (ByteArray×(Bool×(List Int)))))))) (y1:Int) (y3:Int) (y4:List (Int×(Int×((List ByteArray)×(List (ByteArray×(Bool×(List Int)))))))) (y5:Int):(((List (Int×(Int×((List ByteArray)×(List (ByteArray×(Bool×(List Int)))))))))) → Ex×List (Pl×LV) := fun r => (.exit 0,[(.T 2,.t (.val false [.ptr 2 0 0])),(.T 3,.t (.val false [.ptr 3 0 0])),(.B 2,.b 0 false [.row 2 1 0,.int .i64 y3]),(.R 2 1,.r 0 (some ⟨false,.any,true,43,(.pair (.int .i64) (.pair (.int .i64) (.pair (.sl 9 .str) (.sl 64 (.pair .str (.pair .bool (.sl 3 (.int .i64)))))))),y4⟩)),(.B 3,.b 0 false [.row 3 1 0,.int .i64 y5]),(.R 3 1,.r 0 (some ⟨false,.any,true,43,(.pair (.int .i64) (.pair (.int .i64) (.pair (.sl 9 .str) (.sl 64 (.pair .str (.pair .bool (.sl 3 (.int .i64)))))))),r⟩))])
noncomputable def Oi_LogDisk_copied_1:Orc := fun b h => match b,h with
 | 0,[(.T 2,.t (.val false [.ptr 2 0 0])),(.T 3,.t (.val false [.ptr 3 0 0])),(.T 10,.t (.val false [.sl .any 43 (.pair (.int .i64) (.pair (.int .i64) (.pair (.sl 9 .str) (.sl 64 (.pair .str (.pair .bool (.sl 3 (.int .i64)))))))) y0])),(.T 11,.t (.val false [.int .i64 y1])),(.T 12,.t (.val false [.int .i64 y2])),(.B 2,.b 0 false [.row 2 1 0,.int .i64 y3]),(.R 2 1,.r 0 (some ⟨false,.any,true,43,(.pair (.int .i64) (.pair (.int .i64) (.pair (.sl 9 .str) (.sl 64 (.pair .str (.pair .bool (.sl 3 (.int .i64)))))))),y4⟩)),(.B 3,.b 0 false [.row 3 1 0,.int .i64 y5]),(.R 3 1,.r 0 (some ⟨false,.any,true,43,(.pair (.int .i64) (.pair (.int .i64) (.pair (.sl 9 .str) (.sl 64 (.pair .str (.pair .bool (.sl 3 (.int .i64)))))))),y6⟩))] => some (okO (g_Li_LogDisk_copied_0 y0 y1 y3 y4 y5 (y2,y6)),(.leaf (.exit 0) [(.T 2,.t (.val false [.ptr 2 0 0])),(.T 3,.t (.val false [.ptr 3 0 0])),(.B 2,.b 0 false [.row 2 1 0,.int .i64 y3]),(.R 2 1,.r 0 (some ⟨false,.any,true,43,(.pair (.int .i64) (.pair (.int .i64) (.pair (.sl 9 .str) (.sl 64 (.pair .str (.pair .bool (.sl 3 (.int .i64)))))))),y4⟩)),(.B 3,.b 0 false [.row 3 1 0,.int .i64 y5]),(.R 3 1,.r 0 (some ⟨false,.any,true,43,(.pair (.int .i64) (.pair (.int .i64) (.pair (.sl 9 .str) (.sl 64 (.pair .str (.pair .bool (.sl 3 (.int .i64)))))))),(valO (g_Li_LogDisk_copied_0 y0 y1 y3 y4 y5 (y2,y6)))⟩))]))
 | b,h => Oi_LogDisk_copied_0 b h
theorem bi_LogDisk_copied_0 (y0:List (Int×(Int×((List ByteArray)×(List (ByteArray×(Bool×(List Int)))))))) (y1:Int) (y2:Int) (y3:Int) (y4:List (Int×(Int×((List ByteArray)×(List (ByteArray×(Bool×(List Int)))))))) (y5:Int) (y6:List (Int×(Int×((List ByteArray)×(List (ByteArray×(Bool×(List Int)))))))):Tr.bt Ei_LogDisk_copied Oi_LogDisk_copied_0 (exec Ei_LogDisk_copied 0 ci_LogDisk_copied_0 (St.of (hi_LogDisk_copied_0 y0 y1 y2 y3 y4 y5 y6)) (leafRd Ei_LogDisk_copied 0)) = (g_Si_LogDisk_copied_0 y0 y1 y3 y4 y5 (y2,y6)).bt (fun ((y2,y6):Int×(List (Int×(Int×((List ByteArray)×(List (ByteArray×(Bool×(List Int))))))))) => (hi_LogDisk_copied_0 y0 y1 y2 y3 y4 y5 y6)) (xi_LogDisk_copied_0 y0 y1 y3 y4 y5) := by kernel_rfl
theorem ki_LogDisk_copied_1:OrcOk Ei_LogDisk_copied Oi_LogDisk_copied_1 lsi_LogDisk_copied 1 := orc_add ki_LogDisk_copied_0 (fun n p hp h ex h' ho => by
 obtain ⟨b,c⟩ := p
 obtain ⟨xt,h1,h2⟩ := ho
 have h1:Oi_LogDisk_copied_1 b h = some (true,xt) := h1
 unfold Oi_LogDisk_copied_1 at h1
 split at h1
 ·injection h1 with h1
  injection h1 with e1 e2
  subst e2
  have hc:c = ci_LogDisk_copied_0 := mi_LogDisk_copied_0 _ hp rfl
  subst hc
  right
  rename_i y0 y1 y2 y3 y4 y5 y6
  have key := LT_step ki_LogDisk_copied_0 hp (fun q hq => loopsAll_in _ _ _ _ hp hq) (fun ((y2,y6):Int×(List (Int×(Int×((List ByteArray)×(List (ByteArray×(Bool×(List Int))))))))) => (hi_LogDisk_copied_0 y0 y1 y2 y3 y4 y5 y6)) (xi_LogDisk_copied_0 y0 y1 y3 y4 y5) (g_Si_LogDisk_copied_0 y0 y1 y3 y4 y5) (fun x => by first | exact bi_LogDisk_copied_0 y0 y1 x.1 y3 y4 y5 x.2) n (x := (y2,y6)) (okO_some e1)
  have hx:∀ r,XT.sel (.leaf (.exit 0) [(.T 2,.t (.val false [.ptr 2 0 0])),(.T 3,.t (.val false [.ptr 3 0 0])),(.B 2,.b 0 false [.row 2 1 0,.int .i64 y3]),(.R 2 1,.r 0 (some ⟨false,.any,true,43,(.pair (.int .i64) (.pair (.int .i64) (.pair (.sl 9 .str) (.sl 64 (.pair .str (.pair .bool (.sl 3 (.int .i64)))))))),y4⟩)),(.B 3,.b 0 false [.row 3 1 0,.int .i64 y5]),(.R 3 1,.r 0 (some ⟨false,.any,true,43,(.pair (.int .i64) (.pair (.int .i64) (.pair (.sl 9 .str) (.sl 64 (.pair .str (.pair .bool (.sl 3 (.int .i64)))))))),r⟩))]) = xi_LogDisk_copied_0 y0 y1 y3 y4 y5 r := fun r => by first | rfl | (rcases r with r | r <;> rfl) | (rcases r with r | r | r <;> rfl) | (rcases r with r | r | r | r <;> rfl)
  have h3 := (hx (valO (g_Li_LogDisk_copied_0 y0 y1 y3 y4 y5 (y2,y6)))).symm.trans h2
  have e3 := congrArg Prod.fst h3
  have e4 := congrArg Prod.snd h3
  simp only at e3 e4
  rw [← e3,← e4]
  exact key
 ·exact .inl ⟨xt,h1,h2⟩)
noncomputable def g_Ai_LogDisk_copied (a0:List (Int×(Int×((List ByteArray)×(List (ByteArray×(Bool×(List Int)))))))) (a1:Int):Bool := okO (g_Li_LogDisk_copied_0 a0 (↑(List.length a0):Int) (0:Int) [] a1 ((0:Int),[]))
noncomputable def g_Vi_LogDisk_copied_0 (a0:List (Int×(Int×((List ByteArray)×(List (ByteArray×(Bool×(List Int)))))))) (a1:Int):List (Int×(Int×((List ByteArray)×(List (ByteArray×(Bool×(List Int))))))) := valO (g_Li_LogDisk_copied_0 a0 (↑(List.length a0):Int) (0:Int) [] a1 ((0:Int),[]))
noncomputable def Fi_LogDisk_copied:FSem := fun ys => match ys with
 | [.val true [.sl .any 43 (.pair (.int .i64) (.pair (.int .i64) (.pair (.sl 9 .str) (.sl 64 (.pair .str (.pair .bool (.sl 3 (.int .i64)))))))) a0,.int .i64 a1]] => some ((g_Ai_LogDisk_copied a0 a1),.val true [.own .any true 43 (.pair (.int .i64) (.pair (.int .i64) (.pair (.sl 9 .str) (.sl 64 (.pair .str (.pair .bool (.sl 3 (.int .i64)))))))) (g_Vi_LogDisk_copied_0 a0 a1),.int .i64 a1],[])
 | _ => none
theorem vi_LogDisk_copied (a0:List (Int×(Int×((List ByteArray)×(List (ByteArray×(Bool×(List Int)))))))) (a1:Int):collapseH .std Ei_LogDisk_copied Oi_LogDisk_copied_1 (execFn Ei_LogDisk_copied Tryd.f16 msi_LogDisk_copied [.val true [.sl .any 43 (.pair (.int .i64) (.pair (.int .i64) (.pair (.sl 9 .str) (.sl 64 (.pair .str (.pair .bool (.sl 3 (.int .i64)))))))) a0,.int .i64 a1]]) = some ((g_Ai_LogDisk_copied a0 a1),.val true [.own .any true 43 (.pair (.int .i64) (.pair (.int .i64) (.pair (.sl 9 .str) (.sl 64 (.pair .str (.pair .bool (.sl 3 (.int .i64)))))))) (g_Vi_LogDisk_copied_0 a0 a1),.int .i64 a1],[]) := by kernel_rfl
theorem si_LogDisk_copied:Sound Tryd.prog 16 msi_LogDisk_copied Fi_LogDisk_copied := by
 refine fn_gen goodi_LogDisk_copied (by kernel_rfl) .std (fn := Tryd.f16) (c := (Tryd.f16.body.getD .skip)) (o := Oi_LogDisk_copied_1) (k := 1) (by kernel_rfl) (by kernel_rfl) (by kernel_rfl) (by kernel_rfl) (by decide) ki_LogDisk_copied_1 ?_
 intro ys r outs h
 unfold Fi_LogDisk_copied at h
 split at h
 ·exact (vi_LogDisk_copied _ _).trans h
 ·cases h
noncomputable def Eslices_Clip_i_LogNote_i_LogNote:Env where
 tt := mkTI Tryd.prog
 fn := fun _ => none
 bxf := fun _ => none
 mv := [8]
 keep := fun _ => []
 keepB := fun _ => []
 keepX := fun _ => []
 keepXB := fun _ => []
theorem goodFslices_Clip_i_LogNote_i_LogNote:∀ f ms F,Eslices_Clip_i_LogNote_i_LogNote.fn f = some (ms,F) → Sound Tryd.prog f ms F := fun f ms F h => by cases h
theorem goodBslices_Clip_i_LogNote_i_LogNote:∀ f ms F,Eslices_Clip_i_LogNote_i_LogNote.bxf f = some (ms,F) → SoundB Tryd.prog f ms F := fun f ms F h => by cases h
theorem goodslices_Clip_i_LogNote_i_LogNote:Good Tryd.prog Eslices_Clip_i_LogNote_i_LogNote := ⟨rfl,goodFslices_Clip_i_LogNote_i_LogNote,goodBslices_Clip_i_LogNote_i_LogNote⟩
noncomputable def Oslices_Clip_i_LogNote_i_LogNote_0:Orc := fun _ _ => none
noncomputable def msslices_Clip_i_LogNote_i_LogNote:List PM := [.own]
noncomputable def lsslices_Clip_i_LogNote_i_LogNote:List (Nat×Code) := loopsAll 0 (Tryd.f17.body.getD .skip)
theorem kslices_Clip_i_LogNote_i_LogNote_0:OrcOk Eslices_Clip_i_LogNote_i_LogNote Oslices_Clip_i_LogNote_i_LogNote_0 lsslices_Clip_i_LogNote_i_LogNote 0 := orcOk_none
noncomputable def g_Aslices_Clip_i_LogNote_i_LogNote (a0:List (Int×(Int×((List ByteArray)×(List (ByteArray×(Bool×(List Int)))))))):Bool := decide ((↑(List.length a0):Int) = (↑(List.length a0):Int))&&decide ((0:Int) ≤ (↑(List.length a0):Int) ∧ (↑(List.length a0):Int) ≤ (↑(List.length a0):Int))
noncomputable def g_Vslices_Clip_i_LogNote_i_LogNote_0 (a0:List (Int×(Int×((List ByteArray)×(List (ByteArray×(Bool×(List Int)))))))):List (Int×(Int×((List ByteArray)×(List (ByteArray×(Bool×(List Int))))))) := List.take (Int.toNat (↑(List.length a0):Int)) a0
noncomputable def Fslices_Clip_i_LogNote_i_LogNote:FSem := fun ys => match ys with
 | [.val false [.own .any true 43 (.pair (.int .i64) (.pair (.int .i64) (.pair (.sl 9 .str) (.sl 64 (.pair .str (.pair .bool (.sl 3 (.int .i64)))))))) a0]] => some ((g_Aslices_Clip_i_LogNote_i_LogNote a0),.val false [.own .any true 43 (.pair (.int .i64) (.pair (.int .i64) (.pair (.sl 9 .str) (.sl 64 (.pair .str (.pair .bool (.sl 3 (.int .i64)))))))) (g_Vslices_Clip_i_LogNote_i_LogNote_0 a0)],[])
 | _ => none
theorem vslices_Clip_i_LogNote_i_LogNote (a0:List (Int×(Int×((List ByteArray)×(List (ByteArray×(Bool×(List Int)))))))):collapseH .std Eslices_Clip_i_LogNote_i_LogNote Oslices_Clip_i_LogNote_i_LogNote_0 (execFn Eslices_Clip_i_LogNote_i_LogNote Tryd.f17 msslices_Clip_i_LogNote_i_LogNote [.val false [.own .any true 43 (.pair (.int .i64) (.pair (.int .i64) (.pair (.sl 9 .str) (.sl 64 (.pair .str (.pair .bool (.sl 3 (.int .i64)))))))) a0]]) = some ((g_Aslices_Clip_i_LogNote_i_LogNote a0),.val false [.own .any true 43 (.pair (.int .i64) (.pair (.int .i64) (.pair (.sl 9 .str) (.sl 64 (.pair .str (.pair .bool (.sl 3 (.int .i64)))))))) (g_Vslices_Clip_i_LogNote_i_LogNote_0 a0)],[]) := by kernel_rfl
theorem sslices_Clip_i_LogNote_i_LogNote:Sound Tryd.prog 17 msslices_Clip_i_LogNote_i_LogNote Fslices_Clip_i_LogNote_i_LogNote := by
 refine fn_gen goodslices_Clip_i_LogNote_i_LogNote (by kernel_rfl) .std (fn := Tryd.f17) (c := (Tryd.f17.body.getD .skip)) (o := Oslices_Clip_i_LogNote_i_LogNote_0) (k := 0) (by kernel_rfl) (by kernel_rfl) (by kernel_rfl) (by kernel_rfl) (by decide) kslices_Clip_i_LogNote_i_LogNote_0 ?_
 intro ys r outs h
 unfold Fslices_Clip_i_LogNote_i_LogNote at h
 split at h
 ·exact (vslices_Clip_i_LogNote_i_LogNote _).trans h
 ·cases h
noncomputable def Ei_DiskFall:Env where
 tt := mkTI Tryd.prog
 fn := fun f => match f with
  | 15 => some (msi_DiskOk,FSem.wk msi_DiskOk Fi_DiskOk)
  | 16 => some (msi_LogDisk_copied,FSem.wk msi_LogDisk_copied Fi_LogDisk_copied)
  | 17 => some (msslices_Clip_i_LogNote_i_LogNote,FSem.wk msslices_Clip_i_LogNote_i_LogNote Fslices_Clip_i_LogNote_i_LogNote)
  | _ => none
 bxf := fun _ => none
 mv := [26]
 keep := fun _ => []
 keepB := fun _ => []
 keepX := fun _ => []
 keepXB := fun _ => []
theorem goodFi_DiskFall:∀ f ms F,Ei_DiskFall.fn f = some (ms,F) → Sound Tryd.prog f ms F := fun f ms F h => by
 unfold Ei_DiskFall at h
 dsimp only at h
 split at h
 ·injection h with h; injection h with e1 e2; subst e1 e2; exact Sound.wk si_DiskOk
 ·injection h with h; injection h with e1 e2; subst e1 e2; exact Sound.wk si_LogDisk_copied
 ·injection h with h; injection h with e1 e2; subst e1 e2; exact Sound.wk sslices_Clip_i_LogNote_i_LogNote
 ·cases h
theorem goodBi_DiskFall:∀ f ms F,Ei_DiskFall.bxf f = some (ms,F) → SoundB Tryd.prog f ms F := fun f ms F h => by cases h
theorem goodi_DiskFall:Good Tryd.prog Ei_DiskFall := ⟨rfl,goodFi_DiskFall,goodBi_DiskFall⟩
noncomputable def Oi_DiskFall_0:Orc := fun _ _ => none
noncomputable def msi_DiskFall:List PM := [.rd,.own]
noncomputable def lsi_DiskFall:List (Nat×Code) := loopsAll 0 (Tryd.f7.body.getD .skip)
theorem ki_DiskFall_0:OrcOk Ei_DiskFall Oi_DiskFall_0 lsi_DiskFall 0 := orcOk_none
noncomputable def g_Ai_DiskFall (a0:List (Int×(Int×((List ByteArray)×(List (ByteArray×(Bool×(List Int)))))))) (a1:Int) (a2:Int):Bool := g_Ai_DiskOk a0 a1&&(!g_Vi_DiskOk_0 a0 a1 || g_Ai_LogDisk_copied a0 a1&&(decide ((0:Int) ≤ IntKind.wrap IntKind.i64 (a1 + if (if IntKind.wrap IntKind.i64 ((↑(List.length a0):Int) - a1) < a2 then IntKind.wrap IntKind.i64 ((↑(List.length a0):Int) - a1) else a2) > (0:Int) then if IntKind.wrap IntKind.i64 ((↑(List.length a0):Int) - a1) < a2 then IntKind.wrap IntKind.i64 ((↑(List.length a0):Int) - a1) else a2 else (0:Int)) ∧ IntKind.wrap IntKind.i64 (a1 + if (if IntKind.wrap IntKind.i64 ((↑(List.length a0):Int) - a1) < a2 then IntKind.wrap IntKind.i64 ((↑(List.length a0):Int) - a1) else a2) > (0:Int) then if IntKind.wrap IntKind.i64 ((↑(List.length a0):Int) - a1) < a2 then IntKind.wrap IntKind.i64 ((↑(List.length a0):Int) - a1) else a2 else (0:Int)) ≤ (↑(List.length (g_Vi_LogDisk_copied_0 a0 a1)):Int))&&g_Aslices_Clip_i_LogNote_i_LogNote (List.take (Int.toNat (IntKind.wrap IntKind.i64 (a1 + if (if IntKind.wrap IntKind.i64 ((↑(List.length a0):Int) - a1) < a2 then IntKind.wrap IntKind.i64 ((↑(List.length a0):Int) - a1) else a2) > (0:Int) then if IntKind.wrap IntKind.i64 ((↑(List.length a0):Int) - a1) < a2 then IntKind.wrap IntKind.i64 ((↑(List.length a0):Int) - a1) else a2 else (0:Int)))) (g_Vi_LogDisk_copied_0 a0 a1))))
noncomputable def g_Vi_DiskFall_0 (a0:List (Int×(Int×((List ByteArray)×(List (ByteArray×(Bool×(List Int)))))))) (a1:Int) (a2:Int):List (Int×(Int×((List ByteArray)×(List (ByteArray×(Bool×(List Int))))))) := bif !g_Vi_DiskOk_0 a0 a1 then [] else g_Vslices_Clip_i_LogNote_i_LogNote_0 (List.take (Int.toNat (IntKind.wrap IntKind.i64 (a1 + if (if IntKind.wrap IntKind.i64 ((↑(List.length a0):Int) - a1) < a2 then IntKind.wrap IntKind.i64 ((↑(List.length a0):Int) - a1) else a2) > (0:Int) then if IntKind.wrap IntKind.i64 ((↑(List.length a0):Int) - a1) < a2 then IntKind.wrap IntKind.i64 ((↑(List.length a0):Int) - a1) else a2 else (0:Int)))) (g_Vi_LogDisk_copied_0 a0 a1))
noncomputable def g_Vi_DiskFall_1 (a0:List (Int×(Int×((List ByteArray)×(List (ByteArray×(Bool×(List Int)))))))) (a1:Int) (a2:Int):Int := bif !g_Vi_DiskOk_0 a0 a1 then (0:Int) else (↑(List.length (g_Vslices_Clip_i_LogNote_i_LogNote_0 (List.take (Int.toNat (IntKind.wrap IntKind.i64 (a1 + if (if IntKind.wrap IntKind.i64 ((↑(List.length a0):Int) - a1) < a2 then IntKind.wrap IntKind.i64 ((↑(List.length a0):Int) - a1) else a2) > (0:Int) then if IntKind.wrap IntKind.i64 ((↑(List.length a0):Int) - a1) < a2 then IntKind.wrap IntKind.i64 ((↑(List.length a0):Int) - a1) else a2 else (0:Int)))) (g_Vi_LogDisk_copied_0 a0 a1)))):Int)
noncomputable def Fi_DiskFall:FSem := fun ys => match ys with
 | [.val true [.sl .any 43 (.pair (.int .i64) (.pair (.int .i64) (.pair (.sl 9 .str) (.sl 64 (.pair .str (.pair .bool (.sl 3 (.int .i64)))))))) a0,.int .i64 a1],.val false [.int .i64 a2]] => some ((g_Ai_DiskFall a0 a1 a2),.val true [.own .any true 43 (.pair (.int .i64) (.pair (.int .i64) (.pair (.sl 9 .str) (.sl 64 (.pair .str (.pair .bool (.sl 3 (.int .i64)))))))) (g_Vi_DiskFall_0 a0 a1 a2),.int .i64 (g_Vi_DiskFall_1 a0 a1 a2)],[])
 | _ => none
theorem vi_DiskFall (a0:List (Int×(Int×((List ByteArray)×(List (ByteArray×(Bool×(List Int)))))))) (a1:Int) (a2:Int):collapseH .std Ei_DiskFall Oi_DiskFall_0 (execFn Ei_DiskFall Tryd.f7 msi_DiskFall [.val true [.sl .any 43 (.pair (.int .i64) (.pair (.int .i64) (.pair (.sl 9 .str) (.sl 64 (.pair .str (.pair .bool (.sl 3 (.int .i64)))))))) a0,.int .i64 a1],.val false [.int .i64 a2]]) = some ((g_Ai_DiskFall a0 a1 a2),.val true [.own .any true 43 (.pair (.int .i64) (.pair (.int .i64) (.pair (.sl 9 .str) (.sl 64 (.pair .str (.pair .bool (.sl 3 (.int .i64)))))))) (g_Vi_DiskFall_0 a0 a1 a2),.int .i64 (g_Vi_DiskFall_1 a0 a1 a2)],[]) := by kernel_rfl
theorem si_DiskFall:Sound Tryd.prog 7 msi_DiskFall Fi_DiskFall := by
 refine fn_gen goodi_DiskFall (by kernel_rfl) .std (fn := Tryd.f7) (c := (Tryd.f7.body.getD .skip)) (o := Oi_DiskFall_0) (k := 0) (by kernel_rfl) (by kernel_rfl) (by kernel_rfl) (by kernel_rfl) (by decide) ki_DiskFall_0 ?_
 intro ys r outs h
 unfold Fi_DiskFall at h
 split at h
 ·exact (vi_DiskFall _ _ _).trans h
 ·cases h
noncomputable def Es_l1In:Env where
 tt := mkTI Tryd.prog
 fn := fun _ => none
 bxf := fun _ => none
 mv := []
 keep := fun _ => []
 keepB := fun _ => []
 keepX := fun _ => []
 keepXB := fun _ => []
theorem goodFs_l1In:∀ f ms F,Es_l1In.fn f = some (ms,F) → Sound Tryd.prog f ms F := fun f ms F h => by cases h
theorem goodBs_l1In:∀ f ms F,Es_l1In.bxf f = some (ms,F) → SoundB Tryd.prog f ms F := fun f ms F h => by cases h
theorem goods_l1In:Good Tryd.prog Es_l1In := ⟨rfl,goodFs_l1In,goodBs_l1In⟩
noncomputable def Os_l1In_0:Orc := fun _ _ => none
noncomputable def mss_l1In:List PM := [.own,.own,.own]
noncomputable def lss_l1In:List (Nat×Code) := loopsAll 0 (Tryd.f22.body.getD .skip)
theorem ks_l1In_0:OrcOk Es_l1In Os_l1In_0 lss_l1In 0 := orcOk_none
noncomputable def g_As_l1In (a0:Int) (a1:Int) (a2:Int):Bool := !decide (a0 ≥ a1) || true
noncomputable def g_Vs_l1In_0 (a0:Int) (a1:Int) (a2:Int):Bool := bif decide (a0 ≥ a1) then decide (a0 ≤ a2) else false
noncomputable def Fs_l1In:FSem := fun ys => match ys with
 | [.val false [.int .i64 a0],.val false [.int .i64 a1],.val false [.int .i64 a2]] => some ((g_As_l1In a0 a1 a2),.val false [.bool (g_Vs_l1In_0 a0 a1 a2)],[])
 | _ => none
theorem vs_l1In (a0:Int) (a1:Int) (a2:Int):collapseH .std Es_l1In Os_l1In_0 (execFn Es_l1In Tryd.f22 mss_l1In [.val false [.int .i64 a0],.val false [.int .i64 a1],.val false [.int .i64 a2]]) = some ((g_As_l1In a0 a1 a2),.val false [.bool (g_Vs_l1In_0 a0 a1 a2)],[]) := by kernel_rfl
theorem ss_l1In:Sound Tryd.prog 22 mss_l1In Fs_l1In := by
 refine fn_gen goods_l1In (by kernel_rfl) .std (fn := Tryd.f22) (c := (Tryd.f22.body.getD .skip)) (o := Os_l1In_0) (k := 0) (by kernel_rfl) (by kernel_rfl) (by kernel_rfl) (by kernel_rfl) (by decide) ks_l1In_0 ?_
 intro ys r outs h
 unfold Fs_l1In at h
 split at h
 ·exact (vs_l1In _ _ _).trans h
 ·cases h
noncomputable def Es_l1Key:Env where
 tt := mkTI Tryd.prog
 fn := fun f => match f with
  | 22 => some (mss_l1In,FSem.wk mss_l1In Fs_l1In)
  | _ => none
 bxf := fun _ => none
 mv := []
 keep := fun b => match b with
  | 0 => [(0,false),(3,false)]
  | _ => []
 keepB := fun b => match b with
  | 0 => []
  | _ => []
 keepX := fun b => match b with
  | 0 => [(2,false)]
  | _ => []
 keepXB := fun b => match b with
  | 0 => []
  | _ => []
theorem goodFs_l1Key:∀ f ms F,Es_l1Key.fn f = some (ms,F) → Sound Tryd.prog f ms F := fun f ms F h => by
 unfold Es_l1Key at h
 dsimp only at h
 split at h
 ·injection h with h; injection h with e1 e2; subst e1 e2; exact Sound.wk ss_l1In
 ·cases h
theorem goodBs_l1Key:∀ f ms F,Es_l1Key.bxf f = some (ms,F) → SoundB Tryd.prog f ms F := fun f ms F h => by cases h
theorem goods_l1Key:Good Tryd.prog Es_l1Key := ⟨rfl,goodFs_l1Key,goodBs_l1Key⟩
noncomputable def Os_l1Key_0:Orc := fun _ _ => none
noncomputable def mss_l1Key:List PM := [.own]
noncomputable def lss_l1Key:List (Nat×Code) := loopsAll 0 (Tryd.f38.body.getD .skip)
noncomputable def cs_l1Key_0:Code := (loopOf 0 (Tryd.f38.body.getD .skip)).getD .skip
theorem lseqs_l1Key:lss_l1Key = [(0,cs_l1Key_0)] := by kernel_rfl
theorem ms_l1Key_0:∀ p,p ∈ lss_l1Key → p.1 = 0 → p.2 = cs_l1Key_0 := by
 intro p hp
 rw [lseqs_l1Key] at hp
 simp only [List.mem_cons,List.not_mem_nil,or_false] at hp
 subst hp; simp
theorem ks_l1Key_0:OrcOk Es_l1Key Os_l1Key_0 lss_l1Key 0 := orcOk_none
noncomputable def hs_l1Key_0 (y0:ByteArray) (y1:Int):List (Pl×LV) := [(.T 0,.t (.val false [.str y0])),(.T 3,.t (.val false [.int .i64 y1]))]
noncomputable def g_Ss_l1Key_0 (y0:ByteArray):(Int) → RT (Int) ((Bool) ⊕ (Unit))
 | y1 => .br (true) (.br (decide (y1 < (↑(ByteArray.size y0):Int))) (.br (decide ((0:Int) ≤ y1 ∧ y1 < (↑(ByteArray.size y0):Int))) (.br (true) (.br (decide (byteAt y0 (Int.toNat y1) < (48:Int))) (.out (.inl false)) (.br (decide ((0:Int) ≤ y1 ∧ y1 < (↑(ByteArray.size y0):Int))) (.br (true) (.br (decide (byteAt y0 (Int.toNat y1) > (57:Int))) (.out (.inl false)) (.br (true) (.go (IntKind.wrap IntKind.i64 (y1 + (1:Int)))) .bad)) .bad) .bad)) .bad) .bad) (.out (.inr (())))) .bad
noncomputable def g_Ls_l1Key_0 (y0:ByteArray) (x:Int):Option ((Bool) ⊕ (Unit)) := loopO (g_Ss_l1Key_0 y0) x
noncomputable def xs_l1Key_0 (y0:ByteArray):((Bool) ⊕ (Unit)) → Ex×List (Pl×LV) := fun
 | .inl r => (.ret,[(.T 2,.t (.val false [.bool r]))])
 | .inr (r) => (.exit 0,[(.T 2,.t (.val false [.undef]))])
noncomputable def Os_l1Key_1:Orc := fun b h => match b,h with
 | 0,[(.T 0,.t (.val false [.str y0])),(.T 3,.t (.val false [.int .i64 y1]))] => some (okO (g_Ls_l1Key_0 y0 y1),(.br (isL (valO (g_Ls_l1Key_0 y0 y1))) (.leaf .ret [(.T 2,.t (.val false [.bool (getL (valO (g_Ls_l1Key_0 y0 y1)))]))]) (.leaf (.exit 0) [(.T 2,.t (.val false [.undef]))])))
 | b,h => Os_l1Key_0 b h
theorem bs_l1Key_0 (y0:ByteArray) (y1:Int):Tr.bt Es_l1Key Os_l1Key_0 (exec Es_l1Key 0 cs_l1Key_0 (St.of (hs_l1Key_0 y0 y1)) (leafRd Es_l1Key 0)) = (g_Ss_l1Key_0 y0 y1).bt (fun (y1:Int) => (hs_l1Key_0 y0 y1)) (xs_l1Key_0 y0) := by kernel_rfl
theorem ks_l1Key_1:OrcOk Es_l1Key Os_l1Key_1 lss_l1Key 1 := orc_add ks_l1Key_0 (fun n p hp h ex h' ho => by
 obtain ⟨b,c⟩ := p
 obtain ⟨xt,h1,h2⟩ := ho
 have h1:Os_l1Key_1 b h = some (true,xt) := h1
 unfold Os_l1Key_1 at h1
 split at h1
 ·injection h1 with h1
  injection h1 with e1 e2
  subst e2
  have hc:c = cs_l1Key_0 := ms_l1Key_0 _ hp rfl
  subst hc
  right
  rename_i y0 y1
  have key := LT_step ks_l1Key_0 hp (fun q hq => loopsAll_in _ _ _ _ hp hq) (fun (y1:Int) => (hs_l1Key_0 y0 y1)) (xs_l1Key_0 y0) (g_Ss_l1Key_0 y0) (fun x => by first | exact bs_l1Key_0 y0 x) n (x := y1) (okO_some e1)
  have hx:∀ r,XT.sel (.br (isL r) (.leaf .ret [(.T 2,.t (.val false [.bool (getL r)]))]) (.leaf (.exit 0) [(.T 2,.t (.val false [.undef]))])) = xs_l1Key_0 y0 r := fun r => by first | rfl | (rcases r with r | r <;> rfl) | (rcases r with r | r | r <;> rfl) | (rcases r with r | r | r | r <;> rfl)
  have h3 := (hx (valO (g_Ls_l1Key_0 y0 y1))).symm.trans h2
  have e3 := congrArg Prod.fst h3
  have e4 := congrArg Prod.snd h3
  simp only at e3 e4
  rw [← e3,← e4]
  exact key
 ·exact .inl ⟨xt,h1,h2⟩)
noncomputable def g_As_l1Key (a0:ByteArray):Bool := g_As_l1In (↑(ByteArray.size a0):Int) (2:Int) (3:Int)&&(!g_Vs_l1In_0 (↑(ByteArray.size a0):Int) (2:Int) (3:Int) || decide ((0:Int) ≤ (0:Int) ∧ (0:Int) < (↑(ByteArray.size a0):Int))&&(decide (byteAt a0 (nat_lit 0) < (97:Int)) || decide ((0:Int) ≤ (0:Int) ∧ (0:Int) < (↑(ByteArray.size a0):Int))&&(decide (byteAt a0 (nat_lit 0) > (122:Int)) || okO (g_Ls_l1Key_0 a0 (1:Int)))))
noncomputable def g_Vs_l1Key_0 (a0:ByteArray):Bool := bif !g_Vs_l1In_0 (↑(ByteArray.size a0):Int) (2:Int) (3:Int) then false else bif decide (byteAt a0 (nat_lit 0) < (97:Int)) then false else bif decide (byteAt a0 (nat_lit 0) > (122:Int)) then false else bif isL (valO (g_Ls_l1Key_0 a0 (1:Int))) then getL (valO (g_Ls_l1Key_0 a0 (1:Int))) else true
noncomputable def Fs_l1Key:FSem := fun ys => match ys with
 | [.val false [.str a0]] => some ((g_As_l1Key a0),.val false [.bool (g_Vs_l1Key_0 a0)],[])
 | _ => none
theorem vs_l1Key (a0:ByteArray):collapseH .std Es_l1Key Os_l1Key_1 (execFn Es_l1Key Tryd.f38 mss_l1Key [.val false [.str a0]]) = some ((g_As_l1Key a0),.val false [.bool (g_Vs_l1Key_0 a0)],[]) := by kernel_rfl
theorem ss_l1Key:Sound Tryd.prog 38 mss_l1Key Fs_l1Key := by
 refine fn_gen goods_l1Key (by kernel_rfl) .std (fn := Tryd.f38) (c := (Tryd.f38.body.getD .skip)) (o := Os_l1Key_1) (k := 1) (by kernel_rfl) (by kernel_rfl) (by kernel_rfl) (by kernel_rfl) (by decide) ks_l1Key_1 ?_
 intro ys r outs h
 unfold Fs_l1Key at h
 split at h
 ·exact (vs_l1Key _).trans h
 ·cases h
noncomputable def Es_l1Val:Env where
 tt := mkTI Tryd.prog
 fn := fun f => match f with
  | 22 => some (mss_l1In,FSem.wk mss_l1In Fs_l1In)
  | _ => none
 bxf := fun _ => none
 mv := []
 keep := fun b => match b with
  | 0 => [(0,false),(3,false)]
  | _ => []
 keepB := fun b => match b with
  | 0 => []
  | _ => []
 keepX := fun b => match b with
  | 0 => [(0,false),(2,false)]
  | _ => []
 keepXB := fun b => match b with
  | 0 => []
  | _ => []
theorem goodFs_l1Val:∀ f ms F,Es_l1Val.fn f = some (ms,F) → Sound Tryd.prog f ms F := fun f ms F h => by
 unfold Es_l1Val at h
 dsimp only at h
 split at h
 ·injection h with h; injection h with e1 e2; subst e1 e2; exact Sound.wk ss_l1In
 ·cases h
theorem goodBs_l1Val:∀ f ms F,Es_l1Val.bxf f = some (ms,F) → SoundB Tryd.prog f ms F := fun f ms F h => by cases h
theorem goods_l1Val:Good Tryd.prog Es_l1Val := ⟨rfl,goodFs_l1Val,goodBs_l1Val⟩
noncomputable def Os_l1Val_0:Orc := fun _ _ => none
noncomputable def mss_l1Val:List PM := [.rd]
noncomputable def lss_l1Val:List (Nat×Code) := loopsAll 0 (Tryd.f60.body.getD .skip)
noncomputable def cs_l1Val_0:Code := (loopOf 0 (Tryd.f60.body.getD .skip)).getD .skip
theorem lseqs_l1Val:lss_l1Val = [(0,cs_l1Val_0)] := by kernel_rfl
theorem ms_l1Val_0:∀ p,p ∈ lss_l1Val → p.1 = 0 → p.2 = cs_l1Val_0 := by
 intro p hp
 rw [lseqs_l1Val] at hp
 simp only [List.mem_cons,List.not_mem_nil,or_false] at hp
 subst hp; simp
theorem ks_l1Val_0:OrcOk Es_l1Val Os_l1Val_0 lss_l1Val 0 := orcOk_none
noncomputable def hs_l1Val_0 (y0:List Int) (y1:Int):List (Pl×LV) := [(.T 0,.t (.val false [.sl .any 3 (.int .i64) y0])),(.T 3,.t (.val false [.int .i64 y1]))]
noncomputable def g_Ss_l1Val_0 (y0:List Int):(Int) → RT (Int) ((Bool) ⊕ (Unit))
 | y1 => .br (true) (.br (decide (y1 < (↑(List.length y0):Int))) (.br (decide ((0:Int) ≤ y1 ∧ y1 < (↑(List.length y0):Int))) (.br (g_As_l1In (at_ (Ty.int IntKind.i64) y0 (Int.toNat y1)) (0:Int) (9999:Int)) (.br (!g_Vs_l1In_0 (at_ (Ty.int IntKind.i64) y0 (Int.toNat y1)) (0:Int) (9999:Int)) (.out (.inl false)) (.br (true) (.go (IntKind.wrap IntKind.i64 (y1 + (1:Int)))) .bad)) .bad) .bad) (.out (.inr (())))) .bad
noncomputable def g_Ls_l1Val_0 (y0:List Int) (x:Int):Option ((Bool) ⊕ (Unit)) := loopO (g_Ss_l1Val_0 y0) x
noncomputable def xs_l1Val_0 (y0:List Int):((Bool) ⊕ (Unit)) → Ex×List (Pl×LV) := fun
 | .inl r => (.ret,[(.T 0,.t (.val false [.sl .any 3 (.int .i64) y0])),(.T 2,.t (.val false [.bool r]))])
 | .inr (r) => (.exit 0,[(.T 0,.t (.val false [.sl .any 3 (.int .i64) y0])),(.T 2,.t (.val false [.undef]))])
noncomputable def Os_l1Val_1:Orc := fun b h => match b,h with
 | 0,[(.T 0,.t (.val false [.sl .any 3 (.int .i64) y0])),(.T 3,.t (.val false [.int .i64 y1]))] => some (okO (g_Ls_l1Val_0 y0 y1),(.br (isL (valO (g_Ls_l1Val_0 y0 y1))) (.leaf .ret [(.T 0,.t (.val false [.sl .any 3 (.int .i64) y0])),(.T 2,.t (.val false [.bool (getL (valO (g_Ls_l1Val_0 y0 y1)))]))]) (.leaf (.exit 0) [(.T 0,.t (.val false [.sl .any 3 (.int .i64) y0])),(.T 2,.t (.val false [.undef]))])))
 | b,h => Os_l1Val_0 b h
theorem bs_l1Val_0 (y0:List Int) (y1:Int):Tr.bt Es_l1Val Os_l1Val_0 (exec Es_l1Val 0 cs_l1Val_0 (St.of (hs_l1Val_0 y0 y1)) (leafRd Es_l1Val 0)) = (g_Ss_l1Val_0 y0 y1).bt (fun (y1:Int) => (hs_l1Val_0 y0 y1)) (xs_l1Val_0 y0) := by kernel_rfl
theorem ks_l1Val_1:OrcOk Es_l1Val Os_l1Val_1 lss_l1Val 1 := orc_add ks_l1Val_0 (fun n p hp h ex h' ho => by
 obtain ⟨b,c⟩ := p
 obtain ⟨xt,h1,h2⟩ := ho
 have h1:Os_l1Val_1 b h = some (true,xt) := h1
 unfold Os_l1Val_1 at h1
 split at h1
 ·injection h1 with h1
  injection h1 with e1 e2
  subst e2
  have hc:c = cs_l1Val_0 := ms_l1Val_0 _ hp rfl
  subst hc
  right
  rename_i y0 y1
  have key := LT_step ks_l1Val_0 hp (fun q hq => loopsAll_in _ _ _ _ hp hq) (fun (y1:Int) => (hs_l1Val_0 y0 y1)) (xs_l1Val_0 y0) (g_Ss_l1Val_0 y0) (fun x => by first | exact bs_l1Val_0 y0 x) n (x := y1) (okO_some e1)
  have hx:∀ r,XT.sel (.br (isL r) (.leaf .ret [(.T 0,.t (.val false [.sl .any 3 (.int .i64) y0])),(.T 2,.t (.val false [.bool (getL r)]))]) (.leaf (.exit 0) [(.T 0,.t (.val false [.sl .any 3 (.int .i64) y0])),(.T 2,.t (.val false [.undef]))])) = xs_l1Val_0 y0 r := fun r => by first | rfl | (rcases r with r | r <;> rfl) | (rcases r with r | r | r <;> rfl) | (rcases r with r | r | r | r <;> rfl)
  have h3 := (hx (valO (g_Ls_l1Val_0 y0 y1))).symm.trans h2
  have e3 := congrArg Prod.fst h3
  have e4 := congrArg Prod.snd h3
  simp only at e3 e4
  rw [← e3,← e4]
  exact key
 ·exact .inl ⟨xt,h1,h2⟩)
noncomputable def g_As_l1Val (a0:List Int):Bool := okO (g_Ls_l1Val_0 a0 (0:Int))&&(isL (valO (g_Ls_l1Val_0 a0 (0:Int))) || g_As_l1In (↑(List.length a0):Int) (1:Int) (3:Int))
noncomputable def g_Vs_l1Val_0 (a0:List Int):Bool := bif isL (valO (g_Ls_l1Val_0 a0 (0:Int))) then getL (valO (g_Ls_l1Val_0 a0 (0:Int))) else g_Vs_l1In_0 (↑(List.length a0):Int) (1:Int) (3:Int)
noncomputable def Fs_l1Val:FSem := fun ys => match ys with
 | [.val false [.sl .any 3 (.int .i64) a0]] => some ((g_As_l1Val a0),.val false [.bool (g_Vs_l1Val_0 a0)],[])
 | _ => none
theorem vs_l1Val (a0:List Int):collapseH .std Es_l1Val Os_l1Val_1 (execFn Es_l1Val Tryd.f60 mss_l1Val [.val false [.sl .any 3 (.int .i64) a0]]) = some ((g_As_l1Val a0),.val false [.bool (g_Vs_l1Val_0 a0)],[]) := by kernel_rfl
theorem ss_l1Val:Sound Tryd.prog 60 mss_l1Val Fs_l1Val := by
 refine fn_gen goods_l1Val (by kernel_rfl) .std (fn := Tryd.f60) (c := (Tryd.f60.body.getD .skip)) (o := Os_l1Val_1) (k := 1) (by kernel_rfl) (by kernel_rfl) (by kernel_rfl) (by kernel_rfl) (by decide) ks_l1Val_1 ?_
 intro ys r outs h
 unfold Fs_l1Val at h
 split at h
 ·exact (vs_l1Val _).trans h
 ·cases h
noncomputable def Es_WrtOk:Env where
 tt := mkTI Tryd.prog
 fn := fun f => match f with
  | 38 => some (mss_l1Key,FSem.wk mss_l1Key Fs_l1Key)
  | 60 => some (mss_l1Val,FSem.wk mss_l1Val Fs_l1Val)
  | _ => none
 bxf := fun _ => none
 mv := []
 keep := fun _ => []
 keepB := fun _ => []
 keepX := fun _ => []
 keepXB := fun _ => []
theorem goodFs_WrtOk:∀ f ms F,Es_WrtOk.fn f = some (ms,F) → Sound Tryd.prog f ms F := fun f ms F h => by
 unfold Es_WrtOk at h
 dsimp only at h
 split at h
 ·injection h with h; injection h with e1 e2; subst e1 e2; exact Sound.wk ss_l1Key
 ·injection h with h; injection h with e1 e2; subst e1 e2; exact Sound.wk ss_l1Val
 ·cases h
theorem goodBs_WrtOk:∀ f ms F,Es_WrtOk.bxf f = some (ms,F) → SoundB Tryd.prog f ms F := fun f ms F h => by cases h
theorem goods_WrtOk:Good Tryd.prog Es_WrtOk := ⟨rfl,goodFs_WrtOk,goodBs_WrtOk⟩
noncomputable def Os_WrtOk_0:Orc := fun _ _ => none
noncomputable def mss_WrtOk:List PM := [.rd]
noncomputable def lss_WrtOk:List (Nat×Code) := loopsAll 0 (Tryd.f39.body.getD .skip)
theorem ks_WrtOk_0:OrcOk Es_WrtOk Os_WrtOk_0 lss_WrtOk 0 := orcOk_none
noncomputable def g_As_WrtOk (a0:ByteArray) (a1:Bool) (a2:List Int):Bool := bif a1 then g_As_l1Key a0&&(!g_Vs_l1Key_0 a0 || true) else g_As_l1Key a0&&(!g_Vs_l1Key_0 a0 || g_As_l1Val a2)
noncomputable def g_Vs_WrtOk_0 (a0:ByteArray) (a1:Bool) (a2:List Int):Bool := bif a1 then bif g_Vs_l1Key_0 a0 then (↑(List.length a2):Int) == (0:Int) else false else bif g_Vs_l1Key_0 a0 then g_Vs_l1Val_0 a2 else false
noncomputable def Fs_WrtOk:FSem := fun ys => match ys with
 | [.val true [.str a0,.bool a1,.sl .any 3 (.int .i64) a2]] => some ((g_As_WrtOk a0 a1 a2),.val false [.bool (g_Vs_WrtOk_0 a0 a1 a2)],[])
 | _ => none
theorem vs_WrtOk (a0:ByteArray) (a1:Bool) (a2:List Int):collapseH .std Es_WrtOk Os_WrtOk_0 (execFn Es_WrtOk Tryd.f39 mss_WrtOk [.val true [.str a0,.bool a1,.sl .any 3 (.int .i64) a2]]) = some ((g_As_WrtOk a0 a1 a2),.val false [.bool (g_Vs_WrtOk_0 a0 a1 a2)],[]) := by kernel_rfl
theorem ss_WrtOk:Sound Tryd.prog 39 mss_WrtOk Fs_WrtOk := by
 refine fn_gen goods_WrtOk (by kernel_rfl) .std (fn := Tryd.f39) (c := (Tryd.f39.body.getD .skip)) (o := Os_WrtOk_0) (k := 0) (by kernel_rfl) (by kernel_rfl) (by kernel_rfl) (by kernel_rfl) (by decide) ks_WrtOk_0 ?_
 intro ys r outs h
 unfold Fs_WrtOk at h
 split at h
 ·exact (vs_WrtOk _ _ _).trans h
 ·cases h
noncomputable def Es_l2Has:Env where
 tt := mkTI Tryd.prog
 fn := fun _ => none
 bxf := fun _ => none
 mv := []
 keep := fun b => match b with
  | 0 => [(0,false),(1,false),(5,false)]
  | _ => []
 keepB := fun b => match b with
  | 0 => []
  | _ => []
 keepX := fun b => match b with
  | 0 => [(4,false)]
  | _ => []
 keepXB := fun b => match b with
  | 0 => []
  | _ => []
theorem goodFs_l2Has:∀ f ms F,Es_l2Has.fn f = some (ms,F) → Sound Tryd.prog f ms F := fun f ms F h => by cases h
theorem goodBs_l2Has:∀ f ms F,Es_l2Has.bxf f = some (ms,F) → SoundB Tryd.prog f ms F := fun f ms F h => by cases h
theorem goods_l2Has:Good Tryd.prog Es_l2Has := ⟨rfl,goodFs_l2Has,goodBs_l2Has⟩
noncomputable def Os_l2Has_0:Orc := fun _ _ => none
noncomputable def mss_l2Has:List PM := [.rd,.own]
noncomputable def lss_l2Has:List (Nat×Code) := loopsAll 0 (Tryd.f40.body.getD .skip)
noncomputable def cs_l2Has_0:Code := (loopOf 0 (Tryd.f40.body.getD .skip)).getD .skip
theorem lseqs_l2Has:lss_l2Has = [(0,cs_l2Has_0)] := by kernel_rfl
theorem ms_l2Has_0:∀ p,p ∈ lss_l2Has → p.1 = 0 → p.2 = cs_l2Has_0 := by
 intro p hp
 rw [lseqs_l2Has] at hp
 simp only [List.mem_cons,List.not_mem_nil,or_false] at hp
 subst hp; simp
theorem ks_l2Has_0:OrcOk Es_l2Has Os_l2Has_0 lss_l2Has 0 := orcOk_none
noncomputable def hs_l2Has_0 (y0:List ByteArray) (y1:ByteArray) (y2:Int):List (Pl×LV) := [(.T 0,.t (.val false [.sl .any 9 .str y0])),(.T 1,.t (.val false [.str y1])),(.T 5,.t (.val false [.int .i64 y2]))]
noncomputable def g_Ss_l2Has_0 (y0:List ByteArray) (y1:ByteArray):(Int) → RT (Int) ((Bool) ⊕ (Unit))
 | y2 => .br (true) (.br (decide (y2 < (↑(List.length y0):Int))) (.br (decide ((0:Int) ≤ y2 ∧ y2 < (↑(List.length y0):Int))) (.br (true) (.br (ByteArray.toList (at_ Ty.str y0 (Int.toNat y2)) == ByteArray.toList y1) (.out (.inl true)) (.br (true) (.go (IntKind.wrap IntKind.i64 (y2 + (1:Int)))) .bad)) .bad) .bad) (.out (.inr (())))) .bad
noncomputable def g_Ls_l2Has_0 (y0:List ByteArray) (y1:ByteArray) (x:Int):Option ((Bool) ⊕ (Unit)) := loopO (g_Ss_l2Has_0 y0 y1) x
noncomputable def xs_l2Has_0 (y0:List ByteArray) (y1:ByteArray):((Bool) ⊕ (Unit)) → Ex×List (Pl×LV) := fun
 | .inl r => (.ret,[(.T 4,.t (.val false [.bool r]))])
 | .inr (r) => (.exit 0,[(.T 4,.t (.val false [.undef]))])
noncomputable def Os_l2Has_1:Orc := fun b h => match b,h with
 | 0,[(.T 0,.t (.val false [.sl .any 9 .str y0])),(.T 1,.t (.val false [.str y1])),(.T 5,.t (.val false [.int .i64 y2]))] => some (okO (g_Ls_l2Has_0 y0 y1 y2),(.br (isL (valO (g_Ls_l2Has_0 y0 y1 y2))) (.leaf .ret [(.T 4,.t (.val false [.bool (getL (valO (g_Ls_l2Has_0 y0 y1 y2)))]))]) (.leaf (.exit 0) [(.T 4,.t (.val false [.undef]))])))
 | b,h => Os_l2Has_0 b h
theorem bs_l2Has_0 (y0:List ByteArray) (y1:ByteArray) (y2:Int):Tr.bt Es_l2Has Os_l2Has_0 (exec Es_l2Has 0 cs_l2Has_0 (St.of (hs_l2Has_0 y0 y1 y2)) (leafRd Es_l2Has 0)) = (g_Ss_l2Has_0 y0 y1 y2).bt (fun (y2:Int) => (hs_l2Has_0 y0 y1 y2)) (xs_l2Has_0 y0 y1) := by kernel_rfl
theorem ks_l2Has_1:OrcOk Es_l2Has Os_l2Has_1 lss_l2Has 1 := orc_add ks_l2Has_0 (fun n p hp h ex h' ho => by
 obtain ⟨b,c⟩ := p
 obtain ⟨xt,h1,h2⟩ := ho
 have h1:Os_l2Has_1 b h = some (true,xt) := h1
 unfold Os_l2Has_1 at h1
 split at h1
 ·injection h1 with h1
  injection h1 with e1 e2
  subst e2
  have hc:c = cs_l2Has_0 := ms_l2Has_0 _ hp rfl
  subst hc
  right
  rename_i y0 y1 y2
  have key := LT_step ks_l2Has_0 hp (fun q hq => loopsAll_in _ _ _ _ hp hq) (fun (y2:Int) => (hs_l2Has_0 y0 y1 y2)) (xs_l2Has_0 y0 y1) (g_Ss_l2Has_0 y0 y1) (fun x => by first | exact bs_l2Has_0 y0 y1 x) n (x := y2) (okO_some e1)
  have hx:∀ r,XT.sel (.br (isL r) (.leaf .ret [(.T 4,.t (.val false [.bool (getL r)]))]) (.leaf (.exit 0) [(.T 4,.t (.val false [.undef]))])) = xs_l2Has_0 y0 y1 r := fun r => by first | rfl | (rcases r with r | r <;> rfl) | (rcases r with r | r | r <;> rfl) | (rcases r with r | r | r | r <;> rfl)
  have h3 := (hx (valO (g_Ls_l2Has_0 y0 y1 y2))).symm.trans h2
  have e3 := congrArg Prod.fst h3
  have e4 := congrArg Prod.snd h3
  simp only at e3 e4
  rw [← e3,← e4]
  exact key
 ·exact .inl ⟨xt,h1,h2⟩)
noncomputable def g_As_l2Has (a0:List ByteArray) (a1:ByteArray):Bool := okO (g_Ls_l2Has_0 a0 a1 (0:Int))
noncomputable def g_Vs_l2Has_0 (a0:List ByteArray) (a1:ByteArray):Bool := bif isL (valO (g_Ls_l2Has_0 a0 a1 (0:Int))) then getL (valO (g_Ls_l2Has_0 a0 a1 (0:Int))) else false
noncomputable def Fs_l2Has:FSem := fun ys => match ys with
 | [.val false [.sl .any 9 .str a0],.val false [.str a1]] => some ((g_As_l2Has a0 a1),.val false [.bool (g_Vs_l2Has_0 a0 a1)],[])
 | _ => none
theorem vs_l2Has (a0:List ByteArray) (a1:ByteArray):collapseH .std Es_l2Has Os_l2Has_1 (execFn Es_l2Has Tryd.f40 mss_l2Has [.val false [.sl .any 9 .str a0],.val false [.str a1]]) = some ((g_As_l2Has a0 a1),.val false [.bool (g_Vs_l2Has_0 a0 a1)],[]) := by kernel_rfl
theorem ss_l2Has:Sound Tryd.prog 40 mss_l2Has Fs_l2Has := by
 refine fn_gen goods_l2Has (by kernel_rfl) .std (fn := Tryd.f40) (c := (Tryd.f40.body.getD .skip)) (o := Os_l2Has_1) (k := 1) (by kernel_rfl) (by kernel_rfl) (by kernel_rfl) (by kernel_rfl) (by decide) ks_l2Has_1 ?_
 intro ys r outs h
 unfold Fs_l2Has at h
 split at h
 ·exact (vs_l2Has _ _).trans h
 ·cases h
noncomputable def Es_NoteOk:Env where
 tt := mkTI Tryd.prog
 fn := fun f => match f with
  | 22 => some (mss_l1In,FSem.wk mss_l1In Fs_l1In)
  | 38 => some (mss_l1Key,FSem.wk mss_l1Key Fs_l1Key)
  | 39 => some (mss_WrtOk,FSem.wk mss_WrtOk Fs_WrtOk)
  | 40 => some (mss_l2Has,FSem.wk mss_l2Has Fs_l2Has)
  | _ => none
 bxf := fun _ => none
 mv := []
 keep := fun b => match b with
  | 0 => [(1,false),(3,false)]
  | 2 => [(1,false),(4,false)]
  | _ => []
 keepB := fun b => match b with
  | 0 => [(1,false)]
  | 2 => [(1,false)]
  | _ => []
 keepX := fun b => match b with
  | 0 => [(1,false),(2,false)]
  | 2 => [(1,false),(2,false)]
  | _ => []
 keepXB := fun b => match b with
  | 0 => [(1,false)]
  | 2 => [(1,false)]
  | _ => []
theorem goodFs_NoteOk:∀ f ms F,Es_NoteOk.fn f = some (ms,F) → Sound Tryd.prog f ms F := fun f ms F h => by
 unfold Es_NoteOk at h
 dsimp only at h
 split at h
 ·injection h with h; injection h with e1 e2; subst e1 e2; exact Sound.wk ss_l1In
 ·injection h with h; injection h with e1 e2; subst e1 e2; exact Sound.wk ss_l1Key
 ·injection h with h; injection h with e1 e2; subst e1 e2; exact Sound.wk ss_WrtOk
 ·injection h with h; injection h with e1 e2; subst e1 e2; exact Sound.wk ss_l2Has
 ·cases h
theorem goodBs_NoteOk:∀ f ms F,Es_NoteOk.bxf f = some (ms,F) → SoundB Tryd.prog f ms F := fun f ms F h => by cases h
theorem goods_NoteOk:Good Tryd.prog Es_NoteOk := ⟨rfl,goodFs_NoteOk,goodBs_NoteOk⟩
noncomputable def Os_NoteOk_0:Orc := fun _ _ => none
noncomputable def mss_NoteOk:List PM := [.rd]
noncomputable def lss_NoteOk:List (Nat×Code) := loopsAll 0 (Tryd.f23.body.getD .skip)
noncomputable def cs_NoteOk_0:Code := (loopOf 0 (Tryd.f23.body.getD .skip)).getD .skip
noncomputable def cs_NoteOk_2:Code := (loopOf 2 (Tryd.f23.body.getD .skip)).getD .skip
theorem lseqs_NoteOk:lss_NoteOk = [(0,cs_NoteOk_0),(2,cs_NoteOk_2)] := by kernel_rfl
theorem ms_NoteOk_0:∀ p,p ∈ lss_NoteOk → p.1 = 0 → p.2 = cs_NoteOk_0 := by
 intro p hp
 rw [lseqs_NoteOk] at hp
 simp only [List.mem_cons,List.not_mem_nil,or_false] at hp
 rcases hp with rfl | rfl <;> simp
theorem ms_NoteOk_2:∀ p,p ∈ lss_NoteOk → p.1 = 2 → p.2 = cs_NoteOk_2 := by
 intro p hp
 rw [lseqs_NoteOk] at hp
 simp only [List.mem_cons,List.not_mem_nil,or_false] at hp
 rcases hp with rfl | rfl <;> simp
theorem ks_NoteOk_0:OrcOk Es_NoteOk Os_NoteOk_0 lss_NoteOk 0 := orcOk_none
noncomputable def hs_NoteOk_0 (y0:Int) (y1:Int) (y2:Int) (y3:List ByteArray) (y4:List (ByteArray×(Bool×(List Int)))):List (Pl×LV) := [(.T 1,.t (.val false [.ptr 1 0 0])),(.T 3,.t (.val false [.int .i64 y0])),(.B 1,.b 0 false [.int .i64 y1,.int .i64 y2,.sl .any 9 .str y3,.sl .any 64 (.pair .str (.pair .bool (.sl 3 (.int .i64)))) y4])]
noncomputable def g_Ss_NoteOk_0 (y1:Int) (y2:Int) (y3:List ByteArray) (y4:List (ByteArray×(Bool×(List Int)))):(Int) → RT (Int) ((Bool) ⊕ (Unit))
 | y0 => .br (true) (.br (decide (y0 < (↑(List.length y3):Int))) (.br (decide ((0:Int) ≤ y0 ∧ y0 < (↑(List.length y3):Int))) (.br (g_As_l1Key (at_ Ty.str y3 (Int.toNat y0))) (.br (!g_Vs_l1Key_0 (at_ Ty.str y3 (Int.toNat y0))) (.out (.inl false)) (.br (true) (.go (IntKind.wrap IntKind.i64 (y0 + (1:Int)))) .bad)) .bad) .bad) (.out (.inr (())))) .bad
noncomputable def g_Ls_NoteOk_0 (y1:Int) (y2:Int) (y3:List ByteArray) (y4:List (ByteArray×(Bool×(List Int)))) (x:Int):Option ((Bool) ⊕ (Unit)) := loopO (g_Ss_NoteOk_0 y1 y2 y3 y4) x
noncomputable def xs_NoteOk_0 (y1:Int) (y2:Int) (y3:List ByteArray) (y4:List (ByteArray×(Bool×(List Int)))):((Bool) ⊕ (Unit)) → Ex×List (Pl×LV) := fun
 | .inl r => (.ret,[(.T 1,.t (.val false [.ptr 1 0 0])),(.T 2,.t (.val false [.bool r])),(.B 1,.b 0 false [.int .i64 y1,.int .i64 y2,.sl .any 9 .str y3,.sl .any 64 (.pair .str (.pair .bool (.sl 3 (.int .i64)))) y4])])
 | .inr (r) => (.exit 0,[(.T 1,.t (.val false [.ptr 1 0 0])),(.T 2,.t (.val false [.undef])),(.B 1,.b 0 false [.int .i64 y1,.int .i64 y2,.sl .any 9 .str y3,.sl .any 64 (.pair .str (.pair .bool (.sl 3 (.int .i64)))) y4])])
noncomputable def Os_NoteOk_1:Orc := fun b h => match b,h with
 | 0,[(.T 1,.t (.val false [.ptr 1 0 0])),(.T 3,.t (.val false [.int .i64 y0])),(.B 1,.b 0 false [.int .i64 y1,.int .i64 y2,.sl .any 9 .str y3,.sl .any 64 (.pair .str (.pair .bool (.sl 3 (.int .i64)))) y4])] => some (okO (g_Ls_NoteOk_0 y1 y2 y3 y4 y0),(.br (isL (valO (g_Ls_NoteOk_0 y1 y2 y3 y4 y0))) (.leaf .ret [(.T 1,.t (.val false [.ptr 1 0 0])),(.T 2,.t (.val false [.bool (getL (valO (g_Ls_NoteOk_0 y1 y2 y3 y4 y0)))])),(.B 1,.b 0 false [.int .i64 y1,.int .i64 y2,.sl .any 9 .str y3,.sl .any 64 (.pair .str (.pair .bool (.sl 3 (.int .i64)))) y4])]) (.leaf (.exit 0) [(.T 1,.t (.val false [.ptr 1 0 0])),(.T 2,.t (.val false [.undef])),(.B 1,.b 0 false [.int .i64 y1,.int .i64 y2,.sl .any 9 .str y3,.sl .any 64 (.pair .str (.pair .bool (.sl 3 (.int .i64)))) y4])])))
 | b,h => Os_NoteOk_0 b h
theorem bs_NoteOk_0 (y0:Int) (y1:Int) (y2:Int) (y3:List ByteArray) (y4:List (ByteArray×(Bool×(List Int)))):Tr.bt Es_NoteOk Os_NoteOk_0 (exec Es_NoteOk 0 cs_NoteOk_0 (St.of (hs_NoteOk_0 y0 y1 y2 y3 y4)) (leafRd Es_NoteOk 0)) = (g_Ss_NoteOk_0 y1 y2 y3 y4 y0).bt (fun (y0:Int) => (hs_NoteOk_0 y0 y1 y2 y3 y4)) (xs_NoteOk_0 y1 y2 y3 y4) := by kernel_rfl
theorem ks_NoteOk_1:OrcOk Es_NoteOk Os_NoteOk_1 lss_NoteOk 1 := orc_add ks_NoteOk_0 (fun n p hp h ex h' ho => by
 obtain ⟨b,c⟩ := p
 obtain ⟨xt,h1,h2⟩ := ho
 have h1:Os_NoteOk_1 b h = some (true,xt) := h1
 unfold Os_NoteOk_1 at h1
 split at h1
 ·injection h1 with h1
  injection h1 with e1 e2
  subst e2
  have hc:c = cs_NoteOk_0 := ms_NoteOk_0 _ hp rfl
  subst hc
  right
  rename_i y0 y1 y2 y3 y4
  have key := LT_step ks_NoteOk_0 hp (fun q hq => loopsAll_in _ _ _ _ hp hq) (fun (y0:Int) => (hs_NoteOk_0 y0 y1 y2 y3 y4)) (xs_NoteOk_0 y1 y2 y3 y4) (g_Ss_NoteOk_0 y1 y2 y3 y4) (fun x => by first | exact bs_NoteOk_0 x y1 y2 y3 y4) n (x := y0) (okO_some e1)
  have hx:∀ r,XT.sel (.br (isL r) (.leaf .ret [(.T 1,.t (.val false [.ptr 1 0 0])),(.T 2,.t (.val false [.bool (getL r)])),(.B 1,.b 0 false [.int .i64 y1,.int .i64 y2,.sl .any 9 .str y3,.sl .any 64 (.pair .str (.pair .bool (.sl 3 (.int .i64)))) y4])]) (.leaf (.exit 0) [(.T 1,.t (.val false [.ptr 1 0 0])),(.T 2,.t (.val false [.undef])),(.B 1,.b 0 false [.int .i64 y1,.int .i64 y2,.sl .any 9 .str y3,.sl .any 64 (.pair .str (.pair .bool (.sl 3 (.int .i64)))) y4])])) = xs_NoteOk_0 y1 y2 y3 y4 r := fun r => by first | rfl | (rcases r with r | r <;> rfl) | (rcases r with r | r | r <;> rfl) | (rcases r with r | r | r | r <;> rfl)
  have h3 := (hx (valO (g_Ls_NoteOk_0 y1 y2 y3 y4 y0))).symm.trans h2
  have e3 := congrArg Prod.fst h3
  have e4 := congrArg Prod.snd h3
  simp only at e3 e4
  rw [← e3,← e4]
  exact key
 ·exact .inl ⟨xt,h1,h2⟩)
noncomputable def hs_NoteOk_2 (y0:Int) (y1:Int) (y2:Int) (y3:List ByteArray) (y4:List (ByteArray×(Bool×(List Int)))):List (Pl×LV) := [(.T 1,.t (.val false [.ptr 1 0 0])),(.T 4,.t (.val false [.int .i64 y0])),(.B 1,.b 0 false [.int .i64 y1,.int .i64 y2,.sl .any 9 .str y3,.sl .any 64 (.pair .str (.pair .bool (.sl 3 (.int .i64)))) y4])]
noncomputable def g_Ss_NoteOk_2 (y1:Int) (y2:Int) (y3:List ByteArray) (y4:List (ByteArray×(Bool×(List Int)))):(Int) → RT (Int) ((Bool) ⊕ (Unit))
 | y0 => .br (true) (.br (decide (y0 < (↑(List.length y4):Int))) (.br (decide ((0:Int) ≤ y0 ∧ y0 < (↑(List.length y4):Int))) (.br (g_As_WrtOk (at_ (Ty.pair Ty.str (Ty.pair Ty.bool (Ty.sl (nat_lit 3) (Ty.int IntKind.i64)))) y4 (Int.toNat y0)).1 (at_ (Ty.pair Ty.str (Ty.pair Ty.bool (Ty.sl (nat_lit 3) (Ty.int IntKind.i64)))) y4 (Int.toNat y0)).2.1 (at_ (Ty.pair Ty.str (Ty.pair Ty.bool (Ty.sl (nat_lit 3) (Ty.int IntKind.i64)))) y4 (Int.toNat y0)).2.2) (.br (!g_Vs_WrtOk_0 (at_ (Ty.pair Ty.str (Ty.pair Ty.bool (Ty.sl (nat_lit 3) (Ty.int IntKind.i64)))) y4 (Int.toNat y0)).1 (at_ (Ty.pair Ty.str (Ty.pair Ty.bool (Ty.sl (nat_lit 3) (Ty.int IntKind.i64)))) y4 (Int.toNat y0)).2.1 (at_ (Ty.pair Ty.str (Ty.pair Ty.bool (Ty.sl (nat_lit 3) (Ty.int IntKind.i64)))) y4 (Int.toNat y0)).2.2) (.out (.inl false)) (.br (decide ((0:Int) ≤ y0 ∧ y0 < (↑(List.length y4):Int))) (.br (g_As_l2Has y3 (at_ (Ty.pair Ty.str (Ty.pair Ty.bool (Ty.sl (nat_lit 3) (Ty.int IntKind.i64)))) y4 (Int.toNat y0)).1) (.br (!g_Vs_l2Has_0 y3 (at_ (Ty.pair Ty.str (Ty.pair Ty.bool (Ty.sl (nat_lit 3) (Ty.int IntKind.i64)))) y4 (Int.toNat y0)).1) (.out (.inl false)) (.br (true) (.go (IntKind.wrap IntKind.i64 (y0 + (1:Int)))) .bad)) .bad) .bad)) .bad) .bad) (.out (.inr (())))) .bad
noncomputable def g_Ls_NoteOk_2 (y1:Int) (y2:Int) (y3:List ByteArray) (y4:List (ByteArray×(Bool×(List Int)))) (x:Int):Option ((Bool) ⊕ (Unit)) := loopO (g_Ss_NoteOk_2 y1 y2 y3 y4) x
noncomputable def xs_NoteOk_2 (y1:Int) (y2:Int) (y3:List ByteArray) (y4:List (ByteArray×(Bool×(List Int)))):((Bool) ⊕ (Unit)) → Ex×List (Pl×LV) := fun
 | .inl r => (.ret,[(.T 1,.t (.val false [.ptr 1 0 0])),(.T 2,.t (.val false [.bool r])),(.B 1,.b 0 false [.int .i64 y1,.int .i64 y2,.sl .any 9 .str y3,.sl .any 64 (.pair .str (.pair .bool (.sl 3 (.int .i64)))) y4])])
 | .inr (r) => (.exit 2,[(.T 1,.t (.val false [.ptr 1 0 0])),(.T 2,.t (.val false [.undef])),(.B 1,.b 0 false [.int .i64 y1,.int .i64 y2,.sl .any 9 .str y3,.sl .any 64 (.pair .str (.pair .bool (.sl 3 (.int .i64)))) y4])])
noncomputable def Os_NoteOk_2:Orc := fun b h => match b,h with
 | 2,[(.T 1,.t (.val false [.ptr 1 0 0])),(.T 4,.t (.val false [.int .i64 y0])),(.B 1,.b 0 false [.int .i64 y1,.int .i64 y2,.sl .any 9 .str y3,.sl .any 64 (.pair .str (.pair .bool (.sl 3 (.int .i64)))) y4])] => some (okO (g_Ls_NoteOk_2 y1 y2 y3 y4 y0),(.br (isL (valO (g_Ls_NoteOk_2 y1 y2 y3 y4 y0))) (.leaf .ret [(.T 1,.t (.val false [.ptr 1 0 0])),(.T 2,.t (.val false [.bool (getL (valO (g_Ls_NoteOk_2 y1 y2 y3 y4 y0)))])),(.B 1,.b 0 false [.int .i64 y1,.int .i64 y2,.sl .any 9 .str y3,.sl .any 64 (.pair .str (.pair .bool (.sl 3 (.int .i64)))) y4])]) (.leaf (.exit 2) [(.T 1,.t (.val false [.ptr 1 0 0])),(.T 2,.t (.val false [.undef])),(.B 1,.b 0 false [.int .i64 y1,.int .i64 y2,.sl .any 9 .str y3,.sl .any 64 (.pair .str (.pair .bool (.sl 3 (.int .i64)))) y4])])))
 | b,h => Os_NoteOk_1 b h
theorem bs_NoteOk_2 (y0:Int) (y1:Int) (y2:Int) (y3:List ByteArray) (y4:List (ByteArray×(Bool×(List Int)))):Tr.bt Es_NoteOk Os_NoteOk_1 (exec Es_NoteOk 2 cs_NoteOk_2 (St.of (hs_NoteOk_2 y0 y1 y2 y3 y4)) (leafRd Es_NoteOk 2)) = (g_Ss_NoteOk_2 y1 y2 y3 y4 y0).bt (fun (y0:Int) => (hs_NoteOk_2 y0 y1 y2 y3 y4)) (xs_NoteOk_2 y1 y2 y3 y4) := by kernel_rfl
theorem ks_NoteOk_2:OrcOk Es_NoteOk Os_NoteOk_2 lss_NoteOk 2 := orc_add ks_NoteOk_1 (fun n p hp h ex h' ho => by
 obtain ⟨b,c⟩ := p
 obtain ⟨xt,h1,h2⟩ := ho
 have h1:Os_NoteOk_2 b h = some (true,xt) := h1
 unfold Os_NoteOk_2 at h1
 split at h1
 ·injection h1 with h1
  injection h1 with e1 e2
  subst e2
  have hc:c = cs_NoteOk_2 := ms_NoteOk_2 _ hp rfl
  subst hc
  right
  rename_i y0 y1 y2 y3 y4
  have key := LT_step ks_NoteOk_1 hp (fun q hq => loopsAll_in _ _ _ _ hp hq) (fun (y0:Int) => (hs_NoteOk_2 y0 y1 y2 y3 y4)) (xs_NoteOk_2 y1 y2 y3 y4) (g_Ss_NoteOk_2 y1 y2 y3 y4) (fun x => by first | exact bs_NoteOk_2 x y1 y2 y3 y4) n (x := y0) (okO_some e1)
  have hx:∀ r,XT.sel (.br (isL r) (.leaf .ret [(.T 1,.t (.val false [.ptr 1 0 0])),(.T 2,.t (.val false [.bool (getL r)])),(.B 1,.b 0 false [.int .i64 y1,.int .i64 y2,.sl .any 9 .str y3,.sl .any 64 (.pair .str (.pair .bool (.sl 3 (.int .i64)))) y4])]) (.leaf (.exit 2) [(.T 1,.t (.val false [.ptr 1 0 0])),(.T 2,.t (.val false [.undef])),(.B 1,.b 0 false [.int .i64 y1,.int .i64 y2,.sl .any 9 .str y3,.sl .any 64 (.pair .str (.pair .bool (.sl 3 (.int .i64)))) y4])])) = xs_NoteOk_2 y1 y2 y3 y4 r := fun r => by first | rfl | (rcases r with r | r <;> rfl) | (rcases r with r | r | r <;> rfl) | (rcases r with r | r | r | r <;> rfl)
  have h3 := (hx (valO (g_Ls_NoteOk_2 y1 y2 y3 y4 y0))).symm.trans h2
  have e3 := congrArg Prod.fst h3
  have e4 := congrArg Prod.snd h3
  simp only at e3 e4
  rw [← e3,← e4]
  exact key
 ·exact .inl ⟨xt,h1,h2⟩)
noncomputable def g_As_NoteOk (a0:Int) (a1:Int) (a2:List ByteArray) (a3:List (ByteArray×(Bool×(List Int)))):Bool := g_As_l1In a0 (1:Int) (4:Int)&&(!g_Vs_l1In_0 a0 (1:Int) (4:Int) || g_As_l1In a1 (0:Int) (29:Int)&&(!g_Vs_l1In_0 a1 (0:Int) (29:Int) || (decide ((↑(List.length a2):Int) > (12:Int)) || (decide ((↑(List.length a3):Int) > (12:Int)) || okO (g_Ls_NoteOk_0 a0 a1 a2 a3 (0:Int))&&(isL (valO (g_Ls_NoteOk_0 a0 a1 a2 a3 (0:Int))) || okO (g_Ls_NoteOk_2 a0 a1 a2 a3 (0:Int))&&(isL (valO (g_Ls_NoteOk_2 a0 a1 a2 a3 (0:Int))) || (a0 == (1:Int) || true)))))))
noncomputable def g_Vs_NoteOk_0 (a0:Int) (a1:Int) (a2:List ByteArray) (a3:List (ByteArray×(Bool×(List Int)))):Bool := bif !g_Vs_l1In_0 a0 (1:Int) (4:Int) then false else bif !g_Vs_l1In_0 a1 (0:Int) (29:Int) then false else bif decide ((↑(List.length a2):Int) > (12:Int)) then false else bif decide ((↑(List.length a3):Int) > (12:Int)) then false else bif isL (valO (g_Ls_NoteOk_0 a0 a1 a2 a3 (0:Int))) then getL (valO (g_Ls_NoteOk_0 a0 a1 a2 a3 (0:Int))) else bif isL (valO (g_Ls_NoteOk_2 a0 a1 a2 a3 (0:Int))) then getL (valO (g_Ls_NoteOk_2 a0 a1 a2 a3 (0:Int))) else bif a0 == (1:Int) then true else IntKind.wrap IntKind.i64 ((↑(List.length a2):Int) + (↑(List.length a3):Int)) == (0:Int)
noncomputable def Fs_NoteOk:FSem := fun ys => match ys with
 | [.val true [.int .i64 a0,.int .i64 a1,.sl .any 9 .str a2,.sl .any 64 (.pair .str (.pair .bool (.sl 3 (.int .i64)))) a3]] => some ((g_As_NoteOk a0 a1 a2 a3),.val false [.bool (g_Vs_NoteOk_0 a0 a1 a2 a3)],[])
 | _ => none
theorem vs_NoteOk (a0:Int) (a1:Int) (a2:List ByteArray) (a3:List (ByteArray×(Bool×(List Int)))):collapseH .std Es_NoteOk Os_NoteOk_2 (execFn Es_NoteOk Tryd.f23 mss_NoteOk [.val true [.int .i64 a0,.int .i64 a1,.sl .any 9 .str a2,.sl .any 64 (.pair .str (.pair .bool (.sl 3 (.int .i64)))) a3]]) = some ((g_As_NoteOk a0 a1 a2 a3),.val false [.bool (g_Vs_NoteOk_0 a0 a1 a2 a3)],[]) := by kernel_rfl
theorem ss_NoteOk:Sound Tryd.prog 23 mss_NoteOk Fs_NoteOk := by
 refine fn_gen goods_NoteOk (by kernel_rfl) .std (fn := Tryd.f23) (c := (Tryd.f23.body.getD .skip)) (o := Os_NoteOk_2) (k := 2) (by kernel_rfl) (by kernel_rfl) (by kernel_rfl) (by kernel_rfl) (by decide) ks_NoteOk_2 ?_
 intro ys r outs h
 unfold Fs_NoteOk at h
 split at h
 ·exact (vs_NoteOk _ _ _ _).trans h
 ·cases h
noncomputable def Es_DiskOk:Env where
 tt := mkTI Tryd.prog
 fn := fun f => match f with
  | 22 => some (mss_l1In,FSem.wk mss_l1In Fs_l1In)
  | 23 => some (mss_NoteOk,FSem.wk mss_NoteOk Fs_NoteOk)
  | _ => none
 bxf := fun _ => none
 mv := []
 keep := fun b => match b with
  | 0 => [(1,false),(3,false)]
  | _ => []
 keepB := fun b => match b with
  | 0 => [(1,false)]
  | _ => []
 keepX := fun b => match b with
  | 0 => [(2,false)]
  | _ => []
 keepXB := fun b => match b with
  | 0 => []
  | _ => []
theorem goodFs_DiskOk:∀ f ms F,Es_DiskOk.fn f = some (ms,F) → Sound Tryd.prog f ms F := fun f ms F h => by
 unfold Es_DiskOk at h
 dsimp only at h
 split at h
 ·injection h with h; injection h with e1 e2; subst e1 e2; exact Sound.wk ss_l1In
 ·injection h with h; injection h with e1 e2; subst e1 e2; exact Sound.wk ss_NoteOk
 ·cases h
theorem goodBs_DiskOk:∀ f ms F,Es_DiskOk.bxf f = some (ms,F) → SoundB Tryd.prog f ms F := fun f ms F h => by cases h
theorem goods_DiskOk:Good Tryd.prog Es_DiskOk := ⟨rfl,goodFs_DiskOk,goodBs_DiskOk⟩
noncomputable def Os_DiskOk_0:Orc := fun _ _ => none
noncomputable def mss_DiskOk:List PM := [.rd]
noncomputable def lss_DiskOk:List (Nat×Code) := loopsAll 0 (Tryd.f12.body.getD .skip)
noncomputable def cs_DiskOk_0:Code := (loopOf 0 (Tryd.f12.body.getD .skip)).getD .skip
theorem lseqs_DiskOk:lss_DiskOk = [(0,cs_DiskOk_0)] := by kernel_rfl
theorem ms_DiskOk_0:∀ p,p ∈ lss_DiskOk → p.1 = 0 → p.2 = cs_DiskOk_0 := by
 intro p hp
 rw [lseqs_DiskOk] at hp
 simp only [List.mem_cons,List.not_mem_nil,or_false] at hp
 subst hp; simp
theorem ks_DiskOk_0:OrcOk Es_DiskOk Os_DiskOk_0 lss_DiskOk 0 := orcOk_none
noncomputable def hs_DiskOk_0 (y0:Int) (y1:List (Int×(Int×((List ByteArray)×(List (ByteArray×(Bool×(List Int)))))))) (y2:Int):List (Pl×LV) := [(.T 1,.t (.val false [.ptr 1 0 0])),(.T 3,.t (.val false [.int .i64 y0])),(.B 1,.b 0 false [.sl .any 43 (.pair (.int .i64) (.pair (.int .i64) (.pair (.sl 9 .str) (.sl 64 (.pair .str (.pair .bool (.sl 3 (.int .i64)))))))) y1,.int .i64 y2])]
noncomputable def g_Ss_DiskOk_0 (y1:List (Int×(Int×((List ByteArray)×(List (ByteArray×(Bool×(List Int)))))))) (y2:Int):(Int) → RT (Int) ((Bool) ⊕ (Unit))
 | y0 => .br (true) (.br (decide (y0 < (↑(List.length y1):Int))) (.br (decide ((0:Int) ≤ y0 ∧ y0 < (↑(List.length y1):Int))) (.br (g_As_NoteOk (at_ (Ty.pair (Ty.int IntKind.i64) (Ty.pair (Ty.int IntKind.i64) (Ty.pair (Ty.sl (nat_lit 9) Ty.str) (Ty.sl (nat_lit 64) (Ty.pair Ty.str (Ty.pair Ty.bool (Ty.sl (nat_lit 3) (Ty.int IntKind.i64)))))))) y1 (Int.toNat y0)).1 (at_ (Ty.pair (Ty.int IntKind.i64) (Ty.pair (Ty.int IntKind.i64) (Ty.pair (Ty.sl (nat_lit 9) Ty.str) (Ty.sl (nat_lit 64) (Ty.pair Ty.str (Ty.pair Ty.bool (Ty.sl (nat_lit 3) (Ty.int IntKind.i64)))))))) y1 (Int.toNat y0)).2.1 (at_ (Ty.pair (Ty.int IntKind.i64) (Ty.pair (Ty.int IntKind.i64) (Ty.pair (Ty.sl (nat_lit 9) Ty.str) (Ty.sl (nat_lit 64) (Ty.pair Ty.str (Ty.pair Ty.bool (Ty.sl (nat_lit 3) (Ty.int IntKind.i64)))))))) y1 (Int.toNat y0)).2.2.1 (at_ (Ty.pair (Ty.int IntKind.i64) (Ty.pair (Ty.int IntKind.i64) (Ty.pair (Ty.sl (nat_lit 9) Ty.str) (Ty.sl (nat_lit 64) (Ty.pair Ty.str (Ty.pair Ty.bool (Ty.sl (nat_lit 3) (Ty.int IntKind.i64)))))))) y1 (Int.toNat y0)).2.2.2) (.br (!g_Vs_NoteOk_0 (at_ (Ty.pair (Ty.int IntKind.i64) (Ty.pair (Ty.int IntKind.i64) (Ty.pair (Ty.sl (nat_lit 9) Ty.str) (Ty.sl (nat_lit 64) (Ty.pair Ty.str (Ty.pair Ty.bool (Ty.sl (nat_lit 3) (Ty.int IntKind.i64)))))))) y1 (Int.toNat y0)).1 (at_ (Ty.pair (Ty.int IntKind.i64) (Ty.pair (Ty.int IntKind.i64) (Ty.pair (Ty.sl (nat_lit 9) Ty.str) (Ty.sl (nat_lit 64) (Ty.pair Ty.str (Ty.pair Ty.bool (Ty.sl (nat_lit 3) (Ty.int IntKind.i64)))))))) y1 (Int.toNat y0)).2.1 (at_ (Ty.pair (Ty.int IntKind.i64) (Ty.pair (Ty.int IntKind.i64) (Ty.pair (Ty.sl (nat_lit 9) Ty.str) (Ty.sl (nat_lit 64) (Ty.pair Ty.str (Ty.pair Ty.bool (Ty.sl (nat_lit 3) (Ty.int IntKind.i64)))))))) y1 (Int.toNat y0)).2.2.1 (at_ (Ty.pair (Ty.int IntKind.i64) (Ty.pair (Ty.int IntKind.i64) (Ty.pair (Ty.sl (nat_lit 9) Ty.str) (Ty.sl (nat_lit 64) (Ty.pair Ty.str (Ty.pair Ty.bool (Ty.sl (nat_lit 3) (Ty.int IntKind.i64)))))))) y1 (Int.toNat y0)).2.2.2) (.out (.inl false)) (.br (true) (.go (IntKind.wrap IntKind.i64 (y0 + (1:Int)))) .bad)) .bad) .bad) (.out (.inr (())))) .bad
noncomputable def g_Ls_DiskOk_0 (y1:List (Int×(Int×((List ByteArray)×(List (ByteArray×(Bool×(List Int)))))))) (y2:Int) (x:Int):Option ((Bool) ⊕ (Unit)) := loopO (g_Ss_DiskOk_0 y1 y2) x
noncomputable def xs_DiskOk_0 (y1:List (Int×(Int×((List ByteArray)×(List (ByteArray×(Bool×(List Int)))))))) (y2:Int):((Bool) ⊕ (Unit)) → Ex×List (Pl×LV) := fun
 | .inl r => (.ret,[(.T 2,.t (.val false [.bool r]))])
 | .inr (r) => (.exit 0,[(.T 2,.t (.val false [.undef]))])
noncomputable def Os_DiskOk_1:Orc := fun b h => match b,h with
 | 0,[(.T 1,.t (.val false [.ptr 1 0 0])),(.T 3,.t (.val false [.int .i64 y0])),(.B 1,.b 0 false [.sl .any 43 (.pair (.int .i64) (.pair (.int .i64) (.pair (.sl 9 .str) (.sl 64 (.pair .str (.pair .bool (.sl 3 (.int .i64)))))))) y1,.int .i64 y2])] => some (okO (g_Ls_DiskOk_0 y1 y2 y0),(.br (isL (valO (g_Ls_DiskOk_0 y1 y2 y0))) (.leaf .ret [(.T 2,.t (.val false [.bool (getL (valO (g_Ls_DiskOk_0 y1 y2 y0)))]))]) (.leaf (.exit 0) [(.T 2,.t (.val false [.undef]))])))
 | b,h => Os_DiskOk_0 b h
theorem bs_DiskOk_0 (y0:Int) (y1:List (Int×(Int×((List ByteArray)×(List (ByteArray×(Bool×(List Int)))))))) (y2:Int):Tr.bt Es_DiskOk Os_DiskOk_0 (exec Es_DiskOk 0 cs_DiskOk_0 (St.of (hs_DiskOk_0 y0 y1 y2)) (leafRd Es_DiskOk 0)) = (g_Ss_DiskOk_0 y1 y2 y0).bt (fun (y0:Int) => (hs_DiskOk_0 y0 y1 y2)) (xs_DiskOk_0 y1 y2) := by kernel_rfl
theorem ks_DiskOk_1:OrcOk Es_DiskOk Os_DiskOk_1 lss_DiskOk 1 := orc_add ks_DiskOk_0 (fun n p hp h ex h' ho => by
 obtain ⟨b,c⟩ := p
 obtain ⟨xt,h1,h2⟩ := ho
 have h1:Os_DiskOk_1 b h = some (true,xt) := h1
 unfold Os_DiskOk_1 at h1
 split at h1
 ·injection h1 with h1
  injection h1 with e1 e2
  subst e2
  have hc:c = cs_DiskOk_0 := ms_DiskOk_0 _ hp rfl
  subst hc
  right
  rename_i y0 y1 y2
  have key := LT_step ks_DiskOk_0 hp (fun q hq => loopsAll_in _ _ _ _ hp hq) (fun (y0:Int) => (hs_DiskOk_0 y0 y1 y2)) (xs_DiskOk_0 y1 y2) (g_Ss_DiskOk_0 y1 y2) (fun x => by first | exact bs_DiskOk_0 x y1 y2) n (x := y0) (okO_some e1)
  have hx:∀ r,XT.sel (.br (isL r) (.leaf .ret [(.T 2,.t (.val false [.bool (getL r)]))]) (.leaf (.exit 0) [(.T 2,.t (.val false [.undef]))])) = xs_DiskOk_0 y1 y2 r := fun r => by first | rfl | (rcases r with r | r <;> rfl) | (rcases r with r | r | r <;> rfl) | (rcases r with r | r | r | r <;> rfl)
  have h3 := (hx (valO (g_Ls_DiskOk_0 y1 y2 y0))).symm.trans h2
  have e3 := congrArg Prod.fst h3
  have e4 := congrArg Prod.snd h3
  simp only at e3 e4
  rw [← e3,← e4]
  exact key
 ·exact .inl ⟨xt,h1,h2⟩)
noncomputable def g_As_DiskOk (a0:List (Int×(Int×((List ByteArray)×(List (ByteArray×(Bool×(List Int)))))))) (a1:Int):Bool := decide ((↑(List.length a0):Int) > (120:Int)) || g_As_l1In a1 (0:Int) (↑(List.length a0):Int)&&(!g_Vs_l1In_0 a1 (0:Int) (↑(List.length a0):Int) || okO (g_Ls_DiskOk_0 a0 a1 (0:Int)))
noncomputable def g_Vs_DiskOk_0 (a0:List (Int×(Int×((List ByteArray)×(List (ByteArray×(Bool×(List Int)))))))) (a1:Int):Bool := bif decide ((↑(List.length a0):Int) > (120:Int)) then false else bif !g_Vs_l1In_0 a1 (0:Int) (↑(List.length a0):Int) then false else bif isL (valO (g_Ls_DiskOk_0 a0 a1 (0:Int))) then getL (valO (g_Ls_DiskOk_0 a0 a1 (0:Int))) else true
noncomputable def Fs_DiskOk:FSem := fun ys => match ys with
 | [.val true [.sl .any 43 (.pair (.int .i64) (.pair (.int .i64) (.pair (.sl 9 .str) (.sl 64 (.pair .str (.pair .bool (.sl 3 (.int .i64)))))))) a0,.int .i64 a1]] => some ((g_As_DiskOk a0 a1),.val false [.bool (g_Vs_DiskOk_0 a0 a1)],[])
 | _ => none
theorem vs_DiskOk (a0:List (Int×(Int×((List ByteArray)×(List (ByteArray×(Bool×(List Int)))))))) (a1:Int):collapseH .std Es_DiskOk Os_DiskOk_1 (execFn Es_DiskOk Tryd.f12 mss_DiskOk [.val true [.sl .any 43 (.pair (.int .i64) (.pair (.int .i64) (.pair (.sl 9 .str) (.sl 64 (.pair .str (.pair .bool (.sl 3 (.int .i64)))))))) a0,.int .i64 a1]]) = some ((g_As_DiskOk a0 a1),.val false [.bool (g_Vs_DiskOk_0 a0 a1)],[]) := by kernel_rfl
theorem ss_DiskOk:Sound Tryd.prog 12 mss_DiskOk Fs_DiskOk := by
 refine fn_gen goods_DiskOk (by kernel_rfl) .std (fn := Tryd.f12) (c := (Tryd.f12.body.getD .skip)) (o := Os_DiskOk_1) (k := 1) (by kernel_rfl) (by kernel_rfl) (by kernel_rfl) (by kernel_rfl) (by decide) ks_DiskOk_1 ?_
 intro ys r outs h
 unfold Fs_DiskOk at h
 split at h
 ·exact (vs_DiskOk _ _).trans h
 ·cases h
noncomputable def Es_l2Note:Env where
 tt := mkTI Tryd.prog
 fn := fun _ => none
 bxf := fun _ => none
 mv := []
 keep := fun b => match b with
  | 0 => [(1,false),(2,false),(3,false),(4,false)]
  | _ => []
 keepB := fun b => match b with
  | 0 => [(1,false),(2,false),(3,false)]
  | _ => []
 keepX := fun b => match b with
  | 0 => [(2,false),(3,false)]
  | _ => []
 keepXB := fun b => match b with
  | 0 => [(2,false),(3,false)]
  | _ => []
theorem goodFs_l2Note:∀ f ms F,Es_l2Note.fn f = some (ms,F) → Sound Tryd.prog f ms F := fun f ms F h => by cases h
theorem goodBs_l2Note:∀ f ms F,Es_l2Note.bxf f = some (ms,F) → SoundB Tryd.prog f ms F := fun f ms F h => by cases h
theorem goods_l2Note:Good Tryd.prog Es_l2Note := ⟨rfl,goodFs_l2Note,goodBs_l2Note⟩
noncomputable def Os_l2Note_0:Orc := fun _ _ => none
noncomputable def mss_l2Note:List PM := [.rd]
noncomputable def lss_l2Note:List (Nat×Code) := loopsAll 0 (Tryd.f24.body.getD .skip)
noncomputable def cs_l2Note_0:Code := (loopOf 0 (Tryd.f24.body.getD .skip)).getD .skip
theorem lseqs_l2Note:lss_l2Note = [(0,cs_l2Note_0)] := by kernel_rfl
theorem ms_l2Note_0:∀ p,p ∈ lss_l2Note → p.1 = 0 → p.2 = cs_l2Note_0 := by
 intro p hp
 rw [lseqs_l2Note] at hp
 simp only [List.mem_cons,List.not_mem_nil,or_false] at hp
 subst hp; simp
theorem ks_l2Note_0:OrcOk Es_l2Note Os_l2Note_0 lss_l2Note 0 := orcOk_none
noncomputable def hs_l2Note_0 (y0:Int) (y1:Int) (y2:Int) (y3:List ByteArray) (y4:List (ByteArray×(Bool×(List Int)))) (y5:Int) (y6:Int) (y7:List ByteArray) (y8:List (ByteArray×(Bool×(List Int)))) (y9:Int) (y10:Int) (y11:List ByteArray) (y12:List (ByteArray×(Bool×(List Int)))):List (Pl×LV) := [(.T 1,.t (.val false [.ptr 1 0 0])),(.T 2,.t (.val false [.ptr 2 0 0])),(.T 3,.t (.val false [.ptr 3 0 0])),(.T 4,.t (.val false [.int .i64 y0])),(.B 1,.b 0 false [.int .i64 y1,.int .i64 y2,.sl .any 9 .str y3,.sl .any 64 (.pair .str (.pair .bool (.sl 3 (.int .i64)))) y4]),(.B 2,.b 0 false [.int .i64 y5,.int .i64 y6,.row 2 5 0,.row 2 7 0]),(.R 2 5,.r 0 (some ⟨false,.any,true,9,.str,y7⟩)),(.R 2 7,.r 0 (some ⟨false,.any,true,64,(.pair .str (.pair .bool (.sl 3 (.int .i64)))),y8⟩)),(.B 3,.b 0 false [.int .i64 y9,.int .i64 y10,.row 3 5 0,.row 3 7 0]),(.R 3 5,.r 0 (some ⟨false,.non,true,9,.str,y11⟩)),(.R 3 7,.r 0 (some ⟨false,.any,true,64,(.pair .str (.pair .bool (.sl 3 (.int .i64)))),y12⟩))]
noncomputable def g_Ss_l2Note_0 (y1:Int) (y2:Int) (y3:List ByteArray) (y4:List (ByteArray×(Bool×(List Int)))) (y5:Int) (y6:Int) (y7:List ByteArray) (y8:List (ByteArray×(Bool×(List Int)))) (y9:Int) (y10:Int) (y11:List ByteArray):(Int×(List (ByteArray×(Bool×(List Int))))) → RT (Int×(List (ByteArray×(Bool×(List Int))))) (((List (ByteArray×(Bool×(List Int))))))
 | (y0,y12) => .br (true) (.br (decide (y0 < (↑(List.length y4):Int))) (.br (decide ((0:Int) ≤ y0 ∧ y0 < (↑(List.length y4):Int))) (.br (decide ((nat_lit 0 + List.length (at_ (Ty.pair Ty.str (Ty.pair Ty.bool (Ty.sl (nat_lit 3) (Ty.int IntKind.i64)))) y4 (Int.toNat y0)).2.2) * nat_lit 8 ≤ nat_lit 140737488355328 ∧ nat_lit 0 + List.length (at_ (Ty.pair Ty.str (Ty.pair Ty.bool (Ty.sl (nat_lit 3) (Ty.int IntKind.i64)))) y4 (Int.toNat y0)).2.2 ≤ nat_lit 9223372036854775807)) (.br (decide ((List.length y12 + List.length [((at_ (Ty.pair Ty.str (Ty.pair Ty.bool (Ty.sl (nat_lit 3) (Ty.int IntKind.i64)))) y4 (Int.toNat y0)).1,(at_ (Ty.pair Ty.str (Ty.pair Ty.bool (Ty.sl (nat_lit 3) (Ty.int IntKind.i64)))) y4 (Int.toNat y0)).2.1,[] ++ (at_ (Ty.pair Ty.str (Ty.pair Ty.bool (Ty.sl (nat_lit 3) (Ty.int IntKind.i64)))) y4 (Int.toNat y0)).2.2)]) * nat_lit 48 ≤ nat_lit 140737488355328 ∧ List.length y12 + List.length [((at_ (Ty.pair Ty.str (Ty.pair Ty.bool (Ty.sl (nat_lit 3) (Ty.int IntKind.i64)))) y4 (Int.toNat y0)).1,(at_ (Ty.pair Ty.str (Ty.pair Ty.bool (Ty.sl (nat_lit 3) (Ty.int IntKind.i64)))) y4 (Int.toNat y0)).2.1,[] ++ (at_ (Ty.pair Ty.str (Ty.pair Ty.bool (Ty.sl (nat_lit 3) (Ty.int IntKind.i64)))) y4 (Int.toNat y0)).2.2)] ≤ nat_lit 9223372036854775807)) (.br (true) (.go ((IntKind.wrap IntKind.i64 (y0 + (1:Int)),y12 ++ [((at_ (Ty.pair Ty.str (Ty.pair Ty.bool (Ty.sl (nat_lit 3) (Ty.int IntKind.i64)))) y4 (Int.toNat y0)).1,(at_ (Ty.pair Ty.str (Ty.pair Ty.bool (Ty.sl (nat_lit 3) (Ty.int IntKind.i64)))) y4 (Int.toNat y0)).2.1,[] ++ (at_ (Ty.pair Ty.str (Ty.pair Ty.bool (Ty.sl (nat_lit 3) (Ty.int IntKind.i64)))) y4 (Int.toNat y0)).2.2)]))) .bad) .bad) .bad) .bad) (.out (y12))) .bad
noncomputable def g_Ls_l2Note_0 (y1:Int) (y2:Int) (y3:List ByteArray) (y4:List (ByteArray×(Bool×(List Int)))) (y5:Int) (y6:Int) (y7:List ByteArray) (y8:List (ByteArray×(Bool×(List Int)))) (y9:Int) (y10:Int) (y11:List ByteArray) (x:Int×(List (ByteArray×(Bool×(List Int))))):Option (((List (ByteArray×(Bool×(List Int)))))) := loopO (g_Ss_l2Note_0 y1 y2 y3 y4 y5 y6 y7 y8 y9 y10 y11) x
noncomputable def xs_l2Note_0 (y1:Int) (y2:Int) (y3:List ByteArray) (y4:List (ByteArray×(Bool×(List Int)))) (y5:Int) (y6:Int) (y7:List ByteArray) (y8:List (ByteArray×(Bool×(List Int)))) (y9:Int) (y10:Int) (y11:List ByteArray):(((List (ByteArray×(Bool×(List Int)))))) → Ex×List (Pl×LV) := fun r => (.exit 0,[(.T 2,.t (.val false [.ptr 2 0 0])),(.T 3,.t (.val false [.ptr 3 0 0])),(.B 2,.b 0 false [.int .i64 y5,.int .i64 y6,.row 2 5 0,.row 2 7 0]),(.R 2 5,.r 0 (some ⟨false,.any,true,9,.str,y7⟩)),(.R 2 7,.r 0 (some ⟨false,.any,true,64,(.pair .str (.pair .bool (.sl 3 (.int .i64)))),y8⟩)),(.B 3,.b 0 false [.int .i64 y9,.int .i64 y10,.row 3 5 0,.row 3 7 0]),(.R 3 5,.r 0 (some ⟨false,.non,true,9,.str,y11⟩)),(.R 3 7,.r 0 (some ⟨false,.any,true,64,(.pair .str (.pair .bool (.sl 3 (.int .i64)))),r⟩))])
noncomputable def Os_l2Note_1:Orc := fun b h => match b,h with
 | 0,[(.T 1,.t (.val false [.ptr 1 0 0])),(.T 2,.t (.val false [.ptr 2 0 0])),(.T 3,.t (.val false [.ptr 3 0 0])),(.T 4,.t (.val false [.int .i64 y0])),(.B 1,.b 0 false [.int .i64 y1,.int .i64 y2,.sl .any 9 .str y3,.sl .any 64 (.pair .str (.pair .bool (.sl 3 (.int .i64)))) y4]),(.B 2,.b 0 false [.int .i64 y5,.int .i64 y6,.row 2 5 0,.row 2 7 0]),(.R 2 5,.r 0 (some ⟨false,.any,true,9,.str,y7⟩)),(.R 2 7,.r 0 (some ⟨false,.any,true,64,(.pair .str (.pair .bool (.sl 3 (.int .i64)))),y8⟩)),(.B 3,.b 0 false [.int .i64 y9,.int .i64 y10,.row 3 5 0,.row 3 7 0]),(.R 3 5,.r 0 (some ⟨false,.non,true,9,.str,y11⟩)),(.R 3 7,.r 0 (some ⟨false,.any,true,64,(.pair .str (.pair .bool (.sl 3 (.int .i64)))),y12⟩))] => some (okO (g_Ls_l2Note_0 y1 y2 y3 y4 y5 y6 y7 y8 y9 y10 y11 (y0,y12)),(.leaf (.exit 0) [(.T 2,.t (.val false [.ptr 2 0 0])),(.T 3,.t (.val false [.ptr 3 0 0])),(.B 2,.b 0 false [.int .i64 y5,.int .i64 y6,.row 2 5 0,.row 2 7 0]),(.R 2 5,.r 0 (some ⟨false,.any,true,9,.str,y7⟩)),(.R 2 7,.r 0 (some ⟨false,.any,true,64,(.pair .str (.pair .bool (.sl 3 (.int .i64)))),y8⟩)),(.B 3,.b 0 false [.int .i64 y9,.int .i64 y10,.row 3 5 0,.row 3 7 0]),(.R 3 5,.r 0 (some ⟨false,.non,true,9,.str,y11⟩)),(.R 3 7,.r 0 (some ⟨false,.any,true,64,(.pair .str (.pair .bool (.sl 3 (.int .i64)))),(valO (g_Ls_l2Note_0 y1 y2 y3 y4 y5 y6 y7 y8 y9 y10 y11 (y0,y12)))⟩))]))
 | b,h => Os_l2Note_0 b h
theorem bs_l2Note_0 (y0:Int) (y1:Int) (y2:Int) (y3:List ByteArray) (y4:List (ByteArray×(Bool×(List Int)))) (y5:Int) (y6:Int) (y7:List ByteArray) (y8:List (ByteArray×(Bool×(List Int)))) (y9:Int) (y10:Int) (y11:List ByteArray) (y12:List (ByteArray×(Bool×(List Int)))):Tr.bt Es_l2Note Os_l2Note_0 (exec Es_l2Note 0 cs_l2Note_0 (St.of (hs_l2Note_0 y0 y1 y2 y3 y4 y5 y6 y7 y8 y9 y10 y11 y12)) (leafRd Es_l2Note 0)) = (g_Ss_l2Note_0 y1 y2 y3 y4 y5 y6 y7 y8 y9 y10 y11 (y0,y12)).bt (fun ((y0,y12):Int×(List (ByteArray×(Bool×(List Int))))) => (hs_l2Note_0 y0 y1 y2 y3 y4 y5 y6 y7 y8 y9 y10 y11 y12)) (xs_l2Note_0 y1 y2 y3 y4 y5 y6 y7 y8 y9 y10 y11) := by kernel_rfl
theorem ks_l2Note_1:OrcOk Es_l2Note Os_l2Note_1 lss_l2Note 1 := orc_add ks_l2Note_0 (fun n p hp h ex h' ho => by
 obtain ⟨b,c⟩ := p
 obtain ⟨xt,h1,h2⟩ := ho
 have h1:Os_l2Note_1 b h = some (true,xt) := h1
 unfold Os_l2Note_1 at h1
 split at h1
 ·injection h1 with h1
  injection h1 with e1 e2
  subst e2
  have hc:c = cs_l2Note_0 := ms_l2Note_0 _ hp rfl
  subst hc
  right
  rename_i y0 y1 y2 y3 y4 y5 y6 y7 y8 y9 y10 y11 y12
  have key := LT_step ks_l2Note_0 hp (fun q hq => loopsAll_in _ _ _ _ hp hq) (fun ((y0,y12):Int×(List (ByteArray×(Bool×(List Int))))) => (hs_l2Note_0 y0 y1 y2 y3 y4 y5 y6 y7 y8 y9 y10 y11 y12)) (xs_l2Note_0 y1 y2 y3 y4 y5 y6 y7 y8 y9 y10 y11) (g_Ss_l2Note_0 y1 y2 y3 y4 y5 y6 y7 y8 y9 y10 y11) (fun x => by first | exact bs_l2Note_0 x.1 y1 y2 y3 y4 y5 y6 y7 y8 y9 y10 y11 x.2) n (x := (y0,y12)) (okO_some e1)
  have hx:∀ r,XT.sel (.leaf (.exit 0) [(.T 2,.t (.val false [.ptr 2 0 0])),(.T 3,.t (.val false [.ptr 3 0 0])),(.B 2,.b 0 false [.int .i64 y5,.int .i64 y6,.row 2 5 0,.row 2 7 0]),(.R 2 5,.r 0 (some ⟨false,.any,true,9,.str,y7⟩)),(.R 2 7,.r 0 (some ⟨false,.any,true,64,(.pair .str (.pair .bool (.sl 3 (.int .i64)))),y8⟩)),(.B 3,.b 0 false [.int .i64 y9,.int .i64 y10,.row 3 5 0,.row 3 7 0]),(.R 3 5,.r 0 (some ⟨false,.non,true,9,.str,y11⟩)),(.R 3 7,.r 0 (some ⟨false,.any,true,64,(.pair .str (.pair .bool (.sl 3 (.int .i64)))),r⟩))]) = xs_l2Note_0 y1 y2 y3 y4 y5 y6 y7 y8 y9 y10 y11 r := fun r => by first | rfl | (rcases r with r | r <;> rfl) | (rcases r with r | r | r <;> rfl) | (rcases r with r | r | r | r <;> rfl)
  have h3 := (hx (valO (g_Ls_l2Note_0 y1 y2 y3 y4 y5 y6 y7 y8 y9 y10 y11 (y0,y12)))).symm.trans h2
  have e3 := congrArg Prod.fst h3
  have e4 := congrArg Prod.snd h3
  simp only at e3 e4
  rw [← e3,← e4]
  exact key
 ·exact .inl ⟨xt,h1,h2⟩)
noncomputable def g_As_l2Note (a0:Int) (a1:Int) (a2:List ByteArray) (a3:List (ByteArray×(Bool×(List Int)))):Bool := decide ((nat_lit 0 + List.length a2) * nat_lit 16 ≤ nat_lit 140737488355328 ∧ nat_lit 0 + List.length a2 ≤ nat_lit 9223372036854775807)&&okO (g_Ls_l2Note_0 a0 a1 a2 a3 (0:Int) (0:Int) [] [] a0 a1 ([] ++ a2) ((0:Int),[]))
noncomputable def g_Vs_l2Note_0 (a0:Int) (a1:Int) (a2:List ByteArray) (a3:List (ByteArray×(Bool×(List Int)))):List ByteArray := [] ++ a2
noncomputable def g_Vs_l2Note_1 (a0:Int) (a1:Int) (a2:List ByteArray) (a3:List (ByteArray×(Bool×(List Int)))):List (ByteArray×(Bool×(List Int))) := valO (g_Ls_l2Note_0 a0 a1 a2 a3 (0:Int) (0:Int) [] [] a0 a1 ([] ++ a2) ((0:Int),[]))
noncomputable def Fs_l2Note:FSem := fun ys => match ys with
 | [.val true [.int .i64 a0,.int .i64 a1,.sl .any 9 .str a2,.sl .any 64 (.pair .str (.pair .bool (.sl 3 (.int .i64)))) a3]] => some ((g_As_l2Note a0 a1 a2 a3),.val true [.int .i64 a0,.int .i64 a1,.own .any true 9 .str (g_Vs_l2Note_0 a0 a1 a2 a3),.own .any true 64 (.pair .str (.pair .bool (.sl 3 (.int .i64)))) (g_Vs_l2Note_1 a0 a1 a2 a3)],[])
 | _ => none
theorem vs_l2Note (a0:Int) (a1:Int) (a2:List ByteArray) (a3:List (ByteArray×(Bool×(List Int)))):collapseH .std Es_l2Note Os_l2Note_1 (execFn Es_l2Note Tryd.f24 mss_l2Note [.val true [.int .i64 a0,.int .i64 a1,.sl .any 9 .str a2,.sl .any 64 (.pair .str (.pair .bool (.sl 3 (.int .i64)))) a3]]) = some ((g_As_l2Note a0 a1 a2 a3),.val true [.int .i64 a0,.int .i64 a1,.own .any true 9 .str (g_Vs_l2Note_0 a0 a1 a2 a3),.own .any true 64 (.pair .str (.pair .bool (.sl 3 (.int .i64)))) (g_Vs_l2Note_1 a0 a1 a2 a3)],[]) := by kernel_rfl
theorem ss_l2Note:Sound Tryd.prog 24 mss_l2Note Fs_l2Note := by
 refine fn_gen goods_l2Note (by kernel_rfl) .std (fn := Tryd.f24) (c := (Tryd.f24.body.getD .skip)) (o := Os_l2Note_1) (k := 1) (by kernel_rfl) (by kernel_rfl) (by kernel_rfl) (by kernel_rfl) (by decide) ks_l2Note_1 ?_
 intro ys r outs h
 unfold Fs_l2Note at h
 split at h
 ·exact (vs_l2Note _ _ _ _).trans h
 ·cases h
noncomputable def Es_l2Copy:Env where
 tt := mkTI Tryd.prog
 fn := fun f => match f with
  | 24 => some (mss_l2Note,FSem.wk mss_l2Note Fs_l2Note)
  | _ => none
 bxf := fun _ => none
 mv := []
 keep := fun b => match b with
  | 0 => [(1,false),(2,false),(3,false),(4,false)]
  | _ => []
 keepB := fun b => match b with
  | 0 => [(1,false),(2,false),(3,false)]
  | _ => []
 keepX := fun b => match b with
  | 0 => [(2,false),(3,false)]
  | _ => []
 keepXB := fun b => match b with
  | 0 => [(2,false),(3,false)]
  | _ => []
theorem goodFs_l2Copy:∀ f ms F,Es_l2Copy.fn f = some (ms,F) → Sound Tryd.prog f ms F := fun f ms F h => by
 unfold Es_l2Copy at h
 dsimp only at h
 split at h
 ·injection h with h; injection h with e1 e2; subst e1 e2; exact Sound.wk ss_l2Note
 ·cases h
theorem goodBs_l2Copy:∀ f ms F,Es_l2Copy.bxf f = some (ms,F) → SoundB Tryd.prog f ms F := fun f ms F h => by cases h
theorem goods_l2Copy:Good Tryd.prog Es_l2Copy := ⟨rfl,goodFs_l2Copy,goodBs_l2Copy⟩
noncomputable def Os_l2Copy_0:Orc := fun _ _ => none
noncomputable def mss_l2Copy:List PM := [.rd]
noncomputable def lss_l2Copy:List (Nat×Code) := loopsAll 0 (Tryd.f13.body.getD .skip)
noncomputable def cs_l2Copy_0:Code := (loopOf 0 (Tryd.f13.body.getD .skip)).getD .skip
theorem lseqs_l2Copy:lss_l2Copy = [(0,cs_l2Copy_0)] := by kernel_rfl
theorem ms_l2Copy_0:∀ p,p ∈ lss_l2Copy → p.1 = 0 → p.2 = cs_l2Copy_0 := by
 intro p hp
 rw [lseqs_l2Copy] at hp
 simp only [List.mem_cons,List.not_mem_nil,or_false] at hp
 subst hp; simp
theorem ks_l2Copy_0:OrcOk Es_l2Copy Os_l2Copy_0 lss_l2Copy 0 := orcOk_none
noncomputable def hs_l2Copy_0 (y0:Int) (y1:List (Int×(Int×((List ByteArray)×(List (ByteArray×(Bool×(List Int)))))))) (y2:Int) (y3:Int) (y4:List (Int×(Int×((List ByteArray)×(List (ByteArray×(Bool×(List Int)))))))) (y5:Int) (y6:List (Int×(Int×((List ByteArray)×(List (ByteArray×(Bool×(List Int)))))))):List (Pl×LV) := [(.T 1,.t (.val false [.ptr 1 0 0])),(.T 2,.t (.val false [.ptr 2 0 0])),(.T 3,.t (.val false [.ptr 3 0 0])),(.T 4,.t (.val false [.int .i64 y0])),(.B 1,.b 0 false [.sl .any 43 (.pair (.int .i64) (.pair (.int .i64) (.pair (.sl 9 .str) (.sl 64 (.pair .str (.pair .bool (.sl 3 (.int .i64)))))))) y1,.int .i64 y2]),(.B 2,.b 0 false [.row 2 1 0,.int .i64 y3]),(.R 2 1,.r 0 (some ⟨false,.any,true,43,(.pair (.int .i64) (.pair (.int .i64) (.pair (.sl 9 .str) (.sl 64 (.pair .str (.pair .bool (.sl 3 (.int .i64)))))))),y4⟩)),(.B 3,.b 0 false [.row 3 1 0,.int .i64 y5]),(.R 3 1,.r 0 (some ⟨false,.any,true,43,(.pair (.int .i64) (.pair (.int .i64) (.pair (.sl 9 .str) (.sl 64 (.pair .str (.pair .bool (.sl 3 (.int .i64)))))))),y6⟩))]
noncomputable def g_Ss_l2Copy_0 (y1:List (Int×(Int×((List ByteArray)×(List (ByteArray×(Bool×(List Int)))))))) (y2:Int) (y3:Int) (y4:List (Int×(Int×((List ByteArray)×(List (ByteArray×(Bool×(List Int)))))))) (y5:Int):(Int×(List (Int×(Int×((List ByteArray)×(List (ByteArray×(Bool×(List Int))))))))) → RT (Int×(List (Int×(Int×((List ByteArray)×(List (ByteArray×(Bool×(List Int))))))))) (((List (Int×(Int×((List ByteArray)×(List (ByteArray×(Bool×(List Int))))))))))
 | (y0,y6) => .br (true) (.br (decide (y0 < (↑(List.length y1):Int))) (.br (decide ((0:Int) ≤ y0 ∧ y0 < (↑(List.length y1):Int))) (.br (g_As_l2Note (at_ (Ty.pair (Ty.int IntKind.i64) (Ty.pair (Ty.int IntKind.i64) (Ty.pair (Ty.sl (nat_lit 9) Ty.str) (Ty.sl (nat_lit 64) (Ty.pair Ty.str (Ty.pair Ty.bool (Ty.sl (nat_lit 3) (Ty.int IntKind.i64)))))))) y1 (Int.toNat y0)).1 (at_ (Ty.pair (Ty.int IntKind.i64) (Ty.pair (Ty.int IntKind.i64) (Ty.pair (Ty.sl (nat_lit 9) Ty.str) (Ty.sl (nat_lit 64) (Ty.pair Ty.str (Ty.pair Ty.bool (Ty.sl (nat_lit 3) (Ty.int IntKind.i64)))))))) y1 (Int.toNat y0)).2.1 (at_ (Ty.pair (Ty.int IntKind.i64) (Ty.pair (Ty.int IntKind.i64) (Ty.pair (Ty.sl (nat_lit 9) Ty.str) (Ty.sl (nat_lit 64) (Ty.pair Ty.str (Ty.pair Ty.bool (Ty.sl (nat_lit 3) (Ty.int IntKind.i64)))))))) y1 (Int.toNat y0)).2.2.1 (at_ (Ty.pair (Ty.int IntKind.i64) (Ty.pair (Ty.int IntKind.i64) (Ty.pair (Ty.sl (nat_lit 9) Ty.str) (Ty.sl (nat_lit 64) (Ty.pair Ty.str (Ty.pair Ty.bool (Ty.sl (nat_lit 3) (Ty.int IntKind.i64)))))))) y1 (Int.toNat y0)).2.2.2) (.br (decide ((List.length y6 + List.length [((at_ (Ty.pair (Ty.int IntKind.i64) (Ty.pair (Ty.int IntKind.i64) (Ty.pair (Ty.sl (nat_lit 9) Ty.str) (Ty.sl (nat_lit 64) (Ty.pair Ty.str (Ty.pair Ty.bool (Ty.sl (nat_lit 3) (Ty.int IntKind.i64)))))))) y1 (Int.toNat y0)).1,(at_ (Ty.pair (Ty.int IntKind.i64) (Ty.pair (Ty.int IntKind.i64) (Ty.pair (Ty.sl (nat_lit 9) Ty.str) (Ty.sl (nat_lit 64) (Ty.pair Ty.str (Ty.pair Ty.bool (Ty.sl (nat_lit 3) (Ty.int IntKind.i64)))))))) y1 (Int.toNat y0)).2.1,g_Vs_l2Note_0 (at_ (Ty.pair (Ty.int IntKind.i64) (Ty.pair (Ty.int IntKind.i64) (Ty.pair (Ty.sl (nat_lit 9) Ty.str) (Ty.sl (nat_lit 64) (Ty.pair Ty.str (Ty.pair Ty.bool (Ty.sl (nat_lit 3) (Ty.int IntKind.i64)))))))) y1 (Int.toNat y0)).1 (at_ (Ty.pair (Ty.int IntKind.i64) (Ty.pair (Ty.int IntKind.i64) (Ty.pair (Ty.sl (nat_lit 9) Ty.str) (Ty.sl (nat_lit 64) (Ty.pair Ty.str (Ty.pair Ty.bool (Ty.sl (nat_lit 3) (Ty.int IntKind.i64)))))))) y1 (Int.toNat y0)).2.1 (at_ (Ty.pair (Ty.int IntKind.i64) (Ty.pair (Ty.int IntKind.i64) (Ty.pair (Ty.sl (nat_lit 9) Ty.str) (Ty.sl (nat_lit 64) (Ty.pair Ty.str (Ty.pair Ty.bool (Ty.sl (nat_lit 3) (Ty.int IntKind.i64)))))))) y1 (Int.toNat y0)).2.2.1 (at_ (Ty.pair (Ty.int IntKind.i64) (Ty.pair (Ty.int IntKind.i64) (Ty.pair (Ty.sl (nat_lit 9) Ty.str) (Ty.sl (nat_lit 64) (Ty.pair Ty.str (Ty.pair Ty.bool (Ty.sl (nat_lit 3) (Ty.int IntKind.i64)))))))) y1 (Int.toNat y0)).2.2.2,g_Vs_l2Note_1 (at_ (Ty.pair (Ty.int IntKind.i64) (Ty.pair (Ty.int IntKind.i64) (Ty.pair (Ty.sl (nat_lit 9) Ty.str) (Ty.sl (nat_lit 64) (Ty.pair Ty.str (Ty.pair Ty.bool (Ty.sl (nat_lit 3) (Ty.int IntKind.i64)))))))) y1 (Int.toNat y0)).1 (at_ (Ty.pair (Ty.int IntKind.i64) (Ty.pair (Ty.int IntKind.i64) (Ty.pair (Ty.sl (nat_lit 9) Ty.str) (Ty.sl (nat_lit 64) (Ty.pair Ty.str (Ty.pair Ty.bool (Ty.sl (nat_lit 3) (Ty.int IntKind.i64)))))))) y1 (Int.toNat y0)).2.1 (at_ (Ty.pair (Ty.int IntKind.i64) (Ty.pair (Ty.int IntKind.i64) (Ty.pair (Ty.sl (nat_lit 9) Ty.str) (Ty.sl (nat_lit 64) (Ty.pair Ty.str (Ty.pair Ty.bool (Ty.sl (nat_lit 3) (Ty.int IntKind.i64)))))))) y1 (Int.toNat y0)).2.2.1 (at_ (Ty.pair (Ty.int IntKind.i64) (Ty.pair (Ty.int IntKind.i64) (Ty.pair (Ty.sl (nat_lit 9) Ty.str) (Ty.sl (nat_lit 64) (Ty.pair Ty.str (Ty.pair Ty.bool (Ty.sl (nat_lit 3) (Ty.int IntKind.i64)))))))) y1 (Int.toNat y0)).2.2.2)]) * nat_lit 64 ≤ nat_lit 140737488355328 ∧ List.length y6 + List.length [((at_ (Ty.pair (Ty.int IntKind.i64) (Ty.pair (Ty.int IntKind.i64) (Ty.pair (Ty.sl (nat_lit 9) Ty.str) (Ty.sl (nat_lit 64) (Ty.pair Ty.str (Ty.pair Ty.bool (Ty.sl (nat_lit 3) (Ty.int IntKind.i64)))))))) y1 (Int.toNat y0)).1,(at_ (Ty.pair (Ty.int IntKind.i64) (Ty.pair (Ty.int IntKind.i64) (Ty.pair (Ty.sl (nat_lit 9) Ty.str) (Ty.sl (nat_lit 64) (Ty.pair Ty.str (Ty.pair Ty.bool (Ty.sl (nat_lit 3) (Ty.int IntKind.i64)))))))) y1 (Int.toNat y0)).2.1,g_Vs_l2Note_0 (at_ (Ty.pair (Ty.int IntKind.i64) (Ty.pair (Ty.int IntKind.i64) (Ty.pair (Ty.sl (nat_lit 9) Ty.str) (Ty.sl (nat_lit 64) (Ty.pair Ty.str (Ty.pair Ty.bool (Ty.sl (nat_lit 3) (Ty.int IntKind.i64)))))))) y1 (Int.toNat y0)).1 (at_ (Ty.pair (Ty.int IntKind.i64) (Ty.pair (Ty.int IntKind.i64) (Ty.pair (Ty.sl (nat_lit 9) Ty.str) (Ty.sl (nat_lit 64) (Ty.pair Ty.str (Ty.pair Ty.bool (Ty.sl (nat_lit 3) (Ty.int IntKind.i64)))))))) y1 (Int.toNat y0)).2.1 (at_ (Ty.pair (Ty.int IntKind.i64) (Ty.pair (Ty.int IntKind.i64) (Ty.pair (Ty.sl (nat_lit 9) Ty.str) (Ty.sl (nat_lit 64) (Ty.pair Ty.str (Ty.pair Ty.bool (Ty.sl (nat_lit 3) (Ty.int IntKind.i64)))))))) y1 (Int.toNat y0)).2.2.1 (at_ (Ty.pair (Ty.int IntKind.i64) (Ty.pair (Ty.int IntKind.i64) (Ty.pair (Ty.sl (nat_lit 9) Ty.str) (Ty.sl (nat_lit 64) (Ty.pair Ty.str (Ty.pair Ty.bool (Ty.sl (nat_lit 3) (Ty.int IntKind.i64)))))))) y1 (Int.toNat y0)).2.2.2,g_Vs_l2Note_1 (at_ (Ty.pair (Ty.int IntKind.i64) (Ty.pair (Ty.int IntKind.i64) (Ty.pair (Ty.sl (nat_lit 9) Ty.str) (Ty.sl (nat_lit 64) (Ty.pair Ty.str (Ty.pair Ty.bool (Ty.sl (nat_lit 3) (Ty.int IntKind.i64)))))))) y1 (Int.toNat y0)).1 (at_ (Ty.pair (Ty.int IntKind.i64) (Ty.pair (Ty.int IntKind.i64) (Ty.pair (Ty.sl (nat_lit 9) Ty.str) (Ty.sl (nat_lit 64) (Ty.pair Ty.str (Ty.pair Ty.bool (Ty.sl (nat_lit 3) (Ty.int IntKind.i64)))))))) y1 (Int.toNat y0)).2.1 (at_ (Ty.pair (Ty.int IntKind.i64) (Ty.pair (Ty.int IntKind.i64) (Ty.pair (Ty.sl (nat_lit 9) Ty.str) (Ty.sl (nat_lit 64) (Ty.pair Ty.str (Ty.pair Ty.bool (Ty.sl (nat_lit 3) (Ty.int IntKind.i64)))))))) y1 (Int.toNat y0)).2.2.1 (at_ (Ty.pair (Ty.int IntKind.i64) (Ty.pair (Ty.int IntKind.i64) (Ty.pair (Ty.sl (nat_lit 9) Ty.str) (Ty.sl (nat_lit 64) (Ty.pair Ty.str (Ty.pair Ty.bool (Ty.sl (nat_lit 3) (Ty.int IntKind.i64)))))))) y1 (Int.toNat y0)).2.2.2)] ≤ nat_lit 9223372036854775807)) (.br (true) (.go ((IntKind.wrap IntKind.i64 (y0 + (1:Int)),y6 ++ [((at_ (Ty.pair (Ty.int IntKind.i64) (Ty.pair (Ty.int IntKind.i64) (Ty.pair (Ty.sl (nat_lit 9) Ty.str) (Ty.sl (nat_lit 64) (Ty.pair Ty.str (Ty.pair Ty.bool (Ty.sl (nat_lit 3) (Ty.int IntKind.i64)))))))) y1 (Int.toNat y0)).1,(at_ (Ty.pair (Ty.int IntKind.i64) (Ty.pair (Ty.int IntKind.i64) (Ty.pair (Ty.sl (nat_lit 9) Ty.str) (Ty.sl (nat_lit 64) (Ty.pair Ty.str (Ty.pair Ty.bool (Ty.sl (nat_lit 3) (Ty.int IntKind.i64)))))))) y1 (Int.toNat y0)).2.1,g_Vs_l2Note_0 (at_ (Ty.pair (Ty.int IntKind.i64) (Ty.pair (Ty.int IntKind.i64) (Ty.pair (Ty.sl (nat_lit 9) Ty.str) (Ty.sl (nat_lit 64) (Ty.pair Ty.str (Ty.pair Ty.bool (Ty.sl (nat_lit 3) (Ty.int IntKind.i64)))))))) y1 (Int.toNat y0)).1 (at_ (Ty.pair (Ty.int IntKind.i64) (Ty.pair (Ty.int IntKind.i64) (Ty.pair (Ty.sl (nat_lit 9) Ty.str) (Ty.sl (nat_lit 64) (Ty.pair Ty.str (Ty.pair Ty.bool (Ty.sl (nat_lit 3) (Ty.int IntKind.i64)))))))) y1 (Int.toNat y0)).2.1 (at_ (Ty.pair (Ty.int IntKind.i64) (Ty.pair (Ty.int IntKind.i64) (Ty.pair (Ty.sl (nat_lit 9) Ty.str) (Ty.sl (nat_lit 64) (Ty.pair Ty.str (Ty.pair Ty.bool (Ty.sl (nat_lit 3) (Ty.int IntKind.i64)))))))) y1 (Int.toNat y0)).2.2.1 (at_ (Ty.pair (Ty.int IntKind.i64) (Ty.pair (Ty.int IntKind.i64) (Ty.pair (Ty.sl (nat_lit 9) Ty.str) (Ty.sl (nat_lit 64) (Ty.pair Ty.str (Ty.pair Ty.bool (Ty.sl (nat_lit 3) (Ty.int IntKind.i64)))))))) y1 (Int.toNat y0)).2.2.2,g_Vs_l2Note_1 (at_ (Ty.pair (Ty.int IntKind.i64) (Ty.pair (Ty.int IntKind.i64) (Ty.pair (Ty.sl (nat_lit 9) Ty.str) (Ty.sl (nat_lit 64) (Ty.pair Ty.str (Ty.pair Ty.bool (Ty.sl (nat_lit 3) (Ty.int IntKind.i64)))))))) y1 (Int.toNat y0)).1 (at_ (Ty.pair (Ty.int IntKind.i64) (Ty.pair (Ty.int IntKind.i64) (Ty.pair (Ty.sl (nat_lit 9) Ty.str) (Ty.sl (nat_lit 64) (Ty.pair Ty.str (Ty.pair Ty.bool (Ty.sl (nat_lit 3) (Ty.int IntKind.i64)))))))) y1 (Int.toNat y0)).2.1 (at_ (Ty.pair (Ty.int IntKind.i64) (Ty.pair (Ty.int IntKind.i64) (Ty.pair (Ty.sl (nat_lit 9) Ty.str) (Ty.sl (nat_lit 64) (Ty.pair Ty.str (Ty.pair Ty.bool (Ty.sl (nat_lit 3) (Ty.int IntKind.i64)))))))) y1 (Int.toNat y0)).2.2.1 (at_ (Ty.pair (Ty.int IntKind.i64) (Ty.pair (Ty.int IntKind.i64) (Ty.pair (Ty.sl (nat_lit 9) Ty.str) (Ty.sl (nat_lit 64) (Ty.pair Ty.str (Ty.pair Ty.bool (Ty.sl (nat_lit 3) (Ty.int IntKind.i64)))))))) y1 (Int.toNat y0)).2.2.2)]))) .bad) .bad) .bad) .bad) (.out (y6))) .bad
noncomputable def g_Ls_l2Copy_0 (y1:List (Int×(Int×((List ByteArray)×(List (ByteArray×(Bool×(List Int)))))))) (y2:Int) (y3:Int) (y4:List (Int×(Int×((List ByteArray)×(List (ByteArray×(Bool×(List Int)))))))) (y5:Int) (x:Int×(List (Int×(Int×((List ByteArray)×(List (ByteArray×(Bool×(List Int))))))))):Option (((List (Int×(Int×((List ByteArray)×(List (ByteArray×(Bool×(List Int)))))))))) := loopO (g_Ss_l2Copy_0 y1 y2 y3 y4 y5) x
noncomputable def xs_l2Copy_0 (y1:List (Int×(Int×((List ByteArray)×(List (ByteArray×(Bool×(List Int)))))))) (y2:Int) (y3:Int) (y4:List (Int×(Int×((List ByteArray)×(List (ByteArray×(Bool×(List Int)))))))) (y5:Int):(((List (Int×(Int×((List ByteArray)×(List (ByteArray×(Bool×(List Int)))))))))) → Ex×List (Pl×LV) := fun r => (.exit 0,[(.T 2,.t (.val false [.ptr 2 0 0])),(.T 3,.t (.val false [.ptr 3 0 0])),(.B 2,.b 0 false [.row 2 1 0,.int .i64 y3]),(.R 2 1,.r 0 (some ⟨false,.any,true,43,(.pair (.int .i64) (.pair (.int .i64) (.pair (.sl 9 .str) (.sl 64 (.pair .str (.pair .bool (.sl 3 (.int .i64)))))))),y4⟩)),(.B 3,.b 0 false [.row 3 1 0,.int .i64 y5]),(.R 3 1,.r 0 (some ⟨false,.any,true,43,(.pair (.int .i64) (.pair (.int .i64) (.pair (.sl 9 .str) (.sl 64 (.pair .str (.pair .bool (.sl 3 (.int .i64)))))))),r⟩))])
noncomputable def Os_l2Copy_1:Orc := fun b h => match b,h with
 | 0,[(.T 1,.t (.val false [.ptr 1 0 0])),(.T 2,.t (.val false [.ptr 2 0 0])),(.T 3,.t (.val false [.ptr 3 0 0])),(.T 4,.t (.val false [.int .i64 y0])),(.B 1,.b 0 false [.sl .any 43 (.pair (.int .i64) (.pair (.int .i64) (.pair (.sl 9 .str) (.sl 64 (.pair .str (.pair .bool (.sl 3 (.int .i64)))))))) y1,.int .i64 y2]),(.B 2,.b 0 false [.row 2 1 0,.int .i64 y3]),(.R 2 1,.r 0 (some ⟨false,.any,true,43,(.pair (.int .i64) (.pair (.int .i64) (.pair (.sl 9 .str) (.sl 64 (.pair .str (.pair .bool (.sl 3 (.int .i64)))))))),y4⟩)),(.B 3,.b 0 false [.row 3 1 0,.int .i64 y5]),(.R 3 1,.r 0 (some ⟨false,.any,true,43,(.pair (.int .i64) (.pair (.int .i64) (.pair (.sl 9 .str) (.sl 64 (.pair .str (.pair .bool (.sl 3 (.int .i64)))))))),y6⟩))] => some (okO (g_Ls_l2Copy_0 y1 y2 y3 y4 y5 (y0,y6)),(.leaf (.exit 0) [(.T 2,.t (.val false [.ptr 2 0 0])),(.T 3,.t (.val false [.ptr 3 0 0])),(.B 2,.b 0 false [.row 2 1 0,.int .i64 y3]),(.R 2 1,.r 0 (some ⟨false,.any,true,43,(.pair (.int .i64) (.pair (.int .i64) (.pair (.sl 9 .str) (.sl 64 (.pair .str (.pair .bool (.sl 3 (.int .i64)))))))),y4⟩)),(.B 3,.b 0 false [.row 3 1 0,.int .i64 y5]),(.R 3 1,.r 0 (some ⟨false,.any,true,43,(.pair (.int .i64) (.pair (.int .i64) (.pair (.sl 9 .str) (.sl 64 (.pair .str (.pair .bool (.sl 3 (.int .i64)))))))),(valO (g_Ls_l2Copy_0 y1 y2 y3 y4 y5 (y0,y6)))⟩))]))
 | b,h => Os_l2Copy_0 b h
theorem bs_l2Copy_0 (y0:Int) (y1:List (Int×(Int×((List ByteArray)×(List (ByteArray×(Bool×(List Int)))))))) (y2:Int) (y3:Int) (y4:List (Int×(Int×((List ByteArray)×(List (ByteArray×(Bool×(List Int)))))))) (y5:Int) (y6:List (Int×(Int×((List ByteArray)×(List (ByteArray×(Bool×(List Int)))))))):Tr.bt Es_l2Copy Os_l2Copy_0 (exec Es_l2Copy 0 cs_l2Copy_0 (St.of (hs_l2Copy_0 y0 y1 y2 y3 y4 y5 y6)) (leafRd Es_l2Copy 0)) = (g_Ss_l2Copy_0 y1 y2 y3 y4 y5 (y0,y6)).bt (fun ((y0,y6):Int×(List (Int×(Int×((List ByteArray)×(List (ByteArray×(Bool×(List Int))))))))) => (hs_l2Copy_0 y0 y1 y2 y3 y4 y5 y6)) (xs_l2Copy_0 y1 y2 y3 y4 y5) := by kernel_rfl
theorem ks_l2Copy_1:OrcOk Es_l2Copy Os_l2Copy_1 lss_l2Copy 1 := orc_add ks_l2Copy_0 (fun n p hp h ex h' ho => by
 obtain ⟨b,c⟩ := p
 obtain ⟨xt,h1,h2⟩ := ho
 have h1:Os_l2Copy_1 b h = some (true,xt) := h1
 unfold Os_l2Copy_1 at h1
 split at h1
 ·injection h1 with h1
  injection h1 with e1 e2
  subst e2
  have hc:c = cs_l2Copy_0 := ms_l2Copy_0 _ hp rfl
  subst hc
  right
  rename_i y0 y1 y2 y3 y4 y5 y6
  have key := LT_step ks_l2Copy_0 hp (fun q hq => loopsAll_in _ _ _ _ hp hq) (fun ((y0,y6):Int×(List (Int×(Int×((List ByteArray)×(List (ByteArray×(Bool×(List Int))))))))) => (hs_l2Copy_0 y0 y1 y2 y3 y4 y5 y6)) (xs_l2Copy_0 y1 y2 y3 y4 y5) (g_Ss_l2Copy_0 y1 y2 y3 y4 y5) (fun x => by first | exact bs_l2Copy_0 x.1 y1 y2 y3 y4 y5 x.2) n (x := (y0,y6)) (okO_some e1)
  have hx:∀ r,XT.sel (.leaf (.exit 0) [(.T 2,.t (.val false [.ptr 2 0 0])),(.T 3,.t (.val false [.ptr 3 0 0])),(.B 2,.b 0 false [.row 2 1 0,.int .i64 y3]),(.R 2 1,.r 0 (some ⟨false,.any,true,43,(.pair (.int .i64) (.pair (.int .i64) (.pair (.sl 9 .str) (.sl 64 (.pair .str (.pair .bool (.sl 3 (.int .i64)))))))),y4⟩)),(.B 3,.b 0 false [.row 3 1 0,.int .i64 y5]),(.R 3 1,.r 0 (some ⟨false,.any,true,43,(.pair (.int .i64) (.pair (.int .i64) (.pair (.sl 9 .str) (.sl 64 (.pair .str (.pair .bool (.sl 3 (.int .i64)))))))),r⟩))]) = xs_l2Copy_0 y1 y2 y3 y4 y5 r := fun r => by first | rfl | (rcases r with r | r <;> rfl) | (rcases r with r | r | r <;> rfl) | (rcases r with r | r | r | r <;> rfl)
  have h3 := (hx (valO (g_Ls_l2Copy_0 y1 y2 y3 y4 y5 (y0,y6)))).symm.trans h2
  have e3 := congrArg Prod.fst h3
  have e4 := congrArg Prod.snd h3
  simp only at e3 e4
  rw [← e3,← e4]
  exact key
 ·exact .inl ⟨xt,h1,h2⟩)
noncomputable def g_As_l2Copy (a0:List (Int×(Int×((List ByteArray)×(List (ByteArray×(Bool×(List Int)))))))) (a1:Int):Bool := okO (g_Ls_l2Copy_0 a0 a1 (0:Int) [] a1 ((0:Int),[]))
noncomputable def g_Vs_l2Copy_0 (a0:List (Int×(Int×((List ByteArray)×(List (ByteArray×(Bool×(List Int)))))))) (a1:Int):List (Int×(Int×((List ByteArray)×(List (ByteArray×(Bool×(List Int))))))) := valO (g_Ls_l2Copy_0 a0 a1 (0:Int) [] a1 ((0:Int),[]))
noncomputable def Fs_l2Copy:FSem := fun ys => match ys with
 | [.val true [.sl .any 43 (.pair (.int .i64) (.pair (.int .i64) (.pair (.sl 9 .str) (.sl 64 (.pair .str (.pair .bool (.sl 3 (.int .i64)))))))) a0,.int .i64 a1]] => some ((g_As_l2Copy a0 a1),.val true [.own .any true 43 (.pair (.int .i64) (.pair (.int .i64) (.pair (.sl 9 .str) (.sl 64 (.pair .str (.pair .bool (.sl 3 (.int .i64)))))))) (g_Vs_l2Copy_0 a0 a1),.int .i64 a1],[])
 | _ => none
theorem vs_l2Copy (a0:List (Int×(Int×((List ByteArray)×(List (ByteArray×(Bool×(List Int)))))))) (a1:Int):collapseH .std Es_l2Copy Os_l2Copy_1 (execFn Es_l2Copy Tryd.f13 mss_l2Copy [.val true [.sl .any 43 (.pair (.int .i64) (.pair (.int .i64) (.pair (.sl 9 .str) (.sl 64 (.pair .str (.pair .bool (.sl 3 (.int .i64)))))))) a0,.int .i64 a1]]) = some ((g_As_l2Copy a0 a1),.val true [.own .any true 43 (.pair (.int .i64) (.pair (.int .i64) (.pair (.sl 9 .str) (.sl 64 (.pair .str (.pair .bool (.sl 3 (.int .i64)))))))) (g_Vs_l2Copy_0 a0 a1),.int .i64 a1],[]) := by kernel_rfl
theorem ss_l2Copy:Sound Tryd.prog 13 mss_l2Copy Fs_l2Copy := by
 refine fn_gen goods_l2Copy (by kernel_rfl) .std (fn := Tryd.f13) (c := (Tryd.f13.body.getD .skip)) (o := Os_l2Copy_1) (k := 1) (by kernel_rfl) (by kernel_rfl) (by kernel_rfl) (by kernel_rfl) (by decide) ks_l2Copy_1 ?_
 intro ys r outs h
 unfold Fs_l2Copy at h
 split at h
 ·exact (vs_l2Copy _ _).trans h
 ·cases h
noncomputable def Es_DiskFall:Env where
 tt := mkTI Tryd.prog
 fn := fun f => match f with
  | 12 => some (mss_DiskOk,FSem.wk mss_DiskOk Fs_DiskOk)
  | 13 => some (mss_l2Copy,FSem.wk mss_l2Copy Fs_l2Copy)
  | _ => none
 bxf := fun _ => none
 mv := []
 keep := fun _ => []
 keepB := fun _ => []
 keepX := fun _ => []
 keepXB := fun _ => []
theorem goodFs_DiskFall:∀ f ms F,Es_DiskFall.fn f = some (ms,F) → Sound Tryd.prog f ms F := fun f ms F h => by
 unfold Es_DiskFall at h
 dsimp only at h
 split at h
 ·injection h with h; injection h with e1 e2; subst e1 e2; exact Sound.wk ss_DiskOk
 ·injection h with h; injection h with e1 e2; subst e1 e2; exact Sound.wk ss_l2Copy
 ·cases h
theorem goodBs_DiskFall:∀ f ms F,Es_DiskFall.bxf f = some (ms,F) → SoundB Tryd.prog f ms F := fun f ms F h => by cases h
theorem goods_DiskFall:Good Tryd.prog Es_DiskFall := ⟨rfl,goodFs_DiskFall,goodBs_DiskFall⟩
noncomputable def Os_DiskFall_0:Orc := fun _ _ => none
noncomputable def mss_DiskFall:List PM := [.rd,.own]
noncomputable def lss_DiskFall:List (Nat×Code) := loopsAll 0 (Tryd.f5.body.getD .skip)
theorem ks_DiskFall_0:OrcOk Es_DiskFall Os_DiskFall_0 lss_DiskFall 0 := orcOk_none
noncomputable def g_As_DiskFall (a0:List (Int×(Int×((List ByteArray)×(List (ByteArray×(Bool×(List Int)))))))) (a1:Int) (a2:Int):Bool := g_As_DiskOk a0 a1&&(!g_Vs_DiskOk_0 a0 a1 || decide ((0:Int) ≤ IntKind.wrap IntKind.i64 (a1 + if (if IntKind.wrap IntKind.i64 ((↑(List.length a0):Int) - a1) < a2 then IntKind.wrap IntKind.i64 ((↑(List.length a0):Int) - a1) else a2) > (0:Int) then if IntKind.wrap IntKind.i64 ((↑(List.length a0):Int) - a1) < a2 then IntKind.wrap IntKind.i64 ((↑(List.length a0):Int) - a1) else a2 else (0:Int)) ∧ IntKind.wrap IntKind.i64 (a1 + if (if IntKind.wrap IntKind.i64 ((↑(List.length a0):Int) - a1) < a2 then IntKind.wrap IntKind.i64 ((↑(List.length a0):Int) - a1) else a2) > (0:Int) then if IntKind.wrap IntKind.i64 ((↑(List.length a0):Int) - a1) < a2 then IntKind.wrap IntKind.i64 ((↑(List.length a0):Int) - a1) else a2 else (0:Int)) ≤ (↑(List.length a0):Int))&&g_As_l2Copy (List.drop (nat_lit 0) (List.take (Int.toNat (IntKind.wrap IntKind.i64 (a1 + if (if IntKind.wrap IntKind.i64 ((↑(List.length a0):Int) - a1) < a2 then IntKind.wrap IntKind.i64 ((↑(List.length a0):Int) - a1) else a2) > (0:Int) then if IntKind.wrap IntKind.i64 ((↑(List.length a0):Int) - a1) < a2 then IntKind.wrap IntKind.i64 ((↑(List.length a0):Int) - a1) else a2 else (0:Int)))) a0)) (0:Int))
noncomputable def g_Vs_DiskFall_0 (a0:List (Int×(Int×((List ByteArray)×(List (ByteArray×(Bool×(List Int)))))))) (a1:Int) (a2:Int):List (Int×(Int×((List ByteArray)×(List (ByteArray×(Bool×(List Int))))))) := bif !g_Vs_DiskOk_0 a0 a1 then [] else g_Vs_l2Copy_0 (List.drop (nat_lit 0) (List.take (Int.toNat (IntKind.wrap IntKind.i64 (a1 + if (if IntKind.wrap IntKind.i64 ((↑(List.length a0):Int) - a1) < a2 then IntKind.wrap IntKind.i64 ((↑(List.length a0):Int) - a1) else a2) > (0:Int) then if IntKind.wrap IntKind.i64 ((↑(List.length a0):Int) - a1) < a2 then IntKind.wrap IntKind.i64 ((↑(List.length a0):Int) - a1) else a2 else (0:Int)))) a0)) (0:Int)
noncomputable def g_Vs_DiskFall_1 (a0:List (Int×(Int×((List ByteArray)×(List (ByteArray×(Bool×(List Int)))))))) (a1:Int) (a2:Int):Int := bif !g_Vs_DiskOk_0 a0 a1 then (0:Int) else IntKind.wrap IntKind.i64 (a1 + if (if IntKind.wrap IntKind.i64 ((↑(List.length a0):Int) - a1) < a2 then IntKind.wrap IntKind.i64 ((↑(List.length a0):Int) - a1) else a2) > (0:Int) then if IntKind.wrap IntKind.i64 ((↑(List.length a0):Int) - a1) < a2 then IntKind.wrap IntKind.i64 ((↑(List.length a0):Int) - a1) else a2 else (0:Int))
noncomputable def Fs_DiskFall:FSem := fun ys => match ys with
 | [.val true [.sl .any 43 (.pair (.int .i64) (.pair (.int .i64) (.pair (.sl 9 .str) (.sl 64 (.pair .str (.pair .bool (.sl 3 (.int .i64)))))))) a0,.int .i64 a1],.val false [.int .i64 a2]] => some ((g_As_DiskFall a0 a1 a2),.val true [.own .any true 43 (.pair (.int .i64) (.pair (.int .i64) (.pair (.sl 9 .str) (.sl 64 (.pair .str (.pair .bool (.sl 3 (.int .i64)))))))) (g_Vs_DiskFall_0 a0 a1 a2),.int .i64 (g_Vs_DiskFall_1 a0 a1 a2)],[])
 | _ => none
theorem vs_DiskFall (a0:List (Int×(Int×((List ByteArray)×(List (ByteArray×(Bool×(List Int)))))))) (a1:Int) (a2:Int):collapseH .std Es_DiskFall Os_DiskFall_0 (execFn Es_DiskFall Tryd.f5 mss_DiskFall [.val true [.sl .any 43 (.pair (.int .i64) (.pair (.int .i64) (.pair (.sl 9 .str) (.sl 64 (.pair .str (.pair .bool (.sl 3 (.int .i64)))))))) a0,.int .i64 a1],.val false [.int .i64 a2]]) = some ((g_As_DiskFall a0 a1 a2),.val true [.own .any true 43 (.pair (.int .i64) (.pair (.int .i64) (.pair (.sl 9 .str) (.sl 64 (.pair .str (.pair .bool (.sl 3 (.int .i64)))))))) (g_Vs_DiskFall_0 a0 a1 a2),.int .i64 (g_Vs_DiskFall_1 a0 a1 a2)],[]) := by kernel_rfl
theorem ss_DiskFall:Sound Tryd.prog 5 mss_DiskFall Fs_DiskFall := by
 refine fn_gen goods_DiskFall (by kernel_rfl) .std (fn := Tryd.f5) (c := (Tryd.f5.body.getD .skip)) (o := Os_DiskFall_0) (k := 0) (by kernel_rfl) (by kernel_rfl) (by kernel_rfl) (by kernel_rfl) (by decide) ks_DiskFall_0 ?_
 intro ys r outs h
 unfold Fs_DiskFall at h
 split at h
 ·exact (vs_DiskFall _ _ _).trans h
 ·cases h
noncomputable def Ew_eqIntS:Env where
 tt := mkTI Tryd.prog
 fn := fun _ => none
 bxf := fun _ => none
 mv := []
 keep := fun b => match b with
  | 0 => [(0,false),(1,false),(5,false)]
  | _ => []
 keepB := fun b => match b with
  | 0 => []
  | _ => []
 keepX := fun b => match b with
  | 0 => [(4,false)]
  | _ => []
 keepXB := fun b => match b with
  | 0 => []
  | _ => []
theorem goodFw_eqIntS:∀ f ms F,Ew_eqIntS.fn f = some (ms,F) → Sound Tryd.prog f ms F := fun f ms F h => by cases h
theorem goodBw_eqIntS:∀ f ms F,Ew_eqIntS.bxf f = some (ms,F) → SoundB Tryd.prog f ms F := fun f ms F h => by cases h
theorem goodw_eqIntS:Good Tryd.prog Ew_eqIntS := ⟨rfl,goodFw_eqIntS,goodBw_eqIntS⟩
noncomputable def Ow_eqIntS_0:Orc := fun _ _ => none
noncomputable def msw_eqIntS:List PM := [.rd,.rd]
noncomputable def lsw_eqIntS:List (Nat×Code) := loopsAll 0 (Tryd.f80.body.getD .skip)
noncomputable def cw_eqIntS_0:Code := (loopOf 0 (Tryd.f80.body.getD .skip)).getD .skip
theorem lseqw_eqIntS:lsw_eqIntS = [(0,cw_eqIntS_0)] := by kernel_rfl
theorem mw_eqIntS_0:∀ p,p ∈ lsw_eqIntS → p.1 = 0 → p.2 = cw_eqIntS_0 := by
 intro p hp
 rw [lseqw_eqIntS] at hp
 simp only [List.mem_cons,List.not_mem_nil,or_false] at hp
 subst hp; simp
theorem kw_eqIntS_0:OrcOk Ew_eqIntS Ow_eqIntS_0 lsw_eqIntS 0 := orcOk_none
noncomputable def hw_eqIntS_0 (y0:List Int) (y1:List Int) (y2:Int):List (Pl×LV) := [(.T 0,.t (.val false [.sl .any 3 (.int .i64) y0])),(.T 1,.t (.val false [.sl .any 3 (.int .i64) y1])),(.T 5,.t (.val false [.int .i64 y2]))]
noncomputable def g_Sw_eqIntS_0 (y0:List Int) (y1:List Int):(Int) → RT (Int) ((Bool) ⊕ (Unit))
 | y2 => .br (true) (.br (decide (y2 < (↑(List.length y0):Int))) (.br (decide ((0:Int) ≤ y2 ∧ y2 < (↑(List.length y0):Int))) (.br (decide ((0:Int) ≤ y2 ∧ y2 < (↑(List.length y1):Int))) (.br (true) (.br (at_ (Ty.int IntKind.i64) y0 (Int.toNat y2) != at_ (Ty.int IntKind.i64) y1 (Int.toNat y2)) (.out (.inl false)) (.br (true) (.go (IntKind.wrap IntKind.i64 (y2 + (1:Int)))) .bad)) .bad) .bad) .bad) (.out (.inr (())))) .bad
noncomputable def g_Lw_eqIntS_0 (y0:List Int) (y1:List Int) (x:Int):Option ((Bool) ⊕ (Unit)) := loopO (g_Sw_eqIntS_0 y0 y1) x
noncomputable def xw_eqIntS_0 (y0:List Int) (y1:List Int):((Bool) ⊕ (Unit)) → Ex×List (Pl×LV) := fun
 | .inl r => (.ret,[(.T 4,.t (.val false [.bool r]))])
 | .inr (r) => (.exit 0,[(.T 4,.t (.val false [.undef]))])
noncomputable def Ow_eqIntS_1:Orc := fun b h => match b,h with
 | 0,[(.T 0,.t (.val false [.sl .any 3 (.int .i64) y0])),(.T 1,.t (.val false [.sl .any 3 (.int .i64) y1])),(.T 5,.t (.val false [.int .i64 y2]))] => some (okO (g_Lw_eqIntS_0 y0 y1 y2),(.br (isL (valO (g_Lw_eqIntS_0 y0 y1 y2))) (.leaf .ret [(.T 4,.t (.val false [.bool (getL (valO (g_Lw_eqIntS_0 y0 y1 y2)))]))]) (.leaf (.exit 0) [(.T 4,.t (.val false [.undef]))])))
 | b,h => Ow_eqIntS_0 b h
theorem bw_eqIntS_0 (y0:List Int) (y1:List Int) (y2:Int):Tr.bt Ew_eqIntS Ow_eqIntS_0 (exec Ew_eqIntS 0 cw_eqIntS_0 (St.of (hw_eqIntS_0 y0 y1 y2)) (leafRd Ew_eqIntS 0)) = (g_Sw_eqIntS_0 y0 y1 y2).bt (fun (y2:Int) => (hw_eqIntS_0 y0 y1 y2)) (xw_eqIntS_0 y0 y1) := by kernel_rfl
theorem kw_eqIntS_1:OrcOk Ew_eqIntS Ow_eqIntS_1 lsw_eqIntS 1 := orc_add kw_eqIntS_0 (fun n p hp h ex h' ho => by
 obtain ⟨b,c⟩ := p
 obtain ⟨xt,h1,h2⟩ := ho
 have h1:Ow_eqIntS_1 b h = some (true,xt) := h1
 unfold Ow_eqIntS_1 at h1
 split at h1
 ·injection h1 with h1
  injection h1 with e1 e2
  subst e2
  have hc:c = cw_eqIntS_0 := mw_eqIntS_0 _ hp rfl
  subst hc
  right
  rename_i y0 y1 y2
  have key := LT_step kw_eqIntS_0 hp (fun q hq => loopsAll_in _ _ _ _ hp hq) (fun (y2:Int) => (hw_eqIntS_0 y0 y1 y2)) (xw_eqIntS_0 y0 y1) (g_Sw_eqIntS_0 y0 y1) (fun x => by first | exact bw_eqIntS_0 y0 y1 x) n (x := y2) (okO_some e1)
  have hx:∀ r,XT.sel (.br (isL r) (.leaf .ret [(.T 4,.t (.val false [.bool (getL r)]))]) (.leaf (.exit 0) [(.T 4,.t (.val false [.undef]))])) = xw_eqIntS_0 y0 y1 r := fun r => by first | rfl | (rcases r with r | r <;> rfl) | (rcases r with r | r | r <;> rfl) | (rcases r with r | r | r | r <;> rfl)
  have h3 := (hx (valO (g_Lw_eqIntS_0 y0 y1 y2))).symm.trans h2
  have e3 := congrArg Prod.fst h3
  have e4 := congrArg Prod.snd h3
  simp only at e3 e4
  rw [← e3,← e4]
  exact key
 ·exact .inl ⟨xt,h1,h2⟩)
noncomputable def g_Aw_eqIntS (a0:List Int) (a1:List Int):Bool := (↑(List.length a0):Int) != (↑(List.length a1):Int) || okO (g_Lw_eqIntS_0 a0 a1 (0:Int))
noncomputable def g_Vw_eqIntS_0 (a0:List Int) (a1:List Int):Bool := bif (↑(List.length a0):Int) != (↑(List.length a1):Int) then false else bif isL (valO (g_Lw_eqIntS_0 a0 a1 (0:Int))) then getL (valO (g_Lw_eqIntS_0 a0 a1 (0:Int))) else true
noncomputable def Fw_eqIntS:FSem := fun ys => match ys with
 | [.val false [.sl .any 3 (.int .i64) a0],.val false [.sl .any 3 (.int .i64) a1]] => some ((g_Aw_eqIntS a0 a1),.val false [.bool (g_Vw_eqIntS_0 a0 a1)],[])
 | _ => none
theorem vw_eqIntS (a0:List Int) (a1:List Int):collapseH .std Ew_eqIntS Ow_eqIntS_1 (execFn Ew_eqIntS Tryd.f80 msw_eqIntS [.val false [.sl .any 3 (.int .i64) a0],.val false [.sl .any 3 (.int .i64) a1]]) = some ((g_Aw_eqIntS a0 a1),.val false [.bool (g_Vw_eqIntS_0 a0 a1)],[]) := by kernel_rfl
theorem sw_eqIntS:Sound Tryd.prog 80 msw_eqIntS Fw_eqIntS := by
 refine fn_gen goodw_eqIntS (by kernel_rfl) .std (fn := Tryd.f80) (c := (Tryd.f80.body.getD .skip)) (o := Ow_eqIntS_1) (k := 1) (by kernel_rfl) (by kernel_rfl) (by kernel_rfl) (by kernel_rfl) (by decide) kw_eqIntS_1 ?_
 intro ys r outs h
 unfold Fw_eqIntS at h
 split at h
 ·exact (vw_eqIntS _ _).trans h
 ·cases h
noncomputable def Ew_eqStoWrite:Env where
 tt := mkTI Tryd.prog
 fn := fun f => match f with
  | 80 => some (msw_eqIntS,FSem.wk msw_eqIntS Fw_eqIntS)
  | _ => none
 bxf := fun _ => none
 mv := []
 keep := fun _ => []
 keepB := fun _ => []
 keepX := fun _ => []
 keepXB := fun _ => []
theorem goodFw_eqStoWrite:∀ f ms F,Ew_eqStoWrite.fn f = some (ms,F) → Sound Tryd.prog f ms F := fun f ms F h => by
 unfold Ew_eqStoWrite at h
 dsimp only at h
 split at h
 ·injection h with h; injection h with e1 e2; subst e1 e2; exact Sound.wk sw_eqIntS
 ·cases h
theorem goodBw_eqStoWrite:∀ f ms F,Ew_eqStoWrite.bxf f = some (ms,F) → SoundB Tryd.prog f ms F := fun f ms F h => by cases h
theorem goodw_eqStoWrite:Good Tryd.prog Ew_eqStoWrite := ⟨rfl,goodFw_eqStoWrite,goodBw_eqStoWrite⟩
noncomputable def Ow_eqStoWrite_0:Orc := fun _ _ => none
noncomputable def msw_eqStoWrite:List PM := [.rd,.rd]
noncomputable def lsw_eqStoWrite:List (Nat×Code) := loopsAll 0 (Tryd.f68.body.getD .skip)
theorem kw_eqStoWrite_0:OrcOk Ew_eqStoWrite Ow_eqStoWrite_0 lsw_eqStoWrite 0 := orcOk_none
noncomputable def g_Aw_eqStoWrite (a0:ByteArray) (a1:Bool) (a2:List Int) (a3:ByteArray) (a4:Bool) (a5:List Int):Bool := !ByteArray.toList a0 == ByteArray.toList a3 || (!a1 == a4 || g_Aw_eqIntS a2 a5)
noncomputable def g_Vw_eqStoWrite_0 (a0:ByteArray) (a1:Bool) (a2:List Int) (a3:ByteArray) (a4:Bool) (a5:List Int):Bool := bif !ByteArray.toList a0 == ByteArray.toList a3 then false else bif !a1 == a4 then false else bif !g_Vw_eqIntS_0 a2 a5 then false else true
noncomputable def Fw_eqStoWrite:FSem := fun ys => match ys with
 | [.val true [.str a0,.bool a1,.sl .any 3 (.int .i64) a2],.val true [.str a3,.bool a4,.sl .any 3 (.int .i64) a5]] => some ((g_Aw_eqStoWrite a0 a1 a2 a3 a4 a5),.val false [.bool (g_Vw_eqStoWrite_0 a0 a1 a2 a3 a4 a5)],[])
 | _ => none
theorem vw_eqStoWrite (a0:ByteArray) (a1:Bool) (a2:List Int) (a3:ByteArray) (a4:Bool) (a5:List Int):collapseH .std Ew_eqStoWrite Ow_eqStoWrite_0 (execFn Ew_eqStoWrite Tryd.f68 msw_eqStoWrite [.val true [.str a0,.bool a1,.sl .any 3 (.int .i64) a2],.val true [.str a3,.bool a4,.sl .any 3 (.int .i64) a5]]) = some ((g_Aw_eqStoWrite a0 a1 a2 a3 a4 a5),.val false [.bool (g_Vw_eqStoWrite_0 a0 a1 a2 a3 a4 a5)],[]) := by kernel_rfl
theorem sw_eqStoWrite:Sound Tryd.prog 68 msw_eqStoWrite Fw_eqStoWrite := by
 refine fn_gen goodw_eqStoWrite (by kernel_rfl) .std (fn := Tryd.f68) (c := (Tryd.f68.body.getD .skip)) (o := Ow_eqStoWrite_0) (k := 0) (by kernel_rfl) (by kernel_rfl) (by kernel_rfl) (by kernel_rfl) (by decide) kw_eqStoWrite_0 ?_
 intro ys r outs h
 unfold Fw_eqStoWrite at h
 split at h
 ·exact (vw_eqStoWrite _ _ _ _ _ _).trans h
 ·cases h
noncomputable def Ew_eqStoWriteS:Env where
 tt := mkTI Tryd.prog
 fn := fun f => match f with
  | 68 => some (msw_eqStoWrite,FSem.wk msw_eqStoWrite Fw_eqStoWrite)
  | _ => none
 bxf := fun _ => none
 mv := []
 keep := fun b => match b with
  | 0 => [(0,false),(1,false),(5,false)]
  | _ => []
 keepB := fun b => match b with
  | 0 => []
  | _ => []
 keepX := fun b => match b with
  | 0 => [(4,false)]
  | _ => []
 keepXB := fun b => match b with
  | 0 => []
  | _ => []
theorem goodFw_eqStoWriteS:∀ f ms F,Ew_eqStoWriteS.fn f = some (ms,F) → Sound Tryd.prog f ms F := fun f ms F h => by
 unfold Ew_eqStoWriteS at h
 dsimp only at h
 split at h
 ·injection h with h; injection h with e1 e2; subst e1 e2; exact Sound.wk sw_eqStoWrite
 ·cases h
theorem goodBw_eqStoWriteS:∀ f ms F,Ew_eqStoWriteS.bxf f = some (ms,F) → SoundB Tryd.prog f ms F := fun f ms F h => by cases h
theorem goodw_eqStoWriteS:Good Tryd.prog Ew_eqStoWriteS := ⟨rfl,goodFw_eqStoWriteS,goodBw_eqStoWriteS⟩
noncomputable def Ow_eqStoWriteS_0:Orc := fun _ _ => none
noncomputable def msw_eqStoWriteS:List PM := [.rd,.rd]
noncomputable def lsw_eqStoWriteS:List (Nat×Code) := loopsAll 0 (Tryd.f55.body.getD .skip)
noncomputable def cw_eqStoWriteS_0:Code := (loopOf 0 (Tryd.f55.body.getD .skip)).getD .skip
theorem lseqw_eqStoWriteS:lsw_eqStoWriteS = [(0,cw_eqStoWriteS_0)] := by kernel_rfl
theorem mw_eqStoWriteS_0:∀ p,p ∈ lsw_eqStoWriteS → p.1 = 0 → p.2 = cw_eqStoWriteS_0 := by
 intro p hp
 rw [lseqw_eqStoWriteS] at hp
 simp only [List.mem_cons,List.not_mem_nil,or_false] at hp
 subst hp; simp
theorem kw_eqStoWriteS_0:OrcOk Ew_eqStoWriteS Ow_eqStoWriteS_0 lsw_eqStoWriteS 0 := orcOk_none
noncomputable def hw_eqStoWriteS_0 (y0:List (ByteArray×(Bool×(List Int)))) (y1:List (ByteArray×(Bool×(List Int)))) (y2:Int):List (Pl×LV) := [(.T 0,.t (.val false [.sl .any 64 (.pair .str (.pair .bool (.sl 3 (.int .i64)))) y0])),(.T 1,.t (.val false [.sl .any 64 (.pair .str (.pair .bool (.sl 3 (.int .i64)))) y1])),(.T 5,.t (.val false [.int .i64 y2]))]
noncomputable def g_Sw_eqStoWriteS_0 (y0:List (ByteArray×(Bool×(List Int)))) (y1:List (ByteArray×(Bool×(List Int)))):(Int) → RT (Int) ((Bool) ⊕ (Unit))
 | y2 => .br (true) (.br (decide (y2 < (↑(List.length y0):Int))) (.br (decide ((0:Int) ≤ y2 ∧ y2 < (↑(List.length y0):Int))) (.br (decide ((0:Int) ≤ y2 ∧ y2 < (↑(List.length y1):Int))) (.br (g_Aw_eqStoWrite (at_ (Ty.pair Ty.str (Ty.pair Ty.bool (Ty.sl (nat_lit 3) (Ty.int IntKind.i64)))) y0 (Int.toNat y2)).1 (at_ (Ty.pair Ty.str (Ty.pair Ty.bool (Ty.sl (nat_lit 3) (Ty.int IntKind.i64)))) y0 (Int.toNat y2)).2.1 (at_ (Ty.pair Ty.str (Ty.pair Ty.bool (Ty.sl (nat_lit 3) (Ty.int IntKind.i64)))) y0 (Int.toNat y2)).2.2 (at_ (Ty.pair Ty.str (Ty.pair Ty.bool (Ty.sl (nat_lit 3) (Ty.int IntKind.i64)))) y1 (Int.toNat y2)).1 (at_ (Ty.pair Ty.str (Ty.pair Ty.bool (Ty.sl (nat_lit 3) (Ty.int IntKind.i64)))) y1 (Int.toNat y2)).2.1 (at_ (Ty.pair Ty.str (Ty.pair Ty.bool (Ty.sl (nat_lit 3) (Ty.int IntKind.i64)))) y1 (Int.toNat y2)).2.2) (.br (!g_Vw_eqStoWrite_0 (at_ (Ty.pair Ty.str (Ty.pair Ty.bool (Ty.sl (nat_lit 3) (Ty.int IntKind.i64)))) y0 (Int.toNat y2)).1 (at_ (Ty.pair Ty.str (Ty.pair Ty.bool (Ty.sl (nat_lit 3) (Ty.int IntKind.i64)))) y0 (Int.toNat y2)).2.1 (at_ (Ty.pair Ty.str (Ty.pair Ty.bool (Ty.sl (nat_lit 3) (Ty.int IntKind.i64)))) y0 (Int.toNat y2)).2.2 (at_ (Ty.pair Ty.str (Ty.pair Ty.bool (Ty.sl (nat_lit 3) (Ty.int IntKind.i64)))) y1 (Int.toNat y2)).1 (at_ (Ty.pair Ty.str (Ty.pair Ty.bool (Ty.sl (nat_lit 3) (Ty.int IntKind.i64)))) y1 (Int.toNat y2)).2.1 (at_ (Ty.pair Ty.str (Ty.pair Ty.bool (Ty.sl (nat_lit 3) (Ty.int IntKind.i64)))) y1 (Int.toNat y2)).2.2) (.out (.inl false)) (.br (true) (.go (IntKind.wrap IntKind.i64 (y2 + (1:Int)))) .bad)) .bad) .bad) .bad) (.out (.inr (())))) .bad
noncomputable def g_Lw_eqStoWriteS_0 (y0:List (ByteArray×(Bool×(List Int)))) (y1:List (ByteArray×(Bool×(List Int)))) (x:Int):Option ((Bool) ⊕ (Unit)) := loopO (g_Sw_eqStoWriteS_0 y0 y1) x
noncomputable def xw_eqStoWriteS_0 (y0:List (ByteArray×(Bool×(List Int)))) (y1:List (ByteArray×(Bool×(List Int)))):((Bool) ⊕ (Unit)) → Ex×List (Pl×LV) := fun
 | .inl r => (.ret,[(.T 4,.t (.val false [.bool r]))])
 | .inr (r) => (.exit 0,[(.T 4,.t (.val false [.undef]))])
noncomputable def Ow_eqStoWriteS_1:Orc := fun b h => match b,h with
 | 0,[(.T 0,.t (.val false [.sl .any 64 (.pair .str (.pair .bool (.sl 3 (.int .i64)))) y0])),(.T 1,.t (.val false [.sl .any 64 (.pair .str (.pair .bool (.sl 3 (.int .i64)))) y1])),(.T 5,.t (.val false [.int .i64 y2]))] => some (okO (g_Lw_eqStoWriteS_0 y0 y1 y2),(.br (isL (valO (g_Lw_eqStoWriteS_0 y0 y1 y2))) (.leaf .ret [(.T 4,.t (.val false [.bool (getL (valO (g_Lw_eqStoWriteS_0 y0 y1 y2)))]))]) (.leaf (.exit 0) [(.T 4,.t (.val false [.undef]))])))
 | b,h => Ow_eqStoWriteS_0 b h
theorem bw_eqStoWriteS_0 (y0:List (ByteArray×(Bool×(List Int)))) (y1:List (ByteArray×(Bool×(List Int)))) (y2:Int):Tr.bt Ew_eqStoWriteS Ow_eqStoWriteS_0 (exec Ew_eqStoWriteS 0 cw_eqStoWriteS_0 (St.of (hw_eqStoWriteS_0 y0 y1 y2)) (leafRd Ew_eqStoWriteS 0)) = (g_Sw_eqStoWriteS_0 y0 y1 y2).bt (fun (y2:Int) => (hw_eqStoWriteS_0 y0 y1 y2)) (xw_eqStoWriteS_0 y0 y1) := by kernel_rfl
theorem kw_eqStoWriteS_1:OrcOk Ew_eqStoWriteS Ow_eqStoWriteS_1 lsw_eqStoWriteS 1 := orc_add kw_eqStoWriteS_0 (fun n p hp h ex h' ho => by
 obtain ⟨b,c⟩ := p
 obtain ⟨xt,h1,h2⟩ := ho
 have h1:Ow_eqStoWriteS_1 b h = some (true,xt) := h1
 unfold Ow_eqStoWriteS_1 at h1
 split at h1
 ·injection h1 with h1
  injection h1 with e1 e2
  subst e2
  have hc:c = cw_eqStoWriteS_0 := mw_eqStoWriteS_0 _ hp rfl
  subst hc
  right
  rename_i y0 y1 y2
  have key := LT_step kw_eqStoWriteS_0 hp (fun q hq => loopsAll_in _ _ _ _ hp hq) (fun (y2:Int) => (hw_eqStoWriteS_0 y0 y1 y2)) (xw_eqStoWriteS_0 y0 y1) (g_Sw_eqStoWriteS_0 y0 y1) (fun x => by first | exact bw_eqStoWriteS_0 y0 y1 x) n (x := y2) (okO_some e1)
  have hx:∀ r,XT.sel (.br (isL r) (.leaf .ret [(.T 4,.t (.val false [.bool (getL r)]))]) (.leaf (.exit 0) [(.T 4,.t (.val false [.undef]))])) = xw_eqStoWriteS_0 y0 y1 r := fun r => by first | rfl | (rcases r with r | r <;> rfl) | (rcases r with r | r | r <;> rfl) | (rcases r with r | r | r | r <;> rfl)
  have h3 := (hx (valO (g_Lw_eqStoWriteS_0 y0 y1 y2))).symm.trans h2
  have e3 := congrArg Prod.fst h3
  have e4 := congrArg Prod.snd h3
  simp only at e3 e4
  rw [← e3,← e4]
  exact key
 ·exact .inl ⟨xt,h1,h2⟩)
noncomputable def g_Aw_eqStoWriteS (a0:List (ByteArray×(Bool×(List Int)))) (a1:List (ByteArray×(Bool×(List Int)))):Bool := (↑(List.length a0):Int) != (↑(List.length a1):Int) || okO (g_Lw_eqStoWriteS_0 a0 a1 (0:Int))
noncomputable def g_Vw_eqStoWriteS_0 (a0:List (ByteArray×(Bool×(List Int)))) (a1:List (ByteArray×(Bool×(List Int)))):Bool := bif (↑(List.length a0):Int) != (↑(List.length a1):Int) then false else bif isL (valO (g_Lw_eqStoWriteS_0 a0 a1 (0:Int))) then getL (valO (g_Lw_eqStoWriteS_0 a0 a1 (0:Int))) else true
noncomputable def Fw_eqStoWriteS:FSem := fun ys => match ys with
 | [.val false [.sl .any 64 (.pair .str (.pair .bool (.sl 3 (.int .i64)))) a0],.val false [.sl .any 64 (.pair .str (.pair .bool (.sl 3 (.int .i64)))) a1]] => some ((g_Aw_eqStoWriteS a0 a1),.val false [.bool (g_Vw_eqStoWriteS_0 a0 a1)],[])
 | _ => none
theorem vw_eqStoWriteS (a0:List (ByteArray×(Bool×(List Int)))) (a1:List (ByteArray×(Bool×(List Int)))):collapseH .std Ew_eqStoWriteS Ow_eqStoWriteS_1 (execFn Ew_eqStoWriteS Tryd.f55 msw_eqStoWriteS [.val false [.sl .any 64 (.pair .str (.pair .bool (.sl 3 (.int .i64)))) a0],.val false [.sl .any 64 (.pair .str (.pair .bool (.sl 3 (.int .i64)))) a1]]) = some ((g_Aw_eqStoWriteS a0 a1),.val false [.bool (g_Vw_eqStoWriteS_0 a0 a1)],[]) := by kernel_rfl
theorem sw_eqStoWriteS:Sound Tryd.prog 55 msw_eqStoWriteS Fw_eqStoWriteS := by
 refine fn_gen goodw_eqStoWriteS (by kernel_rfl) .std (fn := Tryd.f55) (c := (Tryd.f55.body.getD .skip)) (o := Ow_eqStoWriteS_1) (k := 1) (by kernel_rfl) (by kernel_rfl) (by kernel_rfl) (by kernel_rfl) (by decide) kw_eqStoWriteS_1 ?_
 intro ys r outs h
 unfold Fw_eqStoWriteS at h
 split at h
 ·exact (vw_eqStoWriteS _ _).trans h
 ·cases h
noncomputable def Ew_eqStringS:Env where
 tt := mkTI Tryd.prog
 fn := fun _ => none
 bxf := fun _ => none
 mv := []
 keep := fun b => match b with
  | 0 => [(0,false),(1,false),(5,false)]
  | _ => []
 keepB := fun b => match b with
  | 0 => []
  | _ => []
 keepX := fun b => match b with
  | 0 => [(4,false)]
  | _ => []
 keepXB := fun b => match b with
  | 0 => []
  | _ => []
theorem goodFw_eqStringS:∀ f ms F,Ew_eqStringS.fn f = some (ms,F) → Sound Tryd.prog f ms F := fun f ms F h => by cases h
theorem goodBw_eqStringS:∀ f ms F,Ew_eqStringS.bxf f = some (ms,F) → SoundB Tryd.prog f ms F := fun f ms F h => by cases h
theorem goodw_eqStringS:Good Tryd.prog Ew_eqStringS := ⟨rfl,goodFw_eqStringS,goodBw_eqStringS⟩
noncomputable def Ow_eqStringS_0:Orc := fun _ _ => none
noncomputable def msw_eqStringS:List PM := [.rd,.rd]
noncomputable def lsw_eqStringS:List (Nat×Code) := loopsAll 0 (Tryd.f54.body.getD .skip)
noncomputable def cw_eqStringS_0:Code := (loopOf 0 (Tryd.f54.body.getD .skip)).getD .skip
theorem lseqw_eqStringS:lsw_eqStringS = [(0,cw_eqStringS_0)] := by kernel_rfl
theorem mw_eqStringS_0:∀ p,p ∈ lsw_eqStringS → p.1 = 0 → p.2 = cw_eqStringS_0 := by
 intro p hp
 rw [lseqw_eqStringS] at hp
 simp only [List.mem_cons,List.not_mem_nil,or_false] at hp
 subst hp; simp
theorem kw_eqStringS_0:OrcOk Ew_eqStringS Ow_eqStringS_0 lsw_eqStringS 0 := orcOk_none
noncomputable def hw_eqStringS_0 (y0:List ByteArray) (y1:List ByteArray) (y2:Int):List (Pl×LV) := [(.T 0,.t (.val false [.sl .any 9 .str y0])),(.T 1,.t (.val false [.sl .any 9 .str y1])),(.T 5,.t (.val false [.int .i64 y2]))]
noncomputable def g_Sw_eqStringS_0 (y0:List ByteArray) (y1:List ByteArray):(Int) → RT (Int) ((Bool) ⊕ (Unit))
 | y2 => .br (true) (.br (decide (y2 < (↑(List.length y0):Int))) (.br (decide ((0:Int) ≤ y2 ∧ y2 < (↑(List.length y0):Int))) (.br (decide ((0:Int) ≤ y2 ∧ y2 < (↑(List.length y1):Int))) (.br (true) (.br (!ByteArray.toList (at_ Ty.str y0 (Int.toNat y2)) == ByteArray.toList (at_ Ty.str y1 (Int.toNat y2))) (.out (.inl false)) (.br (true) (.go (IntKind.wrap IntKind.i64 (y2 + (1:Int)))) .bad)) .bad) .bad) .bad) (.out (.inr (())))) .bad
noncomputable def g_Lw_eqStringS_0 (y0:List ByteArray) (y1:List ByteArray) (x:Int):Option ((Bool) ⊕ (Unit)) := loopO (g_Sw_eqStringS_0 y0 y1) x
noncomputable def xw_eqStringS_0 (y0:List ByteArray) (y1:List ByteArray):((Bool) ⊕ (Unit)) → Ex×List (Pl×LV) := fun
 | .inl r => (.ret,[(.T 4,.t (.val false [.bool r]))])
 | .inr (r) => (.exit 0,[(.T 4,.t (.val false [.undef]))])
noncomputable def Ow_eqStringS_1:Orc := fun b h => match b,h with
 | 0,[(.T 0,.t (.val false [.sl .any 9 .str y0])),(.T 1,.t (.val false [.sl .any 9 .str y1])),(.T 5,.t (.val false [.int .i64 y2]))] => some (okO (g_Lw_eqStringS_0 y0 y1 y2),(.br (isL (valO (g_Lw_eqStringS_0 y0 y1 y2))) (.leaf .ret [(.T 4,.t (.val false [.bool (getL (valO (g_Lw_eqStringS_0 y0 y1 y2)))]))]) (.leaf (.exit 0) [(.T 4,.t (.val false [.undef]))])))
 | b,h => Ow_eqStringS_0 b h
theorem bw_eqStringS_0 (y0:List ByteArray) (y1:List ByteArray) (y2:Int):Tr.bt Ew_eqStringS Ow_eqStringS_0 (exec Ew_eqStringS 0 cw_eqStringS_0 (St.of (hw_eqStringS_0 y0 y1 y2)) (leafRd Ew_eqStringS 0)) = (g_Sw_eqStringS_0 y0 y1 y2).bt (fun (y2:Int) => (hw_eqStringS_0 y0 y1 y2)) (xw_eqStringS_0 y0 y1) := by kernel_rfl
theorem kw_eqStringS_1:OrcOk Ew_eqStringS Ow_eqStringS_1 lsw_eqStringS 1 := orc_add kw_eqStringS_0 (fun n p hp h ex h' ho => by
 obtain ⟨b,c⟩ := p
 obtain ⟨xt,h1,h2⟩ := ho
 have h1:Ow_eqStringS_1 b h = some (true,xt) := h1
 unfold Ow_eqStringS_1 at h1
 split at h1
 ·injection h1 with h1
  injection h1 with e1 e2
  subst e2
  have hc:c = cw_eqStringS_0 := mw_eqStringS_0 _ hp rfl
  subst hc
  right
  rename_i y0 y1 y2
  have key := LT_step kw_eqStringS_0 hp (fun q hq => loopsAll_in _ _ _ _ hp hq) (fun (y2:Int) => (hw_eqStringS_0 y0 y1 y2)) (xw_eqStringS_0 y0 y1) (g_Sw_eqStringS_0 y0 y1) (fun x => by first | exact bw_eqStringS_0 y0 y1 x) n (x := y2) (okO_some e1)
  have hx:∀ r,XT.sel (.br (isL r) (.leaf .ret [(.T 4,.t (.val false [.bool (getL r)]))]) (.leaf (.exit 0) [(.T 4,.t (.val false [.undef]))])) = xw_eqStringS_0 y0 y1 r := fun r => by first | rfl | (rcases r with r | r <;> rfl) | (rcases r with r | r | r <;> rfl) | (rcases r with r | r | r | r <;> rfl)
  have h3 := (hx (valO (g_Lw_eqStringS_0 y0 y1 y2))).symm.trans h2
  have e3 := congrArg Prod.fst h3
  have e4 := congrArg Prod.snd h3
  simp only at e3 e4
  rw [← e3,← e4]
  exact key
 ·exact .inl ⟨xt,h1,h2⟩)
noncomputable def g_Aw_eqStringS (a0:List ByteArray) (a1:List ByteArray):Bool := (↑(List.length a0):Int) != (↑(List.length a1):Int) || okO (g_Lw_eqStringS_0 a0 a1 (0:Int))
noncomputable def g_Vw_eqStringS_0 (a0:List ByteArray) (a1:List ByteArray):Bool := bif (↑(List.length a0):Int) != (↑(List.length a1):Int) then false else bif isL (valO (g_Lw_eqStringS_0 a0 a1 (0:Int))) then getL (valO (g_Lw_eqStringS_0 a0 a1 (0:Int))) else true
noncomputable def Fw_eqStringS:FSem := fun ys => match ys with
 | [.val false [.sl .any 9 .str a0],.val false [.sl .any 9 .str a1]] => some ((g_Aw_eqStringS a0 a1),.val false [.bool (g_Vw_eqStringS_0 a0 a1)],[])
 | _ => none
theorem vw_eqStringS (a0:List ByteArray) (a1:List ByteArray):collapseH .std Ew_eqStringS Ow_eqStringS_1 (execFn Ew_eqStringS Tryd.f54 msw_eqStringS [.val false [.sl .any 9 .str a0],.val false [.sl .any 9 .str a1]]) = some ((g_Aw_eqStringS a0 a1),.val false [.bool (g_Vw_eqStringS_0 a0 a1)],[]) := by kernel_rfl
theorem sw_eqStringS:Sound Tryd.prog 54 msw_eqStringS Fw_eqStringS := by
 refine fn_gen goodw_eqStringS (by kernel_rfl) .std (fn := Tryd.f54) (c := (Tryd.f54.body.getD .skip)) (o := Ow_eqStringS_1) (k := 1) (by kernel_rfl) (by kernel_rfl) (by kernel_rfl) (by kernel_rfl) (by decide) kw_eqStringS_1 ?_
 intro ys r outs h
 unfold Fw_eqStringS at h
 split at h
 ·exact (vw_eqStringS _ _).trans h
 ·cases h
noncomputable def Ew_eqLogNote:Env where
 tt := mkTI Tryd.prog
 fn := fun f => match f with
  | 54 => some (msw_eqStringS,FSem.wk msw_eqStringS Fw_eqStringS)
  | 55 => some (msw_eqStoWriteS,FSem.wk msw_eqStoWriteS Fw_eqStoWriteS)
  | _ => none
 bxf := fun _ => none
 mv := []
 keep := fun _ => []
 keepB := fun _ => []
 keepX := fun _ => []
 keepXB := fun _ => []
theorem goodFw_eqLogNote:∀ f ms F,Ew_eqLogNote.fn f = some (ms,F) → Sound Tryd.prog f ms F := fun f ms F h => by
 unfold Ew_eqLogNote at h
 dsimp only at h
 split at h
 ·injection h with h; injection h with e1 e2; subst e1 e2; exact Sound.wk sw_eqStringS
 ·injection h with h; injection h with e1 e2; subst e1 e2; exact Sound.wk sw_eqStoWriteS
 ·cases h
theorem goodBw_eqLogNote:∀ f ms F,Ew_eqLogNote.bxf f = some (ms,F) → SoundB Tryd.prog f ms F := fun f ms F h => by cases h
theorem goodw_eqLogNote:Good Tryd.prog Ew_eqLogNote := ⟨rfl,goodFw_eqLogNote,goodBw_eqLogNote⟩
noncomputable def Ow_eqLogNote_0:Orc := fun _ _ => none
noncomputable def msw_eqLogNote:List PM := [.rd,.rd]
noncomputable def lsw_eqLogNote:List (Nat×Code) := loopsAll 0 (Tryd.f31.body.getD .skip)
theorem kw_eqLogNote_0:OrcOk Ew_eqLogNote Ow_eqLogNote_0 lsw_eqLogNote 0 := orcOk_none
noncomputable def g_Aw_eqLogNote (a0:Int) (a1:Int) (a2:List ByteArray) (a3:List (ByteArray×(Bool×(List Int)))) (a4:Int) (a5:Int) (a6:List ByteArray) (a7:List (ByteArray×(Bool×(List Int)))):Bool := a0 != a4 || (a1 != a5 || g_Aw_eqStringS a2 a6&&(!g_Vw_eqStringS_0 a2 a6 || g_Aw_eqStoWriteS a3 a7))
noncomputable def g_Vw_eqLogNote_0 (a0:Int) (a1:Int) (a2:List ByteArray) (a3:List (ByteArray×(Bool×(List Int)))) (a4:Int) (a5:Int) (a6:List ByteArray) (a7:List (ByteArray×(Bool×(List Int)))):Bool := bif a0 != a4 then false else bif a1 != a5 then false else bif !g_Vw_eqStringS_0 a2 a6 then false else bif !g_Vw_eqStoWriteS_0 a3 a7 then false else true
noncomputable def Fw_eqLogNote:FSem := fun ys => match ys with
 | [.val true [.int .i64 a0,.int .i64 a1,.sl .any 9 .str a2,.sl .any 64 (.pair .str (.pair .bool (.sl 3 (.int .i64)))) a3],.val true [.int .i64 a4,.int .i64 a5,.sl .any 9 .str a6,.sl .any 64 (.pair .str (.pair .bool (.sl 3 (.int .i64)))) a7]] => some ((g_Aw_eqLogNote a0 a1 a2 a3 a4 a5 a6 a7),.val false [.bool (g_Vw_eqLogNote_0 a0 a1 a2 a3 a4 a5 a6 a7)],[])
 | _ => none
theorem vw_eqLogNote (a0:Int) (a1:Int) (a2:List ByteArray) (a3:List (ByteArray×(Bool×(List Int)))) (a4:Int) (a5:Int) (a6:List ByteArray) (a7:List (ByteArray×(Bool×(List Int)))):collapseH .std Ew_eqLogNote Ow_eqLogNote_0 (execFn Ew_eqLogNote Tryd.f31 msw_eqLogNote [.val true [.int .i64 a0,.int .i64 a1,.sl .any 9 .str a2,.sl .any 64 (.pair .str (.pair .bool (.sl 3 (.int .i64)))) a3],.val true [.int .i64 a4,.int .i64 a5,.sl .any 9 .str a6,.sl .any 64 (.pair .str (.pair .bool (.sl 3 (.int .i64)))) a7]]) = some ((g_Aw_eqLogNote a0 a1 a2 a3 a4 a5 a6 a7),.val false [.bool (g_Vw_eqLogNote_0 a0 a1 a2 a3 a4 a5 a6 a7)],[]) := by kernel_rfl
theorem sw_eqLogNote:Sound Tryd.prog 31 msw_eqLogNote Fw_eqLogNote := by
 refine fn_gen goodw_eqLogNote (by kernel_rfl) .std (fn := Tryd.f31) (c := (Tryd.f31.body.getD .skip)) (o := Ow_eqLogNote_0) (k := 0) (by kernel_rfl) (by kernel_rfl) (by kernel_rfl) (by kernel_rfl) (by decide) kw_eqLogNote_0 ?_
 intro ys r outs h
 unfold Fw_eqLogNote at h
 split at h
 ·exact (vw_eqLogNote _ _ _ _ _ _ _ _).trans h
 ·cases h
noncomputable def Ew_eqLogNoteS:Env where
 tt := mkTI Tryd.prog
 fn := fun f => match f with
  | 31 => some (msw_eqLogNote,FSem.wk msw_eqLogNote Fw_eqLogNote)
  | _ => none
 bxf := fun _ => none
 mv := []
 keep := fun b => match b with
  | 0 => [(0,false),(1,false),(5,false)]
  | _ => []
 keepB := fun b => match b with
  | 0 => []
  | _ => []
 keepX := fun b => match b with
  | 0 => [(4,false)]
  | _ => []
 keepXB := fun b => match b with
  | 0 => []
  | _ => []
theorem goodFw_eqLogNoteS:∀ f ms F,Ew_eqLogNoteS.fn f = some (ms,F) → Sound Tryd.prog f ms F := fun f ms F h => by
 unfold Ew_eqLogNoteS at h
 dsimp only at h
 split at h
 ·injection h with h; injection h with e1 e2; subst e1 e2; exact Sound.wk sw_eqLogNote
 ·cases h
theorem goodBw_eqLogNoteS:∀ f ms F,Ew_eqLogNoteS.bxf f = some (ms,F) → SoundB Tryd.prog f ms F := fun f ms F h => by cases h
theorem goodw_eqLogNoteS:Good Tryd.prog Ew_eqLogNoteS := ⟨rfl,goodFw_eqLogNoteS,goodBw_eqLogNoteS⟩
noncomputable def Ow_eqLogNoteS_0:Orc := fun _ _ => none
noncomputable def msw_eqLogNoteS:List PM := [.rd,.rd]
noncomputable def lsw_eqLogNoteS:List (Nat×Code) := loopsAll 0 (Tryd.f18.body.getD .skip)
noncomputable def cw_eqLogNoteS_0:Code := (loopOf 0 (Tryd.f18.body.getD .skip)).getD .skip
theorem lseqw_eqLogNoteS:lsw_eqLogNoteS = [(0,cw_eqLogNoteS_0)] := by kernel_rfl
theorem mw_eqLogNoteS_0:∀ p,p ∈ lsw_eqLogNoteS → p.1 = 0 → p.2 = cw_eqLogNoteS_0 := by
 intro p hp
 rw [lseqw_eqLogNoteS] at hp
 simp only [List.mem_cons,List.not_mem_nil,or_false] at hp
 subst hp; simp
theorem kw_eqLogNoteS_0:OrcOk Ew_eqLogNoteS Ow_eqLogNoteS_0 lsw_eqLogNoteS 0 := orcOk_none
noncomputable def hw_eqLogNoteS_0 (y0:List (Int×(Int×((List ByteArray)×(List (ByteArray×(Bool×(List Int)))))))) (y1:List (Int×(Int×((List ByteArray)×(List (ByteArray×(Bool×(List Int)))))))) (y2:Int):List (Pl×LV) := [(.T 0,.t (.val false [.sl .any 43 (.pair (.int .i64) (.pair (.int .i64) (.pair (.sl 9 .str) (.sl 64 (.pair .str (.pair .bool (.sl 3 (.int .i64)))))))) y0])),(.T 1,.t (.val false [.sl .any 43 (.pair (.int .i64) (.pair (.int .i64) (.pair (.sl 9 .str) (.sl 64 (.pair .str (.pair .bool (.sl 3 (.int .i64)))))))) y1])),(.T 5,.t (.val false [.int .i64 y2]))]
noncomputable def g_Sw_eqLogNoteS_0 (y0:List (Int×(Int×((List ByteArray)×(List (ByteArray×(Bool×(List Int)))))))) (y1:List (Int×(Int×((List ByteArray)×(List (ByteArray×(Bool×(List Int)))))))):(Int) → RT (Int) ((Bool) ⊕ (Unit))
 | y2 => .br (true) (.br (decide (y2 < (↑(List.length y0):Int))) (.br (decide ((0:Int) ≤ y2 ∧ y2 < (↑(List.length y0):Int))) (.br (decide ((0:Int) ≤ y2 ∧ y2 < (↑(List.length y1):Int))) (.br (g_Aw_eqLogNote (at_ (Ty.pair (Ty.int IntKind.i64) (Ty.pair (Ty.int IntKind.i64) (Ty.pair (Ty.sl (nat_lit 9) Ty.str) (Ty.sl (nat_lit 64) (Ty.pair Ty.str (Ty.pair Ty.bool (Ty.sl (nat_lit 3) (Ty.int IntKind.i64)))))))) y0 (Int.toNat y2)).1 (at_ (Ty.pair (Ty.int IntKind.i64) (Ty.pair (Ty.int IntKind.i64) (Ty.pair (Ty.sl (nat_lit 9) Ty.str) (Ty.sl (nat_lit 64) (Ty.pair Ty.str (Ty.pair Ty.bool (Ty.sl (nat_lit 3) (Ty.int IntKind.i64)))))))) y0 (Int.toNat y2)).2.1 (at_ (Ty.pair (Ty.int IntKind.i64) (Ty.pair (Ty.int IntKind.i64) (Ty.pair (Ty.sl (nat_lit 9) Ty.str) (Ty.sl (nat_lit 64) (Ty.pair Ty.str (Ty.pair Ty.bool (Ty.sl (nat_lit 3) (Ty.int IntKind.i64)))))))) y0 (Int.toNat y2)).2.2.1 (at_ (Ty.pair (Ty.int IntKind.i64) (Ty.pair (Ty.int IntKind.i64) (Ty.pair (Ty.sl (nat_lit 9) Ty.str) (Ty.sl (nat_lit 64) (Ty.pair Ty.str (Ty.pair Ty.bool (Ty.sl (nat_lit 3) (Ty.int IntKind.i64)))))))) y0 (Int.toNat y2)).2.2.2 (at_ (Ty.pair (Ty.int IntKind.i64) (Ty.pair (Ty.int IntKind.i64) (Ty.pair (Ty.sl (nat_lit 9) Ty.str) (Ty.sl (nat_lit 64) (Ty.pair Ty.str (Ty.pair Ty.bool (Ty.sl (nat_lit 3) (Ty.int IntKind.i64)))))))) y1 (Int.toNat y2)).1 (at_ (Ty.pair (Ty.int IntKind.i64) (Ty.pair (Ty.int IntKind.i64) (Ty.pair (Ty.sl (nat_lit 9) Ty.str) (Ty.sl (nat_lit 64) (Ty.pair Ty.str (Ty.pair Ty.bool (Ty.sl (nat_lit 3) (Ty.int IntKind.i64)))))))) y1 (Int.toNat y2)).2.1 (at_ (Ty.pair (Ty.int IntKind.i64) (Ty.pair (Ty.int IntKind.i64) (Ty.pair (Ty.sl (nat_lit 9) Ty.str) (Ty.sl (nat_lit 64) (Ty.pair Ty.str (Ty.pair Ty.bool (Ty.sl (nat_lit 3) (Ty.int IntKind.i64)))))))) y1 (Int.toNat y2)).2.2.1 (at_ (Ty.pair (Ty.int IntKind.i64) (Ty.pair (Ty.int IntKind.i64) (Ty.pair (Ty.sl (nat_lit 9) Ty.str) (Ty.sl (nat_lit 64) (Ty.pair Ty.str (Ty.pair Ty.bool (Ty.sl (nat_lit 3) (Ty.int IntKind.i64)))))))) y1 (Int.toNat y2)).2.2.2) (.br (!g_Vw_eqLogNote_0 (at_ (Ty.pair (Ty.int IntKind.i64) (Ty.pair (Ty.int IntKind.i64) (Ty.pair (Ty.sl (nat_lit 9) Ty.str) (Ty.sl (nat_lit 64) (Ty.pair Ty.str (Ty.pair Ty.bool (Ty.sl (nat_lit 3) (Ty.int IntKind.i64)))))))) y0 (Int.toNat y2)).1 (at_ (Ty.pair (Ty.int IntKind.i64) (Ty.pair (Ty.int IntKind.i64) (Ty.pair (Ty.sl (nat_lit 9) Ty.str) (Ty.sl (nat_lit 64) (Ty.pair Ty.str (Ty.pair Ty.bool (Ty.sl (nat_lit 3) (Ty.int IntKind.i64)))))))) y0 (Int.toNat y2)).2.1 (at_ (Ty.pair (Ty.int IntKind.i64) (Ty.pair (Ty.int IntKind.i64) (Ty.pair (Ty.sl (nat_lit 9) Ty.str) (Ty.sl (nat_lit 64) (Ty.pair Ty.str (Ty.pair Ty.bool (Ty.sl (nat_lit 3) (Ty.int IntKind.i64)))))))) y0 (Int.toNat y2)).2.2.1 (at_ (Ty.pair (Ty.int IntKind.i64) (Ty.pair (Ty.int IntKind.i64) (Ty.pair (Ty.sl (nat_lit 9) Ty.str) (Ty.sl (nat_lit 64) (Ty.pair Ty.str (Ty.pair Ty.bool (Ty.sl (nat_lit 3) (Ty.int IntKind.i64)))))))) y0 (Int.toNat y2)).2.2.2 (at_ (Ty.pair (Ty.int IntKind.i64) (Ty.pair (Ty.int IntKind.i64) (Ty.pair (Ty.sl (nat_lit 9) Ty.str) (Ty.sl (nat_lit 64) (Ty.pair Ty.str (Ty.pair Ty.bool (Ty.sl (nat_lit 3) (Ty.int IntKind.i64)))))))) y1 (Int.toNat y2)).1 (at_ (Ty.pair (Ty.int IntKind.i64) (Ty.pair (Ty.int IntKind.i64) (Ty.pair (Ty.sl (nat_lit 9) Ty.str) (Ty.sl (nat_lit 64) (Ty.pair Ty.str (Ty.pair Ty.bool (Ty.sl (nat_lit 3) (Ty.int IntKind.i64)))))))) y1 (Int.toNat y2)).2.1 (at_ (Ty.pair (Ty.int IntKind.i64) (Ty.pair (Ty.int IntKind.i64) (Ty.pair (Ty.sl (nat_lit 9) Ty.str) (Ty.sl (nat_lit 64) (Ty.pair Ty.str (Ty.pair Ty.bool (Ty.sl (nat_lit 3) (Ty.int IntKind.i64)))))))) y1 (Int.toNat y2)).2.2.1 (at_ (Ty.pair (Ty.int IntKind.i64) (Ty.pair (Ty.int IntKind.i64) (Ty.pair (Ty.sl (nat_lit 9) Ty.str) (Ty.sl (nat_lit 64) (Ty.pair Ty.str (Ty.pair Ty.bool (Ty.sl (nat_lit 3) (Ty.int IntKind.i64)))))))) y1 (Int.toNat y2)).2.2.2) (.out (.inl false)) (.br (true) (.go (IntKind.wrap IntKind.i64 (y2 + (1:Int)))) .bad)) .bad) .bad) .bad) (.out (.inr (())))) .bad
noncomputable def g_Lw_eqLogNoteS_0 (y0:List (Int×(Int×((List ByteArray)×(List (ByteArray×(Bool×(List Int)))))))) (y1:List (Int×(Int×((List ByteArray)×(List (ByteArray×(Bool×(List Int)))))))) (x:Int):Option ((Bool) ⊕ (Unit)) := loopO (g_Sw_eqLogNoteS_0 y0 y1) x
noncomputable def xw_eqLogNoteS_0 (y0:List (Int×(Int×((List ByteArray)×(List (ByteArray×(Bool×(List Int)))))))) (y1:List (Int×(Int×((List ByteArray)×(List (ByteArray×(Bool×(List Int)))))))):((Bool) ⊕ (Unit)) → Ex×List (Pl×LV) := fun
 | .inl r => (.ret,[(.T 4,.t (.val false [.bool r]))])
 | .inr (r) => (.exit 0,[(.T 4,.t (.val false [.undef]))])
noncomputable def Ow_eqLogNoteS_1:Orc := fun b h => match b,h with
 | 0,[(.T 0,.t (.val false [.sl .any 43 (.pair (.int .i64) (.pair (.int .i64) (.pair (.sl 9 .str) (.sl 64 (.pair .str (.pair .bool (.sl 3 (.int .i64)))))))) y0])),(.T 1,.t (.val false [.sl .any 43 (.pair (.int .i64) (.pair (.int .i64) (.pair (.sl 9 .str) (.sl 64 (.pair .str (.pair .bool (.sl 3 (.int .i64)))))))) y1])),(.T 5,.t (.val false [.int .i64 y2]))] => some (okO (g_Lw_eqLogNoteS_0 y0 y1 y2),(.br (isL (valO (g_Lw_eqLogNoteS_0 y0 y1 y2))) (.leaf .ret [(.T 4,.t (.val false [.bool (getL (valO (g_Lw_eqLogNoteS_0 y0 y1 y2)))]))]) (.leaf (.exit 0) [(.T 4,.t (.val false [.undef]))])))
 | b,h => Ow_eqLogNoteS_0 b h
theorem bw_eqLogNoteS_0 (y0:List (Int×(Int×((List ByteArray)×(List (ByteArray×(Bool×(List Int)))))))) (y1:List (Int×(Int×((List ByteArray)×(List (ByteArray×(Bool×(List Int)))))))) (y2:Int):Tr.bt Ew_eqLogNoteS Ow_eqLogNoteS_0 (exec Ew_eqLogNoteS 0 cw_eqLogNoteS_0 (St.of (hw_eqLogNoteS_0 y0 y1 y2)) (leafRd Ew_eqLogNoteS 0)) = (g_Sw_eqLogNoteS_0 y0 y1 y2).bt (fun (y2:Int) => (hw_eqLogNoteS_0 y0 y1 y2)) (xw_eqLogNoteS_0 y0 y1) := by kernel_rfl
theorem kw_eqLogNoteS_1:OrcOk Ew_eqLogNoteS Ow_eqLogNoteS_1 lsw_eqLogNoteS 1 := orc_add kw_eqLogNoteS_0 (fun n p hp h ex h' ho => by
 obtain ⟨b,c⟩ := p
 obtain ⟨xt,h1,h2⟩ := ho
 have h1:Ow_eqLogNoteS_1 b h = some (true,xt) := h1
 unfold Ow_eqLogNoteS_1 at h1
 split at h1
 ·injection h1 with h1
  injection h1 with e1 e2
  subst e2
  have hc:c = cw_eqLogNoteS_0 := mw_eqLogNoteS_0 _ hp rfl
  subst hc
  right
  rename_i y0 y1 y2
  have key := LT_step kw_eqLogNoteS_0 hp (fun q hq => loopsAll_in _ _ _ _ hp hq) (fun (y2:Int) => (hw_eqLogNoteS_0 y0 y1 y2)) (xw_eqLogNoteS_0 y0 y1) (g_Sw_eqLogNoteS_0 y0 y1) (fun x => by first | exact bw_eqLogNoteS_0 y0 y1 x) n (x := y2) (okO_some e1)
  have hx:∀ r,XT.sel (.br (isL r) (.leaf .ret [(.T 4,.t (.val false [.bool (getL r)]))]) (.leaf (.exit 0) [(.T 4,.t (.val false [.undef]))])) = xw_eqLogNoteS_0 y0 y1 r := fun r => by first | rfl | (rcases r with r | r <;> rfl) | (rcases r with r | r | r <;> rfl) | (rcases r with r | r | r | r <;> rfl)
  have h3 := (hx (valO (g_Lw_eqLogNoteS_0 y0 y1 y2))).symm.trans h2
  have e3 := congrArg Prod.fst h3
  have e4 := congrArg Prod.snd h3
  simp only at e3 e4
  rw [← e3,← e4]
  exact key
 ·exact .inl ⟨xt,h1,h2⟩)
noncomputable def g_Aw_eqLogNoteS (a0:List (Int×(Int×((List ByteArray)×(List (ByteArray×(Bool×(List Int)))))))) (a1:List (Int×(Int×((List ByteArray)×(List (ByteArray×(Bool×(List Int)))))))):Bool := (↑(List.length a0):Int) != (↑(List.length a1):Int) || okO (g_Lw_eqLogNoteS_0 a0 a1 (0:Int))
noncomputable def g_Vw_eqLogNoteS_0 (a0:List (Int×(Int×((List ByteArray)×(List (ByteArray×(Bool×(List Int)))))))) (a1:List (Int×(Int×((List ByteArray)×(List (ByteArray×(Bool×(List Int)))))))):Bool := bif (↑(List.length a0):Int) != (↑(List.length a1):Int) then false else bif isL (valO (g_Lw_eqLogNoteS_0 a0 a1 (0:Int))) then getL (valO (g_Lw_eqLogNoteS_0 a0 a1 (0:Int))) else true
noncomputable def Fw_eqLogNoteS:FSem := fun ys => match ys with
 | [.val false [.sl .any 43 (.pair (.int .i64) (.pair (.int .i64) (.pair (.sl 9 .str) (.sl 64 (.pair .str (.pair .bool (.sl 3 (.int .i64)))))))) a0],.val false [.sl .any 43 (.pair (.int .i64) (.pair (.int .i64) (.pair (.sl 9 .str) (.sl 64 (.pair .str (.pair .bool (.sl 3 (.int .i64)))))))) a1]] => some ((g_Aw_eqLogNoteS a0 a1),.val false [.bool (g_Vw_eqLogNoteS_0 a0 a1)],[])
 | _ => none
theorem vw_eqLogNoteS (a0:List (Int×(Int×((List ByteArray)×(List (ByteArray×(Bool×(List Int)))))))) (a1:List (Int×(Int×((List ByteArray)×(List (ByteArray×(Bool×(List Int)))))))):collapseH .std Ew_eqLogNoteS Ow_eqLogNoteS_1 (execFn Ew_eqLogNoteS Tryd.f18 msw_eqLogNoteS [.val false [.sl .any 43 (.pair (.int .i64) (.pair (.int .i64) (.pair (.sl 9 .str) (.sl 64 (.pair .str (.pair .bool (.sl 3 (.int .i64)))))))) a0],.val false [.sl .any 43 (.pair (.int .i64) (.pair (.int .i64) (.pair (.sl 9 .str) (.sl 64 (.pair .str (.pair .bool (.sl 3 (.int .i64)))))))) a1]]) = some ((g_Aw_eqLogNoteS a0 a1),.val false [.bool (g_Vw_eqLogNoteS_0 a0 a1)],[]) := by kernel_rfl
theorem sw_eqLogNoteS:Sound Tryd.prog 18 msw_eqLogNoteS Fw_eqLogNoteS := by
 refine fn_gen goodw_eqLogNoteS (by kernel_rfl) .std (fn := Tryd.f18) (c := (Tryd.f18.body.getD .skip)) (o := Ow_eqLogNoteS_1) (k := 1) (by kernel_rfl) (by kernel_rfl) (by kernel_rfl) (by kernel_rfl) (by decide) kw_eqLogNoteS_1 ?_
 intro ys r outs h
 unfold Fw_eqLogNoteS at h
 split at h
 ·exact (vw_eqLogNoteS _ _).trans h
 ·cases h
noncomputable def Ew_eqLogDisk:Env where
 tt := mkTI Tryd.prog
 fn := fun f => match f with
  | 18 => some (msw_eqLogNoteS,FSem.wk msw_eqLogNoteS Fw_eqLogNoteS)
  | _ => none
 bxf := fun _ => none
 mv := []
 keep := fun _ => []
 keepB := fun _ => []
 keepX := fun _ => []
 keepXB := fun _ => []
theorem goodFw_eqLogDisk:∀ f ms F,Ew_eqLogDisk.fn f = some (ms,F) → Sound Tryd.prog f ms F := fun f ms F h => by
 unfold Ew_eqLogDisk at h
 dsimp only at h
 split at h
 ·injection h with h; injection h with e1 e2; subst e1 e2; exact Sound.wk sw_eqLogNoteS
 ·cases h
theorem goodBw_eqLogDisk:∀ f ms F,Ew_eqLogDisk.bxf f = some (ms,F) → SoundB Tryd.prog f ms F := fun f ms F h => by cases h
theorem goodw_eqLogDisk:Good Tryd.prog Ew_eqLogDisk := ⟨rfl,goodFw_eqLogDisk,goodBw_eqLogDisk⟩
noncomputable def Ow_eqLogDisk_0:Orc := fun _ _ => none
noncomputable def msw_eqLogDisk:List PM := [.rd,.rd]
noncomputable def lsw_eqLogDisk:List (Nat×Code) := loopsAll 0 (Tryd.f8.body.getD .skip)
theorem kw_eqLogDisk_0:OrcOk Ew_eqLogDisk Ow_eqLogDisk_0 lsw_eqLogDisk 0 := orcOk_none
noncomputable def g_Aw_eqLogDisk (a0:List (Int×(Int×((List ByteArray)×(List (ByteArray×(Bool×(List Int)))))))) (a1:Int) (a2:List (Int×(Int×((List ByteArray)×(List (ByteArray×(Bool×(List Int)))))))) (a3:Int):Bool := g_Aw_eqLogNoteS a0 a2&&(!g_Vw_eqLogNoteS_0 a0 a2 || true)
noncomputable def g_Vw_eqLogDisk_0 (a0:List (Int×(Int×((List ByteArray)×(List (ByteArray×(Bool×(List Int)))))))) (a1:Int) (a2:List (Int×(Int×((List ByteArray)×(List (ByteArray×(Bool×(List Int)))))))) (a3:Int):Bool := bif !g_Vw_eqLogNoteS_0 a0 a2 then false else bif a1 != a3 then false else true
noncomputable def Fw_eqLogDisk:FSem := fun ys => match ys with
 | [.val true [.sl .any 43 (.pair (.int .i64) (.pair (.int .i64) (.pair (.sl 9 .str) (.sl 64 (.pair .str (.pair .bool (.sl 3 (.int .i64)))))))) a0,.int .i64 a1],.val true [.sl .any 43 (.pair (.int .i64) (.pair (.int .i64) (.pair (.sl 9 .str) (.sl 64 (.pair .str (.pair .bool (.sl 3 (.int .i64)))))))) a2,.int .i64 a3]] => some ((g_Aw_eqLogDisk a0 a1 a2 a3),.val false [.bool (g_Vw_eqLogDisk_0 a0 a1 a2 a3)],[])
 | _ => none
theorem vw_eqLogDisk (a0:List (Int×(Int×((List ByteArray)×(List (ByteArray×(Bool×(List Int)))))))) (a1:Int) (a2:List (Int×(Int×((List ByteArray)×(List (ByteArray×(Bool×(List Int)))))))) (a3:Int):collapseH .std Ew_eqLogDisk Ow_eqLogDisk_0 (execFn Ew_eqLogDisk Tryd.f8 msw_eqLogDisk [.val true [.sl .any 43 (.pair (.int .i64) (.pair (.int .i64) (.pair (.sl 9 .str) (.sl 64 (.pair .str (.pair .bool (.sl 3 (.int .i64)))))))) a0,.int .i64 a1],.val true [.sl .any 43 (.pair (.int .i64) (.pair (.int .i64) (.pair (.sl 9 .str) (.sl 64 (.pair .str (.pair .bool (.sl 3 (.int .i64)))))))) a2,.int .i64 a3]]) = some ((g_Aw_eqLogDisk a0 a1 a2 a3),.val false [.bool (g_Vw_eqLogDisk_0 a0 a1 a2 a3)],[]) := by kernel_rfl
theorem sw_eqLogDisk:Sound Tryd.prog 8 msw_eqLogDisk Fw_eqLogDisk := by
 refine fn_gen goodw_eqLogDisk (by kernel_rfl) .std (fn := Tryd.f8) (c := (Tryd.f8.body.getD .skip)) (o := Ow_eqLogDisk_0) (k := 0) (by kernel_rfl) (by kernel_rfl) (by kernel_rfl) (by kernel_rfl) (by decide) kw_eqLogDisk_0 ?_
 intro ys r outs h
 unfold Fw_eqLogDisk at h
 split at h
 ·exact (vw_eqLogDisk _ _ _ _).trans h
 ·cases h
noncomputable def Ew_heldIntS:Env where
 tt := mkTI Tryd.prog
 fn := fun _ => none
 bxf := fun _ => none
 mv := []
 keep := fun b => match b with
  | 0 => [(0,false),(1,false),(5,false)]
  | _ => []
 keepB := fun b => match b with
  | 0 => []
  | _ => []
 keepX := fun b => match b with
  | 0 => [(1,false),(4,false)]
  | _ => []
 keepXB := fun b => match b with
  | 0 => []
  | _ => []
theorem goodFw_heldIntS:∀ f ms F,Ew_heldIntS.fn f = some (ms,F) → Sound Tryd.prog f ms F := fun f ms F h => by cases h
theorem goodBw_heldIntS:∀ f ms F,Ew_heldIntS.bxf f = some (ms,F) → SoundB Tryd.prog f ms F := fun f ms F h => by cases h
theorem goodw_heldIntS:Good Tryd.prog Ew_heldIntS := ⟨rfl,goodFw_heldIntS,goodBw_heldIntS⟩
noncomputable def Ow_heldIntS_0:Orc := fun _ _ => none
noncomputable def msw_heldIntS:List PM := [.rd,.own]
noncomputable def lsw_heldIntS:List (Nat×Code) := loopsAll 0 (Tryd.f58.body.getD .skip)
noncomputable def cw_heldIntS_0:Code := (loopOf 0 (Tryd.f58.body.getD .skip)).getD .skip
theorem lseqw_heldIntS:lsw_heldIntS = [(0,cw_heldIntS_0)] := by kernel_rfl
theorem mw_heldIntS_0:∀ p,p ∈ lsw_heldIntS → p.1 = 0 → p.2 = cw_heldIntS_0 := by
 intro p hp
 rw [lseqw_heldIntS] at hp
 simp only [List.mem_cons,List.not_mem_nil,or_false] at hp
 subst hp; simp
theorem kw_heldIntS_0:OrcOk Ew_heldIntS Ow_heldIntS_0 lsw_heldIntS 0 := orcOk_none
noncomputable def hw_heldIntS_0 (y0:List Int) (y1:Int) (y2:Int):List (Pl×LV) := [(.T 0,.t (.val false [.sl .any 3 (.int .i64) y0])),(.T 1,.t (.val false [.int .i64 y1])),(.T 5,.t (.val false [.int .i64 y2]))]
noncomputable def g_Sw_heldIntS_0 (y0:List Int):(Int×Int) → RT (Int×Int) ((Int×Int) ⊕ (Int))
 | (y1,y2) => .br (true) (.br (decide (y2 < (↑(List.length y0):Int))) (.br (decide ((0:Int) ≤ y2 ∧ y2 < (↑(List.length y0):Int))) (.br (true) (.br (at_ (Ty.int IntKind.i64) y0 (Int.toNat y2) != y1) (.out (.inl ((y1,(-1:Int))))) (.br (true) (.br (true) (.go ((IntKind.wrap IntKind.i64 (y1 + (1:Int)),IntKind.wrap IntKind.i64 (y2 + (1:Int))))) .bad) .bad)) .bad) .bad) (.out (.inr (y1)))) .bad
noncomputable def g_Lw_heldIntS_0 (y0:List Int) (x:Int×Int):Option ((Int×Int) ⊕ (Int)) := loopO (g_Sw_heldIntS_0 y0) x
noncomputable def xw_heldIntS_0 (y0:List Int):((Int×Int) ⊕ (Int)) → Ex×List (Pl×LV) := fun
 | .inl r => (.ret,[(.T 1,.t (.val false [.int .i64 r.1])),(.T 4,.t (.val false [.int .i64 r.2]))])
 | .inr (r) => (.exit 0,[(.T 1,.t (.val false [.int .i64 r])),(.T 4,.t (.val false [.undef]))])
noncomputable def Ow_heldIntS_1:Orc := fun b h => match b,h with
 | 0,[(.T 0,.t (.val false [.sl .any 3 (.int .i64) y0])),(.T 1,.t (.val false [.int .i64 y1])),(.T 5,.t (.val false [.int .i64 y2]))] => some (okO (g_Lw_heldIntS_0 y0 (y1,y2)),(.br (isL (valO (g_Lw_heldIntS_0 y0 (y1,y2)))) (.leaf .ret [(.T 1,.t (.val false [.int .i64 (getL (valO (g_Lw_heldIntS_0 y0 (y1,y2)))).1])),(.T 4,.t (.val false [.int .i64 (getL (valO (g_Lw_heldIntS_0 y0 (y1,y2)))).2]))]) (.leaf (.exit 0) [(.T 1,.t (.val false [.int .i64 (getR (valO (g_Lw_heldIntS_0 y0 (y1,y2))))])),(.T 4,.t (.val false [.undef]))])))
 | b,h => Ow_heldIntS_0 b h
theorem bw_heldIntS_0 (y0:List Int) (y1:Int) (y2:Int):Tr.bt Ew_heldIntS Ow_heldIntS_0 (exec Ew_heldIntS 0 cw_heldIntS_0 (St.of (hw_heldIntS_0 y0 y1 y2)) (leafRd Ew_heldIntS 0)) = (g_Sw_heldIntS_0 y0 (y1,y2)).bt (fun ((y1,y2):Int×Int) => (hw_heldIntS_0 y0 y1 y2)) (xw_heldIntS_0 y0) := by kernel_rfl
theorem kw_heldIntS_1:OrcOk Ew_heldIntS Ow_heldIntS_1 lsw_heldIntS 1 := orc_add kw_heldIntS_0 (fun n p hp h ex h' ho => by
 obtain ⟨b,c⟩ := p
 obtain ⟨xt,h1,h2⟩ := ho
 have h1:Ow_heldIntS_1 b h = some (true,xt) := h1
 unfold Ow_heldIntS_1 at h1
 split at h1
 ·injection h1 with h1
  injection h1 with e1 e2
  subst e2
  have hc:c = cw_heldIntS_0 := mw_heldIntS_0 _ hp rfl
  subst hc
  right
  rename_i y0 y1 y2
  have key := LT_step kw_heldIntS_0 hp (fun q hq => loopsAll_in _ _ _ _ hp hq) (fun ((y1,y2):Int×Int) => (hw_heldIntS_0 y0 y1 y2)) (xw_heldIntS_0 y0) (g_Sw_heldIntS_0 y0) (fun x => by first | exact bw_heldIntS_0 y0 x.1 x.2) n (x := (y1,y2)) (okO_some e1)
  have hx:∀ r,XT.sel (.br (isL r) (.leaf .ret [(.T 1,.t (.val false [.int .i64 (getL r).1])),(.T 4,.t (.val false [.int .i64 (getL r).2]))]) (.leaf (.exit 0) [(.T 1,.t (.val false [.int .i64 (getR r)])),(.T 4,.t (.val false [.undef]))])) = xw_heldIntS_0 y0 r := fun r => by first | rfl | (rcases r with r | r <;> rfl) | (rcases r with r | r | r <;> rfl) | (rcases r with r | r | r | r <;> rfl)
  have h3 := (hx (valO (g_Lw_heldIntS_0 y0 (y1,y2)))).symm.trans h2
  have e3 := congrArg Prod.fst h3
  have e4 := congrArg Prod.snd h3
  simp only at e3 e4
  rw [← e3,← e4]
  exact key
 ·exact .inl ⟨xt,h1,h2⟩)
noncomputable def g_Aw_heldIntS (a0:List Int) (a1:Int):Bool := okO (g_Lw_heldIntS_0 a0 (a1,(0:Int)))
noncomputable def g_Vw_heldIntS_0 (a0:List Int) (a1:Int):Int := bif isL (valO (g_Lw_heldIntS_0 a0 (a1,(0:Int)))) then (getL (valO (g_Lw_heldIntS_0 a0 (a1,(0:Int))))).2 else getR (valO (g_Lw_heldIntS_0 a0 (a1,(0:Int))))
noncomputable def Fw_heldIntS:FSem := fun ys => match ys with
 | [.val false [.sl .any 3 (.int .i64) a0],.val false [.int .i64 a1]] => some ((g_Aw_heldIntS a0 a1),.val false [.int .i64 (g_Vw_heldIntS_0 a0 a1)],[])
 | _ => none
theorem vw_heldIntS (a0:List Int) (a1:Int):collapseH .std Ew_heldIntS Ow_heldIntS_1 (execFn Ew_heldIntS Tryd.f58 msw_heldIntS [.val false [.sl .any 3 (.int .i64) a0],.val false [.int .i64 a1]]) = some ((g_Aw_heldIntS a0 a1),.val false [.int .i64 (g_Vw_heldIntS_0 a0 a1)],[]) := by kernel_rfl
theorem sw_heldIntS:Sound Tryd.prog 58 msw_heldIntS Fw_heldIntS := by
 refine fn_gen goodw_heldIntS (by kernel_rfl) .std (fn := Tryd.f58) (c := (Tryd.f58.body.getD .skip)) (o := Ow_heldIntS_1) (k := 1) (by kernel_rfl) (by kernel_rfl) (by kernel_rfl) (by kernel_rfl) (by decide) kw_heldIntS_1 ?_
 intro ys r outs h
 unfold Fw_heldIntS at h
 split at h
 ·exact (vw_heldIntS _ _).trans h
 ·cases h
end Go.Proofs.YtcceeikolcdodaaDoor.E
