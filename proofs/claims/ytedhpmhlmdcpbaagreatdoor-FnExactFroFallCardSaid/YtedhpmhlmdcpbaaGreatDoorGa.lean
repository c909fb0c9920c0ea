/- What the functions that are reached do, by the engine: for the proof (laws.FnExactFroFall): part 1. No conditions. -/
import Derived.Test.YtedhpmhlmdcpbaaGreatDoorEc
import Derived.Test.YtedhpmhlmdcpbaaGreatDoorProg
import Derived.Test.YtedhpmhlmdcpbaaGreatDoorShelf
import Derived.RangeFuncNested
import Derived.RangeFuncBound
import Derived.RangeFuncCalls
import Derived.RangeFuncLeaves
import Derived.RangeFuncBox
import Derived.Shelf.Abstract
import Derived.WalkKit
import Derived.OwnWalkIn
import Derived.TacticsInMore
import Derived.LoopNIn
import Derived.LoopIn
set_option linter.all false
namespace Go.Proofs.YtedhpmhlmdcpbaaGreatDoor.E
open Go
set_option maxRecDepth 100000
set_option maxHeartbeats 0
abbrev yT0:Ty := Ty.pair (Ty.int IntKind.i64) (Ty.pair (Ty.pair (Ty.int IntKind.i64) (Ty.pair (Ty.int IntKind.i64) (Ty.pair (Ty.int IntKind.i64) (Ty.pair (Ty.int IntKind.i64) (Ty.pair (Ty.int IntKind.i64) (Ty.pair (Ty.int IntKind.i64) (Ty.int IntKind.i64))))))) (Ty.pair Ty.bool (Ty.pair (Ty.sl (nat_lit 3) (Ty.int IntKind.i64)) (Ty.sl (nat_lit 3) (Ty.int IntKind.i64)))))
abbrev yT1:Ty := Ty.pair (Ty.int IntKind.i64) (Ty.pair (Ty.int IntKind.i64) (Ty.pair (Ty.sl (nat_lit 9) Ty.str) (Ty.sl (nat_lit 155) (Ty.pair Ty.str (Ty.pair Ty.bool (Ty.sl (nat_lit 3) (Ty.int IntKind.i64)))))))
abbrev yT2:Ty := Ty.pair Ty.str (Ty.pair Ty.bool (Ty.sl (nat_lit 3) (Ty.int IntKind.i64)))
abbrev yT3:Ty := Ty.pair (Ty.int IntKind.i64) (Ty.pair (Ty.int IntKind.i64) (Ty.pair (Ty.sl (nat_lit 9) Ty.str) (Ty.sl (nat_lit 196) (Ty.pair Ty.str (Ty.pair Ty.bool (Ty.sl (nat_lit 3) (Ty.int IntKind.i64)))))))
abbrev tL0:Type := List (Int×(Int×((List ByteArray)×(List (ByteArray×(Bool×(List Int)))))))
abbrev tL1:Type := List (Int×((Int×(Int×(Int×(Int×(Int×(Int×Int))))))×(Bool×((List Int)×(List Int)))))
abbrev tL2:Type := List (ByteArray×(Bool×(List Int)))
abbrev tS : Type := List (ByteArray × List Int)
abbrev tW : Type := List (ByteArray × Bool × List Int)
theorem gF {P : Program} {n : Nat} {ms0 ms : List PM} {F0 F : FSem} (s : Sound P n ms0 F0) (h : some (ms0, FSem.wk ms0 F0) = some (ms, F)) : Sound P n ms F := by cases h; exact Sound.wk s
noncomputable section
def Ei_in:Env where
 tt := mkTI Tryz.prog
 fn := fun _ => none
 bxf := fun _ => none
 mv := []
 keep := fun _ => []
 keepB := fun _ => []
 keepX := fun _ => []
 keepXB := fun _ => []
theorem goodFi_in:∀ f ms F,Ei_in.fn f = some (ms,F) → Sound Tryz.prog f ms F := fun f ms F h => by cases h
theorem goodi_in:Good Tryz.prog Ei_in := ⟨rfl,goodFi_in,fun f ms F h => by cases h⟩
def Oi_in_0:Orc := fun _ _ => none
def msi_in:List PM := [.own,.own,.own]
def lsi_in:List (Nat×Code) := loopsAll 0 (Tryz.f75.body.getD .skip)
theorem ki_in_0:OrcOk Ei_in Oi_in_0 lsi_in 0 := orcOk_none
def g_Ai_in (a0:Int) (a1:Int) (a2:Int):Bool := !decide (a0 ≥ a1) || true
def g_Vi_in_0 (a0:Int) (a1:Int) (a2:Int):Bool := bif decide (a0 ≥ a1) then decide (a0 ≤ a2) else false
def Fi_in:FSem := fun ys => match ys with
 | [.val false [.int .i64 a0],.val false [.int .i64 a1],.val false [.int .i64 a2]] => some ((g_Ai_in a0 a1 a2),.val false [.bool (g_Vi_in_0 a0 a1 a2)],[])
 | _ => none
theorem vi_in (a0:Int) (a1:Int) (a2:Int):collapseH .std Ei_in Oi_in_0 (execFn Ei_in Tryz.f75 msi_in [.val false [.int .i64 a0],.val false [.int .i64 a1],.val false [.int .i64 a2]]) = some ((g_Ai_in a0 a1 a2),.val false [.bool (g_Vi_in_0 a0 a1 a2)],[]) := by kernel_rfl
theorem si_in:Sound Tryz.prog 75 msi_in Fi_in := by
 refine fn_gen goodi_in (by kernel_rfl) .std (fn := Tryz.f75) (c := (Tryz.f75.body.getD .skip)) (o := Oi_in_0) (k := 0) (by kernel_rfl) (by kernel_rfl) (by kernel_rfl) (by kernel_rfl) (by decide) ki_in_0 ?_
 intro ys r outs h
 unfold Fi_in at h
 split at h
 ·exact (vi_in _ _ _).trans h
 ·cases h
def Ei_isTx:Env where
 tt := mkTI Tryz.prog
 fn := fun f => match f with
  | 75 => some (msi_in,FSem.wk msi_in Fi_in)
  | _ => none
 bxf := fun _ => none
 mv := []
 keep := fun _ => []
 keepB := fun _ => []
 keepX := fun _ => []
 keepXB := fun _ => []
theorem goodFi_isTx:∀ f ms F,Ei_isTx.fn f = some (ms,F) → Sound Tryz.prog f ms F := fun f ms F h => by
 unfold Ei_isTx at h
 dsimp only at h
 split at h
 ·exact gF si_in h
 ·cases h
theorem goodi_isTx:Good Tryz.prog Ei_isTx := ⟨rfl,goodFi_isTx,fun f ms F h => by cases h⟩
def Oi_isTx_0:Orc := fun _ _ => none
def msi_isTx:List PM := [.own]
def lsi_isTx:List (Nat×Code) := loopsAll 0 (Tryz.f59.body.getD .skip)
theorem ki_isTx_0:OrcOk Ei_isTx Oi_isTx_0 lsi_isTx 0 := orcOk_none
def g_Ai_isTx (a0:Int):Bool := g_Ai_in a0 (0:Int) (29:Int)
def g_Vi_isTx_0 (a0:Int):Bool := g_Vi_in_0 a0 (0:Int) (29:Int)
def Fi_isTx:FSem := fun ys => match ys with
 | [.val false [.int .i64 a0]] => some ((g_Ai_isTx a0),.val false [.bool (g_Vi_isTx_0 a0)],[])
 | _ => none
theorem vi_isTx (a0:Int):collapseH .std Ei_isTx Oi_isTx_0 (execFn Ei_isTx Tryz.f59 msi_isTx [.val false [.int .i64 a0]]) = some ((g_Ai_isTx a0),.val false [.bool (g_Vi_isTx_0 a0)],[]) := by kernel_rfl
theorem si_isTx:Sound Tryz.prog 59 msi_isTx Fi_isTx := by
 refine fn_gen goodi_isTx (by kernel_rfl) .std (fn := Tryz.f59) (c := (Tryz.f59.body.getD .skip)) (o := Oi_isTx_0) (k := 0) (by kernel_rfl) (by kernel_rfl) (by kernel_rfl) (by kernel_rfl) (by decide) ki_isTx_0 ?_
 intro ys r outs h
 unfold Fi_isTx at h
 split at h
 ·exact (vi_isTx _).trans h
 ·cases h
def msstrings_Trim:List PM := [.own,.own]
def g_trim (s c:ByteArray):ByteArray := ⟨(Lib.trimS s.data.toList c.data.toList).toArray⟩
def g_ascii (c:ByteArray):Bool := c.data.toList.all fun b => decide (b.toNat < 128)
def Fstrings_Trim:FSem := fun ys => match ys with
 | [.val false [.str s],.val false [.str c]] => some (decide (s.size ≤ 9223372036854775807)&&(decide (c.size < 4294967281)&&g_ascii c),.val false [.str (g_trim s c)],[])
 | _ => none
theorem sstrings_Trim:Sound Tryz.prog 177 msstrings_Trim Fstrings_Trim := by
 refine sound_plain (by simp [msstrings_Trim]) ⟨_,Tryz.func177,by kernel_rfl,by kernel_rfl⟩ (fun w ys r outs h => ?_)
 unfold Fstrings_Trim at h
 split at h
 ·rename_i s c
  simp only [Option.some.injEq,Prod.mk.injEq,Bool.and_eq_true,decide_eq_true_eq] at h
  obtain ⟨⟨h1,h2,h3⟩,rfl,rfl⟩ := h
  refine ⟨rfl,[.string s,.string c],.string (g_trim s c),rfl,rfl,?_⟩
  exact Tryz.strings_Trim_laid s c w h1 h2 (fun j b hb => by
   have := List.all_eq_true.1 h3 b (List.mem_of_getElem? hb)
   simpa using this)
 ·cases h
def Ei_keyOk:Env where
 tt := mkTI Tryz.prog
 fn := fun f => match f with
  | 75 => some (msi_in,FSem.wk msi_in Fi_in)
  | 177 => some (msstrings_Trim,FSem.wk msstrings_Trim Fstrings_Trim)
  | _ => none
 bxf := fun _ => none
 mv := []
 keep := fun _ => []
 keepB := fun _ => []
 keepX := fun _ => []
 keepXB := fun _ => []
theorem goodFi_keyOk:∀ f ms F,Ei_keyOk.fn f = some (ms,F) → Sound Tryz.prog f ms F := fun f ms F h => by
 unfold Ei_keyOk at h
 dsimp only at h
 split at h
 ·exact gF si_in h
 ·exact gF sstrings_Trim h
 ·cases h
theorem goodi_keyOk:Good Tryz.prog Ei_keyOk := ⟨rfl,goodFi_keyOk,fun f ms F h => by cases h⟩
def Oi_keyOk_0:Orc := fun _ _ => none
def msi_keyOk:List PM := [.own]
def lsi_keyOk:List (Nat×Code) := loopsAll 0 (Tryz.f162.body.getD .skip)
theorem ki_keyOk_0:OrcOk Ei_keyOk Oi_keyOk_0 lsi_keyOk 0 := orcOk_none
def g_Ai_keyOk (a0:ByteArray):Bool := g_Ai_in (↑(ByteArray.size a0):Int) (2:Int) (3:Int)&&(!g_Vi_in_0 (↑(ByteArray.size a0):Int) (2:Int) (3:Int) || decide ((0:Int) ≤ (0:Int) ∧ 0 < (↑(ByteArray.size a0):Int))&&(g_Ai_in (IntKind.i64.wrap (byteAt a0 (nat_lit 0))) (97:Int) (122:Int)&&(!g_Vi_in_0 (IntKind.i64.wrap (byteAt a0 (nat_lit 0))) (97:Int) (122:Int) || decide ((0:Int) ≤ (1:Int) ∧ 1 ≤ (↑(ByteArray.size a0):Int))&&(decide (ByteArray.size (ByteArray.extract a0 (nat_lit 1) (ByteArray.size a0)) ≤ nat_lit 9223372036854775807)&&g_ascii (lit [(48:Nat),(49:Nat),(50:Nat),(51:Nat),(52:Nat),(53:Nat),(54:Nat),(55:Nat),(56:Nat),(57:Nat)])&&true))))
def g_Vi_keyOk_0 (a0:ByteArray):Bool := bif g_Vi_in_0 (↑(ByteArray.size a0):Int) (2:Int) (3:Int) then bif g_Vi_in_0 (IntKind.i64.wrap (byteAt a0 (nat_lit 0))) (97:Int) (122:Int) then ByteArray.toList (g_trim (ByteArray.extract a0 (nat_lit 1) (ByteArray.size a0)) (lit [(48:Nat),(49:Nat),(50:Nat),(51:Nat),(52:Nat),(53:Nat),(54:Nat),(55:Nat),(56:Nat),(57:Nat)])) == [] else false else false
def Fi_keyOk:FSem := fun ys => match ys with
 | [.val false [.str a0]] => some ((g_Ai_keyOk a0),.val false [.bool (g_Vi_keyOk_0 a0)],[])
 | _ => none
theorem vi_keyOk (a0:ByteArray):collapseH .std Ei_keyOk Oi_keyOk_0 (execFn Ei_keyOk Tryz.f162 msi_keyOk [.val false [.str a0]]) = some ((g_Ai_keyOk a0),.val false [.bool (g_Vi_keyOk_0 a0)],[]) := by kernel_rfl
theorem si_keyOk:Sound Tryz.prog 162 msi_keyOk Fi_keyOk := by
 refine fn_gen goodi_keyOk (by kernel_rfl) .std (fn := Tryz.f162) (c := (Tryz.f162.body.getD .skip)) (o := Oi_keyOk_0) (k := 0) (by kernel_rfl) (by kernel_rfl) (by kernel_rfl) (by kernel_rfl) (by decide) ki_keyOk_0 ?_
 intro ys r outs h
 unfold Fi_keyOk at h
 split at h
 ·exact (vi_keyOk _).trans h
 ·cases h
def Ei_valOk_1:Env where
 tt := mkTI Tryz.prog
 fn := fun f => match f with
  | 75 => some (msi_in,FSem.wk msi_in Fi_in)
  | _ => none
 bxf := fun _ => none
 mv := []
 keep := fun _ => []
 keepB := fun _ => []
 keepX := fun _ => []
 keepXB := fun _ => []
theorem goodFi_valOk_1:∀ f ms F,Ei_valOk_1.fn f = some (ms,F) → Sound Tryz.prog f ms F := fun f ms F h => by
 unfold Ei_valOk_1 at h
 dsimp only at h
 split at h
 ·exact gF si_in h
 ·cases h
theorem goodi_valOk_1:Good Tryz.prog Ei_valOk_1 := ⟨rfl,goodFi_valOk_1,fun f ms F h => by cases h⟩
def Oi_valOk_1_0:Orc := fun _ _ => none
def msi_valOk_1:List PM := [.own]
def lsi_valOk_1:List (Nat×Code) := loopsAll 0 (Tryz.f189.body.getD .skip)
theorem ki_valOk_1_0:OrcOk Ei_valOk_1 Oi_valOk_1_0 lsi_valOk_1 0 := orcOk_none
def g_Ai_valOk_1 (a0:Int):Bool := g_Ai_in a0 (0:Int) (9999:Int)
def g_Vi_valOk_1_0 (a0:Int):Bool := !g_Vi_in_0 a0 (0:Int) (9999:Int)
def Fi_valOk_1:FSem := fun ys => match ys with
 | [.val false [.int .i64 a0]] => some ((g_Ai_valOk_1 a0),.val false [.bool (g_Vi_valOk_1_0 a0)],[])
 | _ => none
theorem vi_valOk_1 (a0:Int):collapseH .std Ei_valOk_1 Oi_valOk_1_0 (execFn Ei_valOk_1 Tryz.f189 msi_valOk_1 [.val false [.int .i64 a0]]) = some ((g_Ai_valOk_1 a0),.val false [.bool (g_Vi_valOk_1_0 a0)],[]) := by kernel_rfl
theorem si_valOk_1:Sound Tryz.prog 189 msi_valOk_1 Fi_valOk_1 := by
 refine fn_gen goodi_valOk_1 (by kernel_rfl) .std (fn := Tryz.f189) (c := (Tryz.f189.body.getD .skip)) (o := Oi_valOk_1_0) (k := 0) (by kernel_rfl) (by kernel_rfl) (by kernel_rfl) (by kernel_rfl) (by decide) ki_valOk_1_0 ?_
 intro ys r outs h
 unfold Fi_valOk_1 at h
 split at h
 ·exact (vi_valOk_1 _).trans h
 ·cases h
def Eslices_IndexFunc_int_int__i_valOk_1:Env where
 tt := mkTI Tryz.prog
 fn := fun f => match f with
  | 189 => some (msi_valOk_1,FSem.wk msi_valOk_1 Fi_valOk_1)
  | _ => none
 bxf := fun _ => none
 mv := []
 keep := fun b => match b with
  | 0 => [(0,false),(1,false),(7,false),(8,false)]
  | _ => []
 keepB := fun b => match b with
  | 0 => []
  | _ => []
 keepX := fun b => match b with
  | 0 => [(4,false)]
  | _ => []
 keepXB := fun b => match b with
  | 0 => []
  | _ => []
theorem goodFslices_IndexFunc_int_int__i_valOk_1:∀ f ms F,Eslices_IndexFunc_int_int__i_valOk_1.fn f = some (ms,F) → Sound Tryz.prog f ms F := fun f ms F h => by
 unfold Eslices_IndexFunc_int_int__i_valOk_1 at h
 dsimp only at h
 split at h
 ·exact gF si_valOk_1 h
 ·cases h
theorem goodslices_IndexFunc_int_int__i_valOk_1:Good Tryz.prog Eslices_IndexFunc_int_int__i_valOk_1 := ⟨rfl,goodFslices_IndexFunc_int_int__i_valOk_1,fun f ms F h => by cases h⟩
def Oslices_IndexFunc_int_int__i_valOk_1_0:Orc := fun _ _ => none
def msslices_IndexFunc_int_int__i_valOk_1:List PM := [.rd,.rd]
def lsslices_IndexFunc_int_int__i_valOk_1:List (Nat×Code) := loopsAll 0 (Tryz.f139.body.getD .skip)
def cslices_IndexFunc_int_int__i_valOk_1_0:Code := (loopOf 0 (Tryz.f139.body.getD .skip)).getD .skip
theorem lseqslices_IndexFunc_int_int__i_valOk_1:lsslices_IndexFunc_int_int__i_valOk_1 = [(0,cslices_IndexFunc_int_int__i_valOk_1_0)] := by kernel_rfl
theorem mslices_IndexFunc_int_int__i_valOk_1_0:∀ p,p ∈ lsslices_IndexFunc_int_int__i_valOk_1 → p.1 = 0 → p.2 = cslices_IndexFunc_int_int__i_valOk_1_0 := by
 intro p hp
 rw [lseqslices_IndexFunc_int_int__i_valOk_1] at hp
 simp only [List.mem_cons,List.not_mem_nil,or_false] at hp
 subst hp; simp
theorem kslices_IndexFunc_int_int__i_valOk_1_0:OrcOk Eslices_IndexFunc_int_int__i_valOk_1 Oslices_IndexFunc_int_int__i_valOk_1_0 lsslices_IndexFunc_int_int__i_valOk_1 0 := orcOk_none
def hslices_IndexFunc_int_int__i_valOk_1_0 (y0:List Int) (y1:Int) (y2:Int):List (Pl×LV) := [(.T 0,.t (.val false [.sl .any 3 (.int .i64) y0])),(.T 1,.t (.val false [.fn 189 []])),(.T 7,.t (.val false [.int .i64 y1])),(.T 8,.t (.val false [.int .i64 y2]))]
def g_Sslices_IndexFunc_int_int__i_valOk_1_0 (y0:List Int) (y1:Int):(Int) → RT (Int) ((Int) ⊕ (Unit))
 | y2 => .br (true) (.br (decide (y2 < y1)) (.br (decide (0 ≤ y2 ∧ y2 < (y0.length:Int))) (.br (g_Ai_valOk_1 (at_ (.int .i64) y0 (Int.toNat y2))) (.br (g_Vi_valOk_1_0 (at_ (.int .i64) y0 (Int.toNat y2))) (.out (.inl y2)) (.br (true) (.go (IntKind.i64.wrap (y2 + 1))) .bad)) .bad) .bad) (.out (.inr (())))) .bad
def g_Lslices_IndexFunc_int_int__i_valOk_1_0 (y0:List Int) (y1:Int) (x:Int):Option ((Int) ⊕ (Unit)) := loopO (g_Sslices_IndexFunc_int_int__i_valOk_1_0 y0 y1) x
def xslices_IndexFunc_int_int__i_valOk_1_0 (y0:List Int) (y1:Int):((Int) ⊕ (Unit)) → Ex×List (Pl×LV) := fun
 | .inl r => (.ret,[(.T 4,.t (.val false [.int .i64 r]))])
 | .inr (r) => (.exit 0,[(.T 4,.t (.val false [.undef]))])
def Oslices_IndexFunc_int_int__i_valOk_1_1:Orc := fun b h => match b,h with
 | 0,[(.T 0,.t (.val false [.sl .any 3 (.int .i64) y0])),(.T 1,.t (.val false [.fn 189 []])),(.T 7,.t (.val false [.int .i64 y1])),(.T 8,.t (.val false [.int .i64 y2]))] => some (okO (g_Lslices_IndexFunc_int_int__i_valOk_1_0 y0 y1 y2),(.br (isL (valO (g_Lslices_IndexFunc_int_int__i_valOk_1_0 y0 y1 y2))) (.leaf .ret [(.T 4,.t (.val false [.int .i64 (getL (valO (g_Lslices_IndexFunc_int_int__i_valOk_1_0 y0 y1 y2)))]))]) (.leaf (.exit 0) [(.T 4,.t (.val false [.undef]))])))
 | b,h => Oslices_IndexFunc_int_int__i_valOk_1_0 b h
theorem bslices_IndexFunc_int_int__i_valOk_1_0 (y0:List Int) (y1:Int) (y2:Int):Tr.bt Eslices_IndexFunc_int_int__i_valOk_1 Oslices_IndexFunc_int_int__i_valOk_1_0 (exec Eslices_IndexFunc_int_int__i_valOk_1 0 cslices_IndexFunc_int_int__i_valOk_1_0 (St.of (hslices_IndexFunc_int_int__i_valOk_1_0 y0 y1 y2)) (leafRd Eslices_IndexFunc_int_int__i_valOk_1 0)) = (g_Sslices_IndexFunc_int_int__i_valOk_1_0 y0 y1 y2).bt (fun (y2:Int) => (hslices_IndexFunc_int_int__i_valOk_1_0 y0 y1 y2)) (xslices_IndexFunc_int_int__i_valOk_1_0 y0 y1) := by kernel_rfl
theorem kslices_IndexFunc_int_int__i_valOk_1_1:OrcOk Eslices_IndexFunc_int_int__i_valOk_1 Oslices_IndexFunc_int_int__i_valOk_1_1 lsslices_IndexFunc_int_int__i_valOk_1 1 := orc_add kslices_IndexFunc_int_int__i_valOk_1_0 (fun n p hp h ex h' ho => by
 obtain ⟨b,c⟩ := p
 obtain ⟨xt,h1,h2⟩ := ho
 have h1:Oslices_IndexFunc_int_int__i_valOk_1_1 b h = some (true,xt) := h1
 unfold Oslices_IndexFunc_int_int__i_valOk_1_1 at h1
 split at h1
 ·injection h1 with h1
  injection h1 with e1 e2
  subst e2
  have hc:c = cslices_IndexFunc_int_int__i_valOk_1_0 := mslices_IndexFunc_int_int__i_valOk_1_0 _ hp rfl
  subst hc
  right
  rename_i y0 y1 y2
  have key := LT_step kslices_IndexFunc_int_int__i_valOk_1_0 hp (fun q hq => loopsAll_in _ _ _ _ hp hq) (fun (y2:Int) => (hslices_IndexFunc_int_int__i_valOk_1_0 y0 y1 y2)) (xslices_IndexFunc_int_int__i_valOk_1_0 y0 y1) (g_Sslices_IndexFunc_int_int__i_valOk_1_0 y0 y1) (fun x => by first | exact bslices_IndexFunc_int_int__i_valOk_1_0 y0 y1 x) n (x := y2) (okO_some e1)
  have hx:∀ r,XT.sel (.br (isL r) (.leaf .ret [(.T 4,.t (.val false [.int .i64 (getL r)]))]) (.leaf (.exit 0) [(.T 4,.t (.val false [.undef]))])) = xslices_IndexFunc_int_int__i_valOk_1_0 y0 y1 r := fun r => by first | rfl | rcases r with r | r <;> rfl | rcases r with r | r | r <;> rfl | rcases r with r | r | r | r <;> rfl
  have h3 := (hx (valO (g_Lslices_IndexFunc_int_int__i_valOk_1_0 y0 y1 y2))).symm.trans h2
  have e3 := congrArg Prod.fst h3
  have e4 := congrArg Prod.snd h3
  simp only at e3 e4
  rw [← e3,← e4]
  exact key
 ·exact .inl ⟨xt,h1,h2⟩)
def g_Aslices_IndexFunc_int_int__i_valOk_1 (a0:List Int):Bool := okO (g_Lslices_IndexFunc_int_int__i_valOk_1_0 a0 (a0.length:Int) (0:Int))
def g_Vslices_IndexFunc_int_int__i_valOk_1_0 (a0:List Int):Int := bif isL (valO (g_Lslices_IndexFunc_int_int__i_valOk_1_0 a0 (a0.length:Int) (0:Int))) then getL (valO (g_Lslices_IndexFunc_int_int__i_valOk_1_0 a0 (a0.length:Int) (0:Int))) else (-1:Int)
def Fslices_IndexFunc_int_int__i_valOk_1:FSem := fun ys => match ys with
 | [.val false [.sl .any 3 (.int .i64) a0],.val false [.fn 189 []]] => some ((g_Aslices_IndexFunc_int_int__i_valOk_1 a0),.val false [.int .i64 (g_Vslices_IndexFunc_int_int__i_valOk_1_0 a0)],[])
 | _ => none
theorem vslices_IndexFunc_int_int__i_valOk_1 (a0:List Int):collapseH .std Eslices_IndexFunc_int_int__i_valOk_1 Oslices_IndexFunc_int_int__i_valOk_1_1 (execFn Eslices_IndexFunc_int_int__i_valOk_1 Tryz.f139 msslices_IndexFunc_int_int__i_valOk_1 [.val false [.sl .any 3 (.int .i64) a0],.val false [.fn 189 []]]) = some ((g_Aslices_IndexFunc_int_int__i_valOk_1 a0),.val false [.int .i64 (g_Vslices_IndexFunc_int_int__i_valOk_1_0 a0)],[]) := by kernel_rfl
theorem sslices_IndexFunc_int_int__i_valOk_1:Sound Tryz.prog 139 msslices_IndexFunc_int_int__i_valOk_1 Fslices_IndexFunc_int_int__i_valOk_1 := by
 refine fn_gen goodslices_IndexFunc_int_int__i_valOk_1 (by kernel_rfl) .std (fn := Tryz.f139) (c := (Tryz.f139.body.getD .skip)) (o := Oslices_IndexFunc_int_int__i_valOk_1_1) (k := 1) (by kernel_rfl) (by kernel_rfl) (by kernel_rfl) (by kernel_rfl) (by decide) kslices_IndexFunc_int_int__i_valOk_1_1 ?_
 intro ys r outs h
 unfold Fslices_IndexFunc_int_int__i_valOk_1 at h
 split at h
 ·exact (vslices_IndexFunc_int_int__i_valOk_1 _).trans h
 ·cases h
def Eslices_ContainsFunc_int_int__i_valOk_1:Env where
 tt := mkTI Tryz.prog
 fn := fun f => match f with
  | 139 => some (msslices_IndexFunc_int_int__i_valOk_1,FSem.wk msslices_IndexFunc_int_int__i_valOk_1 Fslices_IndexFunc_int_int__i_valOk_1)
  | 189 => some (msi_valOk_1,FSem.wk msi_valOk_1 Fi_valOk_1)
  | _ => none
 bxf := fun _ => none
 mv := []
 keep := fun _ => []
 keepB := fun _ => []
 keepX := fun _ => []
 keepXB := fun _ => []
theorem goodFslices_ContainsFunc_int_int__i_valOk_1:∀ f ms F,Eslices_ContainsFunc_int_int__i_valOk_1.fn f = some (ms,F) → Sound Tryz.prog f ms F := fun f ms F h => by
 unfold Eslices_ContainsFunc_int_int__i_valOk_1 at h
 dsimp only at h
 split at h
 ·exact gF sslices_IndexFunc_int_int__i_valOk_1 h
 ·exact gF si_valOk_1 h
 ·cases h
theorem goodslices_ContainsFunc_int_int__i_valOk_1:Good Tryz.prog Eslices_ContainsFunc_int_int__i_valOk_1 := ⟨rfl,goodFslices_ContainsFunc_int_int__i_valOk_1,fun f ms F h => by cases h⟩
def Oslices_ContainsFunc_int_int__i_valOk_1_0:Orc := fun _ _ => none
def msslices_ContainsFunc_int_int__i_valOk_1:List PM := [.rd,.rd]
def lsslices_ContainsFunc_int_int__i_valOk_1:List (Nat×Code) := loopsAll 0 (Tryz.f188.body.getD .skip)
theorem kslices_ContainsFunc_int_int__i_valOk_1_0:OrcOk Eslices_ContainsFunc_int_int__i_valOk_1 Oslices_ContainsFunc_int_int__i_valOk_1_0 lsslices_ContainsFunc_int_int__i_valOk_1 0 := orcOk_none
def g_Aslices_ContainsFunc_int_int__i_valOk_1 (a0:List Int):Bool := g_Aslices_IndexFunc_int_int__i_valOk_1 a0&&true
def g_Vslices_ContainsFunc_int_int__i_valOk_1_0 (a0:List Int):Bool := decide (g_Vslices_IndexFunc_int_int__i_valOk_1_0 a0 ≥ 0)
def Fslices_ContainsFunc_int_int__i_valOk_1:FSem := fun ys => match ys with
 | [.val false [.sl .any 3 (.int .i64) a0],.val false [.fn 189 []]] => some ((g_Aslices_ContainsFunc_int_int__i_valOk_1 a0),.val false [.bool (g_Vslices_ContainsFunc_int_int__i_valOk_1_0 a0)],[])
 | _ => none
theorem vslices_ContainsFunc_int_int__i_valOk_1 (a0:List Int):collapseH .std Eslices_ContainsFunc_int_int__i_valOk_1 Oslices_ContainsFunc_int_int__i_valOk_1_0 (execFn Eslices_ContainsFunc_int_int__i_valOk_1 Tryz.f188 msslices_ContainsFunc_int_int__i_valOk_1 [.val false [.sl .any 3 (.int .i64) a0],.val false [.fn 189 []]]) = some ((g_Aslices_ContainsFunc_int_int__i_valOk_1 a0),.val false [.bool (g_Vslices_ContainsFunc_int_int__i_valOk_1_0 a0)],[]) := by kernel_rfl
theorem sslices_ContainsFunc_int_int__i_valOk_1:Sound Tryz.prog 188 msslices_ContainsFunc_int_int__i_valOk_1 Fslices_ContainsFunc_int_int__i_valOk_1 := by
 refine fn_gen goodslices_ContainsFunc_int_int__i_valOk_1 (by kernel_rfl) .std (fn := Tryz.f188) (c := (Tryz.f188.body.getD .skip)) (o := Oslices_ContainsFunc_int_int__i_valOk_1_0) (k := 0) (by kernel_rfl) (by kernel_rfl) (by kernel_rfl) (by kernel_rfl) (by decide) kslices_ContainsFunc_int_int__i_valOk_1_0 ?_
 intro ys r outs h
 unfold Fslices_ContainsFunc_int_int__i_valOk_1 at h
 split at h
 ·exact (vslices_ContainsFunc_int_int__i_valOk_1 _).trans h
 ·cases h
def Ei_valOk:Env where
 tt := mkTI Tryz.prog
 fn := fun f => match f with
  | 75 => some (msi_in,FSem.wk msi_in Fi_in)
  | 188 => some (msslices_ContainsFunc_int_int__i_valOk_1,FSem.wk msslices_ContainsFunc_int_int__i_valOk_1 Fslices_ContainsFunc_int_int__i_valOk_1)
  | _ => none
 bxf := fun _ => none
 mv := []
 keep := fun _ => []
 keepB := fun _ => []
 keepX := fun _ => []
 keepXB := fun _ => []
theorem goodFi_valOk:∀ f ms F,Ei_valOk.fn f = some (ms,F) → Sound Tryz.prog f ms F := fun f ms F h => by
 unfold Ei_valOk at h
 dsimp only at h
 split at h
 ·exact gF si_in h
 ·exact gF sslices_ContainsFunc_int_int__i_valOk_1 h
 ·cases h
theorem goodi_valOk:Good Tryz.prog Ei_valOk := ⟨rfl,goodFi_valOk,fun f ms F h => by cases h⟩
def Oi_valOk_0:Orc := fun _ _ => none
def msi_valOk:List PM := [.rd]
def lsi_valOk:List (Nat×Code) := loopsAll 0 (Tryz.f178.body.getD .skip)
theorem ki_valOk_0:OrcOk Ei_valOk Oi_valOk_0 lsi_valOk 0 := orcOk_none
def g_Ai_valOk (a0:List Int):Bool := g_Ai_in (a0.length:Int) (1:Int) (3:Int)&&(!g_Vi_in_0 (a0.length:Int) (1:Int) (3:Int) || g_Aslices_ContainsFunc_int_int__i_valOk_1 a0)
def g_Vi_valOk_0 (a0:List Int):Bool := bif g_Vi_in_0 (a0.length:Int) (1:Int) (3:Int) then !g_Vslices_ContainsFunc_int_int__i_valOk_1_0 a0 else false
def Fi_valOk:FSem := fun ys => match ys with
 | [.val false [.sl .any 3 (.int .i64) a0]] => some ((g_Ai_valOk a0),.val false [.bool (g_Vi_valOk_0 a0)],[])
 | _ => none
theorem vi_valOk (a0:List Int):collapseH .std Ei_valOk Oi_valOk_0 (execFn Ei_valOk Tryz.f178 msi_valOk [.val false [.sl .any 3 (.int .i64) a0]]) = some ((g_Ai_valOk a0),.val false [.bool (g_Vi_valOk_0 a0)],[]) := by kernel_rfl
theorem si_valOk:Sound Tryz.prog 178 msi_valOk Fi_valOk := by
 refine fn_gen goodi_valOk (by kernel_rfl) .std (fn := Tryz.f178) (c := (Tryz.f178.body.getD .skip)) (o := Oi_valOk_0) (k := 0) (by kernel_rfl) (by kernel_rfl) (by kernel_rfl) (by kernel_rfl) (by decide) ki_valOk_0 ?_
 intro ys r outs h
 unfold Fi_valOk at h
 split at h
 ·exact (vi_valOk _).trans h
 ·cases h
def Ei_WrtOk:Env where
 tt := mkTI Tryz.prog
 fn := fun f => match f with
  | 162 => some (msi_keyOk,FSem.wk msi_keyOk Fi_keyOk)
  | 178 => some (msi_valOk,FSem.wk msi_valOk Fi_valOk)
  | _ => none
 bxf := fun _ => none
 mv := []
 keep := fun _ => []
 keepB := fun _ => []
 keepX := fun _ => []
 keepXB := fun _ => []
theorem goodFi_WrtOk:∀ f ms F,Ei_WrtOk.fn f = some (ms,F) → Sound Tryz.prog f ms F := fun f ms F h => by
 unfold Ei_WrtOk at h
 dsimp only at h
 split at h
 ·exact gF si_keyOk h
 ·exact gF si_valOk h
 ·cases h
theorem goodi_WrtOk:Good Tryz.prog Ei_WrtOk := ⟨rfl,goodFi_WrtOk,fun f ms F h => by cases h⟩
def Oi_WrtOk_0:Orc := fun _ _ => none
def msi_WrtOk:List PM := [.rd]
def lsi_WrtOk:List (Nat×Code) := loopsAll 0 (Tryz.f164.body.getD .skip)
theorem ki_WrtOk_0:OrcOk Ei_WrtOk Oi_WrtOk_0 lsi_WrtOk 0 := orcOk_none
def g_Ai_WrtOk (a0:ByteArray) (a1:Bool) (a2:List Int):Bool := bif a1 then g_Ai_keyOk a0&&(!g_Vi_keyOk_0 a0 || true) else g_Ai_keyOk a0&&(!g_Vi_keyOk_0 a0 || g_Ai_valOk a2)
def g_Vi_WrtOk_0 (a0:ByteArray) (a1:Bool) (a2:List Int):Bool := bif a1 then bif g_Vi_keyOk_0 a0 then (a2.length:Int) == 0 else false else bif g_Vi_keyOk_0 a0 then g_Vi_valOk_0 a2 else false
def Fi_WrtOk:FSem := fun ys => match ys with
 | [.val true [.str a0,.bool a1,.sl .any 3 (.int .i64) a2]] => some ((g_Ai_WrtOk a0 a1 a2),.val false [.bool (g_Vi_WrtOk_0 a0 a1 a2)],[])
 | _ => none
theorem vi_WrtOk (a0:ByteArray) (a1:Bool) (a2:List Int):collapseH .std Ei_WrtOk Oi_WrtOk_0 (execFn Ei_WrtOk Tryz.f164 msi_WrtOk [.val true [.str a0,.bool a1,.sl .any 3 (.int .i64) a2]]) = some ((g_Ai_WrtOk a0 a1 a2),.val false [.bool (g_Vi_WrtOk_0 a0 a1 a2)],[]) := by kernel_rfl
theorem si_WrtOk:Sound Tryz.prog 164 msi_WrtOk Fi_WrtOk := by
 refine fn_gen goodi_WrtOk (by kernel_rfl) .std (fn := Tryz.f164) (c := (Tryz.f164.body.getD .skip)) (o := Oi_WrtOk_0) (k := 0) (by kernel_rfl) (by kernel_rfl) (by kernel_rfl) (by kernel_rfl) (by decide) ki_WrtOk_0 ?_
 intro ys r outs h
 unfold Fi_WrtOk at h
 split at h
 ·exact (vi_WrtOk _ _ _).trans h
 ·cases h
def Eslices_Index_string_string:Env where
 tt := mkTI Tryz.prog
 fn := fun _ => none
 bxf := fun _ => none
 mv := []
 keep := fun b => match b with
  | 0 => [(0,false),(1,false),(7,false),(8,false)]
  | _ => []
 keepB := fun b => match b with
  | 0 => []
  | _ => []
 keepX := fun b => match b with
  | 0 => [(4,false)]
  | _ => []
 keepXB := fun b => match b with
  | 0 => []
  | _ => []
theorem goodFslices_Index_string_string:∀ f ms F,Eslices_Index_string_string.fn f = some (ms,F) → Sound Tryz.prog f ms F := fun f ms F h => by cases h
theorem goodslices_Index_string_string:Good Tryz.prog Eslices_Index_string_string := ⟨rfl,goodFslices_Index_string_string,fun f ms F h => by cases h⟩
def Oslices_Index_string_string_0:Orc := fun _ _ => none
def msslices_Index_string_string:List PM := [.rd,.own]
def lsslices_Index_string_string:List (Nat×Code) := loopsAll 0 (Tryz.f179.body.getD .skip)
def cslices_Index_string_string_0:Code := (loopOf 0 (Tryz.f179.body.getD .skip)).getD .skip
theorem lseqslices_Index_string_string:lsslices_Index_string_string = [(0,cslices_Index_string_string_0)] := by kernel_rfl
theorem mslices_Index_string_string_0:∀ p,p ∈ lsslices_Index_string_string → p.1 = 0 → p.2 = cslices_Index_string_string_0 := by
 intro p hp
 rw [lseqslices_Index_string_string] at hp
 simp only [List.mem_cons,List.not_mem_nil,or_false] at hp
 subst hp; simp
theorem kslices_Index_string_string_0:OrcOk Eslices_Index_string_string Oslices_Index_string_string_0 lsslices_Index_string_string 0 := orcOk_none
def hslices_Index_string_string_0 (y0:List ByteArray) (y1:ByteArray) (y2:Int) (y3:Int):List (Pl×LV) := [(.T 0,.t (.val false [.sl .any 9 .str y0])),(.T 1,.t (.val false [.str y1])),(.T 7,.t (.val false [.int .i64 y2])),(.T 8,.t (.val false [.int .i64 y3]))]
def g_Sslices_Index_string_string_0 (y0:List ByteArray) (y1:ByteArray) (y2:Int):(Int) → RT (Int) ((Int) ⊕ (Unit))
 | y3 => .br (true) (.br (decide (y3 < y2)) (.br (decide (0 ≤ y3 ∧ y3 < (y0.length:Int))) (.br (true) (.br (ByteArray.toList y1 == ByteArray.toList (at_ Ty.str y0 (Int.toNat y3))) (.out (.inl y3)) (.br (true) (.go (IntKind.i64.wrap (y3 + 1))) .bad)) .bad) .bad) (.out (.inr (())))) .bad
def g_Lslices_Index_string_string_0 (y0:List ByteArray) (y1:ByteArray) (y2:Int) (x:Int):Option ((Int) ⊕ (Unit)) := loopO (g_Sslices_Index_string_string_0 y0 y1 y2) x
def xslices_Index_string_string_0 (y0:List ByteArray) (y1:ByteArray) (y2:Int):((Int) ⊕ (Unit)) → Ex×List (Pl×LV) := fun
 | .inl r => (.ret,[(.T 4,.t (.val false [.int .i64 r]))])
 | .inr (r) => (.exit 0,[(.T 4,.t (.val false [.undef]))])
def Oslices_Index_string_string_1:Orc := fun b h => match b,h with
 | 0,[(.T 0,.t (.val false [.sl .any 9 .str y0])),(.T 1,.t (.val false [.str y1])),(.T 7,.t (.val false [.int .i64 y2])),(.T 8,.t (.val false [.int .i64 y3]))] => some (okO (g_Lslices_Index_string_string_0 y0 y1 y2 y3),(.br (isL (valO (g_Lslices_Index_string_string_0 y0 y1 y2 y3))) (.leaf .ret [(.T 4,.t (.val false [.int .i64 (getL (valO (g_Lslices_Index_string_string_0 y0 y1 y2 y3)))]))]) (.leaf (.exit 0) [(.T 4,.t (.val false [.undef]))])))
 | b,h => Oslices_Index_string_string_0 b h
theorem bslices_Index_string_string_0 (y0:List ByteArray) (y1:ByteArray) (y2:Int) (y3:Int):Tr.bt Eslices_Index_string_string Oslices_Index_string_string_0 (exec Eslices_Index_string_string 0 cslices_Index_string_string_0 (St.of (hslices_Index_string_string_0 y0 y1 y2 y3)) (leafRd Eslices_Index_string_string 0)) = (g_Sslices_Index_string_string_0 y0 y1 y2 y3).bt (fun (y3:Int) => (hslices_Index_string_string_0 y0 y1 y2 y3)) (xslices_Index_string_string_0 y0 y1 y2) := by kernel_rfl
theorem kslices_Index_string_string_1:OrcOk Eslices_Index_string_string Oslices_Index_string_string_1 lsslices_Index_string_string 1 := orc_add kslices_Index_string_string_0 (fun n p hp h ex h' ho => by
 obtain ⟨b,c⟩ := p
 obtain ⟨xt,h1,h2⟩ := ho
 have h1:Oslices_Index_string_string_1 b h = some (true,xt) := h1
 unfold Oslices_Index_string_string_1 at h1
 split at h1
 ·injection h1 with h1
  injection h1 with e1 e2
  subst e2
  have hc:c = cslices_Index_string_string_0 := mslices_Index_string_string_0 _ hp rfl
  subst hc
  right
  rename_i y0 y1 y2 y3
  have key := LT_step kslices_Index_string_string_0 hp (fun q hq => loopsAll_in _ _ _ _ hp hq) (fun (y3:Int) => (hslices_Index_string_string_0 y0 y1 y2 y3)) (xslices_Index_string_string_0 y0 y1 y2) (g_Sslices_Index_string_string_0 y0 y1 y2) (fun x => by first | exact bslices_Index_string_string_0 y0 y1 y2 x) n (x := y3) (okO_some e1)
  have hx:∀ r,XT.sel (.br (isL r) (.leaf .ret [(.T 4,.t (.val false [.int .i64 (getL r)]))]) (.leaf (.exit 0) [(.T 4,.t (.val false [.undef]))])) = xslices_Index_string_string_0 y0 y1 y2 r := fun r => by first | rfl | rcases r with r | r <;> rfl | rcases r with r | r | r <;> rfl | rcases r with r | r | r | r <;> rfl
  have h3 := (hx (valO (g_Lslices_Index_string_string_0 y0 y1 y2 y3))).symm.trans h2
  have e3 := congrArg Prod.fst h3
  have e4 := congrArg Prod.snd h3
  simp only at e3 e4
  rw [← e3,← e4]
  exact key
 ·exact .inl ⟨xt,h1,h2⟩)
def g_Aslices_Index_string_string (a0:List ByteArray) (a1:ByteArray):Bool := okO (g_Lslices_Index_string_string_0 a0 a1 (a0.length:Int) (0:Int))
def g_Vslices_Index_string_string_0 (a0:List ByteArray) (a1:ByteArray):Int := bif isL (valO (g_Lslices_Index_string_string_0 a0 a1 (a0.length:Int) (0:Int))) then getL (valO (g_Lslices_Index_string_string_0 a0 a1 (a0.length:Int) (0:Int))) else (-1:Int)
def Fslices_Index_string_string:FSem := fun ys => match ys with
 | [.val false [.sl .any 9 .str a0],.val false [.str a1]] => some ((g_Aslices_Index_string_string a0 a1),.val false [.int .i64 (g_Vslices_Index_string_string_0 a0 a1)],[])
 | _ => none
theorem vslices_Index_string_string (a0:List ByteArray) (a1:ByteArray):collapseH .std Eslices_Index_string_string Oslices_Index_string_string_1 (execFn Eslices_Index_string_string Tryz.f179 msslices_Index_string_string [.val false [.sl .any 9 .str a0],.val false [.str a1]]) = some ((g_Aslices_Index_string_string a0 a1),.val false [.int .i64 (g_Vslices_Index_string_string_0 a0 a1)],[]) := by kernel_rfl
theorem sslices_Index_string_string:Sound Tryz.prog 179 msslices_Index_string_string Fslices_Index_string_string := by
 refine fn_gen goodslices_Index_string_string (by kernel_rfl) .std (fn := Tryz.f179) (c := (Tryz.f179.body.getD .skip)) (o := Oslices_Index_string_string_1) (k := 1) (by kernel_rfl) (by kernel_rfl) (by kernel_rfl) (by kernel_rfl) (by decide) kslices_Index_string_string_1 ?_
 intro ys r outs h
 unfold Fslices_Index_string_string at h
 split at h
 ·exact (vslices_Index_string_string _ _).trans h
 ·cases h
def Eslices_Contains_string_string:Env where
 tt := mkTI Tryz.prog
 fn := fun f => match f with
  | 179 => some (msslices_Index_string_string,FSem.wk msslices_Index_string_string Fslices_Index_string_string)
  | _ => none
 bxf := fun _ => none
 mv := []
 keep := fun _ => []
 keepB := fun _ => []
 keepX := fun _ => []
 keepXB := fun _ => []
theorem goodFslices_Contains_string_string:∀ f ms F,Eslices_Contains_string_string.fn f = some (ms,F) → Sound Tryz.prog f ms F := fun f ms F h => by
 unfold Eslices_Contains_string_string at h
 dsimp only at h
 split at h
 ·exact gF sslices_Index_string_string h
 ·cases h
theorem goodslices_Contains_string_string:Good Tryz.prog Eslices_Contains_string_string := ⟨rfl,goodFslices_Contains_string_string,fun f ms F h => by cases h⟩
def Oslices_Contains_string_string_0:Orc := fun _ _ => none
def msslices_Contains_string_string:List PM := [.rd,.own]
def lsslices_Contains_string_string:List (Nat×Code) := loopsAll 0 (Tryz.f165.body.getD .skip)
theorem kslices_Contains_string_string_0:OrcOk Eslices_Contains_string_string Oslices_Contains_string_string_0 lsslices_Contains_string_string 0 := orcOk_none
def g_Aslices_Contains_string_string (a0:List ByteArray) (a1:ByteArray):Bool := g_Aslices_Index_string_string a0 a1&&true
def g_Vslices_Contains_string_string_0 (a0:List ByteArray) (a1:ByteArray):Bool := decide (g_Vslices_Index_string_string_0 a0 a1 ≥ 0)
def Fslices_Contains_string_string:FSem := fun ys => match ys with
 | [.val false [.sl .any 9 .str a0],.val false [.str a1]] => some ((g_Aslices_Contains_string_string a0 a1),.val false [.bool (g_Vslices_Contains_string_string_0 a0 a1)],[])
 | _ => none
theorem vslices_Contains_string_string (a0:List ByteArray) (a1:ByteArray):collapseH .std Eslices_Contains_string_string Oslices_Contains_string_string_0 (execFn Eslices_Contains_string_string Tryz.f165 msslices_Contains_string_string [.val false [.sl .any 9 .str a0],.val false [.str a1]]) = some ((g_Aslices_Contains_string_string a0 a1),.val false [.bool (g_Vslices_Contains_string_string_0 a0 a1)],[]) := by kernel_rfl
theorem sslices_Contains_string_string:Sound Tryz.prog 165 msslices_Contains_string_string Fslices_Contains_string_string := by
 refine fn_gen goodslices_Contains_string_string (by kernel_rfl) .std (fn := Tryz.f165) (c := (Tryz.f165.body.getD .skip)) (o := Oslices_Contains_string_string_0) (k := 0) (by kernel_rfl) (by kernel_rfl) (by kernel_rfl) (by kernel_rfl) (by decide) kslices_Contains_string_string_0 ?_
 intro ys r outs h
 unfold Fslices_Contains_string_string at h
 split at h
 ·exact (vslices_Contains_string_string _ _).trans h
 ·cases h
def Ei_NoteOk_2:Env where
 tt := mkTI Tryz.prog
 fn := fun f => match f with
  | 164 => some (msi_WrtOk,FSem.wk msi_WrtOk Fi_WrtOk)
  | 165 => some (msslices_Contains_string_string,FSem.wk msslices_Contains_string_string Fslices_Contains_string_string)
  | _ => none
 bxf := fun _ => none
 mv := []
 keep := fun _ => []
 keepB := fun _ => []
 keepX := fun _ => []
 keepXB := fun _ => []
theorem goodFi_NoteOk_2:∀ f ms F,Ei_NoteOk_2.fn f = some (ms,F) → Sound Tryz.prog f ms F := fun f ms F h => by
 unfold Ei_NoteOk_2 at h
 dsimp only at h
 split at h
 ·exact gF si_WrtOk h
 ·exact gF sslices_Contains_string_string h
 ·cases h
theorem goodi_NoteOk_2:Good Tryz.prog Ei_NoteOk_2 := ⟨rfl,goodFi_NoteOk_2,fun f ms F h => by cases h⟩
def Oi_NoteOk_2_0:Orc := fun _ _ => none
def msi_NoteOk_2:List PM := [.rd,.rd]
def lsi_NoteOk_2:List (Nat×Code) := loopsAll 0 (Tryz.f163.body.getD .skip)
theorem ki_NoteOk_2_0:OrcOk Ei_NoteOk_2 Oi_NoteOk_2_0 lsi_NoteOk_2 0 := orcOk_none
def g_Ai_NoteOk_2 (a0:ByteArray) (a1:Bool) (a2:List Int) (c0:Int×(Int×((List ByteArray)×tL2))):Bool := g_Ai_WrtOk a0 a1 a2&&(!g_Vi_WrtOk_0 a0 a1 a2 || g_Aslices_Contains_string_string c0.2.2.1 a0)
def g_Vi_NoteOk_2_0 (a0:ByteArray) (a1:Bool) (a2:List Int) (c0:Int×(Int×((List ByteArray)×tL2))):Bool := bif !g_Vi_WrtOk_0 a0 a1 a2 then true else !g_Vslices_Contains_string_string_0 c0.2.2.1 a0
def Fi_NoteOk_2:FSem := fun ys => match ys with
 | [.val true [.str a0,.bool a1,.sl .any 3 (.int .i64) a2],.val false [.sptr (.pair (.int .i64) (.pair (.int .i64) (.pair (.sl 9 .str) (.sl 155 (.pair .str (.pair .bool (.sl 3 (.int .i64)))))))) c0 0]] => some ((g_Ai_NoteOk_2 a0 a1 a2 c0),.val false [.bool (g_Vi_NoteOk_2_0 a0 a1 a2 c0)],[])
 | _ => none
theorem vi_NoteOk_2 (a0:ByteArray) (a1:Bool) (a2:List Int) (c0:Int×(Int×((List ByteArray)×tL2))):collapseH .std Ei_NoteOk_2 Oi_NoteOk_2_0 (execFn Ei_NoteOk_2 Tryz.f163 msi_NoteOk_2 [.val true [.str a0,.bool a1,.sl .any 3 (.int .i64) a2],.val false [.sptr (.pair (.int .i64) (.pair (.int .i64) (.pair (.sl 9 .str) (.sl 155 (.pair .str (.pair .bool (.sl 3 (.int .i64)))))))) c0 0]]) = some ((g_Ai_NoteOk_2 a0 a1 a2 c0),.val false [.bool (g_Vi_NoteOk_2_0 a0 a1 a2 c0)],[]) := by kernel_rfl
theorem si_NoteOk_2:Sound Tryz.prog 163 msi_NoteOk_2 Fi_NoteOk_2 := by
 refine fn_gen goodi_NoteOk_2 (by kernel_rfl) .std (fn := Tryz.f163) (c := (Tryz.f163.body.getD .skip)) (o := Oi_NoteOk_2_0) (k := 0) (by kernel_rfl) (by kernel_rfl) (by kernel_rfl) (by kernel_rfl) (by decide) ki_NoteOk_2_0 ?_
 intro ys r outs h
 unfold Fi_NoteOk_2 at h
 split at h
 ·exact (vi_NoteOk_2 _ _ _ _).trans h
 ·cases h
def Eslices_IndexFunc_i_StoWrite_i_StoWrite__i_NoteOk_2:Env where
 tt := mkTI Tryz.prog
 fn := fun f => match f with
  | 163 => some (msi_NoteOk_2,FSem.wk msi_NoteOk_2 Fi_NoteOk_2)
  | _ => none
 bxf := fun _ => none
 mv := []
 keep := fun b => match b with
  | 0 => [(0,false),(1,false),(7,false),(8,false)]
  | _ => []
 keepB := fun b => match b with
  | 0 => []
  | _ => []
 keepX := fun b => match b with
  | 0 => [(4,false)]
  | _ => []
 keepXB := fun b => match b with
  | 0 => []
  | _ => []
theorem goodFslices_IndexFunc_i_StoWrite_i_StoWrite__i_NoteOk_2:∀ f ms F,Eslices_IndexFunc_i_StoWrite_i_StoWrite__i_NoteOk_2.fn f = some (ms,F) → Sound Tryz.prog f ms F := fun f ms F h => by
 unfold Eslices_IndexFunc_i_StoWrite_i_StoWrite__i_NoteOk_2 at h
 dsimp only at h
 split at h
 ·exact gF si_NoteOk_2 h
 ·cases h
theorem goodslices_IndexFunc_i_StoWrite_i_StoWrite__i_NoteOk_2:Good Tryz.prog Eslices_IndexFunc_i_StoWrite_i_StoWrite__i_NoteOk_2 := ⟨rfl,goodFslices_IndexFunc_i_StoWrite_i_StoWrite__i_NoteOk_2,fun f ms F h => by cases h⟩
def Oslices_IndexFunc_i_StoWrite_i_StoWrite__i_NoteOk_2_0:Orc := fun _ _ => none
def msslices_IndexFunc_i_StoWrite_i_StoWrite__i_NoteOk_2:List PM := [.rd,.rd]
def lsslices_IndexFunc_i_StoWrite_i_StoWrite__i_NoteOk_2:List (Nat×Code) := loopsAll 0 (Tryz.f152.body.getD .skip)
def cslices_IndexFunc_i_StoWrite_i_StoWrite__i_NoteOk_2_0:Code := (loopOf 0 (Tryz.f152.body.getD .skip)).getD .skip
theorem lseqslices_IndexFunc_i_StoWrite_i_StoWrite__i_NoteOk_2:lsslices_IndexFunc_i_StoWrite_i_StoWrite__i_NoteOk_2 = [(0,cslices_IndexFunc_i_StoWrite_i_StoWrite__i_NoteOk_2_0)] := by kernel_rfl
theorem mslices_IndexFunc_i_StoWrite_i_StoWrite__i_NoteOk_2_0:∀ p,p ∈ lsslices_IndexFunc_i_StoWrite_i_StoWrite__i_NoteOk_2 → p.1 = 0 → p.2 = cslices_IndexFunc_i_StoWrite_i_StoWrite__i_NoteOk_2_0 := by
 intro p hp
 rw [lseqslices_IndexFunc_i_StoWrite_i_StoWrite__i_NoteOk_2] at hp
 simp only [List.mem_cons,List.not_mem_nil,or_false] at hp
 subst hp; simp
theorem kslices_IndexFunc_i_StoWrite_i_StoWrite__i_NoteOk_2_0:OrcOk Eslices_IndexFunc_i_StoWrite_i_StoWrite__i_NoteOk_2 Oslices_IndexFunc_i_StoWrite_i_StoWrite__i_NoteOk_2_0 lsslices_IndexFunc_i_StoWrite_i_StoWrite__i_NoteOk_2 0 := orcOk_none
def hslices_IndexFunc_i_StoWrite_i_StoWrite__i_NoteOk_2_0 (y0:tL2) (y1:Int×(Int×((List ByteArray)×tL2))) (y2:Int) (y3:Int):List (Pl×LV) := [(.T 0,.t (.val false [.sl .any 155 (.pair .str (.pair .bool (.sl 3 (.int .i64)))) y0])),(.T 1,.t (.val false [.fn 163 [.sptr (.pair (.int .i64) (.pair (.int .i64) (.pair (.sl 9 .str) (.sl 155 (.pair .str (.pair .bool (.sl 3 (.int .i64)))))))) y1 0]])),(.T 7,.t (.val false [.int .i64 y2])),(.T 8,.t (.val false [.int .i64 y3]))]
def g_Sslices_IndexFunc_i_StoWrite_i_StoWrite__i_NoteOk_2_0 (y0:tL2) (y1:Int×(Int×((List ByteArray)×tL2))) (y2:Int):(Int) → RT (Int) ((Int) ⊕ (Unit))
 | y3 => .br (true) (.br (decide (y3 < y2)) (.br (decide (0 ≤ y3 ∧ y3 < (y0.length:Int))) (.br (g_Ai_NoteOk_2 (at_ yT2 y0 (Int.toNat y3)).1 (at_ yT2 y0 (Int.toNat y3)).2.1 (at_ yT2 y0 (Int.toNat y3)).2.2 y1) (.br (g_Vi_NoteOk_2_0 (at_ yT2 y0 (Int.toNat y3)).1 (at_ yT2 y0 (Int.toNat y3)).2.1 (at_ yT2 y0 (Int.toNat y3)).2.2 y1) (.out (.inl y3)) (.br (true) (.go (IntKind.i64.wrap (y3 + 1))) .bad)) .bad) .bad) (.out (.inr (())))) .bad
def g_Lslices_IndexFunc_i_StoWrite_i_StoWrite__i_NoteOk_2_0 (y0:tL2) (y1:Int×(Int×((List ByteArray)×tL2))) (y2:Int) (x:Int):Option ((Int) ⊕ (Unit)) := loopO (g_Sslices_IndexFunc_i_StoWrite_i_StoWrite__i_NoteOk_2_0 y0 y1 y2) x
def xslices_IndexFunc_i_StoWrite_i_StoWrite__i_NoteOk_2_0 (y0:tL2) (y1:Int×(Int×((List ByteArray)×tL2))) (y2:Int):((Int) ⊕ (Unit)) → Ex×List (Pl×LV) := fun
 | .inl r => (.ret,[(.T 4,.t (.val false [.int .i64 r]))])
 | .inr (r) => (.exit 0,[(.T 4,.t (.val false [.undef]))])
def Oslices_IndexFunc_i_StoWrite_i_StoWrite__i_NoteOk_2_1:Orc := fun b h => match b,h with
 | 0,[(.T 0,.t (.val false [.sl .any 155 (.pair .str (.pair .bool (.sl 3 (.int .i64)))) y0])),(.T 1,.t (.val false [.fn 163 [.sptr (.pair (.int .i64) (.pair (.int .i64) (.pair (.sl 9 .str) (.sl 155 (.pair .str (.pair .bool (.sl 3 (.int .i64)))))))) y1 0]])),(.T 7,.t (.val false [.int .i64 y2])),(.T 8,.t (.val false [.int .i64 y3]))] => some (okO (g_Lslices_IndexFunc_i_StoWrite_i_StoWrite__i_NoteOk_2_0 y0 y1 y2 y3),(.br (isL (valO (g_Lslices_IndexFunc_i_StoWrite_i_StoWrite__i_NoteOk_2_0 y0 y1 y2 y3))) (.leaf .ret [(.T 4,.t (.val false [.int .i64 (getL (valO (g_Lslices_IndexFunc_i_StoWrite_i_StoWrite__i_NoteOk_2_0 y0 y1 y2 y3)))]))]) (.leaf (.exit 0) [(.T 4,.t (.val false [.undef]))])))
 | b,h => Oslices_IndexFunc_i_StoWrite_i_StoWrite__i_NoteOk_2_0 b h
theorem bslices_IndexFunc_i_StoWrite_i_StoWrite__i_NoteOk_2_0 (y0:tL2) (y1:Int×(Int×((List ByteArray)×tL2))) (y2:Int) (y3:Int):Tr.bt Eslices_IndexFunc_i_StoWrite_i_StoWrite__i_NoteOk_2 Oslices_IndexFunc_i_StoWrite_i_StoWrite__i_NoteOk_2_0 (exec Eslices_IndexFunc_i_StoWrite_i_StoWrite__i_NoteOk_2 0 cslices_IndexFunc_i_StoWrite_i_StoWrite__i_NoteOk_2_0 (St.of (hslices_IndexFunc_i_StoWrite_i_StoWrite__i_NoteOk_2_0 y0 y1 y2 y3)) (leafRd Eslices_IndexFunc_i_StoWrite_i_StoWrite__i_NoteOk_2 0)) = (g_Sslices_IndexFunc_i_StoWrite_i_StoWrite__i_NoteOk_2_0 y0 y1 y2 y3).bt (fun (y3:Int) => (hslices_IndexFunc_i_StoWrite_i_StoWrite__i_NoteOk_2_0 y0 y1 y2 y3)) (xslices_IndexFunc_i_StoWrite_i_StoWrite__i_NoteOk_2_0 y0 y1 y2) := by kernel_rfl
theorem kslices_IndexFunc_i_StoWrite_i_StoWrite__i_NoteOk_2_1:OrcOk Eslices_IndexFunc_i_StoWrite_i_StoWrite__i_NoteOk_2 Oslices_IndexFunc_i_StoWrite_i_StoWrite__i_NoteOk_2_1 lsslices_IndexFunc_i_StoWrite_i_StoWrite__i_NoteOk_2 1 := orc_add kslices_IndexFunc_i_StoWrite_i_StoWrite__i_NoteOk_2_0 (fun n p hp h ex h' ho => by
 obtain ⟨b,c⟩ := p
 obtain ⟨xt,h1,h2⟩ := ho
 have h1:Oslices_IndexFunc_i_StoWrite_i_StoWrite__i_NoteOk_2_1 b h = some (true,xt) := h1
 unfold Oslices_IndexFunc_i_StoWrite_i_StoWrite__i_NoteOk_2_1 at h1
 split at h1
 ·injection h1 with h1
  injection h1 with e1 e2
  subst e2
  have hc:c = cslices_IndexFunc_i_StoWrite_i_StoWrite__i_NoteOk_2_0 := mslices_IndexFunc_i_StoWrite_i_StoWrite__i_NoteOk_2_0 _ hp rfl
  subst hc
  right
  rename_i y0 y1 y2 y3
  have key := LT_step kslices_IndexFunc_i_StoWrite_i_StoWrite__i_NoteOk_2_0 hp (fun q hq => loopsAll_in _ _ _ _ hp hq) (fun (y3:Int) => (hslices_IndexFunc_i_StoWrite_i_StoWrite__i_NoteOk_2_0 y0 y1 y2 y3)) (xslices_IndexFunc_i_StoWrite_i_StoWrite__i_NoteOk_2_0 y0 y1 y2) (g_Sslices_IndexFunc_i_StoWrite_i_StoWrite__i_NoteOk_2_0 y0 y1 y2) (fun x => by first | exact bslices_IndexFunc_i_StoWrite_i_StoWrite__i_NoteOk_2_0 y0 y1 y2 x) n (x := y3) (okO_some e1)
  have hx:∀ r,XT.sel (.br (isL r) (.leaf .ret [(.T 4,.t (.val false [.int .i64 (getL r)]))]) (.leaf (.exit 0) [(.T 4,.t (.val false [.undef]))])) = xslices_IndexFunc_i_StoWrite_i_StoWrite__i_NoteOk_2_0 y0 y1 y2 r := fun r => by first | rfl | rcases r with r | r <;> rfl | rcases r with r | r | r <;> rfl | rcases r with r | r | r | r <;> rfl
  have h3 := (hx (valO (g_Lslices_IndexFunc_i_StoWrite_i_StoWrite__i_NoteOk_2_0 y0 y1 y2 y3))).symm.trans h2
  have e3 := congrArg Prod.fst h3
  have e4 := congrArg Prod.snd h3
  simp only at e3 e4
  rw [← e3,← e4]
  exact key
 ·exact .inl ⟨xt,h1,h2⟩)
def g_Aslices_IndexFunc_i_StoWrite_i_StoWrite__i_NoteOk_2 (a0:tL2) (c0:Int×(Int×((List ByteArray)×tL2))):Bool := okO (g_Lslices_IndexFunc_i_StoWrite_i_StoWrite__i_NoteOk_2_0 a0 c0 (a0.length:Int) (0:Int))
def g_Vslices_IndexFunc_i_StoWrite_i_StoWrite__i_NoteOk_2_0 (a0:tL2) (c0:Int×(Int×((List ByteArray)×tL2))):Int := bif isL (valO (g_Lslices_IndexFunc_i_StoWrite_i_StoWrite__i_NoteOk_2_0 a0 c0 (a0.length:Int) (0:Int))) then getL (valO (g_Lslices_IndexFunc_i_StoWrite_i_StoWrite__i_NoteOk_2_0 a0 c0 (a0.length:Int) (0:Int))) else (-1:Int)
def Fslices_IndexFunc_i_StoWrite_i_StoWrite__i_NoteOk_2:FSem := fun ys => match ys with
 | [.val false [.sl .any 155 (.pair .str (.pair .bool (.sl 3 (.int .i64)))) a0],.val false [.fn 163 [.sptr (.pair (.int .i64) (.pair (.int .i64) (.pair (.sl 9 .str) (.sl 155 (.pair .str (.pair .bool (.sl 3 (.int .i64)))))))) c0 0]]] => some ((g_Aslices_IndexFunc_i_StoWrite_i_StoWrite__i_NoteOk_2 a0 c0),.val false [.int .i64 (g_Vslices_IndexFunc_i_StoWrite_i_StoWrite__i_NoteOk_2_0 a0 c0)],[])
 | _ => none
theorem vslices_IndexFunc_i_StoWrite_i_StoWrite__i_NoteOk_2 (a0:tL2) (c0:Int×(Int×((List ByteArray)×tL2))):collapseH .std Eslices_IndexFunc_i_StoWrite_i_StoWrite__i_NoteOk_2 Oslices_IndexFunc_i_StoWrite_i_StoWrite__i_NoteOk_2_1 (execFn Eslices_IndexFunc_i_StoWrite_i_StoWrite__i_NoteOk_2 Tryz.f152 msslices_IndexFunc_i_StoWrite_i_StoWrite__i_NoteOk_2 [.val false [.sl .any 155 (.pair .str (.pair .bool (.sl 3 (.int .i64)))) a0],.val false [.fn 163 [.sptr (.pair (.int .i64) (.pair (.int .i64) (.pair (.sl 9 .str) (.sl 155 (.pair .str (.pair .bool (.sl 3 (.int .i64)))))))) c0 0]]]) = some ((g_Aslices_IndexFunc_i_StoWrite_i_StoWrite__i_NoteOk_2 a0 c0),.val false [.int .i64 (g_Vslices_IndexFunc_i_StoWrite_i_StoWrite__i_NoteOk_2_0 a0 c0)],[]) := by kernel_rfl
theorem sslices_IndexFunc_i_StoWrite_i_StoWrite__i_NoteOk_2:Sound Tryz.prog 152 msslices_IndexFunc_i_StoWrite_i_StoWrite__i_NoteOk_2 Fslices_IndexFunc_i_StoWrite_i_StoWrite__i_NoteOk_2 := by
 refine fn_gen goodslices_IndexFunc_i_StoWrite_i_StoWrite__i_NoteOk_2 (by kernel_rfl) .std (fn := Tryz.f152) (c := (Tryz.f152.body.getD .skip)) (o := Oslices_IndexFunc_i_StoWrite_i_StoWrite__i_NoteOk_2_1) (k := 1) (by kernel_rfl) (by kernel_rfl) (by kernel_rfl) (by kernel_rfl) (by decide) kslices_IndexFunc_i_StoWrite_i_StoWrite__i_NoteOk_2_1 ?_
 intro ys r outs h
 unfold Fslices_IndexFunc_i_StoWrite_i_StoWrite__i_NoteOk_2 at h
 split at h
 ·exact (vslices_IndexFunc_i_StoWrite_i_StoWrite__i_NoteOk_2 _ _).trans h
 ·cases h
def Eslices_ContainsFunc_i_StoWrite_i_StoWrite__i_NoteOk_2:Env where
 tt := mkTI Tryz.prog
 fn := fun f => match f with
  | 152 => some (msslices_IndexFunc_i_StoWrite_i_StoWrite__i_NoteOk_2,FSem.wk msslices_IndexFunc_i_StoWrite_i_StoWrite__i_NoteOk_2 Fslices_IndexFunc_i_StoWrite_i_StoWrite__i_NoteOk_2)
  | 163 => some (msi_NoteOk_2,FSem.wk msi_NoteOk_2 Fi_NoteOk_2)
  | _ => none
 bxf := fun _ => none
 mv := []
 keep := fun _ => []
 keepB := fun _ => []
 keepX := fun _ => []
 keepXB := fun _ => []
theorem goodFslices_ContainsFunc_i_StoWrite_i_StoWrite__i_NoteOk_2:∀ f ms F,Eslices_ContainsFunc_i_StoWrite_i_StoWrite__i_NoteOk_2.fn f = some (ms,F) → Sound Tryz.prog f ms F := fun f ms F h => by
 unfold Eslices_ContainsFunc_i_StoWrite_i_StoWrite__i_NoteOk_2 at h
 dsimp only at h
 split at h
 ·exact gF sslices_IndexFunc_i_StoWrite_i_StoWrite__i_NoteOk_2 h
 ·exact gF si_NoteOk_2 h
 ·cases h
theorem goodslices_ContainsFunc_i_StoWrite_i_StoWrite__i_NoteOk_2:Good Tryz.prog Eslices_ContainsFunc_i_StoWrite_i_StoWrite__i_NoteOk_2 := ⟨rfl,goodFslices_ContainsFunc_i_StoWrite_i_StoWrite__i_NoteOk_2,fun f ms F h => by cases h⟩
def Oslices_ContainsFunc_i_StoWrite_i_StoWrite__i_NoteOk_2_0:Orc := fun _ _ => none
def msslices_ContainsFunc_i_StoWrite_i_StoWrite__i_NoteOk_2:List PM := [.rd,.rd]
def lsslices_ContainsFunc_i_StoWrite_i_StoWrite__i_NoteOk_2:List (Nat×Code) := loopsAll 0 (Tryz.f125.body.getD .skip)
theorem kslices_ContainsFunc_i_StoWrite_i_StoWrite__i_NoteOk_2_0:OrcOk Eslices_ContainsFunc_i_StoWrite_i_StoWrite__i_NoteOk_2 Oslices_ContainsFunc_i_StoWrite_i_StoWrite__i_NoteOk_2_0 lsslices_ContainsFunc_i_StoWrite_i_StoWrite__i_NoteOk_2 0 := orcOk_none
def g_Aslices_ContainsFunc_i_StoWrite_i_StoWrite__i_NoteOk_2 (a0:tL2) (c0:Int×(Int×((List ByteArray)×tL2))):Bool := g_Aslices_IndexFunc_i_StoWrite_i_StoWrite__i_NoteOk_2 a0 c0&&true
def g_Vslices_ContainsFunc_i_StoWrite_i_StoWrite__i_NoteOk_2_0 (a0:tL2) (c0:Int×(Int×((List ByteArray)×tL2))):Bool := decide (g_Vslices_IndexFunc_i_StoWrite_i_StoWrite__i_NoteOk_2_0 a0 c0 ≥ (0:Int))
def Fslices_ContainsFunc_i_StoWrite_i_StoWrite__i_NoteOk_2:FSem := fun ys => match ys with
 | [.val false [.sl .any 155 (.pair .str (.pair .bool (.sl 3 (.int .i64)))) a0],.val false [.fn 163 [.sptr (.pair (.int .i64) (.pair (.int .i64) (.pair (.sl 9 .str) (.sl 155 (.pair .str (.pair .bool (.sl 3 (.int .i64)))))))) c0 0]]] => some ((g_Aslices_ContainsFunc_i_StoWrite_i_StoWrite__i_NoteOk_2 a0 c0),.val false [.bool (g_Vslices_ContainsFunc_i_StoWrite_i_StoWrite__i_NoteOk_2_0 a0 c0)],[])
 | _ => none
theorem vslices_ContainsFunc_i_StoWrite_i_StoWrite__i_NoteOk_2 (a0:tL2) (c0:Int×(Int×((List ByteArray)×tL2))):collapseH .std Eslices_ContainsFunc_i_StoWrite_i_StoWrite__i_NoteOk_2 Oslices_ContainsFunc_i_StoWrite_i_StoWrite__i_NoteOk_2_0 (execFn Eslices_ContainsFunc_i_StoWrite_i_StoWrite__i_NoteOk_2 Tryz.f125 msslices_ContainsFunc_i_StoWrite_i_StoWrite__i_NoteOk_2 [.val false [.sl .any 155 (.pair .str (.pair .bool (.sl 3 (.int .i64)))) a0],.val false [.fn 163 [.sptr (.pair (.int .i64) (.pair (.int .i64) (.pair (.sl 9 .str) (.sl 155 (.pair .str (.pair .bool (.sl 3 (.int .i64)))))))) c0 0]]]) = some ((g_Aslices_ContainsFunc_i_StoWrite_i_StoWrite__i_NoteOk_2 a0 c0),.val false [.bool (g_Vslices_ContainsFunc_i_StoWrite_i_StoWrite__i_NoteOk_2_0 a0 c0)],[]) := by kernel_rfl
theorem sslices_ContainsFunc_i_StoWrite_i_StoWrite__i_NoteOk_2:Sound Tryz.prog 125 msslices_ContainsFunc_i_StoWrite_i_StoWrite__i_NoteOk_2 Fslices_ContainsFunc_i_StoWrite_i_StoWrite__i_NoteOk_2 := by
 refine fn_gen goodslices_ContainsFunc_i_StoWrite_i_StoWrite__i_NoteOk_2 (by kernel_rfl) .std (fn := Tryz.f125) (c := (Tryz.f125.body.getD .skip)) (o := Oslices_ContainsFunc_i_StoWrite_i_StoWrite__i_NoteOk_2_0) (k := 0) (by kernel_rfl) (by kernel_rfl) (by kernel_rfl) (by kernel_rfl) (by decide) kslices_ContainsFunc_i_StoWrite_i_StoWrite__i_NoteOk_2_0 ?_
 intro ys r outs h
 unfold Fslices_ContainsFunc_i_StoWrite_i_StoWrite__i_NoteOk_2 at h
 split at h
 ·exact (vslices_ContainsFunc_i_StoWrite_i_StoWrite__i_NoteOk_2 _ _).trans h
 ·cases h
def Ei_NoteOk_1:Env where
 tt := mkTI Tryz.prog
 fn := fun f => match f with
  | 162 => some (msi_keyOk,FSem.wk msi_keyOk Fi_keyOk)
  | _ => none
 bxf := fun _ => none
 mv := []
 keep := fun _ => []
 keepB := fun _ => []
 keepX := fun _ => []
 keepXB := fun _ => []
theorem goodFi_NoteOk_1:∀ f ms F,Ei_NoteOk_1.fn f = some (ms,F) → Sound Tryz.prog f ms F := fun f ms F h => by
 unfold Ei_NoteOk_1 at h
 dsimp only at h
 split at h
 ·exact gF si_keyOk h
 ·cases h
theorem goodi_NoteOk_1:Good Tryz.prog Ei_NoteOk_1 := ⟨rfl,goodFi_NoteOk_1,fun f ms F h => by cases h⟩
def Oi_NoteOk_1_0:Orc := fun _ _ => none
def msi_NoteOk_1:List PM := [.own]
def lsi_NoteOk_1:List (Nat×Code) := loopsAll 0 (Tryz.f161.body.getD .skip)
theorem ki_NoteOk_1_0:OrcOk Ei_NoteOk_1 Oi_NoteOk_1_0 lsi_NoteOk_1 0 := orcOk_none
def g_Ai_NoteOk_1 (a0:ByteArray):Bool := g_Ai_keyOk a0
def Fi_NoteOk_1:FSem := fun ys => match ys with
 | [.val false [.str a0]] => some ((g_Ai_NoteOk_1 a0),.val false [.bool (!g_Vi_keyOk_0 a0)],[])
 | _ => none
theorem vi_NoteOk_1 (a0:ByteArray):collapseH .std Ei_NoteOk_1 Oi_NoteOk_1_0 (execFn Ei_NoteOk_1 Tryz.f161 msi_NoteOk_1 [.val false [.str a0]]) = some ((g_Ai_NoteOk_1 a0),.val false [.bool (!g_Vi_keyOk_0 a0)],[]) := by kernel_rfl
theorem si_NoteOk_1:Sound Tryz.prog 161 msi_NoteOk_1 Fi_NoteOk_1 := by
 refine fn_gen goodi_NoteOk_1 (by kernel_rfl) .std (fn := Tryz.f161) (c := (Tryz.f161.body.getD .skip)) (o := Oi_NoteOk_1_0) (k := 0) (by kernel_rfl) (by kernel_rfl) (by kernel_rfl) (by kernel_rfl) (by decide) ki_NoteOk_1_0 ?_
 intro ys r outs h
 unfold Fi_NoteOk_1 at h
 split at h
 ·exact (vi_NoteOk_1 _).trans h
 ·cases h
def Eslices_IndexFunc_string_string__i_NoteOk_1:Env where
 tt := mkTI Tryz.prog
 fn := fun f => match f with
  | 161 => some (msi_NoteOk_1,FSem.wk msi_NoteOk_1 Fi_NoteOk_1)
  | _ => none
 bxf := fun _ => none
 mv := []
 keep := fun b => match b with
  | 0 => [(0,false),(1,false),(7,false),(8,false)]
  | _ => []
 keepB := fun b => match b with
  | 0 => []
  | _ => []
 keepX := fun b => match b with
  | 0 => [(4,false)]
  | _ => []
 keepXB := fun b => match b with
  | 0 => []
  | _ => []
theorem goodFslices_IndexFunc_string_string__i_NoteOk_1:∀ f ms F,Eslices_IndexFunc_string_string__i_NoteOk_1.fn f = some (ms,F) → Sound Tryz.prog f ms F := fun f ms F h => by
 unfold Eslices_IndexFunc_string_string__i_NoteOk_1 at h
 dsimp only at h
 split at h
 ·exact gF si_NoteOk_1 h
 ·cases h
theorem goodslices_IndexFunc_string_string__i_NoteOk_1:Good Tryz.prog Eslices_IndexFunc_string_string__i_NoteOk_1 := ⟨rfl,goodFslices_IndexFunc_string_string__i_NoteOk_1,fun f ms F h => by cases h⟩
def Oslices_IndexFunc_string_string__i_NoteOk_1_0:Orc := fun _ _ => none
def msslices_IndexFunc_string_string__i_NoteOk_1:List PM := [.rd,.rd]
def lsslices_IndexFunc_string_string__i_NoteOk_1:List (Nat×Code) := loopsAll 0 (Tryz.f176.body.getD .skip)
def cslices_IndexFunc_string_string__i_NoteOk_1_0:Code := (loopOf 0 (Tryz.f176.body.getD .skip)).getD .skip
theorem lseqslices_IndexFunc_string_string__i_NoteOk_1:lsslices_IndexFunc_string_string__i_NoteOk_1 = [(0,cslices_IndexFunc_string_string__i_NoteOk_1_0)] := by kernel_rfl
theorem mslices_IndexFunc_string_string__i_NoteOk_1_0:∀ p,p ∈ lsslices_IndexFunc_string_string__i_NoteOk_1 → p.1 = 0 → p.2 = cslices_IndexFunc_string_string__i_NoteOk_1_0 := by
 intro p hp
 rw [lseqslices_IndexFunc_string_string__i_NoteOk_1] at hp
 simp only [List.mem_cons,List.not_mem_nil,or_false] at hp
 subst hp; simp
theorem kslices_IndexFunc_string_string__i_NoteOk_1_0:OrcOk Eslices_IndexFunc_string_string__i_NoteOk_1 Oslices_IndexFunc_string_string__i_NoteOk_1_0 lsslices_IndexFunc_string_string__i_NoteOk_1 0 := orcOk_none
def hslices_IndexFunc_string_string__i_NoteOk_1_0 (y0:List ByteArray) (y1:Int) (y2:Int):List (Pl×LV) := [(.T 0,.t (.val false [.sl .any 9 .str y0])),(.T 1,.t (.val false [.fn 161 []])),(.T 7,.t (.val false [.int .i64 y1])),(.T 8,.t (.val false [.int .i64 y2]))]
def g_Sslices_IndexFunc_string_string__i_NoteOk_1_0 (y0:List ByteArray) (y1:Int):(Int) → RT (Int) ((Int) ⊕ (Unit))
 | y2 => .br (true) (.br (decide (y2 < y1)) (.br (decide (0 ≤ y2 ∧ y2 < (y0.length:Int))) (.br (g_Ai_NoteOk_1 (at_ Ty.str y0 (Int.toNat y2))) (.br (!g_Vi_keyOk_0 (at_ Ty.str y0 (Int.toNat y2))) (.out (.inl y2)) (.br (true) (.go (IntKind.i64.wrap (y2 + 1))) .bad)) .bad) .bad) (.out (.inr (())))) .bad
def g_Lslices_IndexFunc_string_string__i_NoteOk_1_0 (y0:List ByteArray) (y1:Int) (x:Int):Option ((Int) ⊕ (Unit)) := loopO (g_Sslices_IndexFunc_string_string__i_NoteOk_1_0 y0 y1) x
def xslices_IndexFunc_string_string__i_NoteOk_1_0 (y0:List ByteArray) (y1:Int):((Int) ⊕ (Unit)) → Ex×List (Pl×LV) := fun
 | .inl r => (.ret,[(.T 4,.t (.val false [.int .i64 r]))])
 | .inr (r) => (.exit 0,[(.T 4,.t (.val false [.undef]))])
def Oslices_IndexFunc_string_string__i_NoteOk_1_1:Orc := fun b h => match b,h with
 | 0,[(.T 0,.t (.val false [.sl .any 9 .str y0])),(.T 1,.t (.val false [.fn 161 []])),(.T 7,.t (.val false [.int .i64 y1])),(.T 8,.t (.val false [.int .i64 y2]))] => some (okO (g_Lslices_IndexFunc_string_string__i_NoteOk_1_0 y0 y1 y2),(.br (isL (valO (g_Lslices_IndexFunc_string_string__i_NoteOk_1_0 y0 y1 y2))) (.leaf .ret [(.T 4,.t (.val false [.int .i64 (getL (valO (g_Lslices_IndexFunc_string_string__i_NoteOk_1_0 y0 y1 y2)))]))]) (.leaf (.exit 0) [(.T 4,.t (.val false [.undef]))])))
 | b,h => Oslices_IndexFunc_string_string__i_NoteOk_1_0 b h
theorem bslices_IndexFunc_string_string__i_NoteOk_1_0 (y0:List ByteArray) (y1:Int) (y2:Int):Tr.bt Eslices_IndexFunc_string_string__i_NoteOk_1 Oslices_IndexFunc_string_string__i_NoteOk_1_0 (exec Eslices_IndexFunc_string_string__i_NoteOk_1 0 cslices_IndexFunc_string_string__i_NoteOk_1_0 (St.of (hslices_IndexFunc_string_string__i_NoteOk_1_0 y0 y1 y2)) (leafRd Eslices_IndexFunc_string_string__i_NoteOk_1 0)) = (g_Sslices_IndexFunc_string_string__i_NoteOk_1_0 y0 y1 y2).bt (fun (y2:Int) => (hslices_IndexFunc_string_string__i_NoteOk_1_0 y0 y1 y2)) (xslices_IndexFunc_string_string__i_NoteOk_1_0 y0 y1) := by kernel_rfl
theorem kslices_IndexFunc_string_string__i_NoteOk_1_1:OrcOk Eslices_IndexFunc_string_string__i_NoteOk_1 Oslices_IndexFunc_string_string__i_NoteOk_1_1 lsslices_IndexFunc_string_string__i_NoteOk_1 1 := orc_add kslices_IndexFunc_string_string__i_NoteOk_1_0 (fun n p hp h ex h' ho => by
 obtain ⟨b,c⟩ := p
 obtain ⟨xt,h1,h2⟩ := ho
 have h1:Oslices_IndexFunc_string_string__i_NoteOk_1_1 b h = some (true,xt) := h1
 unfold Oslices_IndexFunc_string_string__i_NoteOk_1_1 at h1
 split at h1
 ·injection h1 with h1
  injection h1 with e1 e2
  subst e2
  have hc:c = cslices_IndexFunc_string_string__i_NoteOk_1_0 := mslices_IndexFunc_string_string__i_NoteOk_1_0 _ hp rfl
  subst hc
  right
  rename_i y0 y1 y2
  have key := LT_step kslices_IndexFunc_string_string__i_NoteOk_1_0 hp (fun q hq => loopsAll_in _ _ _ _ hp hq) (fun (y2:Int) => (hslices_IndexFunc_string_string__i_NoteOk_1_0 y0 y1 y2)) (xslices_IndexFunc_string_string__i_NoteOk_1_0 y0 y1) (g_Sslices_IndexFunc_string_string__i_NoteOk_1_0 y0 y1) (fun x => by first | exact bslices_IndexFunc_string_string__i_NoteOk_1_0 y0 y1 x) n (x := y2) (okO_some e1)
  have hx:∀ r,XT.sel (.br (isL r) (.leaf .ret [(.T 4,.t (.val false [.int .i64 (getL r)]))]) (.leaf (.exit 0) [(.T 4,.t (.val false [.undef]))])) = xslices_IndexFunc_string_string__i_NoteOk_1_0 y0 y1 r := fun r => by first | rfl | rcases r with r | r <;> rfl | rcases r with r | r | r <;> rfl | rcases r with r | r | r | r <;> rfl
  have h3 := (hx (valO (g_Lslices_IndexFunc_string_string__i_NoteOk_1_0 y0 y1 y2))).symm.trans h2
  have e3 := congrArg Prod.fst h3
  have e4 := congrArg Prod.snd h3
  simp only at e3 e4
  rw [← e3,← e4]
  exact key
 ·exact .inl ⟨xt,h1,h2⟩)
def g_Aslices_IndexFunc_string_string__i_NoteOk_1 (a0:List ByteArray):Bool := okO (g_Lslices_IndexFunc_string_string__i_NoteOk_1_0 a0 (a0.length:Int) (0:Int))
def g_Vslices_IndexFunc_string_string__i_NoteOk_1_0 (a0:List ByteArray):Int := bif isL (valO (g_Lslices_IndexFunc_string_string__i_NoteOk_1_0 a0 (a0.length:Int) (0:Int))) then getL (valO (g_Lslices_IndexFunc_string_string__i_NoteOk_1_0 a0 (a0.length:Int) (0:Int))) else (-1:Int)
def Fslices_IndexFunc_string_string__i_NoteOk_1:FSem := fun ys => match ys with
 | [.val false [.sl .any 9 .str a0],.val false [.fn 161 []]] => some ((g_Aslices_IndexFunc_string_string__i_NoteOk_1 a0),.val false [.int .i64 (g_Vslices_IndexFunc_string_string__i_NoteOk_1_0 a0)],[])
 | _ => none
theorem vslices_IndexFunc_string_string__i_NoteOk_1 (a0:List ByteArray):collapseH .std Eslices_IndexFunc_string_string__i_NoteOk_1 Oslices_IndexFunc_string_string__i_NoteOk_1_1 (execFn Eslices_IndexFunc_string_string__i_NoteOk_1 Tryz.f176 msslices_IndexFunc_string_string__i_NoteOk_1 [.val false [.sl .any 9 .str a0],.val false [.fn 161 []]]) = some ((g_Aslices_IndexFunc_string_string__i_NoteOk_1 a0),.val false [.int .i64 (g_Vslices_IndexFunc_string_string__i_NoteOk_1_0 a0)],[]) := by kernel_rfl
theorem sslices_IndexFunc_string_string__i_NoteOk_1:Sound Tryz.prog 176 msslices_IndexFunc_string_string__i_NoteOk_1 Fslices_IndexFunc_string_string__i_NoteOk_1 := by
 refine fn_gen goodslices_IndexFunc_string_string__i_NoteOk_1 (by kernel_rfl) .std (fn := Tryz.f176) (c := (Tryz.f176.body.getD .skip)) (o := Oslices_IndexFunc_string_string__i_NoteOk_1_1) (k := 1) (by kernel_rfl) (by kernel_rfl) (by kernel_rfl) (by kernel_rfl) (by decide) kslices_IndexFunc_string_string__i_NoteOk_1_1 ?_
 intro ys r outs h
 unfold Fslices_IndexFunc_string_string__i_NoteOk_1 at h
 split at h
 ·exact (vslices_IndexFunc_string_string__i_NoteOk_1 _).trans h
 ·cases h
def Eslices_ContainsFunc_string_string__i_NoteOk_1:Env where
 tt := mkTI Tryz.prog
 fn := fun f => match f with
  | 161 => some (msi_NoteOk_1,FSem.wk msi_NoteOk_1 Fi_NoteOk_1)
  | 176 => some (msslices_IndexFunc_string_string__i_NoteOk_1,FSem.wk msslices_IndexFunc_string_string__i_NoteOk_1 Fslices_IndexFunc_string_string__i_NoteOk_1)
  | _ => none
 bxf := fun _ => none
 mv := []
 keep := fun _ => []
 keepB := fun _ => []
 keepX := fun _ => []
 keepXB := fun _ => []
theorem goodFslices_ContainsFunc_string_string__i_NoteOk_1:∀ f ms F,Eslices_ContainsFunc_string_string__i_NoteOk_1.fn f = some (ms,F) → Sound Tryz.prog f ms F := fun f ms F h => by
 unfold Eslices_ContainsFunc_string_string__i_NoteOk_1 at h
 dsimp only at h
 split at h
 ·exact gF si_NoteOk_1 h
 ·exact gF sslices_IndexFunc_string_string__i_NoteOk_1 h
 ·cases h
theorem goodslices_ContainsFunc_string_string__i_NoteOk_1:Good Tryz.prog Eslices_ContainsFunc_string_string__i_NoteOk_1 := ⟨rfl,goodFslices_ContainsFunc_string_string__i_NoteOk_1,fun f ms F h => by cases h⟩
def Oslices_ContainsFunc_string_string__i_NoteOk_1_0:Orc := fun _ _ => none
def msslices_ContainsFunc_string_string__i_NoteOk_1:List PM := [.rd,.rd]
def lsslices_ContainsFunc_string_string__i_NoteOk_1:List (Nat×Code) := loopsAll 0 (Tryz.f160.body.getD .skip)
theorem kslices_ContainsFunc_string_string__i_NoteOk_1_0:OrcOk Eslices_ContainsFunc_string_string__i_NoteOk_1 Oslices_ContainsFunc_string_string__i_NoteOk_1_0 lsslices_ContainsFunc_string_string__i_NoteOk_1 0 := orcOk_none
def g_Aslices_ContainsFunc_string_string__i_NoteOk_1 (a0:List ByteArray):Bool := g_Aslices_IndexFunc_string_string__i_NoteOk_1 a0&&true
def g_Vslices_ContainsFunc_string_string__i_NoteOk_1_0 (a0:List ByteArray):Bool := decide (g_Vslices_IndexFunc_string_string__i_NoteOk_1_0 a0 ≥ 0)
def Fslices_ContainsFunc_string_string__i_NoteOk_1:FSem := fun ys => match ys with
 | [.val false [.sl .any 9 .str a0],.val false [.fn 161 []]] => some ((g_Aslices_ContainsFunc_string_string__i_NoteOk_1 a0),.val false [.bool (g_Vslices_ContainsFunc_string_string__i_NoteOk_1_0 a0)],[])
 | _ => none
theorem vslices_ContainsFunc_string_string__i_NoteOk_1 (a0:List ByteArray):collapseH .std Eslices_ContainsFunc_string_string__i_NoteOk_1 Oslices_ContainsFunc_string_string__i_NoteOk_1_0 (execFn Eslices_ContainsFunc_string_string__i_NoteOk_1 Tryz.f160 msslices_ContainsFunc_string_string__i_NoteOk_1 [.val false [.sl .any 9 .str a0],.val false [.fn 161 []]]) = some ((g_Aslices_ContainsFunc_string_string__i_NoteOk_1 a0),.val false [.bool (g_Vslices_ContainsFunc_string_string__i_NoteOk_1_0 a0)],[]) := by kernel_rfl
theorem sslices_ContainsFunc_string_string__i_NoteOk_1:Sound Tryz.prog 160 msslices_ContainsFunc_string_string__i_NoteOk_1 Fslices_ContainsFunc_string_string__i_NoteOk_1 := by
 refine fn_gen goodslices_ContainsFunc_string_string__i_NoteOk_1 (by kernel_rfl) .std (fn := Tryz.f160) (c := (Tryz.f160.body.getD .skip)) (o := Oslices_ContainsFunc_string_string__i_NoteOk_1_0) (k := 0) (by kernel_rfl) (by kernel_rfl) (by kernel_rfl) (by kernel_rfl) (by decide) kslices_ContainsFunc_string_string__i_NoteOk_1_0 ?_
 intro ys r outs h
 unfold Fslices_ContainsFunc_string_string__i_NoteOk_1 at h
 split at h
 ·exact (vslices_ContainsFunc_string_string__i_NoteOk_1 _).trans h
 ·cases h
def Ei_NoteOk:Env where
 tt := mkTI Tryz.prog
 fn := fun f => match f with
  | 59 => some (msi_isTx,FSem.wk msi_isTx Fi_isTx)
  | 75 => some (msi_in,FSem.wk msi_in Fi_in)
  | 125 => some (msslices_ContainsFunc_i_StoWrite_i_StoWrite__i_NoteOk_2,FSem.wk msslices_ContainsFunc_i_StoWrite_i_StoWrite__i_NoteOk_2 Fslices_ContainsFunc_i_StoWrite_i_StoWrite__i_NoteOk_2)
  | 160 => some (msslices_ContainsFunc_string_string__i_NoteOk_1,FSem.wk msslices_ContainsFunc_string_string__i_NoteOk_1 Fslices_ContainsFunc_string_string__i_NoteOk_1)
  | _ => none
 bxf := fun _ => none
 mv := []
 keep := fun _ => []
 keepB := fun _ => []
 keepX := fun _ => []
 keepXB := fun _ => []
theorem goodFi_NoteOk:∀ f ms F,Ei_NoteOk.fn f = some (ms,F) → Sound Tryz.prog f ms F := fun f ms F h => by
 unfold Ei_NoteOk at h
 dsimp only at h
 split at h
 ·exact gF si_isTx h
 ·exact gF si_in h
 ·exact gF sslices_ContainsFunc_i_StoWrite_i_StoWrite__i_NoteOk_2 h
 ·exact gF sslices_ContainsFunc_string_string__i_NoteOk_1 h
 ·cases h
theorem goodi_NoteOk:Good Tryz.prog Ei_NoteOk := ⟨rfl,goodFi_NoteOk,fun f ms F h => by cases h⟩
def Oi_NoteOk_0:Orc := fun _ _ => none
def msi_NoteOk:List PM := [.rd]
def lsi_NoteOk:List (Nat×Code) := loopsAll 0 (Tryz.f138.body.getD .skip)
theorem ki_NoteOk_0:OrcOk Ei_NoteOk Oi_NoteOk_0 lsi_NoteOk 0 := orcOk_none
def g_Ai_NoteOk (a0:Int) (a1:Int) (a2:List ByteArray) (a3:tL2):Bool := g_Ai_isTx a1&&(!g_Vi_isTx_0 a1 || g_Ai_in a0 (1:Int) (4:Int)&&(!g_Vi_in_0 a0 (1:Int) (4:Int) || bif a0 != 1 then !(a2.length:Int) == 0 || true else decide ((a2.length:Int) > 12) || (decide ((a3.length:Int) > 12) || g_Aslices_ContainsFunc_string_string__i_NoteOk_1 a2&&(g_Vslices_ContainsFunc_string_string__i_NoteOk_1_0 a2 || g_Aslices_ContainsFunc_i_StoWrite_i_StoWrite__i_NoteOk_2 a3 (a0,a1,a2,a3)))))
def g_Vi_NoteOk_0 (a0:Int) (a1:Int) (a2:List ByteArray) (a3:tL2):Bool := bif !g_Vi_isTx_0 a1 then false else bif !g_Vi_in_0 a0 (1:Int) (4:Int) then false else bif a0 != 1 then bif (a2.length:Int) == 0 then (a3.length:Int) == 0 else false else bif decide ((a2.length:Int) > 12) then false else bif decide ((a3.length:Int) > 12) then false else bif g_Vslices_ContainsFunc_string_string__i_NoteOk_1_0 a2 then false else !g_Vslices_ContainsFunc_i_StoWrite_i_StoWrite__i_NoteOk_2_0 a3 (a0,a1,a2,a3)
def Fi_NoteOk:FSem := fun ys => match ys with
 | [.val true [.int .i64 a0,.int .i64 a1,.sl .any 9 .str a2,.sl .any 155 (.pair .str (.pair .bool (.sl 3 (.int .i64)))) a3]] => some ((g_Ai_NoteOk a0 a1 a2 a3),.val false [.bool (g_Vi_NoteOk_0 a0 a1 a2 a3)],[])
 | _ => none
theorem vi_NoteOk (a0:Int) (a1:Int) (a2:List ByteArray) (a3:tL2):collapseH .std Ei_NoteOk Oi_NoteOk_0 (execFn Ei_NoteOk Tryz.f138 msi_NoteOk [.val true [.int .i64 a0,.int .i64 a1,.sl .any 9 .str a2,.sl .any 155 (.pair .str (.pair .bool (.sl 3 (.int .i64)))) a3]]) = some ((g_Ai_NoteOk a0 a1 a2 a3),.val false [.bool (g_Vi_NoteOk_0 a0 a1 a2 a3)],[]) := by kernel_rfl
theorem si_NoteOk:Sound Tryz.prog 138 msi_NoteOk Fi_NoteOk := by
 refine fn_gen goodi_NoteOk (by kernel_rfl) .std (fn := Tryz.f138) (c := (Tryz.f138.body.getD .skip)) (o := Oi_NoteOk_0) (k := 0) (by kernel_rfl) (by kernel_rfl) (by kernel_rfl) (by kernel_rfl) (by decide) ki_NoteOk_0 ?_
 intro ys r outs h
 unfold Fi_NoteOk at h
 split at h
 ·exact (vi_NoteOk _ _ _ _).trans h
 ·cases h
def Ei_DiskOk_1:Env where
 tt := mkTI Tryz.prog
 fn := fun f => match f with
  | 138 => some (msi_NoteOk,FSem.wk msi_NoteOk Fi_NoteOk)
  | _ => none
 bxf := fun _ => none
 mv := []
 keep := fun _ => []
 keepB := fun _ => []
 keepX := fun _ => []
 keepXB := fun _ => []
theorem goodFi_DiskOk_1:∀ f ms F,Ei_DiskOk_1.fn f = some (ms,F) → Sound Tryz.prog f ms F := fun f ms F h => by
 unfold Ei_DiskOk_1 at h
 dsimp only at h
 split at h
 ·exact gF si_NoteOk h
 ·cases h
theorem goodi_DiskOk_1:Good Tryz.prog Ei_DiskOk_1 := ⟨rfl,goodFi_DiskOk_1,fun f ms F h => by cases h⟩
def Oi_DiskOk_1_0:Orc := fun _ _ => none
def msi_DiskOk_1:List PM := [.rd]
def lsi_DiskOk_1:List (Nat×Code) := loopsAll 0 (Tryz.f137.body.getD .skip)
theorem ki_DiskOk_1_0:OrcOk Ei_DiskOk_1 Oi_DiskOk_1_0 lsi_DiskOk_1 0 := orcOk_none
def g_Ai_DiskOk_1 (a0:Int) (a1:Int) (a2:List ByteArray) (a3:tL2):Bool := g_Ai_NoteOk a0 a1 a2 a3
def Fi_DiskOk_1:FSem := fun ys => match ys with
 | [.val true [.int .i64 a0,.int .i64 a1,.sl .any 9 .str a2,.sl .any 155 (.pair .str (.pair .bool (.sl 3 (.int .i64)))) a3]] => some ((g_Ai_DiskOk_1 a0 a1 a2 a3),.val false [.bool (!g_Vi_NoteOk_0 a0 a1 a2 a3)],[])
 | _ => none
theorem vi_DiskOk_1 (a0:Int) (a1:Int) (a2:List ByteArray) (a3:tL2):collapseH .std Ei_DiskOk_1 Oi_DiskOk_1_0 (execFn Ei_DiskOk_1 Tryz.f137 msi_DiskOk_1 [.val true [.int .i64 a0,.int .i64 a1,.sl .any 9 .str a2,.sl .any 155 (.pair .str (.pair .bool (.sl 3 (.int .i64)))) a3]]) = some ((g_Ai_DiskOk_1 a0 a1 a2 a3),.val false [.bool (!g_Vi_NoteOk_0 a0 a1 a2 a3)],[]) := by kernel_rfl
theorem si_DiskOk_1:Sound Tryz.prog 137 msi_DiskOk_1 Fi_DiskOk_1 := by
 refine fn_gen goodi_DiskOk_1 (by kernel_rfl) .std (fn := Tryz.f137) (c := (Tryz.f137.body.getD .skip)) (o := Oi_DiskOk_1_0) (k := 0) (by kernel_rfl) (by kernel_rfl) (by kernel_rfl) (by kernel_rfl) (by decide) ki_DiskOk_1_0 ?_
 intro ys r outs h
 unfold Fi_DiskOk_1 at h
 split at h
 ·exact (vi_DiskOk_1 _ _ _ _).trans h
 ·cases h
def Eslices_IndexFunc_i_LogNote_i_LogNote__i_DiskOk_1:Env where
 tt := mkTI Tryz.prog
 fn := fun f => match f with
  | 137 => some (msi_DiskOk_1,FSem.wk msi_DiskOk_1 Fi_DiskOk_1)
  | _ => none
 bxf := fun _ => none
 mv := []
 keep := fun b => match b with
  | 0 => [(0,false),(1,false),(7,false),(8,false)]
  | _ => []
 keepB := fun b => match b with
  | 0 => []
  | _ => []
 keepX := fun b => match b with
  | 0 => [(4,false)]
  | _ => []
 keepXB := fun b => match b with
  | 0 => []
  | _ => []
theorem goodFslices_IndexFunc_i_LogNote_i_LogNote__i_DiskOk_1:∀ f ms F,Eslices_IndexFunc_i_LogNote_i_LogNote__i_DiskOk_1.fn f = some (ms,F) → Sound Tryz.prog f ms F := fun f ms F h => by
 unfold Eslices_IndexFunc_i_LogNote_i_LogNote__i_DiskOk_1 at h
 dsimp only at h
 split at h
 ·exact gF si_DiskOk_1 h
 ·cases h
theorem goodslices_IndexFunc_i_LogNote_i_LogNote__i_DiskOk_1:Good Tryz.prog Eslices_IndexFunc_i_LogNote_i_LogNote__i_DiskOk_1 := ⟨rfl,goodFslices_IndexFunc_i_LogNote_i_LogNote__i_DiskOk_1,fun f ms F h => by cases h⟩
def Oslices_IndexFunc_i_LogNote_i_LogNote__i_DiskOk_1_0:Orc := fun _ _ => none
def msslices_IndexFunc_i_LogNote_i_LogNote__i_DiskOk_1:List PM := [.rd,.rd]
def lsslices_IndexFunc_i_LogNote_i_LogNote__i_DiskOk_1:List (Nat×Code) := loopsAll 0 (Tryz.f110.body.getD .skip)
def cslices_IndexFunc_i_LogNote_i_LogNote__i_DiskOk_1_0:Code := (loopOf 0 (Tryz.f110.body.getD .skip)).getD .skip
theorem lseqslices_IndexFunc_i_LogNote_i_LogNote__i_DiskOk_1:lsslices_IndexFunc_i_LogNote_i_LogNote__i_DiskOk_1 = [(0,cslices_IndexFunc_i_LogNote_i_LogNote__i_DiskOk_1_0)] := by kernel_rfl
theorem mslices_IndexFunc_i_LogNote_i_LogNote__i_DiskOk_1_0:∀ p,p ∈ lsslices_IndexFunc_i_LogNote_i_LogNote__i_DiskOk_1 → p.1 = 0 → p.2 = cslices_IndexFunc_i_LogNote_i_LogNote__i_DiskOk_1_0 := by
 intro p hp
 rw [lseqslices_IndexFunc_i_LogNote_i_LogNote__i_DiskOk_1] at hp
 simp only [List.mem_cons,List.not_mem_nil,or_false] at hp
 subst hp; simp
theorem kslices_IndexFunc_i_LogNote_i_LogNote__i_DiskOk_1_0:OrcOk Eslices_IndexFunc_i_LogNote_i_LogNote__i_DiskOk_1 Oslices_IndexFunc_i_LogNote_i_LogNote__i_DiskOk_1_0 lsslices_IndexFunc_i_LogNote_i_LogNote__i_DiskOk_1 0 := orcOk_none
def hslices_IndexFunc_i_LogNote_i_LogNote__i_DiskOk_1_0 (y0:tL0) (y1:Int) (y2:Int):List (Pl×LV) := [(.T 0,.t (.val false [.sl .any 92 (.pair (.int .i64) (.pair (.int .i64) (.pair (.sl 9 .str) (.sl 155 (.pair .str (.pair .bool (.sl 3 (.int .i64)))))))) y0])),(.T 1,.t (.val false [.fn 137 []])),(.T 7,.t (.val false [.int .i64 y1])),(.T 8,.t (.val false [.int .i64 y2]))]
def g_Sslices_IndexFunc_i_LogNote_i_LogNote__i_DiskOk_1_0 (y0:tL0) (y1:Int):(Int) → RT (Int) ((Int) ⊕ (Unit))
 | y2 => .br (true) (.br (decide (y2 < y1)) (.br (decide (0 ≤ y2 ∧ y2 < (y0.length:Int))) (.br (g_Ai_DiskOk_1 (at_ yT1 y0 (Int.toNat y2)).1 (at_ yT1 y0 (Int.toNat y2)).2.1 (at_ yT1 y0 (Int.toNat y2)).2.2.1 (at_ yT1 y0 (Int.toNat y2)).2.2.2) (.br (!g_Vi_NoteOk_0 (at_ yT1 y0 (Int.toNat y2)).1 (at_ yT1 y0 (Int.toNat y2)).2.1 (at_ yT1 y0 (Int.toNat y2)).2.2.1 (at_ yT1 y0 (Int.toNat y2)).2.2.2) (.out (.inl y2)) (.br (true) (.go (IntKind.i64.wrap (y2 + 1))) .bad)) .bad) .bad) (.out (.inr (())))) .bad
def g_Lslices_IndexFunc_i_LogNote_i_LogNote__i_DiskOk_1_0 (y0:tL0) (y1:Int) (x:Int):Option ((Int) ⊕ (Unit)) := loopO (g_Sslices_IndexFunc_i_LogNote_i_LogNote__i_DiskOk_1_0 y0 y1) x
def xslices_IndexFunc_i_LogNote_i_LogNote__i_DiskOk_1_0 (y0:tL0) (y1:Int):((Int) ⊕ (Unit)) → Ex×List (Pl×LV) := fun
 | .inl r => (.ret,[(.T 4,.t (.val false [.int .i64 r]))])
 | .inr (r) => (.exit 0,[(.T 4,.t (.val false [.undef]))])
def Oslices_IndexFunc_i_LogNote_i_LogNote__i_DiskOk_1_1:Orc := fun b h => match b,h with
 | 0,[(.T 0,.t (.val false [.sl .any 92 (.pair (.int .i64) (.pair (.int .i64) (.pair (.sl 9 .str) (.sl 155 (.pair .str (.pair .bool (.sl 3 (.int .i64)))))))) y0])),(.T 1,.t (.val false [.fn 137 []])),(.T 7,.t (.val false [.int .i64 y1])),(.T 8,.t (.val false [.int .i64 y2]))] => some (okO (g_Lslices_IndexFunc_i_LogNote_i_LogNote__i_DiskOk_1_0 y0 y1 y2),(.br (isL (valO (g_Lslices_IndexFunc_i_LogNote_i_LogNote__i_DiskOk_1_0 y0 y1 y2))) (.leaf .ret [(.T 4,.t (.val false [.int .i64 (getL (valO (g_Lslices_IndexFunc_i_LogNote_i_LogNote__i_DiskOk_1_0 y0 y1 y2)))]))]) (.leaf (.exit 0) [(.T 4,.t (.val false [.undef]))])))
 | b,h => Oslices_IndexFunc_i_LogNote_i_LogNote__i_DiskOk_1_0 b h
theorem bslices_IndexFunc_i_LogNote_i_LogNote__i_DiskOk_1_0 (y0:tL0) (y1:Int) (y2:Int):Tr.bt Eslices_IndexFunc_i_LogNote_i_LogNote__i_DiskOk_1 Oslices_IndexFunc_i_LogNote_i_LogNote__i_DiskOk_1_0 (exec Eslices_IndexFunc_i_LogNote_i_LogNote__i_DiskOk_1 0 cslices_IndexFunc_i_LogNote_i_LogNote__i_DiskOk_1_0 (St.of (hslices_IndexFunc_i_LogNote_i_LogNote__i_DiskOk_1_0 y0 y1 y2)) (leafRd Eslices_IndexFunc_i_LogNote_i_LogNote__i_DiskOk_1 0)) = (g_Sslices_IndexFunc_i_LogNote_i_LogNote__i_DiskOk_1_0 y0 y1 y2).bt (fun (y2:Int) => (hslices_IndexFunc_i_LogNote_i_LogNote__i_DiskOk_1_0 y0 y1 y2)) (xslices_IndexFunc_i_LogNote_i_LogNote__i_DiskOk_1_0 y0 y1) := by kernel_rfl
theorem kslices_IndexFunc_i_LogNote_i_LogNote__i_DiskOk_1_1:OrcOk Eslices_IndexFunc_i_LogNote_i_LogNote__i_DiskOk_1 Oslices_IndexFunc_i_LogNote_i_LogNote__i_DiskOk_1_1 lsslices_IndexFunc_i_LogNote_i_LogNote__i_DiskOk_1 1 := orc_add kslices_IndexFunc_i_LogNote_i_LogNote__i_DiskOk_1_0 (fun n p hp h ex h' ho => by
 obtain ⟨b,c⟩ := p
 obtain ⟨xt,h1,h2⟩ := ho
 have h1:Oslices_IndexFunc_i_LogNote_i_LogNote__i_DiskOk_1_1 b h = some (true,xt) := h1
 unfold Oslices_IndexFunc_i_LogNote_i_LogNote__i_DiskOk_1_1 at h1
 split at h1
 ·injection h1 with h1
  injection h1 with e1 e2
  subst e2
  have hc:c = cslices_IndexFunc_i_LogNote_i_LogNote__i_DiskOk_1_0 := mslices_IndexFunc_i_LogNote_i_LogNote__i_DiskOk_1_0 _ hp rfl
  subst hc
  right
  rename_i y0 y1 y2
  have key := LT_step kslices_IndexFunc_i_LogNote_i_LogNote__i_DiskOk_1_0 hp (fun q hq => loopsAll_in _ _ _ _ hp hq) (fun (y2:Int) => (hslices_IndexFunc_i_LogNote_i_LogNote__i_DiskOk_1_0 y0 y1 y2)) (xslices_IndexFunc_i_LogNote_i_LogNote__i_DiskOk_1_0 y0 y1) (g_Sslices_IndexFunc_i_LogNote_i_LogNote__i_DiskOk_1_0 y0 y1) (fun x => by first | exact bslices_IndexFunc_i_LogNote_i_LogNote__i_DiskOk_1_0 y0 y1 x) n (x := y2) (okO_some e1)
  have hx:∀ r,XT.sel (.br (isL r) (.leaf .ret [(.T 4,.t (.val false [.int .i64 (getL r)]))]) (.leaf (.exit 0) [(.T 4,.t (.val false [.undef]))])) = xslices_IndexFunc_i_LogNote_i_LogNote__i_DiskOk_1_0 y0 y1 r := fun r => by first | rfl | rcases r with r | r <;> rfl | rcases r with r | r | r <;> rfl | rcases r with r | r | r | r <;> rfl
  have h3 := (hx (valO (g_Lslices_IndexFunc_i_LogNote_i_LogNote__i_DiskOk_1_0 y0 y1 y2))).symm.trans h2
  have e3 := congrArg Prod.fst h3
  have e4 := congrArg Prod.snd h3
  simp only at e3 e4
  rw [← e3,← e4]
  exact key
 ·exact .inl ⟨xt,h1,h2⟩)
def g_Aslices_IndexFunc_i_LogNote_i_LogNote__i_DiskOk_1 (a0:tL0):Bool := okO (g_Lslices_IndexFunc_i_LogNote_i_LogNote__i_DiskOk_1_0 a0 (a0.length:Int) (0:Int))
def g_Vslices_IndexFunc_i_LogNote_i_LogNote__i_DiskOk_1_0 (a0:tL0):Int := bif isL (valO (g_Lslices_IndexFunc_i_LogNote_i_LogNote__i_DiskOk_1_0 a0 (a0.length:Int) (0:Int))) then getL (valO (g_Lslices_IndexFunc_i_LogNote_i_LogNote__i_DiskOk_1_0 a0 (a0.length:Int) (0:Int))) else (-1:Int)
def Fslices_IndexFunc_i_LogNote_i_LogNote__i_DiskOk_1:FSem := fun ys => match ys with
 | [.val false [.sl .any 92 (.pair (.int .i64) (.pair (.int .i64) (.pair (.sl 9 .str) (.sl 155 (.pair .str (.pair .bool (.sl 3 (.int .i64)))))))) a0],.val false [.fn 137 []]] => some ((g_Aslices_IndexFunc_i_LogNote_i_LogNote__i_DiskOk_1 a0),.val false [.int .i64 (g_Vslices_IndexFunc_i_LogNote_i_LogNote__i_DiskOk_1_0 a0)],[])
 | _ => none
theorem vslices_IndexFunc_i_LogNote_i_LogNote__i_DiskOk_1 (a0:tL0):collapseH .std Eslices_IndexFunc_i_LogNote_i_LogNote__i_DiskOk_1 Oslices_IndexFunc_i_LogNote_i_LogNote__i_DiskOk_1_1 (execFn Eslices_IndexFunc_i_LogNote_i_LogNote__i_DiskOk_1 Tryz.f110 msslices_IndexFunc_i_LogNote_i_LogNote__i_DiskOk_1 [.val false [.sl .any 92 (.pair (.int .i64) (.pair (.int .i64) (.pair (.sl 9 .str) (.sl 155 (.pair .str (.pair .bool (.sl 3 (.int .i64)))))))) a0],.val false [.fn 137 []]]) = some ((g_Aslices_IndexFunc_i_LogNote_i_LogNote__i_DiskOk_1 a0),.val false [.int .i64 (g_Vslices_IndexFunc_i_LogNote_i_LogNote__i_DiskOk_1_0 a0)],[]) := by kernel_rfl
theorem sslices_IndexFunc_i_LogNote_i_LogNote__i_DiskOk_1:Sound Tryz.prog 110 msslices_IndexFunc_i_LogNote_i_LogNote__i_DiskOk_1 Fslices_IndexFunc_i_LogNote_i_LogNote__i_DiskOk_1 := by
 refine fn_gen goodslices_IndexFunc_i_LogNote_i_LogNote__i_DiskOk_1 (by kernel_rfl) .std (fn := Tryz.f110) (c := (Tryz.f110.body.getD .skip)) (o := Oslices_IndexFunc_i_LogNote_i_LogNote__i_DiskOk_1_1) (k := 1) (by kernel_rfl) (by kernel_rfl) (by kernel_rfl) (by kernel_rfl) (by decide) kslices_IndexFunc_i_LogNote_i_LogNote__i_DiskOk_1_1 ?_
 intro ys r outs h
 unfold Fslices_IndexFunc_i_LogNote_i_LogNote__i_DiskOk_1 at h
 split at h
 ·exact (vslices_IndexFunc_i_LogNote_i_LogNote__i_DiskOk_1 _).trans h
 ·cases h
def Eslices_ContainsFunc_i_LogNote_i_LogNote__i_DiskOk_1:Env where
 tt := mkTI Tryz.prog
 fn := fun f => match f with
  | 110 => some (msslices_IndexFunc_i_LogNote_i_LogNote__i_DiskOk_1,FSem.wk msslices_IndexFunc_i_LogNote_i_LogNote__i_DiskOk_1 Fslices_IndexFunc_i_LogNote_i_LogNote__i_DiskOk_1)
  | 137 => some (msi_DiskOk_1,FSem.wk msi_DiskOk_1 Fi_DiskOk_1)
  | _ => none
 bxf := fun _ => none
 mv := []
 keep := fun _ => []
 keepB := fun _ => []
 keepX := fun _ => []
 keepXB := fun _ => []
theorem goodFslices_ContainsFunc_i_LogNote_i_LogNote__i_DiskOk_1:∀ f ms F,Eslices_ContainsFunc_i_LogNote_i_LogNote__i_DiskOk_1.fn f = some (ms,F) → Sound Tryz.prog f ms F := fun f ms F h => by
 unfold Eslices_ContainsFunc_i_LogNote_i_LogNote__i_DiskOk_1 at h
 dsimp only at h
 split at h
 ·exact gF sslices_IndexFunc_i_LogNote_i_LogNote__i_DiskOk_1 h
 ·exact gF si_DiskOk_1 h
 ·cases h
theorem goodslices_ContainsFunc_i_LogNote_i_LogNote__i_DiskOk_1:Good Tryz.prog Eslices_ContainsFunc_i_LogNote_i_LogNote__i_DiskOk_1 := ⟨rfl,goodFslices_ContainsFunc_i_LogNote_i_LogNote__i_DiskOk_1,fun f ms F h => by cases h⟩
def Oslices_ContainsFunc_i_LogNote_i_LogNote__i_DiskOk_1_0:Orc := fun _ _ => none
def msslices_ContainsFunc_i_LogNote_i_LogNote__i_DiskOk_1:List PM := [.rd,.rd]
def lsslices_ContainsFunc_i_LogNote_i_LogNote__i_DiskOk_1:List (Nat×Code) := loopsAll 0 (Tryz.f50.body.getD .skip)
theorem kslices_ContainsFunc_i_LogNote_i_LogNote__i_DiskOk_1_0:OrcOk Eslices_ContainsFunc_i_LogNote_i_LogNote__i_DiskOk_1 Oslices_ContainsFunc_i_LogNote_i_LogNote__i_DiskOk_1_0 lsslices_ContainsFunc_i_LogNote_i_LogNote__i_DiskOk_1 0 := orcOk_none
def g_Aslices_ContainsFunc_i_LogNote_i_LogNote__i_DiskOk_1 (a0:tL0):Bool := g_Aslices_IndexFunc_i_LogNote_i_LogNote__i_DiskOk_1 a0&&true
def g_Vslices_ContainsFunc_i_LogNote_i_LogNote__i_DiskOk_1_0 (a0:tL0):Bool := decide (g_Vslices_IndexFunc_i_LogNote_i_LogNote__i_DiskOk_1_0 a0 ≥ 0)
def Fslices_ContainsFunc_i_LogNote_i_LogNote__i_DiskOk_1:FSem := fun ys => match ys with
 | [.val false [.sl .any 92 (.pair (.int .i64) (.pair (.int .i64) (.pair (.sl 9 .str) (.sl 155 (.pair .str (.pair .bool (.sl 3 (.int .i64)))))))) a0],.val false [.fn 137 []]] => some ((g_Aslices_ContainsFunc_i_LogNote_i_LogNote__i_DiskOk_1 a0),.val false [.bool (g_Vslices_ContainsFunc_i_LogNote_i_LogNote__i_DiskOk_1_0 a0)],[])
 | _ => none
theorem vslices_ContainsFunc_i_LogNote_i_LogNote__i_DiskOk_1 (a0:tL0):collapseH .std Eslices_ContainsFunc_i_LogNote_i_LogNote__i_DiskOk_1 Oslices_ContainsFunc_i_LogNote_i_LogNote__i_DiskOk_1_0 (execFn Eslices_ContainsFunc_i_LogNote_i_LogNote__i_DiskOk_1 Tryz.f50 msslices_ContainsFunc_i_LogNote_i_LogNote__i_DiskOk_1 [.val false [.sl .any 92 (.pair (.int .i64) (.pair (.int .i64) (.pair (.sl 9 .str) (.sl 155 (.pair .str (.pair .bool (.sl 3 (.int .i64)))))))) a0],.val false [.fn 137 []]]) = some ((g_Aslices_ContainsFunc_i_LogNote_i_LogNote__i_DiskOk_1 a0),.val false [.bool (g_Vslices_ContainsFunc_i_LogNote_i_LogNote__i_DiskOk_1_0 a0)],[]) := by kernel_rfl
theorem sslices_ContainsFunc_i_LogNote_i_LogNote__i_DiskOk_1:Sound Tryz.prog 50 msslices_ContainsFunc_i_LogNote_i_LogNote__i_DiskOk_1 Fslices_ContainsFunc_i_LogNote_i_LogNote__i_DiskOk_1 := by
 refine fn_gen goodslices_ContainsFunc_i_LogNote_i_LogNote__i_DiskOk_1 (by kernel_rfl) .std (fn := Tryz.f50) (c := (Tryz.f50.body.getD .skip)) (o := Oslices_ContainsFunc_i_LogNote_i_LogNote__i_DiskOk_1_0) (k := 0) (by kernel_rfl) (by kernel_rfl) (by kernel_rfl) (by kernel_rfl) (by decide) kslices_ContainsFunc_i_LogNote_i_LogNote__i_DiskOk_1_0 ?_
 intro ys r outs h
 unfold Fslices_ContainsFunc_i_LogNote_i_LogNote__i_DiskOk_1 at h
 split at h
 ·exact (vslices_ContainsFunc_i_LogNote_i_LogNote__i_DiskOk_1 _).trans h
 ·cases h
def Ei_DiskOk:Env where
 tt := mkTI Tryz.prog
 fn := fun f => match f with
  | 50 => some (msslices_ContainsFunc_i_LogNote_i_LogNote__i_DiskOk_1,FSem.wk msslices_ContainsFunc_i_LogNote_i_LogNote__i_DiskOk_1 Fslices_ContainsFunc_i_LogNote_i_LogNote__i_DiskOk_1)
  | 75 => some (msi_in,FSem.wk msi_in Fi_in)
  | _ => none
 bxf := fun _ => none
 mv := []
 keep := fun _ => []
 keepB := fun _ => []
 keepX := fun _ => []
 keepXB := fun _ => []
theorem goodFi_DiskOk:∀ f ms F,Ei_DiskOk.fn f = some (ms,F) → Sound Tryz.prog f ms F := fun f ms F h => by
 unfold Ei_DiskOk at h
 dsimp only at h
 split at h
 ·exact gF sslices_ContainsFunc_i_LogNote_i_LogNote__i_DiskOk_1 h
 ·exact gF si_in h
 ·cases h
theorem goodi_DiskOk:Good Tryz.prog Ei_DiskOk := ⟨rfl,goodFi_DiskOk,fun f ms F h => by cases h⟩
def Oi_DiskOk_0:Orc := fun _ _ => none
def msi_DiskOk:List PM := [.rd]
def lsi_DiskOk:List (Nat×Code) := loopsAll 0 (Tryz.f96.body.getD .skip)
theorem ki_DiskOk_0:OrcOk Ei_DiskOk Oi_DiskOk_0 lsi_DiskOk 0 := orcOk_none
def g_Ai_DiskOk (a0:tL0) (a1:Int):Bool := !decide ((a0.length:Int) ≤ 120) || g_Aslices_ContainsFunc_i_LogNote_i_LogNote__i_DiskOk_1 a0&&(!!g_Vslices_ContainsFunc_i_LogNote_i_LogNote__i_DiskOk_1_0 a0 || g_Ai_in a1 (0:Int) (a0.length:Int))
def g_Vi_DiskOk_0 (a0:tL0) (a1:Int):Bool := bif decide ((a0.length:Int) ≤ 120) then bif !g_Vslices_ContainsFunc_i_LogNote_i_LogNote__i_DiskOk_1_0 a0 then g_Vi_in_0 a1 (0:Int) (a0.length:Int) else false else false
def Fi_DiskOk:FSem := fun ys => match ys with
 | [.val true [.sl .any 92 (.pair (.int .i64) (.pair (.int .i64) (.pair (.sl 9 .str) (.sl 155 (.pair .str (.pair .bool (.sl 3 (.int .i64)))))))) a0,.int .i64 a1]] => some ((g_Ai_DiskOk a0 a1),.val false [.bool (g_Vi_DiskOk_0 a0 a1)],[])
 | _ => none
theorem vi_DiskOk (a0:tL0) (a1:Int):collapseH .std Ei_DiskOk Oi_DiskOk_0 (execFn Ei_DiskOk Tryz.f96 msi_DiskOk [.val true [.sl .any 92 (.pair (.int .i64) (.pair (.int .i64) (.pair (.sl 9 .str) (.sl 155 (.pair .str (.pair .bool (.sl 3 (.int .i64)))))))) a0,.int .i64 a1]]) = some ((g_Ai_DiskOk a0 a1),.val false [.bool (g_Vi_DiskOk_0 a0 a1)],[]) := by kernel_rfl
theorem si_DiskOk:Sound Tryz.prog 96 msi_DiskOk Fi_DiskOk := by
 refine fn_gen goodi_DiskOk (by kernel_rfl) .std (fn := Tryz.f96) (c := (Tryz.f96.body.getD .skip)) (o := Oi_DiskOk_0) (k := 0) (by kernel_rfl) (by kernel_rfl) (by kernel_rfl) (by kernel_rfl) (by decide) ki_DiskOk_0 ?_
 intro ys r outs h
 unfold Fi_DiskOk at h
 split at h
 ·exact (vi_DiskOk _ _).trans h
 ·cases h
def Eslices_Clone_int_int_a:Env where
 tt := mkTI Tryz.prog
 fn := fun _ => none
 bxf := fun _ => none
 mv := []
 keep := fun _ => []
 keepB := fun _ => []
 keepX := fun _ => []
 keepXB := fun _ => []
theorem goodFslices_Clone_int_int_a:∀ f ms F,Eslices_Clone_int_int_a.fn f = some (ms,F) → Sound Tryz.prog f ms F := fun f ms F h => by cases h
theorem goodslices_Clone_int_int_a:Good Tryz.prog Eslices_Clone_int_int_a := ⟨rfl,goodFslices_Clone_int_int_a,fun f ms F h => by cases h⟩
def Oslices_Clone_int_int_a_0:Orc := fun _ _ => none
def msslices_Clone_int_int_a:List PM := [.rd]
def lsslices_Clone_int_int_a:List (Nat×Code) := loopsAll 0 (Tryz.f99.body.getD .skip)
theorem kslices_Clone_int_int_a_0:OrcOk Eslices_Clone_int_int_a Oslices_Clone_int_int_a_0 lsslices_Clone_int_int_a 0 := orcOk_none
def g_Vslices_Clone_int_int_a_0:List Int := []
def Fslices_Clone_int_int_a:FSem := fun ys => match ys with
 | [.val false [.nil 3 (.int .i64)]] => some (true,.val false [.own .any true 3 (.int .i64) g_Vslices_Clone_int_int_a_0],[])
 | _ => none
theorem vslices_Clone_int_int_a:collapseH .std Eslices_Clone_int_int_a Oslices_Clone_int_int_a_0 (execFn Eslices_Clone_int_int_a Tryz.f99 msslices_Clone_int_int_a [.val false [.nil 3 (.int .i64)]]) = some (true,.val false [.own .any true 3 (.int .i64) g_Vslices_Clone_int_int_a_0],[]) := by kernel_rfl
theorem sslices_Clone_int_int_a:Sound Tryz.prog 99 msslices_Clone_int_int_a Fslices_Clone_int_int_a := by
 refine fn_gen goodslices_Clone_int_int_a (by kernel_rfl) .std (fn := Tryz.f99) (c := (Tryz.f99.body.getD .skip)) (o := Oslices_Clone_int_int_a_0) (k := 0) (by kernel_rfl) (by kernel_rfl) (by kernel_rfl) (by kernel_rfl) (by decide) kslices_Clone_int_int_a_0 ?_
 intro ys r outs h
 unfold Fslices_Clone_int_int_a at h
 split at h
 ·exact (vslices_Clone_int_int_a).trans h
 ·cases h
def Eslices_Clone_int_int_b:Env where
 tt := mkTI Tryz.prog
 fn := fun _ => none
 bxf := fun _ => none
 mv := []
 keep := fun _ => []
 keepB := fun _ => []
 keepX := fun _ => []
 keepXB := fun _ => []
theorem goodFslices_Clone_int_int_b:∀ f ms F,Eslices_Clone_int_int_b.fn f = some (ms,F) → Sound Tryz.prog f ms F := fun f ms F h => by cases h
theorem goodslices_Clone_int_int_b:Good Tryz.prog Eslices_Clone_int_int_b := ⟨rfl,goodFslices_Clone_int_int_b,fun f ms F h => by cases h⟩
def Oslices_Clone_int_int_b_0:Orc := fun _ _ => none
def msslices_Clone_int_int_b:List PM := [.rd]
def lsslices_Clone_int_int_b:List (Nat×Code) := loopsAll 0 (Tryz.f99.body.getD .skip)
theorem kslices_Clone_int_int_b_0:OrcOk Eslices_Clone_int_int_b Oslices_Clone_int_int_b_0 lsslices_Clone_int_int_b 0 := orcOk_none
def g_Aslices_Clone_int_int_b (a0:List Int):Bool := decide ((nat_lit 0 + List.length a0) * nat_lit 8 ≤ nat_lit 140737488355328 ∧ nat_lit 0 + List.length a0 ≤ nat_lit 9223372036854775807)
def g_Vslices_Clone_int_int_b_0 (a0:List Int):List Int := [] ++ a0
def Fslices_Clone_int_int_b:FSem := fun ys => match ys with
 | [.val false [.sl .non 3 (.int .i64) a0]] => some ((g_Aslices_Clone_int_int_b a0),.val false [.own .any true 3 (.int .i64) (g_Vslices_Clone_int_int_b_0 a0)],[])
 | _ => none
theorem vslices_Clone_int_int_b (a0:List Int):collapseH .std Eslices_Clone_int_int_b Oslices_Clone_int_int_b_0 (execFn Eslices_Clone_int_int_b Tryz.f99 msslices_Clone_int_int_b [.val false [.sl .non 3 (.int .i64) a0]]) = some ((g_Aslices_Clone_int_int_b a0),.val false [.own .any true 3 (.int .i64) (g_Vslices_Clone_int_int_b_0 a0)],[]) := by kernel_rfl
theorem sslices_Clone_int_int_b:Sound Tryz.prog 99 msslices_Clone_int_int_b Fslices_Clone_int_int_b := by
 refine fn_gen goodslices_Clone_int_int_b (by kernel_rfl) .std (fn := Tryz.f99) (c := (Tryz.f99.body.getD .skip)) (o := Oslices_Clone_int_int_b_0) (k := 0) (by kernel_rfl) (by kernel_rfl) (by kernel_rfl) (by kernel_rfl) (by decide) kslices_Clone_int_int_b_0 ?_
 intro ys r outs h
 unfold Fslices_Clone_int_int_b at h
 split at h
 ·exact (vslices_Clone_int_int_b _).trans h
 ·cases h
def msslices_Clone_int_int:List PM := [.rd]
def Fslices_Clone_int_int:FSem := fun ys => match ys with
 | [.val false [.sl .any 3 (.int .i64) a0]] => some ((g_Aslices_Clone_int_int_b a0),.val false [.own .any true 3 (.int .i64) a0],[])
 | _ => none
theorem sslices_Clone_int_int:Sound Tryz.prog 99 msslices_Clone_int_int Fslices_Clone_int_int := by
 refine sound_cases (el := 3) (e := (.int .i64)) sslices_Clone_int_int_a sslices_Clone_int_int_b (fun ys r outs h => ?_)
 unfold Fslices_Clone_int_int at h
 split at h
 ·rename_i a0
  simp only [Option.some.injEq,Prod.mk.injEq] at h
  obtain ⟨h1,rfl,rfl⟩ := h
  refine ⟨a0,rfl,fun e => ?_,?_⟩
  ·subst e
   rfl
  ·show some ((g_Aslices_Clone_int_int_b a0),RV.val false [Cell.own .any true 3 (.int .i64) ([] ++ a0)],[]) = _
   rw [h1,List.nil_append]
 ·cases h
def Ei_writesOf:Env where
 tt := mkTI Tryz.prog
 fn := fun f => match f with
  | 99 => some (msslices_Clone_int_int,FSem.wk msslices_Clone_int_int Fslices_Clone_int_int)
  | _ => none
 bxf := fun _ => none
 mv := []
 keep := fun b => match b with
  | 0 => [(3,false),(6,false),(7,false),(8,false)]
  | _ => []
 keepB := fun b => match b with
  | 0 => []
  | _ => []
 keepX := fun b => match b with
  | 0 => [(3,false)]
  | _ => []
 keepXB := fun b => match b with
  | 0 => []
  | _ => []
theorem goodFi_writesOf:∀ f ms F,Ei_writesOf.fn f = some (ms,F) → Sound Tryz.prog f ms F := fun f ms F h => by
 unfold Ei_writesOf at h
 dsimp only at h
 split at h
 ·exact gF sslices_Clone_int_int h
 ·cases h
theorem goodi_writesOf:Good Tryz.prog Ei_writesOf := ⟨rfl,goodFi_writesOf,fun f ms F h => by cases h⟩
def Oi_writesOf_0:Orc := fun _ _ => none
def msi_writesOf:List PM := [.rd]
def lsi_writesOf:List (Nat×Code) := loopsAll 0 (Tryz.f170.body.getD .skip)
def ci_writesOf_0:Code := (loopOf 0 (Tryz.f170.body.getD .skip)).getD .skip
theorem lseqi_writesOf:lsi_writesOf = [(0,ci_writesOf_0)] := by kernel_rfl
theorem mi_writesOf_0:∀ p,p ∈ lsi_writesOf → p.1 = 0 → p.2 = ci_writesOf_0 := by
 intro p hp
 rw [lseqi_writesOf] at hp
 simp only [List.mem_cons,List.not_mem_nil,or_false] at hp
 subst hp; simp
theorem ki_writesOf_0:OrcOk Ei_writesOf Oi_writesOf_0 lsi_writesOf 0 := orcOk_none
def hi_writesOf_0 (y0:tL2) (y1:tL2) (y2:Int) (y3:Int):List (Pl×LV) := [(.T 3,.t (.val false [.row 3 0 0])),(.R 3 0,.r 0 (some ⟨false,.any,true,155,(.pair .str (.pair .bool (.sl 3 (.int .i64)))),y0⟩)),(.T 6,.t (.val false [.sl .any 155 (.pair .str (.pair .bool (.sl 3 (.int .i64)))) y1])),(.T 7,.t (.val false [.int .i64 y2])),(.T 8,.t (.val false [.int .i64 y3]))]
def g_Si_writesOf_0 (y1:tL2) (y2:Int):(tL2×Int) → RT (tL2×Int) ((tL2))
 | (y0,y3) => .br (true) (.br (decide (y3 < y2)) (.br (decide (0 ≤ y3 ∧ y3 < (y1.length:Int))) (.br (g_Aslices_Clone_int_int_b (at_ yT2 y1 (Int.toNat y3)).2.2) (.br (decide ((List.length y0 + List.length [((at_ yT2 y1 (Int.toNat y3)).1,(at_ yT2 y1 (Int.toNat y3)).2.1,(at_ yT2 y1 (Int.toNat y3)).2.2)]) * nat_lit 48 ≤ nat_lit 140737488355328 ∧ List.length y0 + List.length [((at_ yT2 y1 (Int.toNat y3)).1,(at_ yT2 y1 (Int.toNat y3)).2.1,(at_ yT2 y1 (Int.toNat y3)).2.2)] ≤ nat_lit 9223372036854775807)) (.br (true) (.go ((y0 ++ [((at_ yT2 y1 (Int.toNat y3)).1,(at_ yT2 y1 (Int.toNat y3)).2.1,(at_ yT2 y1 (Int.toNat y3)).2.2)],IntKind.i64.wrap (y3 + 1)))) .bad) .bad) .bad) .bad) (.out (y0))) .bad
def g_Li_writesOf_0 (y1:tL2) (y2:Int) (x:tL2×Int):Option ((tL2)) := loopO (g_Si_writesOf_0 y1 y2) x
def xi_writesOf_0 (y1:tL2) (y2:Int):((tL2)) → Ex×List (Pl×LV) := fun r => (.exit 0,[(.T 3,.t (.val false [.row 3 0 0])),(.R 3 0,.r 0 (some ⟨false,.any,true,155,(.pair .str (.pair .bool (.sl 3 (.int .i64)))),r⟩))])
def Oi_writesOf_1:Orc := fun b h => match b,h with
 | 0,[(.T 3,.t (.val false [.row 3 0 0])),(.R 3 0,.r 0 (some ⟨false,.any,true,155,(.pair .str (.pair .bool (.sl 3 (.int .i64)))),y0⟩)),(.T 6,.t (.val false [.sl .any 155 (.pair .str (.pair .bool (.sl 3 (.int .i64)))) y1])),(.T 7,.t (.val false [.int .i64 y2])),(.T 8,.t (.val false [.int .i64 y3]))] => some (okO (g_Li_writesOf_0 y1 y2 (y0,y3)),(.leaf (.exit 0) [(.T 3,.t (.val false [.row 3 0 0])),(.R 3 0,.r 0 (some ⟨false,.any,true,155,(.pair .str (.pair .bool (.sl 3 (.int .i64)))),(valO (g_Li_writesOf_0 y1 y2 (y0,y3)))⟩))]))
 | b,h => Oi_writesOf_0 b h
theorem bi_writesOf_0 (y0:tL2) (y1:tL2) (y2:Int) (y3:Int):Tr.bt Ei_writesOf Oi_writesOf_0 (exec Ei_writesOf 0 ci_writesOf_0 (St.of (hi_writesOf_0 y0 y1 y2 y3)) (leafRd Ei_writesOf 0)) = (g_Si_writesOf_0 y1 y2 (y0,y3)).bt (fun ((y0,y3):tL2×Int) => (hi_writesOf_0 y0 y1 y2 y3)) (xi_writesOf_0 y1 y2) := by kernel_rfl
theorem ki_writesOf_1:OrcOk Ei_writesOf Oi_writesOf_1 lsi_writesOf 1 := orc_add ki_writesOf_0 (fun n p hp h ex h' ho => by
 obtain ⟨b,c⟩ := p
 obtain ⟨xt,h1,h2⟩ := ho
 have h1:Oi_writesOf_1 b h = some (true,xt) := h1
 unfold Oi_writesOf_1 at h1
 split at h1
 ·injection h1 with h1
  injection h1 with e1 e2
  subst e2
  have hc:c = ci_writesOf_0 := mi_writesOf_0 _ hp rfl
  subst hc
  right
  rename_i y0 y1 y2 y3
  have key := LT_step ki_writesOf_0 hp (fun q hq => loopsAll_in _ _ _ _ hp hq) (fun ((y0,y3):tL2×Int) => (hi_writesOf_0 y0 y1 y2 y3)) (xi_writesOf_0 y1 y2) (g_Si_writesOf_0 y1 y2) (fun x => by first | exact bi_writesOf_0 x.1 y1 y2 x.2) n (x := (y0,y3)) (okO_some e1)
  have hx:∀ r,XT.sel (.leaf (.exit 0) [(.T 3,.t (.val false [.row 3 0 0])),(.R 3 0,.r 0 (some ⟨false,.any,true,155,(.pair .str (.pair .bool (.sl 3 (.int .i64)))),r⟩))]) = xi_writesOf_0 y1 y2 r := fun r => by first | rfl | rcases r with r | r <;> rfl | rcases r with r | r | r <;> rfl | rcases r with r | r | r | r <;> rfl
  have h3 := (hx (valO (g_Li_writesOf_0 y1 y2 (y0,y3)))).symm.trans h2
  have e3 := congrArg Prod.fst h3
  have e4 := congrArg Prod.snd h3
  simp only at e3 e4
  rw [← e3,← e4]
  exact key
 ·exact .inl ⟨xt,h1,h2⟩)
def g_Ai_writesOf (a0:tL2):Bool := okO (g_Li_writesOf_0 a0 (a0.length:Int) ([],(0:Int)))
def g_Vi_writesOf_0 (a0:tL2):tL2 := valO (g_Li_writesOf_0 a0 (a0.length:Int) ([],(0:Int)))
def Fi_writesOf:FSem := fun ys => match ys with
 | [.val false [.sl .any 155 (.pair .str (.pair .bool (.sl 3 (.int .i64)))) a0]] => some ((g_Ai_writesOf a0),.val false [.own .any true 155 (.pair .str (.pair .bool (.sl 3 (.int .i64)))) (g_Vi_writesOf_0 a0)],[])
 | _ => none
theorem vi_writesOf (a0:tL2):collapseH .std Ei_writesOf Oi_writesOf_1 (execFn Ei_writesOf Tryz.f170 msi_writesOf [.val false [.sl .any 155 (.pair .str (.pair .bool (.sl 3 (.int .i64)))) a0]]) = some ((g_Ai_writesOf a0),.val false [.own .any true 155 (.pair .str (.pair .bool (.sl 3 (.int .i64)))) (g_Vi_writesOf_0 a0)],[]) := by kernel_rfl
theorem si_writesOf:Sound Tryz.prog 170 msi_writesOf Fi_writesOf := by
 refine fn_gen goodi_writesOf (by kernel_rfl) .std (fn := Tryz.f170) (c := (Tryz.f170.body.getD .skip)) (o := Oi_writesOf_1) (k := 1) (by kernel_rfl) (by kernel_rfl) (by kernel_rfl) (by kernel_rfl) (by decide) ki_writesOf_1 ?_
 intro ys r outs h
 unfold Fi_writesOf at h
 split at h
 ·exact (vi_writesOf _).trans h
 ·cases h
def Eslices_Clone_string_string_a:Env where
 tt := mkTI Tryz.prog
 fn := fun _ => none
 bxf := fun _ => none
 mv := []
 keep := fun _ => []
 keepB := fun _ => []
 keepX := fun _ => []
 keepXB := fun _ => []
theorem goodFslices_Clone_string_string_a:∀ f ms F,Eslices_Clone_string_string_a.fn f = some (ms,F) → Sound Tryz.prog f ms F := fun f ms F h => by cases h
theorem goodslices_Clone_string_string_a:Good Tryz.prog Eslices_Clone_string_string_a := ⟨rfl,goodFslices_Clone_string_string_a,fun f ms F h => by cases h⟩
def Oslices_Clone_string_string_a_0:Orc := fun _ _ => none
def msslices_Clone_string_string_a:List PM := [.rd]
def lsslices_Clone_string_string_a:List (Nat×Code) := loopsAll 0 (Tryz.f169.body.getD .skip)
theorem kslices_Clone_string_string_a_0:OrcOk Eslices_Clone_string_string_a Oslices_Clone_string_string_a_0 lsslices_Clone_string_string_a 0 := orcOk_none
def g_Vslices_Clone_string_string_a_0:List ByteArray := []
def Fslices_Clone_string_string_a:FSem := fun ys => match ys with
 | [.val false [.nil 9 .str]] => some (true,.val false [.own .any true 9 .str g_Vslices_Clone_string_string_a_0],[])
 | _ => none
theorem vslices_Clone_string_string_a:collapseH .std Eslices_Clone_string_string_a Oslices_Clone_string_string_a_0 (execFn Eslices_Clone_string_string_a Tryz.f169 msslices_Clone_string_string_a [.val false [.nil 9 .str]]) = some (true,.val false [.own .any true 9 .str g_Vslices_Clone_string_string_a_0],[]) := by kernel_rfl
theorem sslices_Clone_string_string_a:Sound Tryz.prog 169 msslices_Clone_string_string_a Fslices_Clone_string_string_a := by
 refine fn_gen goodslices_Clone_string_string_a (by kernel_rfl) .std (fn := Tryz.f169) (c := (Tryz.f169.body.getD .skip)) (o := Oslices_Clone_string_string_a_0) (k := 0) (by kernel_rfl) (by kernel_rfl) (by kernel_rfl) (by kernel_rfl) (by decide) kslices_Clone_string_string_a_0 ?_
 intro ys r outs h
 unfold Fslices_Clone_string_string_a at h
 split at h
 ·exact (vslices_Clone_string_string_a).trans h
 ·cases h
def Eslices_Clone_string_string_b:Env where
 tt := mkTI Tryz.prog
 fn := fun _ => none
 bxf := fun _ => none
 mv := []
 keep := fun _ => []
 keepB := fun _ => []
 keepX := fun _ => []
 keepXB := fun _ => []
theorem goodFslices_Clone_string_string_b:∀ f ms F,Eslices_Clone_string_string_b.fn f = some (ms,F) → Sound Tryz.prog f ms F := fun f ms F h => by cases h
theorem goodslices_Clone_string_string_b:Good Tryz.prog Eslices_Clone_string_string_b := ⟨rfl,goodFslices_Clone_string_string_b,fun f ms F h => by cases h⟩
def Oslices_Clone_string_string_b_0:Orc := fun _ _ => none
def msslices_Clone_string_string_b:List PM := [.rd]
def lsslices_Clone_string_string_b:List (Nat×Code) := loopsAll 0 (Tryz.f169.body.getD .skip)
theorem kslices_Clone_string_string_b_0:OrcOk Eslices_Clone_string_string_b Oslices_Clone_string_string_b_0 lsslices_Clone_string_string_b 0 := orcOk_none
def g_Aslices_Clone_string_string_b (a0:List ByteArray):Bool := decide ((nat_lit 0 + List.length a0) * nat_lit 16 ≤ nat_lit 140737488355328 ∧ nat_lit 0 + List.length a0 ≤ nat_lit 9223372036854775807)
def g_Vslices_Clone_string_string_b_0 (a0:List ByteArray):List ByteArray := [] ++ a0
def Fslices_Clone_string_string_b:FSem := fun ys => match ys with
 | [.val false [.sl .non 9 .str a0]] => some ((g_Aslices_Clone_string_string_b a0),.val false [.own .any true 9 .str (g_Vslices_Clone_string_string_b_0 a0)],[])
 | _ => none
theorem vslices_Clone_string_string_b (a0:List ByteArray):collapseH .std Eslices_Clone_string_string_b Oslices_Clone_string_string_b_0 (execFn Eslices_Clone_string_string_b Tryz.f169 msslices_Clone_string_string_b [.val false [.sl .non 9 .str a0]]) = some ((g_Aslices_Clone_string_string_b a0),.val false [.own .any true 9 .str (g_Vslices_Clone_string_string_b_0 a0)],[]) := by kernel_rfl
theorem sslices_Clone_string_string_b:Sound Tryz.prog 169 msslices_Clone_string_string_b Fslices_Clone_string_string_b := by
 refine fn_gen goodslices_Clone_string_string_b (by kernel_rfl) .std (fn := Tryz.f169) (c := (Tryz.f169.body.getD .skip)) (o := Oslices_Clone_string_string_b_0) (k := 0) (by kernel_rfl) (by kernel_rfl) (by kernel_rfl) (by kernel_rfl) (by decide) kslices_Clone_string_string_b_0 ?_
 intro ys r outs h
 unfold Fslices_Clone_string_string_b at h
 split at h
 ·exact (vslices_Clone_string_string_b _).trans h
 ·cases h
def msslices_Clone_string_string:List PM := [.rd]
def Fslices_Clone_string_string:FSem := fun ys => match ys with
 | [.val false [.sl .any 9 .str a0]] => some ((g_Aslices_Clone_string_string_b a0),.val false [.own .any true 9 .str a0],[])
 | _ => none
theorem sslices_Clone_string_string:Sound Tryz.prog 169 msslices_Clone_string_string Fslices_Clone_string_string := by
 refine sound_cases (el := 9) (e := .str) sslices_Clone_string_string_a sslices_Clone_string_string_b (fun ys r outs h => ?_)
 unfold Fslices_Clone_string_string at h
 split at h
 ·rename_i a0
  simp only [Option.some.injEq,Prod.mk.injEq] at h
  obtain ⟨h1,rfl,rfl⟩ := h
  refine ⟨a0,rfl,fun e => ?_,?_⟩
  ·subst e
   rfl
  ·show some ((g_Aslices_Clone_string_string_b a0),RV.val false [Cell.own .any true 9 .str ([] ++ a0)],[]) = _
   rw [h1,List.nil_append]
 ·cases h
def Ei_LogNote_copied:Env where
 tt := mkTI Tryz.prog
 fn := fun f => match f with
  | 169 => some (msslices_Clone_string_string,FSem.wk msslices_Clone_string_string Fslices_Clone_string_string)
  | 170 => some (msi_writesOf,FSem.wk msi_writesOf Fi_writesOf)
  | _ => none
 bxf := fun _ => none
 mv := []
 keep := fun _ => []
 keepB := fun _ => []
 keepX := fun _ => []
 keepXB := fun _ => []
theorem goodFi_LogNote_copied:∀ f ms F,Ei_LogNote_copied.fn f = some (ms,F) → Sound Tryz.prog f ms F := fun f ms F h => by
 unfold Ei_LogNote_copied at h
 dsimp only at h
 split at h
 ·exact gF sslices_Clone_string_string h
 ·exact gF si_writesOf h
 ·cases h
theorem goodi_LogNote_copied:Good Tryz.prog Ei_LogNote_copied := ⟨rfl,goodFi_LogNote_copied,fun f ms F h => by cases h⟩
def Oi_LogNote_copied_0:Orc := fun _ _ => none
def msi_LogNote_copied:List PM := [.rd]
def lsi_LogNote_copied:List (Nat×Code) := loopsAll 0 (Tryz.f146.body.getD .skip)
theorem ki_LogNote_copied_0:OrcOk Ei_LogNote_copied Oi_LogNote_copied_0 lsi_LogNote_copied 0 := orcOk_none
def g_Ai_LogNote_copied (a0:Int) (a1:Int) (a2:List ByteArray) (a3:tL2):Bool := g_Aslices_Clone_string_string_b a2&&g_Ai_writesOf a3
def Fi_LogNote_copied:FSem := fun ys => match ys with
 | [.val true [.int .i64 a0,.int .i64 a1,.sl .any 9 .str a2,.sl .any 155 (.pair .str (.pair .bool (.sl 3 (.int .i64)))) a3]] => some ((g_Ai_LogNote_copied a0 a1 a2 a3),.val true [.int .i64 a0,.int .i64 a1,.own .any true 9 .str a2,.own .any true 155 (.pair .str (.pair .bool (.sl 3 (.int .i64)))) (g_Vi_writesOf_0 a3)],[])
 | _ => none
theorem vi_LogNote_copied (a0:Int) (a1:Int) (a2:List ByteArray) (a3:tL2):collapseH .std Ei_LogNote_copied Oi_LogNote_copied_0 (execFn Ei_LogNote_copied Tryz.f146 msi_LogNote_copied [.val true [.int .i64 a0,.int .i64 a1,.sl .any 9 .str a2,.sl .any 155 (.pair .str (.pair .bool (.sl 3 (.int .i64)))) a3]]) = some ((g_Ai_LogNote_copied a0 a1 a2 a3),.val true [.int .i64 a0,.int .i64 a1,.own .any true 9 .str a2,.own .any true 155 (.pair .str (.pair .bool (.sl 3 (.int .i64)))) (g_Vi_writesOf_0 a3)],[]) := by kernel_rfl
theorem si_LogNote_copied:Sound Tryz.prog 146 msi_LogNote_copied Fi_LogNote_copied := by
 refine fn_gen goodi_LogNote_copied (by kernel_rfl) .std (fn := Tryz.f146) (c := (Tryz.f146.body.getD .skip)) (o := Oi_LogNote_copied_0) (k := 0) (by kernel_rfl) (by kernel_rfl) (by kernel_rfl) (by kernel_rfl) (by decide) ki_LogNote_copied_0 ?_
 intro ys r outs h
 unfold Fi_LogNote_copied at h
 split at h
 ·exact (vi_LogNote_copied _ _ _ _).trans h
 ·cases h
def Ei_LogDisk_copied:Env where
 tt := mkTI Tryz.prog
 fn := fun f => match f with
  | 146 => some (msi_LogNote_copied,FSem.wk msi_LogNote_copied Fi_LogNote_copied)
  | _ => none
 bxf := fun _ => none
 mv := []
 keep := fun b => match b with
  | 0 => [(2,false),(3,false),(10,false),(11,false),(12,false)]
  | _ => []
 keepB := fun b => match b with
  | 0 => [(2,false),(3,false)]
  | _ => []
 keepX := fun b => match b with
  | 0 => [(2,false),(3,false)]
  | _ => []
 keepXB := fun b => match b with
  | 0 => [(2,false),(3,false)]
  | _ => []
theorem goodFi_LogDisk_copied:∀ f ms F,Ei_LogDisk_copied.fn f = some (ms,F) → Sound Tryz.prog f ms F := fun f ms F h => by
 unfold Ei_LogDisk_copied at h
 dsimp only at h
 split at h
 ·exact gF si_LogNote_copied h
 ·cases h
theorem goodi_LogDisk_copied:Good Tryz.prog Ei_LogDisk_copied := ⟨rfl,goodFi_LogDisk_copied,fun f ms F h => by cases h⟩
def Oi_LogDisk_copied_0:Orc := fun _ _ => none
def msi_LogDisk_copied:List PM := [.rd]
def lsi_LogDisk_copied:List (Nat×Code) := loopsAll 0 (Tryz.f108.body.getD .skip)
def ci_LogDisk_copied_0:Code := (loopOf 0 (Tryz.f108.body.getD .skip)).getD .skip
theorem lseqi_LogDisk_copied:lsi_LogDisk_copied = [(0,ci_LogDisk_copied_0)] := by kernel_rfl
theorem mi_LogDisk_copied_0:∀ p,p ∈ lsi_LogDisk_copied → p.1 = 0 → p.2 = ci_LogDisk_copied_0 := by
 intro p hp
 rw [lseqi_LogDisk_copied] at hp
 simp only [List.mem_cons,List.not_mem_nil,or_false] at hp
 subst hp; simp
theorem ki_LogDisk_copied_0:OrcOk Ei_LogDisk_copied Oi_LogDisk_copied_0 lsi_LogDisk_copied 0 := orcOk_none
def hi_LogDisk_copied_0 (y0:tL0) (y1:Int) (y2:Int) (y3:Int) (y4:tL0) (y5:Int) (y6:tL0):List (Pl×LV) := [(.T 2,.t (.val false [.ptr 2 0 0])),(.T 3,.t (.val false [.ptr 3 0 0])),(.T 10,.t (.val false [.sl .any 92 (.pair (.int .i64) (.pair (.int .i64) (.pair (.sl 9 .str) (.sl 155 (.pair .str (.pair .bool (.sl 3 (.int .i64)))))))) y0])),(.T 11,.t (.val false [.int .i64 y1])),(.T 12,.t (.val false [.int .i64 y2])),(.B 2,.b 0 false [.row 2 1 0,.int .i64 y3]),(.R 2 1,.r 0 (some ⟨false,.any,true,92,(.pair (.int .i64) (.pair (.int .i64) (.pair (.sl 9 .str) (.sl 155 (.pair .str (.pair .bool (.sl 3 (.int .i64)))))))),y4⟩)),(.B 3,.b 0 false [.row 3 1 0,.int .i64 y5]),(.R 3 1,.r 0 (some ⟨false,.any,true,92,(.pair (.int .i64) (.pair (.int .i64) (.pair (.sl 9 .str) (.sl 155 (.pair .str (.pair .bool (.sl 3 (.int .i64)))))))),y6⟩))]
def g_Si_LogDisk_copied_0 (y0:tL0) (y1:Int) (y3:Int) (y4:tL0) (y5:Int):(Int×tL0) → RT (Int×tL0) ((tL0))
 | (y2,y6) => .br (true) (.br (decide (y2 < y1)) (.br (decide (0 ≤ y2 ∧ y2 < (y0.length:Int))) (.br (g_Ai_LogNote_copied (at_ yT1 y0 (Int.toNat y2)).1 (at_ yT1 y0 (Int.toNat y2)).2.1 (at_ yT1 y0 (Int.toNat y2)).2.2.1 (at_ yT1 y0 (Int.toNat y2)).2.2.2) (.br (decide ((List.length y6 + List.length [((at_ yT1 y0 (Int.toNat y2)).1,(at_ yT1 y0 (Int.toNat y2)).2.1,(at_ yT1 y0 (Int.toNat y2)).2.2.1,g_Vi_writesOf_0 (at_ yT1 y0 (Int.toNat y2)).2.2.2)]) * nat_lit 64 ≤ nat_lit 140737488355328 ∧ List.length y6 + List.length [((at_ yT1 y0 (Int.toNat y2)).1,(at_ yT1 y0 (Int.toNat y2)).2.1,(at_ yT1 y0 (Int.toNat y2)).2.2.1,g_Vi_writesOf_0 (at_ yT1 y0 (Int.toNat y2)).2.2.2)] ≤ nat_lit 9223372036854775807)) (.br (true) (.go ((IntKind.i64.wrap (y2 + 1),y6 ++ [((at_ yT1 y0 (Int.toNat y2)).1,(at_ yT1 y0 (Int.toNat y2)).2.1,(at_ yT1 y0 (Int.toNat y2)).2.2.1,g_Vi_writesOf_0 (at_ yT1 y0 (Int.toNat y2)).2.2.2)]))) .bad) .bad) .bad) .bad) (.out (y6))) .bad
def g_Li_LogDisk_copied_0 (y0:tL0) (y1:Int) (y3:Int) (y4:tL0) (y5:Int) (x:Int×tL0):Option ((tL0)) := loopO (g_Si_LogDisk_copied_0 y0 y1 y3 y4 y5) x
def xi_LogDisk_copied_0 (y0:tL0) (y1:Int) (y3:Int) (y4:tL0) (y5:Int):((tL0)) → Ex×List (Pl×LV) := fun r => (.exit 0,[(.T 2,.t (.val false [.ptr 2 0 0])),(.T 3,.t (.val false [.ptr 3 0 0])),(.B 2,.b 0 false [.row 2 1 0,.int .i64 y3]),(.R 2 1,.r 0 (some ⟨false,.any,true,92,(.pair (.int .i64) (.pair (.int .i64) (.pair (.sl 9 .str) (.sl 155 (.pair .str (.pair .bool (.sl 3 (.int .i64)))))))),y4⟩)),(.B 3,.b 0 false [.row 3 1 0,.int .i64 y5]),(.R 3 1,.r 0 (some ⟨false,.any,true,92,(.pair (.int .i64) (.pair (.int .i64) (.pair (.sl 9 .str) (.sl 155 (.pair .str (.pair .bool (.sl 3 (.int .i64)))))))),r⟩))])
def Oi_LogDisk_copied_1:Orc := fun b h => match b,h with
 | 0,[(.T 2,.t (.val false [.ptr 2 0 0])),(.T 3,.t (.val false [.ptr 3 0 0])),(.T 10,.t (.val false [.sl .any 92 (.pair (.int .i64) (.pair (.int .i64) (.pair (.sl 9 .str) (.sl 155 (.pair .str (.pair .bool (.sl 3 (.int .i64)))))))) y0])),(.T 11,.t (.val false [.int .i64 y1])),(.T 12,.t (.val false [.int .i64 y2])),(.B 2,.b 0 false [.row 2 1 0,.int .i64 y3]),(.R 2 1,.r 0 (some ⟨false,.any,true,92,(.pair (.int .i64) (.pair (.int .i64) (.pair (.sl 9 .str) (.sl 155 (.pair .str (.pair .bool (.sl 3 (.int .i64)))))))),y4⟩)),(.B 3,.b 0 false [.row 3 1 0,.int .i64 y5]),(.R 3 1,.r 0 (some ⟨false,.any,true,92,(.pair (.int .i64) (.pair (.int .i64) (.pair (.sl 9 .str) (.sl 155 (.pair .str (.pair .bool (.sl 3 (.int .i64)))))))),y6⟩))] => some (okO (g_Li_LogDisk_copied_0 y0 y1 y3 y4 y5 (y2,y6)),(.leaf (.exit 0) [(.T 2,.t (.val false [.ptr 2 0 0])),(.T 3,.t (.val false [.ptr 3 0 0])),(.B 2,.b 0 false [.row 2 1 0,.int .i64 y3]),(.R 2 1,.r 0 (some ⟨false,.any,true,92,(.pair (.int .i64) (.pair (.int .i64) (.pair (.sl 9 .str) (.sl 155 (.pair .str (.pair .bool (.sl 3 (.int .i64)))))))),y4⟩)),(.B 3,.b 0 false [.row 3 1 0,.int .i64 y5]),(.R 3 1,.r 0 (some ⟨false,.any,true,92,(.pair (.int .i64) (.pair (.int .i64) (.pair (.sl 9 .str) (.sl 155 (.pair .str (.pair .bool (.sl 3 (.int .i64)))))))),(valO (g_Li_LogDisk_copied_0 y0 y1 y3 y4 y5 (y2,y6)))⟩))]))
 | b,h => Oi_LogDisk_copied_0 b h
theorem bi_LogDisk_copied_0 (y0:tL0) (y1:Int) (y2:Int) (y3:Int) (y4:tL0) (y5:Int) (y6:tL0):Tr.bt Ei_LogDisk_copied Oi_LogDisk_copied_0 (exec Ei_LogDisk_copied 0 ci_LogDisk_copied_0 (St.of (hi_LogDisk_copied_0 y0 y1 y2 y3 y4 y5 y6)) (leafRd Ei_LogDisk_copied 0)) = (g_Si_LogDisk_copied_0 y0 y1 y3 y4 y5 (y2,y6)).bt (fun ((y2,y6):Int×tL0) => (hi_LogDisk_copied_0 y0 y1 y2 y3 y4 y5 y6)) (xi_LogDisk_copied_0 y0 y1 y3 y4 y5) := by kernel_rfl
theorem ki_LogDisk_copied_1:OrcOk Ei_LogDisk_copied Oi_LogDisk_copied_1 lsi_LogDisk_copied 1 := orc_add ki_LogDisk_copied_0 (fun n p hp h ex h' ho => by
 obtain ⟨b,c⟩ := p
 obtain ⟨xt,h1,h2⟩ := ho
 have h1:Oi_LogDisk_copied_1 b h = some (true,xt) := h1
 unfold Oi_LogDisk_copied_1 at h1
 split at h1
 ·injection h1 with h1
  injection h1 with e1 e2
  subst e2
  have hc:c = ci_LogDisk_copied_0 := mi_LogDisk_copied_0 _ hp rfl
  subst hc
  right
  rename_i y0 y1 y2 y3 y4 y5 y6
  have key := LT_step ki_LogDisk_copied_0 hp (fun q hq => loopsAll_in _ _ _ _ hp hq) (fun ((y2,y6):Int×tL0) => (hi_LogDisk_copied_0 y0 y1 y2 y3 y4 y5 y6)) (xi_LogDisk_copied_0 y0 y1 y3 y4 y5) (g_Si_LogDisk_copied_0 y0 y1 y3 y4 y5) (fun x => by first | exact bi_LogDisk_copied_0 y0 y1 x.1 y3 y4 y5 x.2) n (x := (y2,y6)) (okO_some e1)
  have hx:∀ r,XT.sel (.leaf (.exit 0) [(.T 2,.t (.val false [.ptr 2 0 0])),(.T 3,.t (.val false [.ptr 3 0 0])),(.B 2,.b 0 false [.row 2 1 0,.int .i64 y3]),(.R 2 1,.r 0 (some ⟨false,.any,true,92,(.pair (.int .i64) (.pair (.int .i64) (.pair (.sl 9 .str) (.sl 155 (.pair .str (.pair .bool (.sl 3 (.int .i64)))))))),y4⟩)),(.B 3,.b 0 false [.row 3 1 0,.int .i64 y5]),(.R 3 1,.r 0 (some ⟨false,.any,true,92,(.pair (.int .i64) (.pair (.int .i64) (.pair (.sl 9 .str) (.sl 155 (.pair .str (.pair .bool (.sl 3 (.int .i64)))))))),r⟩))]) = xi_LogDisk_copied_0 y0 y1 y3 y4 y5 r := fun r => by first | rfl | rcases r with r | r <;> rfl | rcases r with r | r | r <;> rfl | rcases r with r | r | r | r <;> rfl
  have h3 := (hx (valO (g_Li_LogDisk_copied_0 y0 y1 y3 y4 y5 (y2,y6)))).symm.trans h2
  have e3 := congrArg Prod.fst h3
  have e4 := congrArg Prod.snd h3
  simp only at e3 e4
  rw [← e3,← e4]
  exact key
 ·exact .inl ⟨xt,h1,h2⟩)
def g_Ai_LogDisk_copied (a0:tL0) (a1:Int):Bool := okO (g_Li_LogDisk_copied_0 a0 (a0.length:Int) (0:Int) [] a1 ((0:Int),[]))
def g_Vi_LogDisk_copied_0 (a0:tL0) (a1:Int):tL0 := valO (g_Li_LogDisk_copied_0 a0 (a0.length:Int) (0:Int) [] a1 ((0:Int),[]))
def Fi_LogDisk_copied:FSem := fun ys => match ys with
 | [.val true [.sl .any 92 (.pair (.int .i64) (.pair (.int .i64) (.pair (.sl 9 .str) (.sl 155 (.pair .str (.pair .bool (.sl 3 (.int .i64)))))))) a0,.int .i64 a1]] => some ((g_Ai_LogDisk_copied a0 a1),.val true [.own .any true 92 (.pair (.int .i64) (.pair (.int .i64) (.pair (.sl 9 .str) (.sl 155 (.pair .str (.pair .bool (.sl 3 (.int .i64)))))))) (g_Vi_LogDisk_copied_0 a0 a1),.int .i64 a1],[])
 | _ => none
theorem vi_LogDisk_copied (a0:tL0) (a1:Int):collapseH .std Ei_LogDisk_copied Oi_LogDisk_copied_1 (execFn Ei_LogDisk_copied Tryz.f108 msi_LogDisk_copied [.val true [.sl .any 92 (.pair (.int .i64) (.pair (.int .i64) (.pair (.sl 9 .str) (.sl 155 (.pair .str (.pair .bool (.sl 3 (.int .i64)))))))) a0,.int .i64 a1]]) = some ((g_Ai_LogDisk_copied a0 a1),.val true [.own .any true 92 (.pair (.int .i64) (.pair (.int .i64) (.pair (.sl 9 .str) (.sl 155 (.pair .str (.pair .bool (.sl 3 (.int .i64)))))))) (g_Vi_LogDisk_copied_0 a0 a1),.int .i64 a1],[]) := by kernel_rfl
theorem si_LogDisk_copied:Sound Tryz.prog 108 msi_LogDisk_copied Fi_LogDisk_copied := by
 refine fn_gen goodi_LogDisk_copied (by kernel_rfl) .std (fn := Tryz.f108) (c := (Tryz.f108.body.getD .skip)) (o := Oi_LogDisk_copied_1) (k := 1) (by kernel_rfl) (by kernel_rfl) (by kernel_rfl) (by kernel_rfl) (by decide) ki_LogDisk_copied_1 ?_
 intro ys r outs h
 unfold Fi_LogDisk_copied at h
 split at h
 ·exact (vi_LogDisk_copied _ _).trans h
 ·cases h
def Eslices_Clip_i_LogNote_i_LogNote:Env where
 tt := mkTI Tryz.prog
 fn := fun _ => none
 bxf := fun _ => none
 mv := [8]
 keep := fun _ => []
 keepB := fun _ => []
 keepX := fun _ => []
 keepXB := fun _ => []
theorem goodFslices_Clip_i_LogNote_i_LogNote:∀ f ms F,Eslices_Clip_i_LogNote_i_LogNote.fn f = some (ms,F) → Sound Tryz.prog f ms F := fun f ms F h => by cases h
theorem goodslices_Clip_i_LogNote_i_LogNote:Good Tryz.prog Eslices_Clip_i_LogNote_i_LogNote := ⟨rfl,goodFslices_Clip_i_LogNote_i_LogNote,fun f ms F h => by cases h⟩
def Oslices_Clip_i_LogNote_i_LogNote_0:Orc := fun _ _ => none
def msslices_Clip_i_LogNote_i_LogNote:List PM := [.own]
def lsslices_Clip_i_LogNote_i_LogNote:List (Nat×Code) := loopsAll 0 (Tryz.f109.body.getD .skip)
theorem kslices_Clip_i_LogNote_i_LogNote_0:OrcOk Eslices_Clip_i_LogNote_i_LogNote Oslices_Clip_i_LogNote_i_LogNote_0 lsslices_Clip_i_LogNote_i_LogNote 0 := orcOk_none
def g_Aslices_Clip_i_LogNote_i_LogNote (a0:tL0):Bool := decide ((a0.length:Int) = (a0.length:Int))&&decide (0 ≤ (a0.length:Int) ∧ (a0.length:Int) ≤ (a0.length:Int))
def g_Vslices_Clip_i_LogNote_i_LogNote_0 (a0:tL0):tL0 := List.take (Int.toNat (a0.length:Int)) a0
def Fslices_Clip_i_LogNote_i_LogNote:FSem := fun ys => match ys with
 | [.val false [.own .any true 92 (.pair (.int .i64) (.pair (.int .i64) (.pair (.sl 9 .str) (.sl 155 (.pair .str (.pair .bool (.sl 3 (.int .i64)))))))) a0]] => some ((g_Aslices_Clip_i_LogNote_i_LogNote a0),.val false [.own .any true 92 (.pair (.int .i64) (.pair (.int .i64) (.pair (.sl 9 .str) (.sl 155 (.pair .str (.pair .bool (.sl 3 (.int .i64)))))))) (g_Vslices_Clip_i_LogNote_i_LogNote_0 a0)],[])
 | _ => none
theorem vslices_Clip_i_LogNote_i_LogNote (a0:tL0):collapseH .std Eslices_Clip_i_LogNote_i_LogNote Oslices_Clip_i_LogNote_i_LogNote_0 (execFn Eslices_Clip_i_LogNote_i_LogNote Tryz.f109 msslices_Clip_i_LogNote_i_LogNote [.val false [.own .any true 92 (.pair (.int .i64) (.pair (.int .i64) (.pair (.sl 9 .str) (.sl 155 (.pair .str (.pair .bool (.sl 3 (.int .i64)))))))) a0]]) = some ((g_Aslices_Clip_i_LogNote_i_LogNote a0),.val false [.own .any true 92 (.pair (.int .i64) (.pair (.int .i64) (.pair (.sl 9 .str) (.sl 155 (.pair .str (.pair .bool (.sl 3 (.int .i64)))))))) (g_Vslices_Clip_i_LogNote_i_LogNote_0 a0)],[]) := by kernel_rfl
theorem sslices_Clip_i_LogNote_i_LogNote:Sound Tryz.prog 109 msslices_Clip_i_LogNote_i_LogNote Fslices_Clip_i_LogNote_i_LogNote := by
 refine fn_gen goodslices_Clip_i_LogNote_i_LogNote (by kernel_rfl) .std (fn := Tryz.f109) (c := (Tryz.f109.body.getD .skip)) (o := Oslices_Clip_i_LogNote_i_LogNote_0) (k := 0) (by kernel_rfl) (by kernel_rfl) (by kernel_rfl) (by kernel_rfl) (by decide) kslices_Clip_i_LogNote_i_LogNote_0 ?_
 intro ys r outs h
 unfold Fslices_Clip_i_LogNote_i_LogNote at h
 split at h
 ·exact (vslices_Clip_i_LogNote_i_LogNote _).trans h
 ·cases h
def Ei_DiskFall:Env where
 tt := mkTI Tryz.prog
 fn := fun f => match f with
  | 96 => some (msi_DiskOk,FSem.wk msi_DiskOk Fi_DiskOk)
  | 108 => some (msi_LogDisk_copied,FSem.wk msi_LogDisk_copied Fi_LogDisk_copied)
  | 109 => some (msslices_Clip_i_LogNote_i_LogNote,FSem.wk msslices_Clip_i_LogNote_i_LogNote Fslices_Clip_i_LogNote_i_LogNote)
  | _ => none
 bxf := fun _ => none
 mv := [26]
 keep := fun _ => []
 keepB := fun _ => []
 keepX := fun _ => []
 keepXB := fun _ => []
theorem goodFi_DiskFall:∀ f ms F,Ei_DiskFall.fn f = some (ms,F) → Sound Tryz.prog f ms F := fun f ms F h => by
 unfold Ei_DiskFall at h
 dsimp only at h
 split at h
 ·exact gF si_DiskOk h
 ·exact gF si_LogDisk_copied h
 ·exact gF sslices_Clip_i_LogNote_i_LogNote h
 ·cases h
theorem goodi_DiskFall:Good Tryz.prog Ei_DiskFall := ⟨rfl,goodFi_DiskFall,fun f ms F h => by cases h⟩
def Oi_DiskFall_0:Orc := fun _ _ => none
def msi_DiskFall:List PM := [.rd,.own]
def lsi_DiskFall:List (Nat×Code) := loopsAll 0 (Tryz.f49.body.getD .skip)
theorem ki_DiskFall_0:OrcOk Ei_DiskFall Oi_DiskFall_0 lsi_DiskFall 0 := orcOk_none
def g_Ai_DiskFall (a0:tL0) (a1:Int) (a2:Int):Bool := g_Ai_DiskOk a0 a1&&(!g_Vi_DiskOk_0 a0 a1 || g_Ai_LogDisk_copied a0 a1&&(decide (0 ≤ IntKind.i64.wrap (a1 + if (if IntKind.i64.wrap ((a0.length:Int) - a1) < a2 then IntKind.i64.wrap ((a0.length:Int) - a1) else a2) > 0 then if IntKind.i64.wrap ((a0.length:Int) - a1) < a2 then IntKind.i64.wrap ((a0.length:Int) - a1) else a2 else (0:Int)) ∧ IntKind.i64.wrap (a1 + if (if IntKind.i64.wrap ((a0.length:Int) - a1) < a2 then IntKind.i64.wrap ((a0.length:Int) - a1) else a2) > 0 then if IntKind.i64.wrap ((a0.length:Int) - a1) < a2 then IntKind.i64.wrap ((a0.length:Int) - a1) else a2 else (0:Int)) ≤ (↑(List.length (g_Vi_LogDisk_copied_0 a0 a1)):Int))&&g_Aslices_Clip_i_LogNote_i_LogNote (List.take (Int.toNat (IntKind.i64.wrap (a1 + if (if IntKind.i64.wrap ((a0.length:Int) - a1) < a2 then IntKind.i64.wrap ((a0.length:Int) - a1) else a2) > 0 then if IntKind.i64.wrap ((a0.length:Int) - a1) < a2 then IntKind.i64.wrap ((a0.length:Int) - a1) else a2 else (0:Int)))) (g_Vi_LogDisk_copied_0 a0 a1))))
def g_Vi_DiskFall_0 (a0:tL0) (a1:Int) (a2:Int):tL0 := bif !g_Vi_DiskOk_0 a0 a1 then [] else g_Vslices_Clip_i_LogNote_i_LogNote_0 (List.take (Int.toNat (IntKind.i64.wrap (a1 + if (if IntKind.i64.wrap ((a0.length:Int) - a1) < a2 then IntKind.i64.wrap ((a0.length:Int) - a1) else a2) > 0 then if IntKind.i64.wrap ((a0.length:Int) - a1) < a2 then IntKind.i64.wrap ((a0.length:Int) - a1) else a2 else (0:Int)))) (g_Vi_LogDisk_copied_0 a0 a1))
def g_Vi_DiskFall_1 (a0:tL0) (a1:Int) (a2:Int):Int := bif !g_Vi_DiskOk_0 a0 a1 then (0:Int) else (↑(List.length (g_Vslices_Clip_i_LogNote_i_LogNote_0 (List.take (Int.toNat (IntKind.i64.wrap (a1 + if (if IntKind.i64.wrap ((a0.length:Int) - a1) < a2 then IntKind.i64.wrap ((a0.length:Int) - a1) else a2) > 0 then if IntKind.i64.wrap ((a0.length:Int) - a1) < a2 then IntKind.i64.wrap ((a0.length:Int) - a1) else a2 else (0:Int)))) (g_Vi_LogDisk_copied_0 a0 a1)))):Int)
def Fi_DiskFall:FSem := fun ys => match ys with
 | [.val true [.sl .any 92 (.pair (.int .i64) (.pair (.int .i64) (.pair (.sl 9 .str) (.sl 155 (.pair .str (.pair .bool (.sl 3 (.int .i64)))))))) a0,.int .i64 a1],.val false [.int .i64 a2]] => some ((g_Ai_DiskFall a0 a1 a2),.val true [.own .any true 92 (.pair (.int .i64) (.pair (.int .i64) (.pair (.sl 9 .str) (.sl 155 (.pair .str (.pair .bool (.sl 3 (.int .i64)))))))) (g_Vi_DiskFall_0 a0 a1 a2),.int .i64 (g_Vi_DiskFall_1 a0 a1 a2)],[])
 | _ => none
theorem vi_DiskFall (a0:tL0) (a1:Int) (a2:Int):collapseH .std Ei_DiskFall Oi_DiskFall_0 (execFn Ei_DiskFall Tryz.f49 msi_DiskFall [.val true [.sl .any 92 (.pair (.int .i64) (.pair (.int .i64) (.pair (.sl 9 .str) (.sl 155 (.pair .str (.pair .bool (.sl 3 (.int .i64)))))))) a0,.int .i64 a1],.val false [.int .i64 a2]]) = some ((g_Ai_DiskFall a0 a1 a2),.val true [.own .any true 92 (.pair (.int .i64) (.pair (.int .i64) (.pair (.sl 9 .str) (.sl 155 (.pair .str (.pair .bool (.sl 3 (.int .i64)))))))) (g_Vi_DiskFall_0 a0 a1 a2),.int .i64 (g_Vi_DiskFall_1 a0 a1 a2)],[]) := by kernel_rfl
theorem si_DiskFall:Sound Tryz.prog 49 msi_DiskFall Fi_DiskFall := by
 refine fn_gen goodi_DiskFall (by kernel_rfl) .std (fn := Tryz.f49) (c := (Tryz.f49.body.getD .skip)) (o := Oi_DiskFall_0) (k := 0) (by kernel_rfl) (by kernel_rfl) (by kernel_rfl) (by kernel_rfl) (by decide) ki_DiskFall_0 ?_
 intro ys r outs h
 unfold Fi_DiskFall at h
 split at h
 ·exact (vi_DiskFall _ _ _).trans h
 ·cases h
end
end Go.Proofs.YtedhpmhlmdcpbaaGreatDoor.E
section
namespace Go.Proofs.YtedhpmhlmdcpbaaGreatDoor.E
open Go Go.RowKit Go.Shelf
attribute [local go_sem] Oper.semAt_some
abbrev SV:Type := Option Addr×Nat×Nat
abbrev E4:Type := Int×Int×SV×SV
def cE (e:E4):List Value := [.int .i64 e.1,.int .i64 e.2.1,.slice e.2.2.1.1 e.2.2.1.2.1 e.2.2.1.2.2,.slice e.2.2.2.1 e.2.2.2.2.1 e.2.2.2.2.2]
abbrev e0:E4 := (0,0,(none,0,0),(none,0,0))
set_option maxRecDepth 100000 in
set_option maxHeartbeats 2000000 in
theorem bk1_in (F:Fence) (n:Nat) (h7:F.fn 147) (hro:F.round = none) (hn:1 ≤ n) (l Bs n₀ b off cap:Nat) (cs:List E4) (hreach:cs.length ≤ 1048576) (hb:b < n₀) (hBn:Bs < n₀) (J Jx:List (Nat×E4) → World → Prop)
  (hY:∀ pre x W,J pre W → pre.length < cs.length → YieldAt F (n - 1) Tryz.prog l #[.int .i64 (x.1:Int),Value.agg (cE x.2).toArray] W fun e W' =>
   (e = .returned (.bool true) ∧ J (pre ++ [x]) W' ∧ Below n₀ W W') ∨ (e = .returned (.bool false) ∧ Jx (pre ++ [x]) W'))
  (W:World) (hBs:W.cell? ⟨Bs,0,none⟩ = some (.slice (some ⟨b,off,none⟩) cs.length cap)) (hc:∀ j c,cs[j]? = some c → Has W b (off + j * 4) (cE c)) (h0:J [] W) :
  CallsIn F n Tryz.prog 147 #[.func (.yield l) #[] #[],.pointer (some ⟨Bs,0,none⟩)] W fun e W' => (∃ v,e = .returned v) ∧
   ((∃ ys,ys = (List.range cs.length).map (fun j => (cs.length - 1 - j,cs.getD (cs.length - 1 - j) e0)) ∧ J ys W') ∨ (∃ pre,(∃ k,k ≤ cs.length ∧ pre = (List.range k).map (fun j => (cs.length - 1 - j,cs.getD (cs.length - 1 - j) e0))) ∧ Jx pre W')) := by
 refine callsIn_of_wp Tryz.func147 rfl h7 ?_ hro
 simp only [Tryz.ntmps147,List.size_toArray,List.length_cons,List.length_nil,Nat.reduceAdd,Nat.reduceSub,Array.replicate_succ,Array.replicate_zero,List.push_toArray,List.append_toArray,List.nil_append,List.cons_append]
 gi_wp2
 gi_loopw [3] (fun i wr => ∃ k:Nat,k ≤ cs.length ∧ i = .int .i64 ((cs.length:Int) - 1 - k) ∧ J ((List.range k).map (fun j => (cs.length - 1 - j,cs.getD (cs.length - 1 - j) e0))) wr ∧ Below n₀ W wr)
  (fun i _ => (intOf i + 1).toNat)
 case atStart => exact ⟨0,Nat.zero_le _,by simp,h0,Below.refl _ _⟩
 case round =>
  obtain ⟨k,hk,rfl,hJs,hnx⟩ := hrel
  have hBs' := (hnx.cell (p := ⟨Bs,0,none⟩) hBn).trans hBs
  by_cases hlt:k < cs.length
  ·obtain ⟨c,hcc⟩:∃ c,cs[cs.length - 1 - k]? = some c := ⟨_,List.getElem?_eq_getElem (by omega)⟩
   have hcH := hc _ c hcc
   obtain ⟨z0,z1,v2,v3⟩ := c
   have hidx:((cs.length:Int) - 1 - k) = ((cs.length - 1 - k:Nat):Int) := by omega
   rw [hidx]
   obtain ⟨fn,tmps,assign,body,hy,hR⟩ := hY _ (cs.length - 1 - k,(z0,z1,v2,v3)) wr hJs (by simp; exact hlt)
   dsimp only [cE] at hy
   have hge:((cs.length - 1 - k:Nat):Int) ≥ 0 := by omega
   have c0 := (hnx.cell (p := ⟨b,off + (cs.length - 1 - k) * 4,none⟩) hb).trans (hcH 0 (.int .i64 z0) rfl)
   have c1 := (hnx.cell (p := ⟨b,off + (cs.length - 1 - k) * 4 + 1,none⟩) hb).trans (hcH 1 (.int .i64 z1) rfl)
   have c2 := (hnx.cell (p := ⟨b,off + (cs.length - 1 - k) * 4 + 2,none⟩) hb).trans (hcH 2 (.slice v2.1 v2.2.1 v2.2.2) rfl)
   have c3 := (hnx.cell (p := ⟨b,off + (cs.length - 1 - k) * 4 + 3,none⟩) hb).trans (hcH 3 (.slice v3.1 v3.2.1 v3.2.2) rfl)
   have hget:cs.getD (cs.length - 1 - k) e0 = (z0,z1,v2,v3) := by simp [List.getD,hcc]
   have hup:(List.range k).map (fun j => (cs.length - 1 - j,cs.getD (cs.length - 1 - j) e0)) ++ [(cs.length - 1 - k,(z0,z1,v2,v3))] = (List.range (k + 1)).map (fun j => (cs.length - 1 - j,cs.getD (cs.length - 1 - j) e0)) := by
    rw [List.range_succ,List.map_append,List.map_singleton,hget]
   rw [hup] at hR
   gi_wp2
   refine hR.mono ?_
   rintro e W3 (⟨rfl,hJ3,hk3⟩ | ⟨rfl,hJx3⟩)
   ·gi_wp2
    go_roundw
    case rel => exact ⟨k + 1,by omega,by (simp; omega),hJ3,hnx.trans hk3⟩
    case measure => first | (simp [intOf]; done) | (simp [intOf]; omega)
   ·gi_wp2
    refine bodyPost_ret (results_none rfl _ _ _) rfl ?_
    exact ⟨⟨_,rfl⟩,.inr ⟨_,⟨k + 1,by omega,rfl⟩,hJx3⟩⟩
  ·obtain rfl:k = cs.length := by omega
   gi_wp2
   go_end0
   exact ⟨⟨_,rfl⟩,.inl ⟨_,rfl,hJs⟩⟩
set_option maxRecDepth 100000 in
set_option maxHeartbeats 1000000 in
theorem bk1_nil_in (F:Fence) (n:Nat) (h7:F.fn 147) (hro:F.round = none) (l Bs:Nat) (J:List (Nat×E4) → World → Prop) (W:World) (a:Option Addr) (cap:Nat) (hBs:W.cell? ⟨Bs,0,none⟩ = some (.slice a 0 cap)) (h0:J [] W) :
  CallsIn F n Tryz.prog 147 #[.func (.yield l) #[] #[],.pointer (some ⟨Bs,0,none⟩)] W fun e W' => (∃ v,e = .returned v) ∧ J [] W' := by
 refine callsIn_of_wp Tryz.func147 rfl h7 ?_ hro
 simp only [Tryz.ntmps147,List.size_toArray,List.length_cons,List.length_nil,Nat.reduceAdd,Nat.reduceSub,Array.replicate_succ,Array.replicate_zero,List.push_toArray,List.append_toArray,List.nil_append,List.cons_append]
 gi_wp2
 gi_loopw [3] (fun i wr => i = .int .i64 (-1) ∧ J [] wr) (fun _ _ => 0)
 case atStart => exact ⟨rfl,h0⟩
 case round =>
  obtain ⟨rfl,hJs⟩ := hrel
  gi_wp2
  go_end0
  exact ⟨⟨_,rfl⟩,hJs⟩
def Lies4 (n₀:Nat) (W:World) (sv:Value) (cs:List E4):Prop :=
 ((∃ a cap,sv = .slice a 0 cap) ∧ cs = []) ∨ ∃ b off cap,sv = .slice (some ⟨b,off,none⟩) cs.length cap ∧ b < n₀ ∧ ∀ j c,cs[j]? = some c → Has W b (off + j * 4) (cE c)
theorem Lies4.below {n₀:Nat} {A B:World} (h:Below n₀ A B) {sv:Value} {cs:List E4} (hl:Lies4 n₀ A sv cs):Lies4 n₀ B sv cs := by
 rcases hl with hl | ⟨b,off,cap,e,hb,hc⟩
 ·exact .inl hl
 ·exact .inr ⟨b,off,cap,e,hb,fun j c hj i v hv => (h.cell (p := ⟨b,off + j * 4 + i,none⟩) hb).trans (hc j c hj i v hv)⟩
abbrev backF (cs:List E4) (j:Nat):Nat×E4 := (cs.length - 1 - j,cs.getD (cs.length - 1 - j) e0)
theorem bk_stops (F:Fence) (n:Nat) (h8:F.fn 147) (hro:F.round = none) (hn:1 ≤ n) (Bs n₀:Nat) (sv:Value) (cs:List E4) (hreach:cs.length ≤ 1048576) (w:World) (hBn:Bs < n₀) (hn₀:n₀ ≤ w.heap.size)
  (hc:w.cell? ⟨Bs,0,none⟩ = some sv) (hI:Lies4 n₀ w sv cs) :
  SeqStopsK F n Tryz.prog 147 #[.pointer (some ⟨Bs,0,none⟩)] (fun x:Nat×E4 => #[Value.int .i64 (x.1:Int),Value.agg (cE x.2).toArray]) (Below n₀) (fun ys => ys = (List.range cs.length).map (backF cs))
   (fun pre => ∃ k,k ≤ cs.length ∧ pre = (List.range k).map (backF cs)) cs.length w := fun l J Jx W hW _ _ hY h0 => by
 have hc' := (hW.cell (p := ⟨Bs,0,none⟩) (Nat.lt_of_lt_of_le hBn hn₀)).trans hc
 rcases hI.below (hW.mono hn₀) with ⟨⟨a,cap,rfl⟩,rfl⟩ | ⟨b,off,cap,rfl,hb,hcs⟩
 ·exact (bk1_nil_in F n h8 hro l Bs J W a cap hc' h0).mono fun e W' ⟨he,hj⟩ => ⟨he,.inl ⟨_,rfl,hj⟩⟩
 ·exact bk1_in F n h8 hro hn l Bs n₀ b off cap cs hreach hb hBn J Jx hY W hc' hcs h0
set_option maxHeartbeats 1000000 in
theorem bk_in (F:Fence) (n:Nat) (h6:F.fn 111) (hro:F.round = none) (a:Option Addr) (len cap:Nat) (w:World) :
  CallsIn F n Tryz.prog 111 #[.slice a len cap] w fun e w' => e = .returned (.func (.func 147) #[] #[.pointer (some ⟨w.heap.size,0,none⟩)]) ∧ w' = w.alloc (.cells #[.slice a len cap] 31) := by
 refine callsIn_of_wp Tryz.func111 rfl h6 ?_ hro
 simp only [Tryz.ntmps111,List.size_toArray,List.length_cons,List.length_nil,Nat.reduceAdd,Nat.reduceSub,Array.replicate_succ,Array.replicate_zero,List.push_toArray,List.append_toArray,List.nil_append,List.cons_append]
 gi_wp2
 go_ret
 exact ⟨rfl,rfl⟩
theorem cellA {W:World} {p:Addr} {v:Value} (o:Obj) (h:W.cell? p = some v):(W.alloc o).cell? p = some v := (World.grownBy_alloc W o none).cell h (by simp)
theorem frozenA {W:World} {p:Addr} {v:Value} (o:Obj) (h:W.cell? p = some v) (hf:W.frozen? p = false):(W.alloc o).frozen? p = false :=
 (World.frozen?_of_block ((World.grownBy_alloc W o none).block p.block (World.block_lt_of_cell? W p h) (by simp))).trans hf
theorem cellN {W:World} {cur:Array Value} {e:TypeId} {j:Nat} {v:Value} (h:cur[j]? = some v):(W.alloc (.cells cur e)).cell? ⟨W.heap.size,j,none⟩ = some v := by
 rw [cell_of_row _ _ j _ _ _ (World.alloc_heap_new W (.cells cur e))]
 exact h
abbrev NT_:Ty := .pair (.int .i64) (.pair (.int .i64) (.pair (.sl 9 .str) (.sl 155 (.pair .str (.pair .bool (.sl 3 (.int .i64)))))))
theorem notes_cells {w:World} {S:Nat → Prop} (hS:∀ g,S g → g < w.heap.size) {l:List NT_.den} {sv:Value} (h:ROc w S (.sl 92 NT_) l [sv]) :
  ∃ (A:Option Addr) (cap:Nat) (cs:List E4),sv = .slice A l.length cap ∧ cs.length = l.length ∧ Lies4 w.heap.size w sv cs ∧ ∀ (i:Nat) (x:NT_.den),l[i]? = some x → ∃ e:E4,cs[i]? = some e ∧ e.1 = x.1 ∧ e.2.1 = x.2.1 ∧ ROc w S (.sl 155 (.pair .str (.pair .bool (.sl 3 (.int .i64))))) x.2.2.2 [.slice e.2.2.2.1 e.2.2.2.2.1 e.2.2.2.2.2] := by
 obtain ⟨A,cap,e1,_,h3⟩ := h
 injection e1 with e1 _
 subst e1
 by_cases hl:l.length = 0
 ·refine ⟨A,cap,[],rfl,by simp [hl],.inl ⟨⟨A,cap,by rw [hl]⟩,rfl⟩,fun i x hx => ?_⟩
  have:i < l.length := (List.getElem?_eq_some_iff.1 hx).1
  omega
 ·obtain ⟨g,off,c0,e2,hg,_⟩ := h3 0 l[0] (List.getElem?_eq_getElem (by omega))
  have key:∀ i:Nat,∃ e:E4,∀ x:NT_.den,l[i]? = some x → Has w g (off + i * 4) (cE e) ∧ e.1 = x.1 ∧ e.2.1 = x.2.1 ∧ ROc w S (.sl 155 (.pair .str (.pair .bool (.sl 3 (.int .i64))))) x.2.2.2 [.slice e.2.2.2.1 e.2.2.2.2.1 e.2.2.2.2.2] := by
   intro i
   cases hi:l[i]? with
   | none => exact ⟨e0,fun x hx => by cases hx⟩
   | some x =>
    obtain ⟨g',off',c,f1,f2,f3,f4,f5⟩ := h3 i x hi
    rw [e2] at f1
    injection f1 with f1
    injection f1 with f1 f1'
    subst f1
    subst f1'
    obtain ⟨c1,c2,r1,_,r2,c3,c4,r3,_,r4,c5,c6,r5,r6,r7,r8⟩ := f5
    obtain ⟨A5,cap5,s1,_⟩ := r7
    have r8' := r8
    obtain ⟨A6,cap6,s2,_⟩ := r8
    subst r1 r3 r5 s1 s2
    rw [show c1 = _ from r2,show c3 = _ from r4] at f4
    exact ⟨(x.1,x.2.1,(A5,x.2.2.1.length,cap5),(A6,x.2.2.2.length,cap6)),fun y hy => by cases hy; exact ⟨f4,rfl,rfl,r8'⟩⟩
  have hf := Classical.choice (α := { f:Nat → E4 // ∀ (i:Nat) (x:NT_.den),l[i]? = some x → Has w g (off + i * 4) (cE (f i)) ∧ (f i).1 = x.1 ∧ (f i).2.1 = x.2.1 ∧ ROc w S (.sl 155 (.pair .str (.pair .bool (.sl 3 (.int .i64))))) x.2.2.2 [.slice (f i).2.2.2.1 (f i).2.2.2.2.1 (f i).2.2.2.2.2] }) ⟨⟨fun i => (key i).choose,fun i => (key i).choose_spec⟩⟩
  obtain ⟨f,hf⟩ := hf
  have hget:∀ i,i < l.length → ((List.range l.length).map f)[i]? = some (f i) := fun i hi => by simp [hi]
  refine ⟨A,cap,(List.range l.length).map f,rfl,by simp,.inr ⟨g,off,cap,by rw [e2]; simp,hS g hg,fun j c hj => ?_⟩,fun i x hx => ?_⟩
  ·have hjl:j < l.length := by
    have := (List.getElem?_eq_some_iff.1 hj).1
    simpa using this
   rw [hget j hjl] at hj
   injection hj with hj
   subst hj
   exact (hf j l[j] (List.getElem?_eq_getElem hjl)).1
  ·have hi := (List.getElem?_eq_some_iff.1 hx).1
   exact ⟨f i,hget i hi,(hf i x hx).2⟩
end Go.Proofs.YtedhpmhlmdcpbaaGreatDoor.E
end
section
namespace Go.Proofs.YtedhpmhlmdcpbaaGreatDoor.E
open Go Go.RowKit Go.Shelf
attribute [local go_sem] Oper.semAt_some
def isOf (tx:Int) (e:E4):Bool := decide (e.2.1 = tx)&&!decide (e.1 = 4)
set_option maxRecDepth 100000 in
set_option maxHeartbeats 4000000 in
theorem of_in (F:Fence) (n:Nat) (h4:F.fn 52) (h6:F.fn 111) (h8:F.fn 147) (hro:F.round = none) (hn:3 ≤ n) (a:Option Addr) (len cap:Nat) (safe tx:Int) (cs:List E4) (hreach:cs.length ≤ 1048576) (w:World) (hI:Lies4 w.heap.size w (.slice a len cap) cs) :
  CallsIn F n Tryz.prog 52 #[.agg #[.slice a len cap,.int .i64 safe],.int .i64 tx] w fun e W' =>
   (e = .returned (.int .i64 0) ∧ (∀ j,j < cs.length → isOf tx (cs.getD j e0) = false) ∨ ∃ k,k < cs.length ∧ e = .returned (.int .i64 (cs.getD k e0).1) ∧ isOf tx (cs.getD k e0) = true ∧ ∀ j,k < j → j < cs.length → isOf tx (cs.getD j e0) = false) ∧ Below w.heap.size w W' := by
 have h1:1 ≤ n := by omega
 refine callsIn_of_wp_marks Tryz.func52 rfl h4 ?_ hro
 simp only [Tryz.ntmps52,List.size_toArray,List.length_cons,List.length_nil,Nat.reduceAdd,Nat.reduceSub,Array.replicate_succ,Array.replicate_zero,List.push_toArray,List.append_toArray,List.nil_append,List.cons_append]
 gi_wp2_with (gi_at_call 111; refine (bk_in F (n - 1) h6 hro _ _ _ _).mono ?_; rintro e w' ⟨rfl,rfl⟩)
 have hB0:Below w.heap.size w ((((w.alloc (.cells #[.slice a len cap,.int .i64 safe] 33)).alloc (.cells #[.int .i64 tx] 3)).alloc (.cells #[.int .i64 0] 3)).alloc (.cells #[.slice a len cap] 31)) :=
  ((((Below.refl _ w).alloc (Nat.le_refl _) _).alloc (by simp) _).alloc (by simp; omega) _).alloc (by simp; omega) _
 have b3 := ((Boxed.new (w.alloc (.cells #[.slice a len cap,.int .i64 safe] 33)) 3 (.int .i64 tx)).alloc (.cells #[.int .i64 0] 3)).alloc (.cells #[.slice a len cap] 31)
 have b4 := (Boxed.new ((w.alloc (.cells #[.slice a len cap,.int .i64 safe] 33)).alloc (.cells #[.int .i64 tx] 3)) 3 (.int .i64 0)).alloc (.cells #[.slice a len cap] 31)
 have bs := Boxed.new (((w.alloc (.cells #[.slice a len cap,.int .i64 safe] 33)).alloc (.cells #[.int .i64 tx] 3)).alloc (.cells #[.int .i64 0] 3)) 31 (.slice a len cap)
 simp only [World.size_alloc] at b3 b4 bs
 have hsz:((((w.alloc (.cells #[.slice a len cap,.int .i64 safe] 33)).alloc (.cells #[.int .i64 tx] 3)).alloc (.cells #[.int .i64 0] 3)).alloc (.cells #[.slice a len cap] 31)).heap.size = w.heap.size + 1 + 1 + 1 + 1 := by simp only [World.size_alloc]
 generalize hW0:((((w.alloc (.cells #[.slice a len cap,.int .i64 safe] 33)).alloc (.cells #[.int .i64 tx] 3)).alloc (.cells #[.int .i64 0] 3)).alloc (.cells #[.slice a len cap] 31)) = W0 at hB0 b3 b4 bs hsz ⊢
 have hI0:Lies4 (w.heap.size + 1 + 1 + 1 + 1) W0 (.slice a len cap) cs := by
  rcases hI.below hB0 with h | ⟨b,off,cap',e,hb,hc⟩
  ·exact .inl h
  ·exact .inr ⟨b,off,cap',e,by omega,hc⟩
 refine wpIn_rangeFunc_ownH hro h1 (gf := 147) (lb := #[.pointer (some ⟨w.heap.size + 1 + 1 + 1,0,none⟩)]) rfl h8 (enters_of Tryz.func147 (by kernel_rfl) rfl)
  (bk_stops F (n - 1) h8 hro (by omega) (w.heap.size + 1 + 1 + 1) (w.heap.size + 1 + 1 + 1 + 1) (.slice a len cap) cs hreach W0 (by omega) (by omega) bs.cell hI0) belowK_t (belowK_b (by omega)) (Below.refl _ _) (fun _ => rfl)
  (fun pre W => ((∀ p ∈ pre,isOf tx p.2 = false) ∧ W.cell? ⟨w.heap.size + 1,0,none⟩ = some (.int .i64 tx) ∧ W.cell? ⟨w.heap.size + 1 + 1,0,none⟩ = some (.int .i64 0) ∧ W.frozen? ⟨w.heap.size + 1 + 1,0,none⟩ = false ∧ w.heap.size + 1 + 1 + 1 + 1 ≤ W.heap.size) ∧ Below w.heap.size w W)
  (fun c pre W => (c = .ret ∧ ∃ ini last,pre = ini ++ [last] ∧ (∀ p ∈ ini,isOf tx p.2 = false) ∧ isOf tx last.2 = true ∧ W.cell? ⟨w.heap.size + 1 + 1,0,none⟩ = some (.int .i64 last.2.1)) ∧ Below w.heap.size w W)
  (OwnFrom.and (Own.from (fun s A B row hs hg hr => ⟨hs.1,cell_kept hs.2.1 hg hr,cell_kept hs.2.2.1 hg hr,(frozen_kept hs.2.2.1 hg hr).trans hs.2.2.2.1,Nat.le_trans hs.2.2.2.2 hg.size⟩) _) (ownFrom_below (Nat.le_refl _) (by omega)))
  (fun c => OwnFrom.and (Own.from (fun s A B row hs hg hr => by obtain ⟨hc,ini,last,e1,e2,e3,e4⟩ := hs; exact ⟨hc,ini,last,e1,e2,e3,cell_kept e4 hg hr⟩) _) (ownFrom_below (Nat.le_refl _) (by omega)))
  ⟨⟨by simp,b3.cell,b4.cell,b4.frozen,by omega⟩,hB0⟩
  (fun x a' W => ∃ Bx,w.heap.size + 1 + 1 + 1 + 1 ≤ Bx ∧ W.cell? ⟨Bx,0,none⟩ = some (.int .i64 x.2.1) ∧ W.cell? ⟨Bx,1,none⟩ = some (.int .i64 x.2.2.1) ∧
   a' = { tmps := #[.agg #[.slice a len cap,.int .i64 safe],.int .i64 tx,.pointer (some ⟨w.heap.size,0,none⟩),.pointer (some ⟨w.heap.size + 1,0,none⟩),.pointer (some ⟨w.heap.size + 1 + 1,0,none⟩),undef,.pointer (some ⟨Bx,0,none⟩),.pointer (some ⟨w.heap.size,0,none⟩),.slice a len cap,.func (.func 147) #[] #[.pointer (some ⟨w.heap.size + 1 + 1 + 1,0,none⟩)],.int .i64 (x.1:Int),.agg (cE x.2).toArray,undef,undef,undef,undef,undef,undef,undef,undef,undef,undef,undef],defers := [] })
  (fun x a' => Own.from (fun s A B row hs hg hr => by obtain ⟨Bx,e1,e2,e3,e4⟩ := hs; exact ⟨Bx,e1,cell_kept e2 hg hr,cell_kept e3 hg hr,e4⟩) _) ?assign ?body ?done ?stop
 case assign =>
  rintro l pre x W K ⟨⟨hp,h3,h4',h5,h9⟩,hB⟩ hK
  obtain ⟨i,z0,z1,v2,v3⟩ := x
  simp only [cE]
  gi_wp2
  exact hK _ _ ((KeepsOthers.alloc _ _).from _) ((Below.refl _ W).alloc h9 _) ⟨⟨hp,cellA _ h3,cellA _ h4',frozenA _ h4' h5,by simp; omega⟩,hB.alloc (by omega) _⟩
   ⟨W.heap.size,h9,cellN rfl,cellN rfl,rfl⟩
 case body =>
  rintro l pre x a' W hl hr ⟨⟨hp,h3,h4',h5,h9⟩,hB⟩ ⟨Bx,hBx,x0,x1,rfl⟩ hlt
  gi_wp2
  ·have e1:x.2.2.1 = tx := by assumption
   have e2:(x.2.1 != 4) = true := by assumption
   have e2:x.2.1 ≠ 4 := by simpa using e2
   exact ⟨(KeepsOthers.setCell _ _ _).from _,⟨rfl,pre,x,rfl,hp,by simp [isOf,e1,e2],World.cell?_setCell_same' _ _ _ (by rw [h4']; rfl)⟩,hB.setCell (p := ⟨w.heap.size + 1 + 1,0,none⟩) (by show _ ≤ w.heap.size + 1 + 1; omega) _⟩
  ·have e2:(x.2.1 != 4) = false := by assumption
   have e2:x.2.1 = 4 := by simpa using e2
   exact ⟨KeepsFrom.refl _ _,Below.refl _ _,⟨fun p hp' => (List.mem_append.1 hp').elim (hp p) (fun e => by simp at e; subst e; simp [isOf,e2]),h3,h4',h5,h9⟩,hB⟩
  ·have e1:¬ x.2.2.1 = tx := by assumption
   exact ⟨KeepsFrom.refl _ _,Below.refl _ _,⟨fun p hp' => (List.mem_append.1 hp').elim (hp p) (fun e => by simp at e; subst e; simp [isOf,e1]),h3,h4',h5,h9⟩,hB⟩
 case done =>
  rintro D ys W hD rfl ⟨⟨hne,h3,hcr,hfr,h9⟩,hB⟩ hK
  gi_wp2
  have hK' := (KeepsOthers.setCell W ⟨w.heap.size + 1 + 1,0,none⟩ (.int .i64 0)).same D _ hK rfl
  refine ⟨by simp,.inl ⟨_,_,rfl,run_takeDeferred hK',?_⟩⟩
  have hc5 := cell_kept (World.cell?_setCell_same' W ⟨w.heap.size + 1 + 1,0,none⟩ (.int .i64 0) (by rw [hcr]; rfl)) (grownBy_putObj' _ D (.deferred none)) (fun r e => by cases e; exact ⟨_,hK',rfl⟩)
  refine ⟨.int .i64 0,?_,.inl ⟨rfl,fun j hj => ?_⟩,(hB.setCell (p := ⟨w.heap.size + 1 + 1,0,none⟩) (by show _ ≤ w.heap.size + 1 + 1; omega) _).trans (belowK_b (w := w) (Nat.le_refl _) _ D _ _ (by omega) hK' rfl rfl)⟩
  ·simp [results,Tryz.f52,go_sem,hc5]
  ·have := hne (backF cs (cs.length - 1 - j)) (List.mem_map.2 ⟨_,List.mem_range.2 (by omega),rfl⟩)
   simp only [backF] at this
   rwa [show cs.length - 1 - (cs.length - 1 - j) = j by omega] at this
 case stop =>
  rintro D c pre W hD ⟨k,hk,rfl⟩ ⟨⟨rfl,ini,last,e1,e2,e3,hcr⟩,hB⟩ hK
  gi_wp2
  refine ⟨by simp,.inl ⟨_,_,rfl,run_takeDeferred hK,?_⟩⟩
  have hc5 := cell_kept hcr (grownBy_putObj' _ D (.deferred none)) (fun r e => by cases e; exact ⟨_,hK,rfl⟩)
  obtain ⟨k',rfl⟩:∃ k',k = k' + 1 := by
   cases k with
   | zero => simp at e1
   | succ k' => exact ⟨k',rfl⟩
  rw [List.range_succ,List.map_append] at e1
  obtain ⟨rfl,e5⟩ := List.append_inj' e1 rfl
  obtain rfl:backF cs k' = last := by simpa using e5
  refine ⟨.int .i64 (cs.getD (cs.length - 1 - k') e0).1,?_,.inr ⟨cs.length - 1 - k',by omega,rfl,e3,fun j hj hj2 => ?_⟩,hB.trans (belowK_b (w := w) (Nat.le_refl _) W D _ _ (by omega) hK rfl rfl)⟩
  ·simp [results,Tryz.f52,go_sem,hc5]
  ·have := e2 (backF cs (cs.length - 1 - j)) (List.mem_map.2 ⟨_,List.mem_range.2 (by omega),rfl⟩)
   simp only [backF] at this
   rwa [show cs.length - 1 - (cs.length - 1 - j) = j by omega] at this
end Go.Proofs.YtedhpmhlmdcpbaaGreatDoor.E
namespace Go.Proofs.YtedhpmhlmdcpbaaGreatDoor.E
open Go Go.RowKit
def msi_LogDisk_of:List PM := [.rd,.own]
def g_Vi_LogDisk_of_0 (l:List (Int×Int×List ByteArray×List (ByteArray×Bool×List Int))) (tx:Int):Int := ((l.reverse.find? fun n => decide (n.2.1 = tx)&&!decide (n.1 = 4)).map (·.1)).getD 0
def g_Ai_LogDisk_of (l:List (Int×Int×List ByteArray×List (ByteArray×Bool×List Int))):Bool := decide (l.length ≤ 1048576)
def Fi_LogDisk_of:FSem := fun ys => match ys with
 | [.val true [.sl .any 92 (.pair (.int .i64) (.pair (.int .i64) (.pair (.sl 9 .str) (.sl 155 (.pair .str (.pair .bool (.sl 3 (.int .i64)))))))) a0,.int .i64 a1],.val false [.int .i64 a2]] => some (g_Ai_LogDisk_of a0,.val false [.int .i64 (g_Vi_LogDisk_of_0 a0 a2)],[])
 | _ => none
theorem si_LogDisk_of:Sound Tryz.prog 52 msi_LogDisk_of Fi_LogDisk_of := by
 refine ⟨⟨_,Tryz.func52,by kernel_rfl,by kernel_rfl⟩,fun w S ψ ys vs r outs hF hh hg => ?_⟩
 unfold Fi_LogDisk_of at hF
 split at hF
 ·rename_i l safe tx
  simp only [Option.some.injEq,Prod.mk.injEq,g_Ai_LogDisk_of,decide_eq_true_eq] at hF
  obtain ⟨hlen,rfl,rfl⟩ := hF
  match vs,hg with
  | [v0,v1],hg =>
  obtain ⟨⟨us,⟨_,hb⟩,rfl,_⟩,⟨us1,⟨_,hb1⟩,rfl,_⟩,_⟩ := hg
  match us,hb,us1,hb1 with
  | [sv,iv],⟨⟨_,h1⟩,h2,_⟩,[tv],⟨h3,_⟩ =>
  have h2:iv = .int .i64 safe := h2
  have h3:tv = .int .i64 tx := h3
  subst h2 h3
  obtain ⟨A,cap,cs,rfl,hcl,hlies,hcs⟩ := notes_cells hh.lt h1
  have hof:∀ (j:Nat) (x:NT_.den),l[j]? = some x → isOf tx (cs.getD j e0) = (decide (x.2.1 = tx)&&!decide (x.1 = 4)) ∧ (cs.getD j e0).1 = x.1 := by
   intro j x hx
   obtain ⟨e,a1,a2,a3,_⟩ := hcs j x hx
   rw [List.getD,a1]
   simp only [Option.getD_some,isOf,a2,a3,and_self]
  refine Calls.mono ((callsIn_wide (n := 3)).1 (of_in Fence.wide 3 trivial trivial trivial rfl (by omega) A l.length cap safe tx cs (by omega) w hlies)) ?_
  rintro e w' ⟨he,hbl⟩
  have hval:e = .returned (.int .i64 (g_Vi_LogDisk_of_0 l tx)) := by
   unfold g_Vi_LogDisk_of_0
   rcases he with ⟨rfl,hno⟩ | ⟨k,hk,rfl,hk1,hk2⟩
   ·rw [List.find?_eq_none.2]
    ·rfl
    ·intro x hx
     obtain ⟨i,hi,rfl⟩ := List.getElem_of_mem (List.mem_reverse.1 hx)
     have := hno i (by omega)
     rw [(hof i _ (List.getElem?_eq_getElem hi)).1] at this
     simpa using this
   ·have hk':k < l.length := by omega
    have hx := List.getElem?_eq_getElem hk'
    rw [(hof k _ hx).1] at hk1
    rw [(hof k _ hx).2]
    have:l.reverse.find? (fun n => decide (n.2.1 = tx)&&!decide (n.1 = 4)) = some l[k] := by
     rw [List.find?_eq_some_iff_getElem]
     refine ⟨hk1,l.length - 1 - k,by simp; omega,?_,fun j hj => ?_⟩
     ·rw [List.getElem_reverse]
      congr 1
      omega
     ·rw [List.getElem_reverse]
      have := hk2 (l.length - 1 - j) (by omega) (by omega)
      rw [(hof _ _ (List.getElem?_eq_getElem (by omega))).1] at this
      simp only [this,Bool.not_false]
    rw [this]
    rfl
  subst hval
  refine ⟨S,fun _ _ _ => False,⟨hbl.os,hbl.tape,hbl.output,hbl.size,fun g hg' _ => ⟨hbl.block g hg',Iff.rfl,fun ⟨_,_,h⟩ => h⟩,⟨fun g hg' => Nat.lt_of_lt_of_le (hh.lt g hg') hbl.size,fun _ _ _ h => h.elim,fun _ _ _ _ _ h => h.elim⟩⟩,⟨[_],⟨rfl,rfl,trivial⟩,rfl,fun _ => rfl⟩,rfl⟩
 ·cases hF
end Go.Proofs.YtedhpmhlmdcpbaaGreatDoor.E
end
namespace Go.Proofs.YtedhpmhlmdcpbaaGreatDoor.E
open Go
set_option maxRecDepth 100000
set_option maxHeartbeats 0
noncomputable section
def Ei_OpOk_1:Env where
 tt := mkTI Tryz.prog
 fn := fun f => match f with
  | 75 => some (msi_in,FSem.wk msi_in Fi_in)
  | _ => none
 bxf := fun _ => none
 mv := []
 keep := fun _ => []
 keepB := fun _ => []
 keepX := fun _ => []
 keepXB := fun _ => []
theorem goodFi_OpOk_1:∀ f ms F,Ei_OpOk_1.fn f = some (ms,F) → Sound Tryz.prog f ms F := fun f ms F h => by
 unfold Ei_OpOk_1 at h
 dsimp only at h
 split at h
 ·exact gF si_in h
 ·cases h
theorem goodi_OpOk_1:Good Tryz.prog Ei_OpOk_1 := ⟨rfl,goodFi_OpOk_1,fun f ms F h => by cases h⟩
def Oi_OpOk_1_0:Orc := fun _ _ => none
def msi_OpOk_1:List PM := [.own]
def lsi_OpOk_1:List (Nat×Code) := loopsAll 0 (Tryz.f115.body.getD .skip)
theorem ki_OpOk_1_0:OrcOk Ei_OpOk_1 Oi_OpOk_1_0 lsi_OpOk_1 0 := orcOk_none
def g_Ai_OpOk_1 (a0:Int):Bool := g_Ai_in a0 (0:Int) (9:Int)
def g_Vi_OpOk_1_0 (a0:Int):Bool := g_Vi_in_0 a0 (0:Int) (9:Int)
def Fi_OpOk_1:FSem := fun ys => match ys with
 | [.val false [.int .i64 a0]] => some ((g_Ai_OpOk_1 a0),.val false [.bool (g_Vi_OpOk_1_0 a0)],[])
 | _ => none
theorem vi_OpOk_1 (a0:Int):collapseH .std Ei_OpOk_1 Oi_OpOk_1_0 (execFn Ei_OpOk_1 Tryz.f115 msi_OpOk_1 [.val false [.int .i64 a0]]) = some ((g_Ai_OpOk_1 a0),.val false [.bool (g_Vi_OpOk_1_0 a0)],[]) := by kernel_rfl
theorem si_OpOk_1:Sound Tryz.prog 115 msi_OpOk_1 Fi_OpOk_1 := by
 refine fn_gen goodi_OpOk_1 (by kernel_rfl) .std (fn := Tryz.f115) (c := (Tryz.f115.body.getD .skip)) (o := Oi_OpOk_1_0) (k := 0) (by kernel_rfl) (by kernel_rfl) (by kernel_rfl) (by kernel_rfl) (by decide) ki_OpOk_1_0 ?_
 intro ys r outs h
 unfold Fi_OpOk_1 at h
 split at h
 ·exact (vi_OpOk_1 _).trans h
 ·cases h
def Ei_OpOk_2:Env where
 tt := mkTI Tryz.prog
 fn := fun f => match f with
  | 75 => some (msi_in,FSem.wk msi_in Fi_in)
  | _ => none
 bxf := fun _ => none
 mv := []
 keep := fun _ => []
 keepB := fun _ => []
 keepX := fun _ => []
 keepXB := fun _ => []
theorem goodFi_OpOk_2:∀ f ms F,Ei_OpOk_2.fn f = some (ms,F) → Sound Tryz.prog f ms F := fun f ms F h => by
 unfold Ei_OpOk_2 at h
 dsimp only at h
 split at h
 ·exact gF si_in h
 ·cases h
theorem goodi_OpOk_2:Good Tryz.prog Ei_OpOk_2 := ⟨rfl,goodFi_OpOk_2,fun f ms F h => by cases h⟩
def Oi_OpOk_2_0:Orc := fun _ _ => none
def msi_OpOk_2:List PM := [.own]
def lsi_OpOk_2:List (Nat×Code) := loopsAll 0 (Tryz.f116.body.getD .skip)
theorem ki_OpOk_2_0:OrcOk Ei_OpOk_2 Oi_OpOk_2_0 lsi_OpOk_2 0 := orcOk_none
def g_Ai_OpOk_2 (a0:Int):Bool := g_Ai_in a0 (0:Int) (99:Int)
def g_Vi_OpOk_2_0 (a0:Int):Bool := g_Vi_in_0 a0 (0:Int) (99:Int)
def Fi_OpOk_2:FSem := fun ys => match ys with
 | [.val false [.int .i64 a0]] => some ((g_Ai_OpOk_2 a0),.val false [.bool (g_Vi_OpOk_2_0 a0)],[])
 | _ => none
theorem vi_OpOk_2 (a0:Int):collapseH .std Ei_OpOk_2 Oi_OpOk_2_0 (execFn Ei_OpOk_2 Tryz.f116 msi_OpOk_2 [.val false [.int .i64 a0]]) = some ((g_Ai_OpOk_2 a0),.val false [.bool (g_Vi_OpOk_2_0 a0)],[]) := by kernel_rfl
theorem si_OpOk_2:Sound Tryz.prog 116 msi_OpOk_2 Fi_OpOk_2 := by
 refine fn_gen goodi_OpOk_2 (by kernel_rfl) .std (fn := Tryz.f116) (c := (Tryz.f116.body.getD .skip)) (o := Oi_OpOk_2_0) (k := 0) (by kernel_rfl) (by kernel_rfl) (by kernel_rfl) (by kernel_rfl) (by decide) ki_OpOk_2_0 ?_
 intro ys r outs h
 unfold Fi_OpOk_2 at h
 split at h
 ·exact (vi_OpOk_2 _).trans h
 ·cases h
def Ei_OpOk:Env where
 tt := mkTI Tryz.prog
 fn := fun f => match f with
  | 115 => some (msi_OpOk_1,FSem.wk msi_OpOk_1 Fi_OpOk_1)
  | 116 => some (msi_OpOk_2,FSem.wk msi_OpOk_2 Fi_OpOk_2)
  | _ => none
 bxf := fun _ => none
 mv := []
 keep := fun _ => []
 keepB := fun _ => []
 keepX := fun _ => []
 keepXB := fun _ => []
theorem goodFi_OpOk:∀ f ms F,Ei_OpOk.fn f = some (ms,F) → Sound Tryz.prog f ms F := fun f ms F h => by
 unfold Ei_OpOk at h
 dsimp only at h
 split at h
 ·exact gF si_OpOk_1 h
 ·exact gF si_OpOk_2 h
 ·cases h
theorem goodi_OpOk:Good Tryz.prog Ei_OpOk := ⟨rfl,goodFi_OpOk,fun f ms F h => by cases h⟩
def Oi_OpOk_0:Orc := fun _ _ => none
def msi_OpOk:List PM := [.own]
def lsi_OpOk:List (Nat×Code) := loopsAll 0 (Tryz.f58.body.getD .skip)
theorem ki_OpOk_0:OrcOk Ei_OpOk Oi_OpOk_0 lsi_OpOk 0 := orcOk_none
def g_Ai_OpOk (a0:Int) (a1:Int) (a2:Int) (a3:Int) (a4:Int) (a5:Int) (a6:Int):Bool := g_Ai_OpOk_1 a1&&(!g_Vi_OpOk_1_0 a1 || g_Ai_OpOk_1 a2&&(!g_Vi_OpOk_1_0 a2 || g_Ai_OpOk_1 a3&&(!g_Vi_OpOk_1_0 a3 || g_Ai_OpOk_1 a5&&(!g_Vi_OpOk_1_0 a5 || g_Ai_OpOk_2 a4&&(!g_Vi_OpOk_2_0 a4 || g_Ai_OpOk_2 a6&&(!g_Vi_OpOk_2_0 a6 || bif a0 == 1 then a0 == 1 || (a0 == 2 || (a0 == 3 || true)) else a0 == 5 || (a0 == 2 || (a0 == 3 || true))))))))
def g_Vi_OpOk_0 (a0:Int) (a1:Int) (a2:Int) (a3:Int) (a4:Int) (a5:Int) (a6:Int):Bool := bif !g_Vi_OpOk_1_0 a1 then false else bif !g_Vi_OpOk_1_0 a2 then false else bif !g_Vi_OpOk_1_0 a3 then false else bif !g_Vi_OpOk_1_0 a5 then false else bif !g_Vi_OpOk_2_0 a4 then false else bif !g_Vi_OpOk_2_0 a6 then false else bif a0 == 1 then bif a0 == 1 then a0 == a0&&(a1 == a1&&(a2 == a2&&(a3 == 0&&(a4 == 0&&(a5 == 0&&(a6 == 0&&true)))))) else bif a0 == 2 then a0 == a0&&(a1 == a1&&(a2 == a2&&(a3 == a3&&(a4 == a4&&(a5 == 0&&(a6 == 0&&true)))))) else bif a0 == 3 then a0 == a0&&(a1 == 0&&(a2 == 0&&(a3 == a3&&(a4 == a4&&(a5 == a5&&(a6 == 0&&true)))))) else bif a0 == 4 then a0 == a0&&(a1 == 0&&(a2 == 0&&(a3 == 0&&(a4 == 0&&(a5 == a5&&(a6 == a6&&true)))))) else false else bif a0 == 5 then a0 == a0&&(a1 == a1&&(a2 == a2&&(a3 == 0&&(a4 == 0&&(a5 == 0&&(a6 == 0&&true)))))) else bif a0 == 2 then a0 == a0&&(a1 == a1&&(a2 == a2&&(a3 == a3&&(a4 == a4&&(a5 == 0&&(a6 == 0&&true)))))) else bif a0 == 3 then a0 == a0&&(a1 == 0&&(a2 == 0&&(a3 == a3&&(a4 == a4&&(a5 == a5&&(a6 == 0&&true)))))) else bif a0 == 4 then a0 == a0&&(a1 == 0&&(a2 == 0&&(a3 == 0&&(a4 == 0&&(a5 == a5&&(a6 == a6&&true)))))) else false
def Fi_OpOk:FSem := fun ys => match ys with
 | [.val true [.int .i64 a0,.int .i64 a1,.int .i64 a2,.int .i64 a3,.int .i64 a4,.int .i64 a5,.int .i64 a6]] => some ((g_Ai_OpOk a0 a1 a2 a3 a4 a5 a6),.val false [.bool (g_Vi_OpOk_0 a0 a1 a2 a3 a4 a5 a6)],[])
 | _ => none
theorem vi_OpOk (a0:Int) (a1:Int) (a2:Int) (a3:Int) (a4:Int) (a5:Int) (a6:Int):collapseH .std Ei_OpOk Oi_OpOk_0 (execFn Ei_OpOk Tryz.f58 msi_OpOk [.val true [.int .i64 a0,.int .i64 a1,.int .i64 a2,.int .i64 a3,.int .i64 a4,.int .i64 a5,.int .i64 a6]]) = some ((g_Ai_OpOk a0 a1 a2 a3 a4 a5 a6),.val false [.bool (g_Vi_OpOk_0 a0 a1 a2 a3 a4 a5 a6)],[]) := by kernel_rfl
theorem si_OpOk:Sound Tryz.prog 58 msi_OpOk Fi_OpOk := by
 refine fn_gen goodi_OpOk (by kernel_rfl) .std (fn := Tryz.f58) (c := (Tryz.f58.body.getD .skip)) (o := Oi_OpOk_0) (k := 0) (by kernel_rfl) (by kernel_rfl) (by kernel_rfl) (by kernel_rfl) (by decide) ki_OpOk_0 ?_
 intro ys r outs h
 unfold Fi_OpOk at h
 split at h
 ·exact (vi_OpOk _ _ _ _ _ _ _).trans h
 ·cases h
def Ei_isService:Env where
 tt := mkTI Tryz.prog
 fn := fun f => match f with
  | 75 => some (msi_in,FSem.wk msi_in Fi_in)
  | _ => none
 bxf := fun _ => none
 mv := []
 keep := fun _ => []
 keepB := fun _ => []
 keepX := fun _ => []
 keepXB := fun _ => []
theorem goodFi_isService:∀ f ms F,Ei_isService.fn f = some (ms,F) → Sound Tryz.prog f ms F := fun f ms F h => by
 unfold Ei_isService at h
 dsimp only at h
 split at h
 ·exact gF si_in h
 ·cases h
theorem goodi_isService:Good Tryz.prog Ei_isService := ⟨rfl,goodFi_isService,fun f ms F h => by cases h⟩
def Oi_isService_0:Orc := fun _ _ => none
def msi_isService:List PM := [.own]
def lsi_isService:List (Nat×Code) := loopsAll 0 (Tryz.f126.body.getD .skip)
theorem ki_isService_0:OrcOk Ei_isService Oi_isService_0 lsi_isService 0 := orcOk_none
def g_Ai_isService (a0:Int):Bool := g_Ai_in a0 (1:Int) (3:Int)
def g_Vi_isService_0 (a0:Int):Bool := g_Vi_in_0 a0 (1:Int) (3:Int)
def Fi_isService:FSem := fun ys => match ys with
 | [.val false [.int .i64 a0]] => some ((g_Ai_isService a0),.val false [.bool (g_Vi_isService_0 a0)],[])
 | _ => none
theorem vi_isService (a0:Int):collapseH .std Ei_isService Oi_isService_0 (execFn Ei_isService Tryz.f126 msi_isService [.val false [.int .i64 a0]]) = some ((g_Ai_isService a0),.val false [.bool (g_Vi_isService_0 a0)],[]) := by kernel_rfl
theorem si_isService:Sound Tryz.prog 126 msi_isService Fi_isService := by
 refine fn_gen goodi_isService (by kernel_rfl) .std (fn := Tryz.f126) (c := (Tryz.f126.body.getD .skip)) (o := Oi_isService_0) (k := 0) (by kernel_rfl) (by kernel_rfl) (by kernel_rfl) (by kernel_rfl) (by decide) ki_isService_0 ?_
 intro ys r outs h
 unfold Fi_isService at h
 split at h
 ·exact (vi_isService _).trans h
 ·cases h
def Ei_servicesOk:Env where
 tt := mkTI Tryz.prog
 fn := fun f => match f with
  | 126 => some (msi_isService,FSem.wk msi_isService Fi_isService)
  | _ => none
 bxf := fun _ => none
 mv := []
 keep := fun b => match b with
  | 0 => [(0,false),(5,false),(6,false),(7,false)]
  | _ => []
 keepB := fun b => match b with
  | 0 => []
  | _ => []
 keepX := fun b => match b with
  | 0 => [(2,false)]
  | _ => []
 keepXB := fun b => match b with
  | 0 => []
  | _ => []
theorem goodFi_servicesOk:∀ f ms F,Ei_servicesOk.fn f = some (ms,F) → Sound Tryz.prog f ms F := fun f ms F h => by
 unfold Ei_servicesOk at h
 dsimp only at h
 split at h
 ·exact gF si_isService h
 ·cases h
theorem goodi_servicesOk:Good Tryz.prog Ei_servicesOk := ⟨rfl,goodFi_servicesOk,fun f ms F h => by cases h⟩
def Oi_servicesOk_0:Orc := fun _ _ => none
def msi_servicesOk:List PM := [.rd]
def lsi_servicesOk:List (Nat×Code) := loopsAll 0 (Tryz.f97.body.getD .skip)
def ci_servicesOk_0:Code := (loopOf 0 (Tryz.f97.body.getD .skip)).getD .skip
theorem lseqi_servicesOk:lsi_servicesOk = [(0,ci_servicesOk_0)] := by kernel_rfl
theorem mi_servicesOk_0:∀ p,p ∈ lsi_servicesOk → p.1 = 0 → p.2 = ci_servicesOk_0 := by
 intro p hp
 rw [lseqi_servicesOk] at hp
 simp only [List.mem_cons,List.not_mem_nil,or_false] at hp
 subst hp; simp
theorem ki_servicesOk_0:OrcOk Ei_servicesOk Oi_servicesOk_0 lsi_servicesOk 0 := orcOk_none
def hi_servicesOk_0 (y0:List Int) (y1:List Int) (y2:Int) (y3:Int):List (Pl×LV) := [(.T 0,.t (.val false [.sl .any 3 (.int .i64) y0])),(.T 5,.t (.val false [.sl .any 3 (.int .i64) y1])),(.T 6,.t (.val false [.int .i64 y2])),(.T 7,.t (.val false [.int .i64 y3]))]
def g_Si_servicesOk_0 (y0:List Int) (y1:List Int) (y2:Int):(Int) → RT (Int) ((Bool) ⊕ (Unit))
 | y3 => .br (true) (.br (decide (y3 < y2)) (.br (decide (0 ≤ y3 ∧ y3 < (y1.length:Int))) (.br (g_Ai_isService (at_ (.int .i64) y1 (Int.toNat y3))) (.br (!g_Vi_isService_0 (at_ (.int .i64) y1 (Int.toNat y3))) (.out (.inl false)) (.br (true) (.br (decide (y3 > 0)) (.br (true) (.br (decide (0 ≤ IntKind.i64.wrap (y3 - 1) ∧ IntKind.i64.wrap (y3 - 1) < (y0.length:Int))) (.br (true) (.br (decide (at_ (.int .i64) y1 (Int.toNat y3) ≤ at_ (.int .i64) y0 (Int.toNat (IntKind.i64.wrap (y3 - 1))))) (.out (.inl false)) (.br (true) (.go (IntKind.i64.wrap (y3 + 1))) .bad)) .bad) .bad) .bad) (.br (true) (.go (IntKind.i64.wrap (y3 + 1))) .bad)) .bad)) .bad) .bad) (.out (.inr (())))) .bad
def g_Li_servicesOk_0 (y0:List Int) (y1:List Int) (y2:Int) (x:Int):Option ((Bool) ⊕ (Unit)) := loopO (g_Si_servicesOk_0 y0 y1 y2) x
def xi_servicesOk_0 (y0:List Int) (y1:List Int) (y2:Int):((Bool) ⊕ (Unit)) → Ex×List (Pl×LV) := fun
 | .inl r => (.ret,[(.T 2,.t (.val false [.bool r]))])
 | .inr (r) => (.exit 0,[(.T 2,.t (.val false [.undef]))])
def Oi_servicesOk_1:Orc := fun b h => match b,h with
 | 0,[(.T 0,.t (.val false [.sl .any 3 (.int .i64) y0])),(.T 5,.t (.val false [.sl .any 3 (.int .i64) y1])),(.T 6,.t (.val false [.int .i64 y2])),(.T 7,.t (.val false [.int .i64 y3]))] => some (okO (g_Li_servicesOk_0 y0 y1 y2 y3),(.br (isL (valO (g_Li_servicesOk_0 y0 y1 y2 y3))) (.leaf .ret [(.T 2,.t (.val false [.bool (getL (valO (g_Li_servicesOk_0 y0 y1 y2 y3)))]))]) (.leaf (.exit 0) [(.T 2,.t (.val false [.undef]))])))
 | b,h => Oi_servicesOk_0 b h
theorem bi_servicesOk_0 (y0:List Int) (y1:List Int) (y2:Int) (y3:Int):Tr.bt Ei_servicesOk Oi_servicesOk_0 (exec Ei_servicesOk 0 ci_servicesOk_0 (St.of (hi_servicesOk_0 y0 y1 y2 y3)) (leafRd Ei_servicesOk 0)) = (g_Si_servicesOk_0 y0 y1 y2 y3).bt (fun (y3:Int) => (hi_servicesOk_0 y0 y1 y2 y3)) (xi_servicesOk_0 y0 y1 y2) := by kernel_rfl
theorem ki_servicesOk_1:OrcOk Ei_servicesOk Oi_servicesOk_1 lsi_servicesOk 1 := orc_add ki_servicesOk_0 (fun n p hp h ex h' ho => by
 obtain ⟨b,c⟩ := p
 obtain ⟨xt,h1,h2⟩ := ho
 have h1:Oi_servicesOk_1 b h = some (true,xt) := h1
 unfold Oi_servicesOk_1 at h1
 split at h1
 ·injection h1 with h1
  injection h1 with e1 e2
  subst e2
  have hc:c = ci_servicesOk_0 := mi_servicesOk_0 _ hp rfl
  subst hc
  right
  rename_i y0 y1 y2 y3
  have key := LT_step ki_servicesOk_0 hp (fun q hq => loopsAll_in _ _ _ _ hp hq) (fun (y3:Int) => (hi_servicesOk_0 y0 y1 y2 y3)) (xi_servicesOk_0 y0 y1 y2) (g_Si_servicesOk_0 y0 y1 y2) (fun x => by first | exact bi_servicesOk_0 y0 y1 y2 x) n (x := y3) (okO_some e1)
  have hx:∀ r,XT.sel (.br (isL r) (.leaf .ret [(.T 2,.t (.val false [.bool (getL r)]))]) (.leaf (.exit 0) [(.T 2,.t (.val false [.undef]))])) = xi_servicesOk_0 y0 y1 y2 r := fun r => by first | rfl | rcases r with r | r <;> rfl | rcases r with r | r | r <;> rfl | rcases r with r | r | r | r <;> rfl
  have h3 := (hx (valO (g_Li_servicesOk_0 y0 y1 y2 y3))).symm.trans h2
  have e3 := congrArg Prod.fst h3
  have e4 := congrArg Prod.snd h3
  simp only at e3 e4
  rw [← e3,← e4]
  exact key
 ·exact .inl ⟨xt,h1,h2⟩)
def g_Ai_servicesOk (a0:List Int):Bool := okO (g_Li_servicesOk_0 a0 a0 (a0.length:Int) (0:Int))
def g_Vi_servicesOk_0 (a0:List Int):Bool := bif isL (valO (g_Li_servicesOk_0 a0 a0 (a0.length:Int) (0:Int))) then getL (valO (g_Li_servicesOk_0 a0 a0 (a0.length:Int) (0:Int))) else true
def Fi_servicesOk:FSem := fun ys => match ys with
 | [.val false [.sl .any 3 (.int .i64) a0]] => some ((g_Ai_servicesOk a0),.val false [.bool (g_Vi_servicesOk_0 a0)],[])
 | _ => none
theorem vi_servicesOk (a0:List Int):collapseH .std Ei_servicesOk Oi_servicesOk_1 (execFn Ei_servicesOk Tryz.f97 msi_servicesOk [.val false [.sl .any 3 (.int .i64) a0]]) = some ((g_Ai_servicesOk a0),.val false [.bool (g_Vi_servicesOk_0 a0)],[]) := by kernel_rfl
theorem si_servicesOk:Sound Tryz.prog 97 msi_servicesOk Fi_servicesOk := by
 refine fn_gen goodi_servicesOk (by kernel_rfl) .std (fn := Tryz.f97) (c := (Tryz.f97.body.getD .skip)) (o := Oi_servicesOk_1) (k := 1) (by kernel_rfl) (by kernel_rfl) (by kernel_rfl) (by kernel_rfl) (by decide) ki_servicesOk_1 ?_
 intro ys r outs h
 unfold Fi_servicesOk at h
 split at h
 ·exact (vi_servicesOk _).trans h
 ·cases h
def Ei_FroOk_1:Env where
 tt := mkTI Tryz.prog
 fn := fun _ => none
 bxf := fun _ => none
 mv := []
 keep := fun _ => []
 keepB := fun _ => []
 keepX := fun _ => []
 keepXB := fun _ => []
theorem goodFi_FroOk_1:∀ f ms F,Ei_FroOk_1.fn f = some (ms,F) → Sound Tryz.prog f ms F := fun f ms F h => by cases h
theorem goodi_FroOk_1:Good Tryz.prog Ei_FroOk_1 := ⟨rfl,goodFi_FroOk_1,fun f ms F h => by cases h⟩
def Oi_FroOk_1_0:Orc := fun _ _ => none
def msi_FroOk_1:List PM := [.rd]
def lsi_FroOk_1:List (Nat×Code) := loopsAll 0 (Tryz.f95.body.getD .skip)
theorem ki_FroOk_1_0:OrcOk Ei_FroOk_1 Oi_FroOk_1_0 lsi_FroOk_1 0 := orcOk_none
def g_Ai_FroOk_1 (a0:Int) (a1:Int) (a2:List ByteArray) (a3:tL2):Bool := !a0 != 2 || true
def g_Vi_FroOk_1_0 (a0:Int) (a1:Int) (a2:List ByteArray) (a3:tL2):Bool := bif a0 != 2 then a0 != 4 else false
def Fi_FroOk_1:FSem := fun ys => match ys with
 | [.val true [.int .i64 a0,.int .i64 a1,.sl .any 9 .str a2,.sl .any 155 (.pair .str (.pair .bool (.sl 3 (.int .i64)))) a3]] => some ((g_Ai_FroOk_1 a0 a1 a2 a3),.val false [.bool (g_Vi_FroOk_1_0 a0 a1 a2 a3)],[])
 | _ => none
theorem vi_FroOk_1 (a0:Int) (a1:Int) (a2:List ByteArray) (a3:tL2):collapseH .std Ei_FroOk_1 Oi_FroOk_1_0 (execFn Ei_FroOk_1 Tryz.f95 msi_FroOk_1 [.val true [.int .i64 a0,.int .i64 a1,.sl .any 9 .str a2,.sl .any 155 (.pair .str (.pair .bool (.sl 3 (.int .i64)))) a3]]) = some ((g_Ai_FroOk_1 a0 a1 a2 a3),.val false [.bool (g_Vi_FroOk_1_0 a0 a1 a2 a3)],[]) := by kernel_rfl
theorem si_FroOk_1:Sound Tryz.prog 95 msi_FroOk_1 Fi_FroOk_1 := by
 refine fn_gen goodi_FroOk_1 (by kernel_rfl) .std (fn := Tryz.f95) (c := (Tryz.f95.body.getD .skip)) (o := Oi_FroOk_1_0) (k := 0) (by kernel_rfl) (by kernel_rfl) (by kernel_rfl) (by kernel_rfl) (by decide) ki_FroOk_1_0 ?_
 intro ys r outs h
 unfold Fi_FroOk_1 at h
 split at h
 ·exact (vi_FroOk_1 _ _ _ _).trans h
 ·cases h
def Eslices_IndexFunc_i_LogNote_i_LogNote__i_FroOk_1:Env where
 tt := mkTI Tryz.prog
 fn := fun f => match f with
  | 95 => some (msi_FroOk_1,FSem.wk msi_FroOk_1 Fi_FroOk_1)
  | _ => none
 bxf := fun _ => none
 mv := []
 keep := fun b => match b with
  | 0 => [(0,false),(1,false),(7,false),(8,false)]
  | _ => []
 keepB := fun b => match b with
  | 0 => []
  | _ => []
 keepX := fun b => match b with
  | 0 => [(4,false)]
  | _ => []
 keepXB := fun b => match b with
  | 0 => []
  | _ => []
theorem goodFslices_IndexFunc_i_LogNote_i_LogNote__i_FroOk_1:∀ f ms F,Eslices_IndexFunc_i_LogNote_i_LogNote__i_FroOk_1.fn f = some (ms,F) → Sound Tryz.prog f ms F := fun f ms F h => by
 unfold Eslices_IndexFunc_i_LogNote_i_LogNote__i_FroOk_1 at h
 dsimp only at h
 split at h
 ·exact gF si_FroOk_1 h
 ·cases h
theorem goodslices_IndexFunc_i_LogNote_i_LogNote__i_FroOk_1:Good Tryz.prog Eslices_IndexFunc_i_LogNote_i_LogNote__i_FroOk_1 := ⟨rfl,goodFslices_IndexFunc_i_LogNote_i_LogNote__i_FroOk_1,fun f ms F h => by cases h⟩
def Oslices_IndexFunc_i_LogNote_i_LogNote__i_FroOk_1_0:Orc := fun _ _ => none
def msslices_IndexFunc_i_LogNote_i_LogNote__i_FroOk_1:List PM := [.rd,.rd]
def lsslices_IndexFunc_i_LogNote_i_LogNote__i_FroOk_1:List (Nat×Code) := loopsAll 0 (Tryz.f110.body.getD .skip)
def cslices_IndexFunc_i_LogNote_i_LogNote__i_FroOk_1_0:Code := (loopOf 0 (Tryz.f110.body.getD .skip)).getD .skip
theorem lseqslices_IndexFunc_i_LogNote_i_LogNote__i_FroOk_1:lsslices_IndexFunc_i_LogNote_i_LogNote__i_FroOk_1 = [(0,cslices_IndexFunc_i_LogNote_i_LogNote__i_FroOk_1_0)] := by kernel_rfl
theorem mslices_IndexFunc_i_LogNote_i_LogNote__i_FroOk_1_0:∀ p,p ∈ lsslices_IndexFunc_i_LogNote_i_LogNote__i_FroOk_1 → p.1 = 0 → p.2 = cslices_IndexFunc_i_LogNote_i_LogNote__i_FroOk_1_0 := by
 intro p hp
 rw [lseqslices_IndexFunc_i_LogNote_i_LogNote__i_FroOk_1] at hp
 simp only [List.mem_cons,List.not_mem_nil,or_false] at hp
 subst hp; simp
theorem kslices_IndexFunc_i_LogNote_i_LogNote__i_FroOk_1_0:OrcOk Eslices_IndexFunc_i_LogNote_i_LogNote__i_FroOk_1 Oslices_IndexFunc_i_LogNote_i_LogNote__i_FroOk_1_0 lsslices_IndexFunc_i_LogNote_i_LogNote__i_FroOk_1 0 := orcOk_none
def hslices_IndexFunc_i_LogNote_i_LogNote__i_FroOk_1_0 (y0:tL0) (y1:Int) (y2:Int):List (Pl×LV) := [(.T 0,.t (.val false [.sl .any 92 (.pair (.int .i64) (.pair (.int .i64) (.pair (.sl 9 .str) (.sl 155 (.pair .str (.pair .bool (.sl 3 (.int .i64)))))))) y0])),(.T 1,.t (.val false [.fn 95 []])),(.T 7,.t (.val false [.int .i64 y1])),(.T 8,.t (.val false [.int .i64 y2]))]
def g_Sslices_IndexFunc_i_LogNote_i_LogNote__i_FroOk_1_0 (y0:tL0) (y1:Int):(Int) → RT (Int) ((Int) ⊕ (Unit))
 | y2 => .br (true) (.br (decide (y2 < y1)) (.br (decide (0 ≤ y2 ∧ y2 < (y0.length:Int))) (.br (g_Ai_FroOk_1 (at_ yT1 y0 (Int.toNat y2)).1 (at_ yT1 y0 (Int.toNat y2)).2.1 (at_ yT1 y0 (Int.toNat y2)).2.2.1 (at_ yT1 y0 (Int.toNat y2)).2.2.2) (.br (g_Vi_FroOk_1_0 (at_ yT1 y0 (Int.toNat y2)).1 (at_ yT1 y0 (Int.toNat y2)).2.1 (at_ yT1 y0 (Int.toNat y2)).2.2.1 (at_ yT1 y0 (Int.toNat y2)).2.2.2) (.out (.inl y2)) (.br (true) (.go (IntKind.i64.wrap (y2 + 1))) .bad)) .bad) .bad) (.out (.inr (())))) .bad
def g_Lslices_IndexFunc_i_LogNote_i_LogNote__i_FroOk_1_0 (y0:tL0) (y1:Int) (x:Int):Option ((Int) ⊕ (Unit)) := loopO (g_Sslices_IndexFunc_i_LogNote_i_LogNote__i_FroOk_1_0 y0 y1) x
def xslices_IndexFunc_i_LogNote_i_LogNote__i_FroOk_1_0 (y0:tL0) (y1:Int):((Int) ⊕ (Unit)) → Ex×List (Pl×LV) := fun
 | .inl r => (.ret,[(.T 4,.t (.val false [.int .i64 r]))])
 | .inr (r) => (.exit 0,[(.T 4,.t (.val false [.undef]))])
def Oslices_IndexFunc_i_LogNote_i_LogNote__i_FroOk_1_1:Orc := fun b h => match b,h with
 | 0,[(.T 0,.t (.val false [.sl .any 92 (.pair (.int .i64) (.pair (.int .i64) (.pair (.sl 9 .str) (.sl 155 (.pair .str (.pair .bool (.sl 3 (.int .i64)))))))) y0])),(.T 1,.t (.val false [.fn 95 []])),(.T 7,.t (.val false [.int .i64 y1])),(.T 8,.t (.val false [.int .i64 y2]))] => some (okO (g_Lslices_IndexFunc_i_LogNote_i_LogNote__i_FroOk_1_0 y0 y1 y2),(.br (isL (valO (g_Lslices_IndexFunc_i_LogNote_i_LogNote__i_FroOk_1_0 y0 y1 y2))) (.leaf .ret [(.T 4,.t (.val false [.int .i64 (getL (valO (g_Lslices_IndexFunc_i_LogNote_i_LogNote__i_FroOk_1_0 y0 y1 y2)))]))]) (.leaf (.exit 0) [(.T 4,.t (.val false [.undef]))])))
 | b,h => Oslices_IndexFunc_i_LogNote_i_LogNote__i_FroOk_1_0 b h
theorem bslices_IndexFunc_i_LogNote_i_LogNote__i_FroOk_1_0 (y0:tL0) (y1:Int) (y2:Int):Tr.bt Eslices_IndexFunc_i_LogNote_i_LogNote__i_FroOk_1 Oslices_IndexFunc_i_LogNote_i_LogNote__i_FroOk_1_0 (exec Eslices_IndexFunc_i_LogNote_i_LogNote__i_FroOk_1 0 cslices_IndexFunc_i_LogNote_i_LogNote__i_FroOk_1_0 (St.of (hslices_IndexFunc_i_LogNote_i_LogNote__i_FroOk_1_0 y0 y1 y2)) (leafRd Eslices_IndexFunc_i_LogNote_i_LogNote__i_FroOk_1 0)) = (g_Sslices_IndexFunc_i_LogNote_i_LogNote__i_FroOk_1_0 y0 y1 y2).bt (fun (y2:Int) => (hslices_IndexFunc_i_LogNote_i_LogNote__i_FroOk_1_0 y0 y1 y2)) (xslices_IndexFunc_i_LogNote_i_LogNote__i_FroOk_1_0 y0 y1) := by kernel_rfl
theorem kslices_IndexFunc_i_LogNote_i_LogNote__i_FroOk_1_1:OrcOk Eslices_IndexFunc_i_LogNote_i_LogNote__i_FroOk_1 Oslices_IndexFunc_i_LogNote_i_LogNote__i_FroOk_1_1 lsslices_IndexFunc_i_LogNote_i_LogNote__i_FroOk_1 1 := orc_add kslices_IndexFunc_i_LogNote_i_LogNote__i_FroOk_1_0 (fun n p hp h ex h' ho => by
 obtain ⟨b,c⟩ := p
 obtain ⟨xt,h1,h2⟩ := ho
 have h1:Oslices_IndexFunc_i_LogNote_i_LogNote__i_FroOk_1_1 b h = some (true,xt) := h1
 unfold Oslices_IndexFunc_i_LogNote_i_LogNote__i_FroOk_1_1 at h1
 split at h1
 ·injection h1 with h1
  injection h1 with e1 e2
  subst e2
  have hc:c = cslices_IndexFunc_i_LogNote_i_LogNote__i_FroOk_1_0 := mslices_IndexFunc_i_LogNote_i_LogNote__i_FroOk_1_0 _ hp rfl
  subst hc
  right
  rename_i y0 y1 y2
  have key := LT_step kslices_IndexFunc_i_LogNote_i_LogNote__i_FroOk_1_0 hp (fun q hq => loopsAll_in _ _ _ _ hp hq) (fun (y2:Int) => (hslices_IndexFunc_i_LogNote_i_LogNote__i_FroOk_1_0 y0 y1 y2)) (xslices_IndexFunc_i_LogNote_i_LogNote__i_FroOk_1_0 y0 y1) (g_Sslices_IndexFunc_i_LogNote_i_LogNote__i_FroOk_1_0 y0 y1) (fun x => by first | exact bslices_IndexFunc_i_LogNote_i_LogNote__i_FroOk_1_0 y0 y1 x) n (x := y2) (okO_some e1)
  have hx:∀ r,XT.sel (.br (isL r) (.leaf .ret [(.T 4,.t (.val false [.int .i64 (getL r)]))]) (.leaf (.exit 0) [(.T 4,.t (.val false [.undef]))])) = xslices_IndexFunc_i_LogNote_i_LogNote__i_FroOk_1_0 y0 y1 r := fun r => by first | rfl | rcases r with r | r <;> rfl | rcases r with r | r | r <;> rfl | rcases r with r | r | r | r <;> rfl
  have h3 := (hx (valO (g_Lslices_IndexFunc_i_LogNote_i_LogNote__i_FroOk_1_0 y0 y1 y2))).symm.trans h2
  have e3 := congrArg Prod.fst h3
  have e4 := congrArg Prod.snd h3
  simp only at e3 e4
  rw [← e3,← e4]
  exact key
 ·exact .inl ⟨xt,h1,h2⟩)
def g_Aslices_IndexFunc_i_LogNote_i_LogNote__i_FroOk_1 (a0:tL0):Bool := okO (g_Lslices_IndexFunc_i_LogNote_i_LogNote__i_FroOk_1_0 a0 (a0.length:Int) (0:Int))
def g_Vslices_IndexFunc_i_LogNote_i_LogNote__i_FroOk_1_0 (a0:tL0):Int := bif isL (valO (g_Lslices_IndexFunc_i_LogNote_i_LogNote__i_FroOk_1_0 a0 (a0.length:Int) (0:Int))) then getL (valO (g_Lslices_IndexFunc_i_LogNote_i_LogNote__i_FroOk_1_0 a0 (a0.length:Int) (0:Int))) else (-1:Int)
def Fslices_IndexFunc_i_LogNote_i_LogNote__i_FroOk_1:FSem := fun ys => match ys with
 | [.val false [.sl .any 92 (.pair (.int .i64) (.pair (.int .i64) (.pair (.sl 9 .str) (.sl 155 (.pair .str (.pair .bool (.sl 3 (.int .i64)))))))) a0],.val false [.fn 95 []]] => some ((g_Aslices_IndexFunc_i_LogNote_i_LogNote__i_FroOk_1 a0),.val false [.int .i64 (g_Vslices_IndexFunc_i_LogNote_i_LogNote__i_FroOk_1_0 a0)],[])
 | _ => none
theorem vslices_IndexFunc_i_LogNote_i_LogNote__i_FroOk_1 (a0:tL0):collapseH .std Eslices_IndexFunc_i_LogNote_i_LogNote__i_FroOk_1 Oslices_IndexFunc_i_LogNote_i_LogNote__i_FroOk_1_1 (execFn Eslices_IndexFunc_i_LogNote_i_LogNote__i_FroOk_1 Tryz.f110 msslices_IndexFunc_i_LogNote_i_LogNote__i_FroOk_1 [.val false [.sl .any 92 (.pair (.int .i64) (.pair (.int .i64) (.pair (.sl 9 .str) (.sl 155 (.pair .str (.pair .bool (.sl 3 (.int .i64)))))))) a0],.val false [.fn 95 []]]) = some ((g_Aslices_IndexFunc_i_LogNote_i_LogNote__i_FroOk_1 a0),.val false [.int .i64 (g_Vslices_IndexFunc_i_LogNote_i_LogNote__i_FroOk_1_0 a0)],[]) := by kernel_rfl
theorem sslices_IndexFunc_i_LogNote_i_LogNote__i_FroOk_1:Sound Tryz.prog 110 msslices_IndexFunc_i_LogNote_i_LogNote__i_FroOk_1 Fslices_IndexFunc_i_LogNote_i_LogNote__i_FroOk_1 := by
 refine fn_gen goodslices_IndexFunc_i_LogNote_i_LogNote__i_FroOk_1 (by kernel_rfl) .std (fn := Tryz.f110) (c := (Tryz.f110.body.getD .skip)) (o := Oslices_IndexFunc_i_LogNote_i_LogNote__i_FroOk_1_1) (k := 1) (by kernel_rfl) (by kernel_rfl) (by kernel_rfl) (by kernel_rfl) (by decide) kslices_IndexFunc_i_LogNote_i_LogNote__i_FroOk_1_1 ?_
 intro ys r outs h
 unfold Fslices_IndexFunc_i_LogNote_i_LogNote__i_FroOk_1 at h
 split at h
 ·exact (vslices_IndexFunc_i_LogNote_i_LogNote__i_FroOk_1 _).trans h
 ·cases h
def Eslices_ContainsFunc_i_LogNote_i_LogNote__i_FroOk_1:Env where
 tt := mkTI Tryz.prog
 fn := fun f => match f with
  | 95 => some (msi_FroOk_1,FSem.wk msi_FroOk_1 Fi_FroOk_1)
  | 110 => some (msslices_IndexFunc_i_LogNote_i_LogNote__i_FroOk_1,FSem.wk msslices_IndexFunc_i_LogNote_i_LogNote__i_FroOk_1 Fslices_IndexFunc_i_LogNote_i_LogNote__i_FroOk_1)
  | _ => none
 bxf := fun _ => none
 mv := []
 keep := fun _ => []
 keepB := fun _ => []
 keepX := fun _ => []
 keepXB := fun _ => []
theorem goodFslices_ContainsFunc_i_LogNote_i_LogNote__i_FroOk_1:∀ f ms F,Eslices_ContainsFunc_i_LogNote_i_LogNote__i_FroOk_1.fn f = some (ms,F) → Sound Tryz.prog f ms F := fun f ms F h => by
 unfold Eslices_ContainsFunc_i_LogNote_i_LogNote__i_FroOk_1 at h
 dsimp only at h
 split at h
 ·exact gF si_FroOk_1 h
 ·exact gF sslices_IndexFunc_i_LogNote_i_LogNote__i_FroOk_1 h
 ·cases h
theorem goodslices_ContainsFunc_i_LogNote_i_LogNote__i_FroOk_1:Good Tryz.prog Eslices_ContainsFunc_i_LogNote_i_LogNote__i_FroOk_1 := ⟨rfl,goodFslices_ContainsFunc_i_LogNote_i_LogNote__i_FroOk_1,fun f ms F h => by cases h⟩
def Oslices_ContainsFunc_i_LogNote_i_LogNote__i_FroOk_1_0:Orc := fun _ _ => none
def msslices_ContainsFunc_i_LogNote_i_LogNote__i_FroOk_1:List PM := [.rd,.rd]
def lsslices_ContainsFunc_i_LogNote_i_LogNote__i_FroOk_1:List (Nat×Code) := loopsAll 0 (Tryz.f50.body.getD .skip)
theorem kslices_ContainsFunc_i_LogNote_i_LogNote__i_FroOk_1_0:OrcOk Eslices_ContainsFunc_i_LogNote_i_LogNote__i_FroOk_1 Oslices_ContainsFunc_i_LogNote_i_LogNote__i_FroOk_1_0 lsslices_ContainsFunc_i_LogNote_i_LogNote__i_FroOk_1 0 := orcOk_none
def g_Aslices_ContainsFunc_i_LogNote_i_LogNote__i_FroOk_1 (a0:tL0):Bool := g_Aslices_IndexFunc_i_LogNote_i_LogNote__i_FroOk_1 a0&&true
def g_Vslices_ContainsFunc_i_LogNote_i_LogNote__i_FroOk_1_0 (a0:tL0):Bool := decide (g_Vslices_IndexFunc_i_LogNote_i_LogNote__i_FroOk_1_0 a0 ≥ 0)
def Fslices_ContainsFunc_i_LogNote_i_LogNote__i_FroOk_1:FSem := fun ys => match ys with
 | [.val false [.sl .any 92 (.pair (.int .i64) (.pair (.int .i64) (.pair (.sl 9 .str) (.sl 155 (.pair .str (.pair .bool (.sl 3 (.int .i64)))))))) a0],.val false [.fn 95 []]] => some ((g_Aslices_ContainsFunc_i_LogNote_i_LogNote__i_FroOk_1 a0),.val false [.bool (g_Vslices_ContainsFunc_i_LogNote_i_LogNote__i_FroOk_1_0 a0)],[])
 | _ => none
theorem vslices_ContainsFunc_i_LogNote_i_LogNote__i_FroOk_1 (a0:tL0):collapseH .std Eslices_ContainsFunc_i_LogNote_i_LogNote__i_FroOk_1 Oslices_ContainsFunc_i_LogNote_i_LogNote__i_FroOk_1_0 (execFn Eslices_ContainsFunc_i_LogNote_i_LogNote__i_FroOk_1 Tryz.f50 msslices_ContainsFunc_i_LogNote_i_LogNote__i_FroOk_1 [.val false [.sl .any 92 (.pair (.int .i64) (.pair (.int .i64) (.pair (.sl 9 .str) (.sl 155 (.pair .str (.pair .bool (.sl 3 (.int .i64)))))))) a0],.val false [.fn 95 []]]) = some ((g_Aslices_ContainsFunc_i_LogNote_i_LogNote__i_FroOk_1 a0),.val false [.bool (g_Vslices_ContainsFunc_i_LogNote_i_LogNote__i_FroOk_1_0 a0)],[]) := by kernel_rfl
theorem sslices_ContainsFunc_i_LogNote_i_LogNote__i_FroOk_1:Sound Tryz.prog 50 msslices_ContainsFunc_i_LogNote_i_LogNote__i_FroOk_1 Fslices_ContainsFunc_i_LogNote_i_LogNote__i_FroOk_1 := by
 refine fn_gen goodslices_ContainsFunc_i_LogNote_i_LogNote__i_FroOk_1 (by kernel_rfl) .std (fn := Tryz.f50) (c := (Tryz.f50.body.getD .skip)) (o := Oslices_ContainsFunc_i_LogNote_i_LogNote__i_FroOk_1_0) (k := 0) (by kernel_rfl) (by kernel_rfl) (by kernel_rfl) (by kernel_rfl) (by decide) kslices_ContainsFunc_i_LogNote_i_LogNote__i_FroOk_1_0 ?_
 intro ys r outs h
 unfold Fslices_ContainsFunc_i_LogNote_i_LogNote__i_FroOk_1 at h
 split at h
 ·exact (vslices_ContainsFunc_i_LogNote_i_LogNote__i_FroOk_1 _).trans h
 ·cases h
def Ei_FroOk:Env where
 tt := mkTI Tryz.prog
 fn := fun f => match f with
  | 50 => some (msslices_ContainsFunc_i_LogNote_i_LogNote__i_FroOk_1,FSem.wk msslices_ContainsFunc_i_LogNote_i_LogNote__i_FroOk_1 Fslices_ContainsFunc_i_LogNote_i_LogNote__i_FroOk_1)
  | 52 => some (msi_LogDisk_of,FSem.wk msi_LogDisk_of Fi_LogDisk_of)
  | 58 => some (msi_OpOk,FSem.wk msi_OpOk Fi_OpOk)
  | 59 => some (msi_isTx,FSem.wk msi_isTx Fi_isTx)
  | 96 => some (msi_DiskOk,FSem.wk msi_DiskOk Fi_DiskOk)
  | 97 => some (msi_servicesOk,FSem.wk msi_servicesOk Fi_servicesOk)
  | _ => none
 bxf := fun _ => none
 mv := []
 keep := fun b => match b with
  | 0 => [(1,false),(24,false),(25,false),(26,false)]
  | _ => []
 keepB := fun b => match b with
  | 0 => [(1,false)]
  | _ => []
 keepX := fun b => match b with
  | 0 => [(2,false)]
  | _ => []
 keepXB := fun b => match b with
  | 0 => []
  | _ => []
theorem goodFi_FroOk:∀ f ms F,Ei_FroOk.fn f = some (ms,F) → Sound Tryz.prog f ms F := fun f ms F h => by
 unfold Ei_FroOk at h
 dsimp only at h
 split at h
 ·exact gF sslices_ContainsFunc_i_LogNote_i_LogNote__i_FroOk_1 h
 ·exact gF si_LogDisk_of h
 ·exact gF si_OpOk h
 ·exact gF si_isTx h
 ·exact gF si_DiskOk h
 ·exact gF si_servicesOk h
 ·cases h
theorem goodi_FroOk:Good Tryz.prog Ei_FroOk := ⟨rfl,goodFi_FroOk,fun f ms F h => by cases h⟩
def Oi_FroOk_0:Orc := fun _ _ => none
def msi_FroOk:List PM := [.rd]
def lsi_FroOk:List (Nat×Code) := loopsAll 0 (Tryz.f36.body.getD .skip)
def ci_FroOk_0:Code := (loopOf 0 (Tryz.f36.body.getD .skip)).getD .skip
theorem lseqi_FroOk:lsi_FroOk = [(0,ci_FroOk_0)] := by kernel_rfl
theorem mi_FroOk_0:∀ p,p ∈ lsi_FroOk → p.1 = 0 → p.2 = ci_FroOk_0 := by
 intro p hp
 rw [lseqi_FroOk] at hp
 simp only [List.mem_cons,List.not_mem_nil,or_false] at hp
 subst hp; simp
theorem ki_FroOk_0:OrcOk Ei_FroOk Oi_FroOk_0 lsi_FroOk 0 := orcOk_none
def hi_FroOk_0 (y0:tL1) (y1:Int) (y2:Int) (y3:tL0) (y4:Int) (y5:tL1):List (Pl×LV) := [(.T 1,.t (.val false [.ptr 1 0 0])),(.T 24,.t (.val false [.sl .any 73 (.pair (.int .i64) (.pair (.pair (.int .i64) (.pair (.int .i64) (.pair (.int .i64) (.pair (.int .i64) (.pair (.int .i64) (.pair (.int .i64) (.int .i64))))))) (.pair .bool (.pair (.sl 3 (.int .i64)) (.sl 3 (.int .i64)))))) y0])),(.T 25,.t (.val false [.int .i64 y1])),(.T 26,.t (.val false [.int .i64 y2])),(.B 1,.b 0 false [.sl .any 92 (.pair (.int .i64) (.pair (.int .i64) (.pair (.sl 9 .str) (.sl 155 (.pair .str (.pair .bool (.sl 3 (.int .i64)))))))) y3,.int .i64 y4,.sl .any 73 (.pair (.int .i64) (.pair (.pair (.int .i64) (.pair (.int .i64) (.pair (.int .i64) (.pair (.int .i64) (.pair (.int .i64) (.pair (.int .i64) (.int .i64))))))) (.pair .bool (.pair (.sl 3 (.int .i64)) (.sl 3 (.int .i64)))))) y5])]
def g_Si_FroOk_0 (y0:tL1) (y1:Int) (y3:tL0) (y4:Int) (y5:tL1):(Int) → RT (Int) ((Bool) ⊕ (Unit))
 | y2 => .br (true) (.br (decide (y2 < y1)) (.br (decide (0 ≤ y2 ∧ y2 < (y0.length:Int))) (.br (g_Ai_isTx (at_ yT0 y0 (Int.toNat y2)).1) (.br (!g_Vi_isTx_0 (at_ yT0 y0 (Int.toNat y2)).1) (.out (.inl false)) (.br (true) (.br (decide (y2 > 0)) (.br (true) (.br (decide (0 ≤ IntKind.i64.wrap (y2 - 1) ∧ IntKind.i64.wrap (y2 - 1) < (y5.length:Int))) (.br (true) (.br (decide ((at_ yT0 y0 (Int.toNat y2)).1 ≤ (at_ yT0 y5 (Int.toNat (IntKind.i64.wrap (y2 - 1)))).1)) (.out (.inl false)) (.br (g_Ai_servicesOk (at_ yT0 y0 (Int.toNat y2)).2.2.2.1) (.br (!g_Vi_servicesOk_0 (at_ yT0 y0 (Int.toNat y2)).2.2.2.1) (.out (.inl false)) (.br (g_Ai_servicesOk (at_ yT0 y0 (Int.toNat y2)).2.2.2.2) (.br (!g_Vi_servicesOk_0 (at_ yT0 y0 (Int.toNat y2)).2.2.2.2) (.out (.inl false)) (.br (g_Ai_LogDisk_of y3) (.br (true) (.br (!(at_ yT0 y0 (Int.toNat y2)).2.2.1 == (g_Vi_LogDisk_of_0 y3 (at_ yT0 y0 (Int.toNat y2)).1 == 2)) (.out (.inl false)) (.br (!(at_ yT0 y0 (Int.toNat y2)).2.2.1) (.br (g_Ai_OpOk (at_ yT0 y0 (Int.toNat y2)).2.1.1 (at_ yT0 y0 (Int.toNat y2)).2.1.2.1 (at_ yT0 y0 (Int.toNat y2)).2.1.2.2.1 (at_ yT0 y0 (Int.toNat y2)).2.1.2.2.2.1 (at_ yT0 y0 (Int.toNat y2)).2.1.2.2.2.2.1 (at_ yT0 y0 (Int.toNat y2)).2.1.2.2.2.2.2.1 (at_ yT0 y0 (Int.toNat y2)).2.1.2.2.2.2.2.2) (.br (!g_Vi_OpOk_0 (at_ yT0 y0 (Int.toNat y2)).2.1.1 (at_ yT0 y0 (Int.toNat y2)).2.1.2.1 (at_ yT0 y0 (Int.toNat y2)).2.1.2.2.1 (at_ yT0 y0 (Int.toNat y2)).2.1.2.2.2.1 (at_ yT0 y0 (Int.toNat y2)).2.1.2.2.2.2.1 (at_ yT0 y0 (Int.toNat y2)).2.1.2.2.2.2.2.1 (at_ yT0 y0 (Int.toNat y2)).2.1.2.2.2.2.2.2) (.out (.inl false)) (.br (true) (.br (decide ((↑(List.length (at_ yT0 y0 (Int.toNat y2)).2.2.2.2):Int) > 0)) (.out (.inl false)) (.br (true) (.go (IntKind.i64.wrap (y2 + 1))) .bad)) .bad)) .bad) (.br (true) (.go (IntKind.i64.wrap (y2 + 1))) .bad))) .bad) .bad)) .bad)) .bad)) .bad) .bad) .bad) (.br (g_Ai_servicesOk (at_ yT0 y0 (Int.toNat y2)).2.2.2.1) (.br (!g_Vi_servicesOk_0 (at_ yT0 y0 (Int.toNat y2)).2.2.2.1) (.out (.inl false)) (.br (g_Ai_servicesOk (at_ yT0 y0 (Int.toNat y2)).2.2.2.2) (.br (!g_Vi_servicesOk_0 (at_ yT0 y0 (Int.toNat y2)).2.2.2.2) (.out (.inl false)) (.br (g_Ai_LogDisk_of y3) (.br (true) (.br (!(at_ yT0 y0 (Int.toNat y2)).2.2.1 == (g_Vi_LogDisk_of_0 y3 (at_ yT0 y0 (Int.toNat y2)).1 == 2)) (.out (.inl false)) (.br (!(at_ yT0 y0 (Int.toNat y2)).2.2.1) (.br (g_Ai_OpOk (at_ yT0 y0 (Int.toNat y2)).2.1.1 (at_ yT0 y0 (Int.toNat y2)).2.1.2.1 (at_ yT0 y0 (Int.toNat y2)).2.1.2.2.1 (at_ yT0 y0 (Int.toNat y2)).2.1.2.2.2.1 (at_ yT0 y0 (Int.toNat y2)).2.1.2.2.2.2.1 (at_ yT0 y0 (Int.toNat y2)).2.1.2.2.2.2.2.1 (at_ yT0 y0 (Int.toNat y2)).2.1.2.2.2.2.2.2) (.br (!g_Vi_OpOk_0 (at_ yT0 y0 (Int.toNat y2)).2.1.1 (at_ yT0 y0 (Int.toNat y2)).2.1.2.1 (at_ yT0 y0 (Int.toNat y2)).2.1.2.2.1 (at_ yT0 y0 (Int.toNat y2)).2.1.2.2.2.1 (at_ yT0 y0 (Int.toNat y2)).2.1.2.2.2.2.1 (at_ yT0 y0 (Int.toNat y2)).2.1.2.2.2.2.2.1 (at_ yT0 y0 (Int.toNat y2)).2.1.2.2.2.2.2.2) (.out (.inl false)) (.br (true) (.br (decide ((↑(List.length (at_ yT0 y0 (Int.toNat y2)).2.2.2.2):Int) > 0)) (.out (.inl false)) (.br (true) (.go (IntKind.i64.wrap (y2 + 1))) .bad)) .bad)) .bad) (.br (true) (.go (IntKind.i64.wrap (y2 + 1))) .bad))) .bad) .bad)) .bad)) .bad)) .bad)) .bad) .bad) (.out (.inr (())))) .bad
def g_Li_FroOk_0 (y0:tL1) (y1:Int) (y3:tL0) (y4:Int) (y5:tL1) (x:Int):Option ((Bool) ⊕ (Unit)) := loopO (g_Si_FroOk_0 y0 y1 y3 y4 y5) x
def xi_FroOk_0 (y0:tL1) (y1:Int) (y3:tL0) (y4:Int) (y5:tL1):((Bool) ⊕ (Unit)) → Ex×List (Pl×LV) := fun
 | .inl r => (.ret,[(.T 2,.t (.val false [.bool r]))])
 | .inr (r) => (.exit 0,[(.T 2,.t (.val false [.undef]))])
def Oi_FroOk_1:Orc := fun b h => match b,h with
 | 0,[(.T 1,.t (.val false [.ptr 1 0 0])),(.T 24,.t (.val false [.sl .any 73 (.pair (.int .i64) (.pair (.pair (.int .i64) (.pair (.int .i64) (.pair (.int .i64) (.pair (.int .i64) (.pair (.int .i64) (.pair (.int .i64) (.int .i64))))))) (.pair .bool (.pair (.sl 3 (.int .i64)) (.sl 3 (.int .i64)))))) y0])),(.T 25,.t (.val false [.int .i64 y1])),(.T 26,.t (.val false [.int .i64 y2])),(.B 1,.b 0 false [.sl .any 92 (.pair (.int .i64) (.pair (.int .i64) (.pair (.sl 9 .str) (.sl 155 (.pair .str (.pair .bool (.sl 3 (.int .i64)))))))) y3,.int .i64 y4,.sl .any 73 (.pair (.int .i64) (.pair (.pair (.int .i64) (.pair (.int .i64) (.pair (.int .i64) (.pair (.int .i64) (.pair (.int .i64) (.pair (.int .i64) (.int .i64))))))) (.pair .bool (.pair (.sl 3 (.int .i64)) (.sl 3 (.int .i64)))))) y5])] => some (okO (g_Li_FroOk_0 y0 y1 y3 y4 y5 y2),(.br (isL (valO (g_Li_FroOk_0 y0 y1 y3 y4 y5 y2))) (.leaf .ret [(.T 2,.t (.val false [.bool (getL (valO (g_Li_FroOk_0 y0 y1 y3 y4 y5 y2)))]))]) (.leaf (.exit 0) [(.T 2,.t (.val false [.undef]))])))
 | b,h => Oi_FroOk_0 b h
theorem bi_FroOk_0 (y0:tL1) (y1:Int) (y2:Int) (y3:tL0) (y4:Int) (y5:tL1):Tr.bt Ei_FroOk Oi_FroOk_0 (exec Ei_FroOk 0 ci_FroOk_0 (St.of (hi_FroOk_0 y0 y1 y2 y3 y4 y5)) (leafRd Ei_FroOk 0)) = (g_Si_FroOk_0 y0 y1 y3 y4 y5 y2).bt (fun (y2:Int) => (hi_FroOk_0 y0 y1 y2 y3 y4 y5)) (xi_FroOk_0 y0 y1 y3 y4 y5) := by kernel_rfl
theorem ki_FroOk_1:OrcOk Ei_FroOk Oi_FroOk_1 lsi_FroOk 1 := orc_add ki_FroOk_0 (fun n p hp h ex h' ho => by
 obtain ⟨b,c⟩ := p
 obtain ⟨xt,h1,h2⟩ := ho
 have h1:Oi_FroOk_1 b h = some (true,xt) := h1
 unfold Oi_FroOk_1 at h1
 split at h1
 ·injection h1 with h1
  injection h1 with e1 e2
  subst e2
  have hc:c = ci_FroOk_0 := mi_FroOk_0 _ hp rfl
  subst hc
  right
  rename_i y0 y1 y2 y3 y4 y5
  have key := LT_step ki_FroOk_0 hp (fun q hq => loopsAll_in _ _ _ _ hp hq) (fun (y2:Int) => (hi_FroOk_0 y0 y1 y2 y3 y4 y5)) (xi_FroOk_0 y0 y1 y3 y4 y5) (g_Si_FroOk_0 y0 y1 y3 y4 y5) (fun x => by first | exact bi_FroOk_0 y0 y1 x y3 y4 y5) n (x := y2) (okO_some e1)
  have hx:∀ r,XT.sel (.br (isL r) (.leaf .ret [(.T 2,.t (.val false [.bool (getL r)]))]) (.leaf (.exit 0) [(.T 2,.t (.val false [.undef]))])) = xi_FroOk_0 y0 y1 y3 y4 y5 r := fun r => by first | rfl | rcases r with r | r <;> rfl | rcases r with r | r | r <;> rfl | rcases r with r | r | r | r <;> rfl
  have h3 := (hx (valO (g_Li_FroOk_0 y0 y1 y3 y4 y5 y2))).symm.trans h2
  have e3 := congrArg Prod.fst h3
  have e4 := congrArg Prod.snd h3
  simp only at e3 e4
  rw [← e3,← e4]
  exact key
 ·exact .inl ⟨xt,h1,h2⟩)
def g_Ai_FroOk (a0:tL0) (a1:Int) (a2:tL1):Bool := g_Ai_DiskOk a0 a1&&(!g_Vi_DiskOk_0 a0 a1 || g_Aslices_ContainsFunc_i_LogNote_i_LogNote__i_FroOk_1 a0&&(g_Vslices_ContainsFunc_i_LogNote_i_LogNote__i_FroOk_1_0 a0 || (decide ((a2.length:Int) > 30) || okO (g_Li_FroOk_0 a2 (a2.length:Int) a0 a1 a2 (0:Int)))))
def g_Vi_FroOk_0 (a0:tL0) (a1:Int) (a2:tL1):Bool := bif !g_Vi_DiskOk_0 a0 a1 then false else bif g_Vslices_ContainsFunc_i_LogNote_i_LogNote__i_FroOk_1_0 a0 then false else bif decide ((a2.length:Int) > 30) then false else bif isL (valO (g_Li_FroOk_0 a2 (a2.length:Int) a0 a1 a2 (0:Int))) then getL (valO (g_Li_FroOk_0 a2 (a2.length:Int) a0 a1 a2 (0:Int))) else true
def Fi_FroOk:FSem := fun ys => match ys with
 | [.val true [.sl .any 92 (.pair (.int .i64) (.pair (.int .i64) (.pair (.sl 9 .str) (.sl 155 (.pair .str (.pair .bool (.sl 3 (.int .i64)))))))) a0,.int .i64 a1,.sl .any 73 (.pair (.int .i64) (.pair (.pair (.int .i64) (.pair (.int .i64) (.pair (.int .i64) (.pair (.int .i64) (.pair (.int .i64) (.pair (.int .i64) (.int .i64))))))) (.pair .bool (.pair (.sl 3 (.int .i64)) (.sl 3 (.int .i64)))))) a2]] => some ((g_Ai_FroOk a0 a1 a2),.val false [.bool (g_Vi_FroOk_0 a0 a1 a2)],[])
 | _ => none
theorem vi_FroOk (a0:tL0) (a1:Int) (a2:tL1):collapseH .std Ei_FroOk Oi_FroOk_1 (execFn Ei_FroOk Tryz.f36 msi_FroOk [.val true [.sl .any 92 (.pair (.int .i64) (.pair (.int .i64) (.pair (.sl 9 .str) (.sl 155 (.pair .str (.pair .bool (.sl 3 (.int .i64)))))))) a0,.int .i64 a1,.sl .any 73 (.pair (.int .i64) (.pair (.pair (.int .i64) (.pair (.int .i64) (.pair (.int .i64) (.pair (.int .i64) (.pair (.int .i64) (.pair (.int .i64) (.int .i64))))))) (.pair .bool (.pair (.sl 3 (.int .i64)) (.sl 3 (.int .i64)))))) a2]]) = some ((g_Ai_FroOk a0 a1 a2),.val false [.bool (g_Vi_FroOk_0 a0 a1 a2)],[]) := by kernel_rfl
theorem si_FroOk:Sound Tryz.prog 36 msi_FroOk Fi_FroOk := by
 refine fn_gen goodi_FroOk (by kernel_rfl) .std (fn := Tryz.f36) (c := (Tryz.f36.body.getD .skip)) (o := Oi_FroOk_1) (k := 1) (by kernel_rfl) (by kernel_rfl) (by kernel_rfl) (by kernel_rfl) (by decide) ki_FroOk_1 ?_
 intro ys r outs h
 unfold Fi_FroOk at h
 split at h
 ·exact (vi_FroOk _ _ _).trans h
 ·cases h
def Ei_FroFall_1:Env where
 tt := mkTI Tryz.prog
 fn := fun _ => none
 bxf := fun _ => none
 mv := []
 keep := fun _ => []
 keepB := fun _ => []
 keepX := fun _ => []
 keepXB := fun _ => []
theorem goodFi_FroFall_1:∀ f ms F,Ei_FroFall_1.fn f = some (ms,F) → Sound Tryz.prog f ms F := fun f ms F h => by cases h
theorem goodi_FroFall_1:Good Tryz.prog Ei_FroFall_1 := ⟨rfl,goodFi_FroFall_1,fun f ms F h => by cases h⟩
def Oi_FroFall_1_0:Orc := fun _ _ => none
def msi_FroFall_1:List PM := [.rd,.rd]
def lsi_FroFall_1:List (Nat×Code) := loopsAll 0 (Tryz.f51.body.getD .skip)
theorem ki_FroFall_1_0:OrcOk Ei_FroFall_1 Oi_FroFall_1_0 lsi_FroFall_1 0 := orcOk_none
def g_Ai_FroFall_1 (a0:Int) (a1:Int) (a2:List ByteArray) (a3:tL2) (c0:Int):Bool := !a1 == c0 || true
def g_Vi_FroFall_1_0 (a0:Int) (a1:Int) (a2:List ByteArray) (a3:tL2) (c0:Int):Bool := bif a1 == c0 then a0 == 4 else false
def Fi_FroFall_1:FSem := fun ys => match ys with
 | [.val true [.int .i64 a0,.int .i64 a1,.sl .any 9 .str a2,.sl .any 155 (.pair .str (.pair .bool (.sl 3 (.int .i64)))) a3],.val false [.sptr (.int .i64) c0 0]] => some ((g_Ai_FroFall_1 a0 a1 a2 a3 c0),.val false [.bool (g_Vi_FroFall_1_0 a0 a1 a2 a3 c0)],[])
 | _ => none
theorem vi_FroFall_1 (a0:Int) (a1:Int) (a2:List ByteArray) (a3:tL2) (c0:Int):collapseH .std Ei_FroFall_1 Oi_FroFall_1_0 (execFn Ei_FroFall_1 Tryz.f51 msi_FroFall_1 [.val true [.int .i64 a0,.int .i64 a1,.sl .any 9 .str a2,.sl .any 155 (.pair .str (.pair .bool (.sl 3 (.int .i64)))) a3],.val false [.sptr (.int .i64) c0 0]]) = some ((g_Ai_FroFall_1 a0 a1 a2 a3 c0),.val false [.bool (g_Vi_FroFall_1_0 a0 a1 a2 a3 c0)],[]) := by kernel_rfl
theorem si_FroFall_1:Sound Tryz.prog 51 msi_FroFall_1 Fi_FroFall_1 := by
 refine fn_gen goodi_FroFall_1 (by kernel_rfl) .std (fn := Tryz.f51) (c := (Tryz.f51.body.getD .skip)) (o := Oi_FroFall_1_0) (k := 0) (by kernel_rfl) (by kernel_rfl) (by kernel_rfl) (by kernel_rfl) (by decide) ki_FroFall_1_0 ?_
 intro ys r outs h
 unfold Fi_FroFall_1 at h
 split at h
 ·exact (vi_FroFall_1 _ _ _ _ _).trans h
 ·cases h
def Eslices_IndexFunc_i_LogNote_i_LogNote__i_FroFall_1:Env where
 tt := mkTI Tryz.prog
 fn := fun f => match f with
  | 51 => some (msi_FroFall_1,FSem.wk msi_FroFall_1 Fi_FroFall_1)
  | _ => none
 bxf := fun _ => none
 mv := []
 keep := fun b => match b with
  | 0 => [(0,false),(1,false),(7,false),(8,false)]
  | _ => []
 keepB := fun b => match b with
  | 0 => []
  | _ => []
 keepX := fun b => match b with
  | 0 => [(4,false)]
  | _ => []
 keepXB := fun b => match b with
  | 0 => []
  | _ => []
theorem goodFslices_IndexFunc_i_LogNote_i_LogNote__i_FroFall_1:∀ f ms F,Eslices_IndexFunc_i_LogNote_i_LogNote__i_FroFall_1.fn f = some (ms,F) → Sound Tryz.prog f ms F := fun f ms F h => by
 unfold Eslices_IndexFunc_i_LogNote_i_LogNote__i_FroFall_1 at h
 dsimp only at h
 split at h
 ·exact gF si_FroFall_1 h
 ·cases h
theorem goodslices_IndexFunc_i_LogNote_i_LogNote__i_FroFall_1:Good Tryz.prog Eslices_IndexFunc_i_LogNote_i_LogNote__i_FroFall_1 := ⟨rfl,goodFslices_IndexFunc_i_LogNote_i_LogNote__i_FroFall_1,fun f ms F h => by cases h⟩
def Oslices_IndexFunc_i_LogNote_i_LogNote__i_FroFall_1_0:Orc := fun _ _ => none
def msslices_IndexFunc_i_LogNote_i_LogNote__i_FroFall_1:List PM := [.rd,.rd]
def lsslices_IndexFunc_i_LogNote_i_LogNote__i_FroFall_1:List (Nat×Code) := loopsAll 0 (Tryz.f110.body.getD .skip)
def cslices_IndexFunc_i_LogNote_i_LogNote__i_FroFall_1_0:Code := (loopOf 0 (Tryz.f110.body.getD .skip)).getD .skip
theorem lseqslices_IndexFunc_i_LogNote_i_LogNote__i_FroFall_1:lsslices_IndexFunc_i_LogNote_i_LogNote__i_FroFall_1 = [(0,cslices_IndexFunc_i_LogNote_i_LogNote__i_FroFall_1_0)] := by kernel_rfl
theorem mslices_IndexFunc_i_LogNote_i_LogNote__i_FroFall_1_0:∀ p,p ∈ lsslices_IndexFunc_i_LogNote_i_LogNote__i_FroFall_1 → p.1 = 0 → p.2 = cslices_IndexFunc_i_LogNote_i_LogNote__i_FroFall_1_0 := by
 intro p hp
 rw [lseqslices_IndexFunc_i_LogNote_i_LogNote__i_FroFall_1] at hp
 simp only [List.mem_cons,List.not_mem_nil,or_false] at hp
 subst hp; simp
theorem kslices_IndexFunc_i_LogNote_i_LogNote__i_FroFall_1_0:OrcOk Eslices_IndexFunc_i_LogNote_i_LogNote__i_FroFall_1 Oslices_IndexFunc_i_LogNote_i_LogNote__i_FroFall_1_0 lsslices_IndexFunc_i_LogNote_i_LogNote__i_FroFall_1 0 := orcOk_none
def hslices_IndexFunc_i_LogNote_i_LogNote__i_FroFall_1_0 (y0:tL0) (y1:Int) (y2:Int) (y3:Int):List (Pl×LV) := [(.T 0,.t (.val false [.sl .any 92 (.pair (.int .i64) (.pair (.int .i64) (.pair (.sl 9 .str) (.sl 155 (.pair .str (.pair .bool (.sl 3 (.int .i64)))))))) y0])),(.T 1,.t (.val false [.fn 51 [.sptr (.int .i64) y1 0]])),(.T 7,.t (.val false [.int .i64 y2])),(.T 8,.t (.val false [.int .i64 y3]))]
def g_Sslices_IndexFunc_i_LogNote_i_LogNote__i_FroFall_1_0 (y0:tL0) (y1:Int) (y2:Int):(Int) → RT (Int) ((Int) ⊕ (Unit))
 | y3 => .br (true) (.br (decide (y3 < y2)) (.br (decide (0 ≤ y3 ∧ y3 < (y0.length:Int))) (.br (g_Ai_FroFall_1 (at_ yT1 y0 (Int.toNat y3)).1 (at_ yT1 y0 (Int.toNat y3)).2.1 (at_ yT1 y0 (Int.toNat y3)).2.2.1 (at_ yT1 y0 (Int.toNat y3)).2.2.2 y1) (.br (g_Vi_FroFall_1_0 (at_ yT1 y0 (Int.toNat y3)).1 (at_ yT1 y0 (Int.toNat y3)).2.1 (at_ yT1 y0 (Int.toNat y3)).2.2.1 (at_ yT1 y0 (Int.toNat y3)).2.2.2 y1) (.out (.inl y3)) (.br (true) (.go (IntKind.i64.wrap (y3 + 1))) .bad)) .bad) .bad) (.out (.inr (())))) .bad
def g_Lslices_IndexFunc_i_LogNote_i_LogNote__i_FroFall_1_0 (y0:tL0) (y1:Int) (y2:Int) (x:Int):Option ((Int) ⊕ (Unit)) := loopO (g_Sslices_IndexFunc_i_LogNote_i_LogNote__i_FroFall_1_0 y0 y1 y2) x
def xslices_IndexFunc_i_LogNote_i_LogNote__i_FroFall_1_0 (y0:tL0) (y1:Int) (y2:Int):((Int) ⊕ (Unit)) → Ex×List (Pl×LV) := fun
 | .inl r => (.ret,[(.T 4,.t (.val false [.int .i64 r]))])
 | .inr (r) => (.exit 0,[(.T 4,.t (.val false [.undef]))])
def Oslices_IndexFunc_i_LogNote_i_LogNote__i_FroFall_1_1:Orc := fun b h => match b,h with
 | 0,[(.T 0,.t (.val false [.sl .any 92 (.pair (.int .i64) (.pair (.int .i64) (.pair (.sl 9 .str) (.sl 155 (.pair .str (.pair .bool (.sl 3 (.int .i64)))))))) y0])),(.T 1,.t (.val false [.fn 51 [.sptr (.int .i64) y1 0]])),(.T 7,.t (.val false [.int .i64 y2])),(.T 8,.t (.val false [.int .i64 y3]))] => some (okO (g_Lslices_IndexFunc_i_LogNote_i_LogNote__i_FroFall_1_0 y0 y1 y2 y3),(.br (isL (valO (g_Lslices_IndexFunc_i_LogNote_i_LogNote__i_FroFall_1_0 y0 y1 y2 y3))) (.leaf .ret [(.T 4,.t (.val false [.int .i64 (getL (valO (g_Lslices_IndexFunc_i_LogNote_i_LogNote__i_FroFall_1_0 y0 y1 y2 y3)))]))]) (.leaf (.exit 0) [(.T 4,.t (.val false [.undef]))])))
 | b,h => Oslices_IndexFunc_i_LogNote_i_LogNote__i_FroFall_1_0 b h
theorem bslices_IndexFunc_i_LogNote_i_LogNote__i_FroFall_1_0 (y0:tL0) (y1:Int) (y2:Int) (y3:Int):Tr.bt Eslices_IndexFunc_i_LogNote_i_LogNote__i_FroFall_1 Oslices_IndexFunc_i_LogNote_i_LogNote__i_FroFall_1_0 (exec Eslices_IndexFunc_i_LogNote_i_LogNote__i_FroFall_1 0 cslices_IndexFunc_i_LogNote_i_LogNote__i_FroFall_1_0 (St.of (hslices_IndexFunc_i_LogNote_i_LogNote__i_FroFall_1_0 y0 y1 y2 y3)) (leafRd Eslices_IndexFunc_i_LogNote_i_LogNote__i_FroFall_1 0)) = (g_Sslices_IndexFunc_i_LogNote_i_LogNote__i_FroFall_1_0 y0 y1 y2 y3).bt (fun (y3:Int) => (hslices_IndexFunc_i_LogNote_i_LogNote__i_FroFall_1_0 y0 y1 y2 y3)) (xslices_IndexFunc_i_LogNote_i_LogNote__i_FroFall_1_0 y0 y1 y2) := by kernel_rfl
theorem kslices_IndexFunc_i_LogNote_i_LogNote__i_FroFall_1_1:OrcOk Eslices_IndexFunc_i_LogNote_i_LogNote__i_FroFall_1 Oslices_IndexFunc_i_LogNote_i_LogNote__i_FroFall_1_1 lsslices_IndexFunc_i_LogNote_i_LogNote__i_FroFall_1 1 := orc_add kslices_IndexFunc_i_LogNote_i_LogNote__i_FroFall_1_0 (fun n p hp h ex h' ho => by
 obtain ⟨b,c⟩ := p
 obtain ⟨xt,h1,h2⟩ := ho
 have h1:Oslices_IndexFunc_i_LogNote_i_LogNote__i_FroFall_1_1 b h = some (true,xt) := h1
 unfold Oslices_IndexFunc_i_LogNote_i_LogNote__i_FroFall_1_1 at h1
 split at h1
 ·injection h1 with h1
  injection h1 with e1 e2
  subst e2
  have hc:c = cslices_IndexFunc_i_LogNote_i_LogNote__i_FroFall_1_0 := mslices_IndexFunc_i_LogNote_i_LogNote__i_FroFall_1_0 _ hp rfl
  subst hc
  right
  rename_i y0 y1 y2 y3
  have key := LT_step kslices_IndexFunc_i_LogNote_i_LogNote__i_FroFall_1_0 hp (fun q hq => loopsAll_in _ _ _ _ hp hq) (fun (y3:Int) => (hslices_IndexFunc_i_LogNote_i_LogNote__i_FroFall_1_0 y0 y1 y2 y3)) (xslices_IndexFunc_i_LogNote_i_LogNote__i_FroFall_1_0 y0 y1 y2) (g_Sslices_IndexFunc_i_LogNote_i_LogNote__i_FroFall_1_0 y0 y1 y2) (fun x => by first | exact bslices_IndexFunc_i_LogNote_i_LogNote__i_FroFall_1_0 y0 y1 y2 x) n (x := y3) (okO_some e1)
  have hx:∀ r,XT.sel (.br (isL r) (.leaf .ret [(.T 4,.t (.val false [.int .i64 (getL r)]))]) (.leaf (.exit 0) [(.T 4,.t (.val false [.undef]))])) = xslices_IndexFunc_i_LogNote_i_LogNote__i_FroFall_1_0 y0 y1 y2 r := fun r => by first | rfl | rcases r with r | r <;> rfl | rcases r with r | r | r <;> rfl | rcases r with r | r | r | r <;> rfl
  have h3 := (hx (valO (g_Lslices_IndexFunc_i_LogNote_i_LogNote__i_FroFall_1_0 y0 y1 y2 y3))).symm.trans h2
  have e3 := congrArg Prod.fst h3
  have e4 := congrArg Prod.snd h3
  simp only at e3 e4
  rw [← e3,← e4]
  exact key
 ·exact .inl ⟨xt,h1,h2⟩)
def g_Aslices_IndexFunc_i_LogNote_i_LogNote__i_FroFall_1 (a0:tL0) (c0:Int):Bool := okO (g_Lslices_IndexFunc_i_LogNote_i_LogNote__i_FroFall_1_0 a0 c0 (a0.length:Int) (0:Int))
def g_Vslices_IndexFunc_i_LogNote_i_LogNote__i_FroFall_1_0 (a0:tL0) (c0:Int):Int := bif isL (valO (g_Lslices_IndexFunc_i_LogNote_i_LogNote__i_FroFall_1_0 a0 c0 (a0.length:Int) (0:Int))) then getL (valO (g_Lslices_IndexFunc_i_LogNote_i_LogNote__i_FroFall_1_0 a0 c0 (a0.length:Int) (0:Int))) else (-1:Int)
def Fslices_IndexFunc_i_LogNote_i_LogNote__i_FroFall_1:FSem := fun ys => match ys with
 | [.val false [.sl .any 92 (.pair (.int .i64) (.pair (.int .i64) (.pair (.sl 9 .str) (.sl 155 (.pair .str (.pair .bool (.sl 3 (.int .i64)))))))) a0],.val false [.fn 51 [.sptr (.int .i64) c0 0]]] => some ((g_Aslices_IndexFunc_i_LogNote_i_LogNote__i_FroFall_1 a0 c0),.val false [.int .i64 (g_Vslices_IndexFunc_i_LogNote_i_LogNote__i_FroFall_1_0 a0 c0)],[])
 | _ => none
theorem vslices_IndexFunc_i_LogNote_i_LogNote__i_FroFall_1 (a0:tL0) (c0:Int):collapseH .std Eslices_IndexFunc_i_LogNote_i_LogNote__i_FroFall_1 Oslices_IndexFunc_i_LogNote_i_LogNote__i_FroFall_1_1 (execFn Eslices_IndexFunc_i_LogNote_i_LogNote__i_FroFall_1 Tryz.f110 msslices_IndexFunc_i_LogNote_i_LogNote__i_FroFall_1 [.val false [.sl .any 92 (.pair (.int .i64) (.pair (.int .i64) (.pair (.sl 9 .str) (.sl 155 (.pair .str (.pair .bool (.sl 3 (.int .i64)))))))) a0],.val false [.fn 51 [.sptr (.int .i64) c0 0]]]) = some ((g_Aslices_IndexFunc_i_LogNote_i_LogNote__i_FroFall_1 a0 c0),.val false [.int .i64 (g_Vslices_IndexFunc_i_LogNote_i_LogNote__i_FroFall_1_0 a0 c0)],[]) := by kernel_rfl
theorem sslices_IndexFunc_i_LogNote_i_LogNote__i_FroFall_1:Sound Tryz.prog 110 msslices_IndexFunc_i_LogNote_i_LogNote__i_FroFall_1 Fslices_IndexFunc_i_LogNote_i_LogNote__i_FroFall_1 := by
 refine fn_gen goodslices_IndexFunc_i_LogNote_i_LogNote__i_FroFall_1 (by kernel_rfl) .std (fn := Tryz.f110) (c := (Tryz.f110.body.getD .skip)) (o := Oslices_IndexFunc_i_LogNote_i_LogNote__i_FroFall_1_1) (k := 1) (by kernel_rfl) (by kernel_rfl) (by kernel_rfl) (by kernel_rfl) (by decide) kslices_IndexFunc_i_LogNote_i_LogNote__i_FroFall_1_1 ?_
 intro ys r outs h
 unfold Fslices_IndexFunc_i_LogNote_i_LogNote__i_FroFall_1 at h
 split at h
 ·exact (vslices_IndexFunc_i_LogNote_i_LogNote__i_FroFall_1 _ _).trans h
 ·cases h
def Eslices_ContainsFunc_i_LogNote_i_LogNote__i_FroFall_1:Env where
 tt := mkTI Tryz.prog
 fn := fun f => match f with
  | 51 => some (msi_FroFall_1,FSem.wk msi_FroFall_1 Fi_FroFall_1)
  | 110 => some (msslices_IndexFunc_i_LogNote_i_LogNote__i_FroFall_1,FSem.wk msslices_IndexFunc_i_LogNote_i_LogNote__i_FroFall_1 Fslices_IndexFunc_i_LogNote_i_LogNote__i_FroFall_1)
  | _ => none
 bxf := fun _ => none
 mv := []
 keep := fun _ => []
 keepB := fun _ => []
 keepX := fun _ => []
 keepXB := fun _ => []
theorem goodFslices_ContainsFunc_i_LogNote_i_LogNote__i_FroFall_1:∀ f ms F,Eslices_ContainsFunc_i_LogNote_i_LogNote__i_FroFall_1.fn f = some (ms,F) → Sound Tryz.prog f ms F := fun f ms F h => by
 unfold Eslices_ContainsFunc_i_LogNote_i_LogNote__i_FroFall_1 at h
 dsimp only at h
 split at h
 ·exact gF si_FroFall_1 h
 ·exact gF sslices_IndexFunc_i_LogNote_i_LogNote__i_FroFall_1 h
 ·cases h
theorem goodslices_ContainsFunc_i_LogNote_i_LogNote__i_FroFall_1:Good Tryz.prog Eslices_ContainsFunc_i_LogNote_i_LogNote__i_FroFall_1 := ⟨rfl,goodFslices_ContainsFunc_i_LogNote_i_LogNote__i_FroFall_1,fun f ms F h => by cases h⟩
def Oslices_ContainsFunc_i_LogNote_i_LogNote__i_FroFall_1_0:Orc := fun _ _ => none
def msslices_ContainsFunc_i_LogNote_i_LogNote__i_FroFall_1:List PM := [.rd,.rd]
def lsslices_ContainsFunc_i_LogNote_i_LogNote__i_FroFall_1:List (Nat×Code) := loopsAll 0 (Tryz.f50.body.getD .skip)
theorem kslices_ContainsFunc_i_LogNote_i_LogNote__i_FroFall_1_0:OrcOk Eslices_ContainsFunc_i_LogNote_i_LogNote__i_FroFall_1 Oslices_ContainsFunc_i_LogNote_i_LogNote__i_FroFall_1_0 lsslices_ContainsFunc_i_LogNote_i_LogNote__i_FroFall_1 0 := orcOk_none
def g_Aslices_ContainsFunc_i_LogNote_i_LogNote__i_FroFall_1 (a0:tL0) (c0:Int):Bool := g_Aslices_IndexFunc_i_LogNote_i_LogNote__i_FroFall_1 a0 c0&&true
def g_Vslices_ContainsFunc_i_LogNote_i_LogNote__i_FroFall_1_0 (a0:tL0) (c0:Int):Bool := decide (g_Vslices_IndexFunc_i_LogNote_i_LogNote__i_FroFall_1_0 a0 c0 ≥ (0:Int))
def Fslices_ContainsFunc_i_LogNote_i_LogNote__i_FroFall_1:FSem := fun ys => match ys with
 | [.val false [.sl .any 92 (.pair (.int .i64) (.pair (.int .i64) (.pair (.sl 9 .str) (.sl 155 (.pair .str (.pair .bool (.sl 3 (.int .i64)))))))) a0],.val false [.fn 51 [.sptr (.int .i64) c0 0]]] => some ((g_Aslices_ContainsFunc_i_LogNote_i_LogNote__i_FroFall_1 a0 c0),.val false [.bool (g_Vslices_ContainsFunc_i_LogNote_i_LogNote__i_FroFall_1_0 a0 c0)],[])
 | _ => none
theorem vslices_ContainsFunc_i_LogNote_i_LogNote__i_FroFall_1 (a0:tL0) (c0:Int):collapseH .std Eslices_ContainsFunc_i_LogNote_i_LogNote__i_FroFall_1 Oslices_ContainsFunc_i_LogNote_i_LogNote__i_FroFall_1_0 (execFn Eslices_ContainsFunc_i_LogNote_i_LogNote__i_FroFall_1 Tryz.f50 msslices_ContainsFunc_i_LogNote_i_LogNote__i_FroFall_1 [.val false [.sl .any 92 (.pair (.int .i64) (.pair (.int .i64) (.pair (.sl 9 .str) (.sl 155 (.pair .str (.pair .bool (.sl 3 (.int .i64)))))))) a0],.val false [.fn 51 [.sptr (.int .i64) c0 0]]]) = some ((g_Aslices_ContainsFunc_i_LogNote_i_LogNote__i_FroFall_1 a0 c0),.val false [.bool (g_Vslices_ContainsFunc_i_LogNote_i_LogNote__i_FroFall_1_0 a0 c0)],[]) := by kernel_rfl
theorem sslices_ContainsFunc_i_LogNote_i_LogNote__i_FroFall_1:Sound Tryz.prog 50 msslices_ContainsFunc_i_LogNote_i_LogNote__i_FroFall_1 Fslices_ContainsFunc_i_LogNote_i_LogNote__i_FroFall_1 := by
 refine fn_gen goodslices_ContainsFunc_i_LogNote_i_LogNote__i_FroFall_1 (by kernel_rfl) .std (fn := Tryz.f50) (c := (Tryz.f50.body.getD .skip)) (o := Oslices_ContainsFunc_i_LogNote_i_LogNote__i_FroFall_1_0) (k := 0) (by kernel_rfl) (by kernel_rfl) (by kernel_rfl) (by kernel_rfl) (by decide) kslices_ContainsFunc_i_LogNote_i_LogNote__i_FroFall_1_0 ?_
 intro ys r outs h
 unfold Fslices_ContainsFunc_i_LogNote_i_LogNote__i_FroFall_1 at h
 split at h
 ·exact (vslices_ContainsFunc_i_LogNote_i_LogNote__i_FroFall_1 _ _).trans h
 ·cases h
def Ei_FroFall:Env where
 tt := mkTI Tryz.prog
 fn := fun f => match f with
  | 36 => some (msi_FroOk,FSem.wk msi_FroOk Fi_FroOk)
  | 49 => some (msi_DiskFall,FSem.wk msi_DiskFall Fi_DiskFall)
  | 50 => some (msslices_ContainsFunc_i_LogNote_i_LogNote__i_FroFall_1,FSem.wk msslices_ContainsFunc_i_LogNote_i_LogNote__i_FroFall_1 Fslices_ContainsFunc_i_LogNote_i_LogNote__i_FroFall_1)
  | 52 => some (msi_LogDisk_of,FSem.wk msi_LogDisk_of Fi_LogDisk_of)
  | _ => none
 bxf := fun _ => none
 mv := []
 keep := fun b => match b with
  | 0 => [(4,false),(5,false),(17,false)]
  | _ => []
 keepB := fun b => match b with
  | 0 => [(4,false),(5,false)]
  | _ => []
 keepX := fun b => match b with
  | 0 => [(4,false),(5,false)]
  | _ => []
 keepXB := fun b => match b with
  | 0 => [(4,false),(5,false)]
  | _ => []
theorem goodFi_FroFall:∀ f ms F,Ei_FroFall.fn f = some (ms,F) → Sound Tryz.prog f ms F := fun f ms F h => by
 unfold Ei_FroFall at h
 dsimp only at h
 split at h
 ·exact gF si_FroOk h
 ·exact gF si_DiskFall h
 ·exact gF sslices_ContainsFunc_i_LogNote_i_LogNote__i_FroFall_1 h
 ·exact gF si_LogDisk_of h
 ·cases h
theorem goodi_FroFall:Good Tryz.prog Ei_FroFall := ⟨rfl,goodFi_FroFall,fun f ms F h => by cases h⟩
def Oi_FroFall_0:Orc := fun _ _ => none
def msi_FroFall:List PM := [.rd,.own]
def lsi_FroFall:List (Nat×Code) := loopsAll 0 (Tryz.f17.body.getD .skip)
def ci_FroFall_0:Code := (loopOf 0 (Tryz.f17.body.getD .skip)).getD .skip
theorem lseqi_FroFall:lsi_FroFall = [(0,ci_FroFall_0)] := by kernel_rfl
theorem mi_FroFall_0:∀ p,p ∈ lsi_FroFall → p.1 = 0 → p.2 = ci_FroFall_0 := by
 intro p hp
 rw [lseqi_FroFall] at hp
 simp only [List.mem_cons,List.not_mem_nil,or_false] at hp
 subst hp; simp
theorem ki_FroFall_0:OrcOk Ei_FroFall Oi_FroFall_0 lsi_FroFall 0 := orcOk_none
def hi_FroFall_0 (y0:Int) (y1:Int) (y2:tL0) (y3:tL1) (y4:Int) (y5:tL0) (y6:tL1):List (Pl×LV) := [(.T 4,.t (.val false [.ptr 4 0 0])),(.T 5,.t (.val false [.ptr 5 0 0])),(.T 17,.t (.val false [.int .i64 y0])),(.B 4,.b 0 false [.row 4 1 0,.int .i64 y1,.row 4 5 0]),(.R 4 1,.r 0 (some ⟨false,.any,true,92,(.pair (.int .i64) (.pair (.int .i64) (.pair (.sl 9 .str) (.sl 155 (.pair .str (.pair .bool (.sl 3 (.int .i64)))))))),y2⟩)),(.R 4 5,.r 0 (some ⟨false,.any,true,73,(.pair (.int .i64) (.pair (.pair (.int .i64) (.pair (.int .i64) (.pair (.int .i64) (.pair (.int .i64) (.pair (.int .i64) (.pair (.int .i64) (.int .i64))))))) (.pair .bool (.pair (.sl 3 (.int .i64)) (.sl 3 (.int .i64)))))),y3⟩)),(.B 5,.b 0 false [.row 5 1 0,.int .i64 y4,.row 5 5 0]),(.R 5 1,.r 0 (some ⟨false,.any,true,92,(.pair (.int .i64) (.pair (.int .i64) (.pair (.sl 9 .str) (.sl 155 (.pair .str (.pair .bool (.sl 3 (.int .i64)))))))),y5⟩)),(.R 5 5,.r 0 (some ⟨false,.any,true,73,(.pair (.int .i64) (.pair (.pair (.int .i64) (.pair (.int .i64) (.pair (.int .i64) (.pair (.int .i64) (.pair (.int .i64) (.pair (.int .i64) (.int .i64))))))) (.pair .bool (.pair (.sl 3 (.int .i64)) (.sl 3 (.int .i64)))))),y6⟩))]
def g_Si_FroFall_0 (y1:Int) (y2:tL0) (y3:tL1) (y4:Int) (y5:tL0):(Int×tL1) → RT (Int×tL1) ((tL1))
 | (y0,y6) => .br (true) (.br (decide (y0 < 30)) (.br (g_Aslices_ContainsFunc_i_LogNote_i_LogNote__i_FroFall_1 y5 y0) (.br (!g_Vslices_ContainsFunc_i_LogNote_i_LogNote__i_FroFall_1_0 y5 y0) (.br (g_Ai_LogDisk_of y5) (.br (true) (.br (g_Vi_LogDisk_of_0 y5 y0 == 2) (.br (decide ((List.length y6 + List.length [(y0,((0:Int),(0:Int),(0:Int),(0:Int),(0:Int),(0:Int),(0:Int)),true,([]:List Int),([]:List Int))]) * nat_lit 120 ≤ nat_lit 140737488355328 ∧ List.length y6 + List.length [(y0,((0:Int),(0:Int),(0:Int),(0:Int),(0:Int),(0:Int),(0:Int)),true,([]:List Int),([]:List Int))] ≤ nat_lit 9223372036854775807)) (.br (true) (.go ((IntKind.i64.wrap (y0 + 1),y6 ++ [(y0,((0:Int),(0:Int),(0:Int),(0:Int),(0:Int),(0:Int),(0:Int)),true,([]:List Int),([]:List Int))]))) .bad) .bad) (.br (true) (.go ((IntKind.i64.wrap (y0 + 1),y6))) .bad)) .bad) .bad) (.br (true) (.go ((IntKind.i64.wrap (y0 + 1),y6))) .bad)) .bad) (.out (y6))) .bad
def g_Li_FroFall_0 (y1:Int) (y2:tL0) (y3:tL1) (y4:Int) (y5:tL0) (x:Int×tL1):Option ((tL1)) := loopO (g_Si_FroFall_0 y1 y2 y3 y4 y5) x
def xi_FroFall_0 (y1:Int) (y2:tL0) (y3:tL1) (y4:Int) (y5:tL0):((tL1)) → Ex×List (Pl×LV) := fun r => (.exit 0,[(.T 4,.t (.val false [.ptr 4 0 0])),(.T 5,.t (.val false [.ptr 5 0 0])),(.B 4,.b 0 false [.row 4 1 0,.int .i64 y1,.row 4 5 0]),(.R 4 1,.r 0 (some ⟨false,.any,true,92,(.pair (.int .i64) (.pair (.int .i64) (.pair (.sl 9 .str) (.sl 155 (.pair .str (.pair .bool (.sl 3 (.int .i64)))))))),y2⟩)),(.R 4 5,.r 0 (some ⟨false,.any,true,73,(.pair (.int .i64) (.pair (.pair (.int .i64) (.pair (.int .i64) (.pair (.int .i64) (.pair (.int .i64) (.pair (.int .i64) (.pair (.int .i64) (.int .i64))))))) (.pair .bool (.pair (.sl 3 (.int .i64)) (.sl 3 (.int .i64)))))),y3⟩)),(.B 5,.b 0 false [.row 5 1 0,.int .i64 y4,.row 5 5 0]),(.R 5 1,.r 0 (some ⟨false,.any,true,92,(.pair (.int .i64) (.pair (.int .i64) (.pair (.sl 9 .str) (.sl 155 (.pair .str (.pair .bool (.sl 3 (.int .i64)))))))),y5⟩)),(.R 5 5,.r 0 (some ⟨false,.any,true,73,(.pair (.int .i64) (.pair (.pair (.int .i64) (.pair (.int .i64) (.pair (.int .i64) (.pair (.int .i64) (.pair (.int .i64) (.pair (.int .i64) (.int .i64))))))) (.pair .bool (.pair (.sl 3 (.int .i64)) (.sl 3 (.int .i64)))))),r⟩))])
def Oi_FroFall_1:Orc := fun b h => match b,h with
 | 0,[(.T 4,.t (.val false [.ptr 4 0 0])),(.T 5,.t (.val false [.ptr 5 0 0])),(.T 17,.t (.val false [.int .i64 y0])),(.B 4,.b 0 false [.row 4 1 0,.int .i64 y1,.row 4 5 0]),(.R 4 1,.r 0 (some ⟨false,.any,true,92,(.pair (.int .i64) (.pair (.int .i64) (.pair (.sl 9 .str) (.sl 155 (.pair .str (.pair .bool (.sl 3 (.int .i64)))))))),y2⟩)),(.R 4 5,.r 0 (some ⟨false,.any,true,73,(.pair (.int .i64) (.pair (.pair (.int .i64) (.pair (.int .i64) (.pair (.int .i64) (.pair (.int .i64) (.pair (.int .i64) (.pair (.int .i64) (.int .i64))))))) (.pair .bool (.pair (.sl 3 (.int .i64)) (.sl 3 (.int .i64)))))),y3⟩)),(.B 5,.b 0 false [.row 5 1 0,.int .i64 y4,.row 5 5 0]),(.R 5 1,.r 0 (some ⟨false,.any,true,92,(.pair (.int .i64) (.pair (.int .i64) (.pair (.sl 9 .str) (.sl 155 (.pair .str (.pair .bool (.sl 3 (.int .i64)))))))),y5⟩)),(.R 5 5,.r 0 (some ⟨false,.any,true,73,(.pair (.int .i64) (.pair (.pair (.int .i64) (.pair (.int .i64) (.pair (.int .i64) (.pair (.int .i64) (.pair (.int .i64) (.pair (.int .i64) (.int .i64))))))) (.pair .bool (.pair (.sl 3 (.int .i64)) (.sl 3 (.int .i64)))))),y6⟩))] => some (okO (g_Li_FroFall_0 y1 y2 y3 y4 y5 (y0,y6)),(.leaf (.exit 0) [(.T 4,.t (.val false [.ptr 4 0 0])),(.T 5,.t (.val false [.ptr 5 0 0])),(.B 4,.b 0 false [.row 4 1 0,.int .i64 y1,.row 4 5 0]),(.R 4 1,.r 0 (some ⟨false,.any,true,92,(.pair (.int .i64) (.pair (.int .i64) (.pair (.sl 9 .str) (.sl 155 (.pair .str (.pair .bool (.sl 3 (.int .i64)))))))),y2⟩)),(.R 4 5,.r 0 (some ⟨false,.any,true,73,(.pair (.int .i64) (.pair (.pair (.int .i64) (.pair (.int .i64) (.pair (.int .i64) (.pair (.int .i64) (.pair (.int .i64) (.pair (.int .i64) (.int .i64))))))) (.pair .bool (.pair (.sl 3 (.int .i64)) (.sl 3 (.int .i64)))))),y3⟩)),(.B 5,.b 0 false [.row 5 1 0,.int .i64 y4,.row 5 5 0]),(.R 5 1,.r 0 (some ⟨false,.any,true,92,(.pair (.int .i64) (.pair (.int .i64) (.pair (.sl 9 .str) (.sl 155 (.pair .str (.pair .bool (.sl 3 (.int .i64)))))))),y5⟩)),(.R 5 5,.r 0 (some ⟨false,.any,true,73,(.pair (.int .i64) (.pair (.pair (.int .i64) (.pair (.int .i64) (.pair (.int .i64) (.pair (.int .i64) (.pair (.int .i64) (.pair (.int .i64) (.int .i64))))))) (.pair .bool (.pair (.sl 3 (.int .i64)) (.sl 3 (.int .i64)))))),(valO (g_Li_FroFall_0 y1 y2 y3 y4 y5 (y0,y6)))⟩))]))
 | b,h => Oi_FroFall_0 b h
theorem bi_FroFall_0 (y0:Int) (y1:Int) (y2:tL0) (y3:tL1) (y4:Int) (y5:tL0) (y6:tL1):Tr.bt Ei_FroFall Oi_FroFall_0 (exec Ei_FroFall 0 ci_FroFall_0 (St.of (hi_FroFall_0 y0 y1 y2 y3 y4 y5 y6)) (leafRd Ei_FroFall 0)) = (g_Si_FroFall_0 y1 y2 y3 y4 y5 (y0,y6)).bt (fun ((y0,y6):Int×tL1) => (hi_FroFall_0 y0 y1 y2 y3 y4 y5 y6)) (xi_FroFall_0 y1 y2 y3 y4 y5) := by kernel_rfl
theorem ki_FroFall_1:OrcOk Ei_FroFall Oi_FroFall_1 lsi_FroFall 1 := orc_add ki_FroFall_0 (fun n p hp h ex h' ho => by
 obtain ⟨b,c⟩ := p
 obtain ⟨xt,h1,h2⟩ := ho
 have h1:Oi_FroFall_1 b h = some (true,xt) := h1
 unfold Oi_FroFall_1 at h1
 split at h1
 ·injection h1 with h1
  injection h1 with e1 e2
  subst e2
  have hc:c = ci_FroFall_0 := mi_FroFall_0 _ hp rfl
  subst hc
  right
  rename_i y0 y1 y2 y3 y4 y5 y6
  have key := LT_step ki_FroFall_0 hp (fun q hq => loopsAll_in _ _ _ _ hp hq) (fun ((y0,y6):Int×tL1) => (hi_FroFall_0 y0 y1 y2 y3 y4 y5 y6)) (xi_FroFall_0 y1 y2 y3 y4 y5) (g_Si_FroFall_0 y1 y2 y3 y4 y5) (fun x => by first | exact bi_FroFall_0 x.1 y1 y2 y3 y4 y5 x.2) n (x := (y0,y6)) (okO_some e1)
  have hx:∀ r,XT.sel (.leaf (.exit 0) [(.T 4,.t (.val false [.ptr 4 0 0])),(.T 5,.t (.val false [.ptr 5 0 0])),(.B 4,.b 0 false [.row 4 1 0,.int .i64 y1,.row 4 5 0]),(.R 4 1,.r 0 (some ⟨false,.any,true,92,(.pair (.int .i64) (.pair (.int .i64) (.pair (.sl 9 .str) (.sl 155 (.pair .str (.pair .bool (.sl 3 (.int .i64)))))))),y2⟩)),(.R 4 5,.r 0 (some ⟨false,.any,true,73,(.pair (.int .i64) (.pair (.pair (.int .i64) (.pair (.int .i64) (.pair (.int .i64) (.pair (.int .i64) (.pair (.int .i64) (.pair (.int .i64) (.int .i64))))))) (.pair .bool (.pair (.sl 3 (.int .i64)) (.sl 3 (.int .i64)))))),y3⟩)),(.B 5,.b 0 false [.row 5 1 0,.int .i64 y4,.row 5 5 0]),(.R 5 1,.r 0 (some ⟨false,.any,true,92,(.pair (.int .i64) (.pair (.int .i64) (.pair (.sl 9 .str) (.sl 155 (.pair .str (.pair .bool (.sl 3 (.int .i64)))))))),y5⟩)),(.R 5 5,.r 0 (some ⟨false,.any,true,73,(.pair (.int .i64) (.pair (.pair (.int .i64) (.pair (.int .i64) (.pair (.int .i64) (.pair (.int .i64) (.pair (.int .i64) (.pair (.int .i64) (.int .i64))))))) (.pair .bool (.pair (.sl 3 (.int .i64)) (.sl 3 (.int .i64)))))),r⟩))]) = xi_FroFall_0 y1 y2 y3 y4 y5 r := fun r => by first | rfl | rcases r with r | r <;> rfl | rcases r with r | r | r <;> rfl | rcases r with r | r | r | r <;> rfl
  have h3 := (hx (valO (g_Li_FroFall_0 y1 y2 y3 y4 y5 (y0,y6)))).symm.trans h2
  have e3 := congrArg Prod.fst h3
  have e4 := congrArg Prod.snd h3
  simp only at e3 e4
  rw [← e3,← e4]
  exact key
 ·exact .inl ⟨xt,h1,h2⟩)
def g_Ai_FroFall (a0:tL0) (a1:Int) (a2:tL1) (a3:Int):Bool := g_Ai_FroOk a0 a1 a2&&(!g_Vi_FroOk_0 a0 a1 a2 || g_Ai_DiskFall a0 a1 a3&&okO (g_Li_FroFall_0 (0:Int) [] [] (g_Vi_DiskFall_1 a0 a1 a3) (g_Vi_DiskFall_0 a0 a1 a3) ((0:Int),[])))
def g_Vi_FroFall_0 (a0:tL0) (a1:Int) (a2:tL1) (a3:Int):tL0 := bif !g_Vi_FroOk_0 a0 a1 a2 then [] else g_Vi_DiskFall_0 a0 a1 a3
def g_Vi_FroFall_1 (a0:tL0) (a1:Int) (a2:tL1) (a3:Int):Int := bif !g_Vi_FroOk_0 a0 a1 a2 then (0:Int) else g_Vi_DiskFall_1 a0 a1 a3
def g_Vi_FroFall_2 (a0:tL0) (a1:Int) (a2:tL1) (a3:Int):tL1 := bif !g_Vi_FroOk_0 a0 a1 a2 then [] else valO (g_Li_FroFall_0 (0:Int) [] [] (g_Vi_DiskFall_1 a0 a1 a3) (g_Vi_DiskFall_0 a0 a1 a3) ((0:Int),[]))
def Fi_FroFall:FSem := fun ys => match ys with
 | [.val true [.sl .any 92 (.pair (.int .i64) (.pair (.int .i64) (.pair (.sl 9 .str) (.sl 155 (.pair .str (.pair .bool (.sl 3 (.int .i64)))))))) a0,.int .i64 a1,.sl .any 73 (.pair (.int .i64) (.pair (.pair (.int .i64) (.pair (.int .i64) (.pair (.int .i64) (.pair (.int .i64) (.pair (.int .i64) (.pair (.int .i64) (.int .i64))))))) (.pair .bool (.pair (.sl 3 (.int .i64)) (.sl 3 (.int .i64)))))) a2],.val false [.int .i64 a3]] => some ((g_Ai_FroFall a0 a1 a2 a3),.val true [.own .any true 92 (.pair (.int .i64) (.pair (.int .i64) (.pair (.sl 9 .str) (.sl 155 (.pair .str (.pair .bool (.sl 3 (.int .i64)))))))) (g_Vi_FroFall_0 a0 a1 a2 a3),.int .i64 (g_Vi_FroFall_1 a0 a1 a2 a3),.own .any true 73 (.pair (.int .i64) (.pair (.pair (.int .i64) (.pair (.int .i64) (.pair (.int .i64) (.pair (.int .i64) (.pair (.int .i64) (.pair (.int .i64) (.int .i64))))))) (.pair .bool (.pair (.sl 3 (.int .i64)) (.sl 3 (.int .i64)))))) (g_Vi_FroFall_2 a0 a1 a2 a3)],[])
 | _ => none
theorem vi_FroFall (a0:tL0) (a1:Int) (a2:tL1) (a3:Int):collapseH .std Ei_FroFall Oi_FroFall_1 (execFn Ei_FroFall Tryz.f17 msi_FroFall [.val true [.sl .any 92 (.pair (.int .i64) (.pair (.int .i64) (.pair (.sl 9 .str) (.sl 155 (.pair .str (.pair .bool (.sl 3 (.int .i64)))))))) a0,.int .i64 a1,.sl .any 73 (.pair (.int .i64) (.pair (.pair (.int .i64) (.pair (.int .i64) (.pair (.int .i64) (.pair (.int .i64) (.pair (.int .i64) (.pair (.int .i64) (.int .i64))))))) (.pair .bool (.pair (.sl 3 (.int .i64)) (.sl 3 (.int .i64)))))) a2],.val false [.int .i64 a3]]) = some ((g_Ai_FroFall a0 a1 a2 a3),.val true [.own .any true 92 (.pair (.int .i64) (.pair (.int .i64) (.pair (.sl 9 .str) (.sl 155 (.pair .str (.pair .bool (.sl 3 (.int .i64)))))))) (g_Vi_FroFall_0 a0 a1 a2 a3),.int .i64 (g_Vi_FroFall_1 a0 a1 a2 a3),.own .any true 73 (.pair (.int .i64) (.pair (.pair (.int .i64) (.pair (.int .i64) (.pair (.int .i64) (.pair (.int .i64) (.pair (.int .i64) (.pair (.int .i64) (.int .i64))))))) (.pair .bool (.pair (.sl 3 (.int .i64)) (.sl 3 (.int .i64)))))) (g_Vi_FroFall_2 a0 a1 a2 a3)],[]) := by kernel_rfl
theorem si_FroFall:Sound Tryz.prog 17 msi_FroFall Fi_FroFall := by
 refine fn_gen goodi_FroFall (by kernel_rfl) .std (fn := Tryz.f17) (c := (Tryz.f17.body.getD .skip)) (o := Oi_FroFall_1) (k := 1) (by kernel_rfl) (by kernel_rfl) (by kernel_rfl) (by kernel_rfl) (by decide) ki_FroFall_1 ?_
 intro ys r outs h
 unfold Fi_FroFall at h
 split at h
 ·exact (vi_FroFall _ _ _ _).trans h
 ·cases h
def Es_l1In:Env where
 tt := mkTI Tryz.prog
 fn := fun _ => none
 bxf := fun _ => none
 mv := []
 keep := fun _ => []
 keepB := fun _ => []
 keepX := fun _ => []
 keepXB := fun _ => []
theorem goodFs_l1In:∀ f ms F,Es_l1In.fn f = some (ms,F) → Sound Tryz.prog f ms F := fun f ms F h => by cases h
theorem goods_l1In:Good Tryz.prog Es_l1In := ⟨rfl,goodFs_l1In,fun f ms F h => by cases h⟩
def Os_l1In_0:Orc := fun _ _ => none
def mss_l1In:List PM := [.own,.own,.own]
def lss_l1In:List (Nat×Code) := loopsAll 0 (Tryz.f55.body.getD .skip)
theorem ks_l1In_0:OrcOk Es_l1In Os_l1In_0 lss_l1In 0 := orcOk_none
def g_As_l1In (a0:Int) (a1:Int) (a2:Int):Bool := !decide (a0 ≥ a1) || true
def g_Vs_l1In_0 (a0:Int) (a1:Int) (a2:Int):Bool := bif decide (a0 ≥ a1) then decide (a0 ≤ a2) else false
def Fs_l1In:FSem := fun ys => match ys with
 | [.val false [.int .i64 a0],.val false [.int .i64 a1],.val false [.int .i64 a2]] => some ((g_As_l1In a0 a1 a2),.val false [.bool (g_Vs_l1In_0 a0 a1 a2)],[])
 | _ => none
theorem vs_l1In (a0:Int) (a1:Int) (a2:Int):collapseH .std Es_l1In Os_l1In_0 (execFn Es_l1In Tryz.f55 mss_l1In [.val false [.int .i64 a0],.val false [.int .i64 a1],.val false [.int .i64 a2]]) = some ((g_As_l1In a0 a1 a2),.val false [.bool (g_Vs_l1In_0 a0 a1 a2)],[]) := by kernel_rfl
theorem ss_l1In:Sound Tryz.prog 55 mss_l1In Fs_l1In := by
 refine fn_gen goods_l1In (by kernel_rfl) .std (fn := Tryz.f55) (c := (Tryz.f55.body.getD .skip)) (o := Os_l1In_0) (k := 0) (by kernel_rfl) (by kernel_rfl) (by kernel_rfl) (by kernel_rfl) (by decide) ks_l1In_0 ?_
 intro ys r outs h
 unfold Fs_l1In at h
 split at h
 ·exact (vs_l1In _ _ _).trans h
 ·cases h
def Es_l1Key:Env where
 tt := mkTI Tryz.prog
 fn := fun f => match f with
  | 55 => some (mss_l1In,FSem.wk mss_l1In Fs_l1In)
  | _ => none
 bxf := fun _ => none
 mv := []
 keep := fun b => match b with
  | 0 => [(0,false),(3,false)]
  | _ => []
 keepB := fun b => match b with
  | 0 => []
  | _ => []
 keepX := fun b => match b with
  | 0 => [(2,false)]
  | _ => []
 keepXB := fun b => match b with
  | 0 => []
  | _ => []
theorem goodFs_l1Key:∀ f ms F,Es_l1Key.fn f = some (ms,F) → Sound Tryz.prog f ms F := fun f ms F h => by
 unfold Es_l1Key at h
 dsimp only at h
 split at h
 ·exact gF ss_l1In h
 ·cases h
theorem goods_l1Key:Good Tryz.prog Es_l1Key := ⟨rfl,goodFs_l1Key,fun f ms F h => by cases h⟩
def Os_l1Key_0:Orc := fun _ _ => none
def mss_l1Key:List PM := [.own]
def lss_l1Key:List (Nat×Code) := loopsAll 0 (Tryz.f155.body.getD .skip)
def cs_l1Key_0:Code := (loopOf 0 (Tryz.f155.body.getD .skip)).getD .skip
theorem lseqs_l1Key:lss_l1Key = [(0,cs_l1Key_0)] := by kernel_rfl
theorem ms_l1Key_0:∀ p,p ∈ lss_l1Key → p.1 = 0 → p.2 = cs_l1Key_0 := by
 intro p hp
 rw [lseqs_l1Key] at hp
 simp only [List.mem_cons,List.not_mem_nil,or_false] at hp
 subst hp; simp
theorem ks_l1Key_0:OrcOk Es_l1Key Os_l1Key_0 lss_l1Key 0 := orcOk_none
def hs_l1Key_0 (y0:ByteArray) (y1:Int):List (Pl×LV) := [(.T 0,.t (.val false [.str y0])),(.T 3,.t (.val false [.int .i64 y1]))]
def g_Ss_l1Key_0 (y0:ByteArray):(Int) → RT (Int) ((Bool) ⊕ (Unit))
 | y1 => .br (true) (.br (decide (y1 < (↑(ByteArray.size y0):Int))) (.br (decide (0 ≤ y1 ∧ y1 < (↑(ByteArray.size y0):Int))) (.br (true) (.br (decide (byteAt y0 (Int.toNat y1) < 48)) (.out (.inl false)) (.br (decide (0 ≤ y1 ∧ y1 < (↑(ByteArray.size y0):Int))) (.br (true) (.br (decide (byteAt y0 (Int.toNat y1) > 57)) (.out (.inl false)) (.br (true) (.go (IntKind.i64.wrap (y1 + 1))) .bad)) .bad) .bad)) .bad) .bad) (.out (.inr (())))) .bad
def g_Ls_l1Key_0 (y0:ByteArray) (x:Int):Option ((Bool) ⊕ (Unit)) := loopO (g_Ss_l1Key_0 y0) x
def xs_l1Key_0 (y0:ByteArray):((Bool) ⊕ (Unit)) → Ex×List (Pl×LV) := fun
 | .inl r => (.ret,[(.T 2,.t (.val false [.bool r]))])
 | .inr (r) => (.exit 0,[(.T 2,.t (.val false [.undef]))])
def Os_l1Key_1:Orc := fun b h => match b,h with
 | 0,[(.T 0,.t (.val false [.str y0])),(.T 3,.t (.val false [.int .i64 y1]))] => some (okO (g_Ls_l1Key_0 y0 y1),(.br (isL (valO (g_Ls_l1Key_0 y0 y1))) (.leaf .ret [(.T 2,.t (.val false [.bool (getL (valO (g_Ls_l1Key_0 y0 y1)))]))]) (.leaf (.exit 0) [(.T 2,.t (.val false [.undef]))])))
 | b,h => Os_l1Key_0 b h
theorem bs_l1Key_0 (y0:ByteArray) (y1:Int):Tr.bt Es_l1Key Os_l1Key_0 (exec Es_l1Key 0 cs_l1Key_0 (St.of (hs_l1Key_0 y0 y1)) (leafRd Es_l1Key 0)) = (g_Ss_l1Key_0 y0 y1).bt (fun (y1:Int) => (hs_l1Key_0 y0 y1)) (xs_l1Key_0 y0) := by kernel_rfl
theorem ks_l1Key_1:OrcOk Es_l1Key Os_l1Key_1 lss_l1Key 1 := orc_add ks_l1Key_0 (fun n p hp h ex h' ho => by
 obtain ⟨b,c⟩ := p
 obtain ⟨xt,h1,h2⟩ := ho
 have h1:Os_l1Key_1 b h = some (true,xt) := h1
 unfold Os_l1Key_1 at h1
 split at h1
 ·injection h1 with h1
  injection h1 with e1 e2
  subst e2
  have hc:c = cs_l1Key_0 := ms_l1Key_0 _ hp rfl
  subst hc
  right
  rename_i y0 y1
  have key := LT_step ks_l1Key_0 hp (fun q hq => loopsAll_in _ _ _ _ hp hq) (fun (y1:Int) => (hs_l1Key_0 y0 y1)) (xs_l1Key_0 y0) (g_Ss_l1Key_0 y0) (fun x => by first | exact bs_l1Key_0 y0 x) n (x := y1) (okO_some e1)
  have hx:∀ r,XT.sel (.br (isL r) (.leaf .ret [(.T 2,.t (.val false [.bool (getL r)]))]) (.leaf (.exit 0) [(.T 2,.t (.val false [.undef]))])) = xs_l1Key_0 y0 r := fun r => by first | rfl | rcases r with r | r <;> rfl | rcases r with r | r | r <;> rfl | rcases r with r | r | r | r <;> rfl
  have h3 := (hx (valO (g_Ls_l1Key_0 y0 y1))).symm.trans h2
  have e3 := congrArg Prod.fst h3
  have e4 := congrArg Prod.snd h3
  simp only at e3 e4
  rw [← e3,← e4]
  exact key
 ·exact .inl ⟨xt,h1,h2⟩)
def g_As_l1Key (a0:ByteArray):Bool := g_As_l1In (↑(ByteArray.size a0):Int) (2:Int) (3:Int)&&(!g_Vs_l1In_0 (↑(ByteArray.size a0):Int) (2:Int) (3:Int) || decide ((0:Int) ≤ (0:Int) ∧ 0 < (↑(ByteArray.size a0):Int))&&(decide (byteAt a0 (nat_lit 0) < 97) || decide ((0:Int) ≤ (0:Int) ∧ 0 < (↑(ByteArray.size a0):Int))&&(decide (byteAt a0 (nat_lit 0) > 122) || okO (g_Ls_l1Key_0 a0 (1:Int)))))
def g_Vs_l1Key_0 (a0:ByteArray):Bool := bif !g_Vs_l1In_0 (↑(ByteArray.size a0):Int) (2:Int) (3:Int) then false else bif decide (byteAt a0 (nat_lit 0) < 97) then false else bif decide (byteAt a0 (nat_lit 0) > 122) then false else bif isL (valO (g_Ls_l1Key_0 a0 (1:Int))) then getL (valO (g_Ls_l1Key_0 a0 (1:Int))) else true
def Fs_l1Key:FSem := fun ys => match ys with
 | [.val false [.str a0]] => some ((g_As_l1Key a0),.val false [.bool (g_Vs_l1Key_0 a0)],[])
 | _ => none
theorem vs_l1Key (a0:ByteArray):collapseH .std Es_l1Key Os_l1Key_1 (execFn Es_l1Key Tryz.f155 mss_l1Key [.val false [.str a0]]) = some ((g_As_l1Key a0),.val false [.bool (g_Vs_l1Key_0 a0)],[]) := by kernel_rfl
theorem ss_l1Key:Sound Tryz.prog 155 mss_l1Key Fs_l1Key := by
 refine fn_gen goods_l1Key (by kernel_rfl) .std (fn := Tryz.f155) (c := (Tryz.f155.body.getD .skip)) (o := Os_l1Key_1) (k := 1) (by kernel_rfl) (by kernel_rfl) (by kernel_rfl) (by kernel_rfl) (by decide) ks_l1Key_1 ?_
 intro ys r outs h
 unfold Fs_l1Key at h
 split at h
 ·exact (vs_l1Key _).trans h
 ·cases h
def Es_l1Val:Env where
 tt := mkTI Tryz.prog
 fn := fun f => match f with
  | 55 => some (mss_l1In,FSem.wk mss_l1In Fs_l1In)
  | _ => none
 bxf := fun _ => none
 mv := []
 keep := fun b => match b with
  | 0 => [(0,false),(3,false)]
  | _ => []
 keepB := fun b => match b with
  | 0 => []
  | _ => []
 keepX := fun b => match b with
  | 0 => [(0,false),(2,false)]
  | _ => []
 keepXB := fun b => match b with
  | 0 => []
  | _ => []
theorem goodFs_l1Val:∀ f ms F,Es_l1Val.fn f = some (ms,F) → Sound Tryz.prog f ms F := fun f ms F h => by
 unfold Es_l1Val at h
 dsimp only at h
 split at h
 ·exact gF ss_l1In h
 ·cases h
theorem goods_l1Val:Good Tryz.prog Es_l1Val := ⟨rfl,goodFs_l1Val,fun f ms F h => by cases h⟩
def Os_l1Val_0:Orc := fun _ _ => none
def mss_l1Val:List PM := [.rd]
def lss_l1Val:List (Nat×Code) := loopsAll 0 (Tryz.f174.body.getD .skip)
def cs_l1Val_0:Code := (loopOf 0 (Tryz.f174.body.getD .skip)).getD .skip
theorem lseqs_l1Val:lss_l1Val = [(0,cs_l1Val_0)] := by kernel_rfl
theorem ms_l1Val_0:∀ p,p ∈ lss_l1Val → p.1 = 0 → p.2 = cs_l1Val_0 := by
 intro p hp
 rw [lseqs_l1Val] at hp
 simp only [List.mem_cons,List.not_mem_nil,or_false] at hp
 subst hp; simp
theorem ks_l1Val_0:OrcOk Es_l1Val Os_l1Val_0 lss_l1Val 0 := orcOk_none
def hs_l1Val_0 (y0:List Int) (y1:Int):List (Pl×LV) := [(.T 0,.t (.val false [.sl .any 3 (.int .i64) y0])),(.T 3,.t (.val false [.int .i64 y1]))]
def g_Ss_l1Val_0 (y0:List Int):(Int) → RT (Int) ((Bool) ⊕ (Unit))
 | y1 => .br (true) (.br (decide (y1 < (y0.length:Int))) (.br (decide (0 ≤ y1 ∧ y1 < (y0.length:Int))) (.br (g_As_l1In (at_ (.int .i64) y0 (Int.toNat y1)) (0:Int) (9999:Int)) (.br (!g_Vs_l1In_0 (at_ (.int .i64) y0 (Int.toNat y1)) (0:Int) (9999:Int)) (.out (.inl false)) (.br (true) (.go (IntKind.i64.wrap (y1 + 1))) .bad)) .bad) .bad) (.out (.inr (())))) .bad
def g_Ls_l1Val_0 (y0:List Int) (x:Int):Option ((Bool) ⊕ (Unit)) := loopO (g_Ss_l1Val_0 y0) x
def xs_l1Val_0 (y0:List Int):((Bool) ⊕ (Unit)) → Ex×List (Pl×LV) := fun
 | .inl r => (.ret,[(.T 0,.t (.val false [.sl .any 3 (.int .i64) y0])),(.T 2,.t (.val false [.bool r]))])
 | .inr (r) => (.exit 0,[(.T 0,.t (.val false [.sl .any 3 (.int .i64) y0])),(.T 2,.t (.val false [.undef]))])
def Os_l1Val_1:Orc := fun b h => match b,h with
 | 0,[(.T 0,.t (.val false [.sl .any 3 (.int .i64) y0])),(.T 3,.t (.val false [.int .i64 y1]))] => some (okO (g_Ls_l1Val_0 y0 y1),(.br (isL (valO (g_Ls_l1Val_0 y0 y1))) (.leaf .ret [(.T 0,.t (.val false [.sl .any 3 (.int .i64) y0])),(.T 2,.t (.val false [.bool (getL (valO (g_Ls_l1Val_0 y0 y1)))]))]) (.leaf (.exit 0) [(.T 0,.t (.val false [.sl .any 3 (.int .i64) y0])),(.T 2,.t (.val false [.undef]))])))
 | b,h => Os_l1Val_0 b h
theorem bs_l1Val_0 (y0:List Int) (y1:Int):Tr.bt Es_l1Val Os_l1Val_0 (exec Es_l1Val 0 cs_l1Val_0 (St.of (hs_l1Val_0 y0 y1)) (leafRd Es_l1Val 0)) = (g_Ss_l1Val_0 y0 y1).bt (fun (y1:Int) => (hs_l1Val_0 y0 y1)) (xs_l1Val_0 y0) := by kernel_rfl
theorem ks_l1Val_1:OrcOk Es_l1Val Os_l1Val_1 lss_l1Val 1 := orc_add ks_l1Val_0 (fun n p hp h ex h' ho => by
 obtain ⟨b,c⟩ := p
 obtain ⟨xt,h1,h2⟩ := ho
 have h1:Os_l1Val_1 b h = some (true,xt) := h1
 unfold Os_l1Val_1 at h1
 split at h1
 ·injection h1 with h1
  injection h1 with e1 e2
  subst e2
  have hc:c = cs_l1Val_0 := ms_l1Val_0 _ hp rfl
  subst hc
  right
  rename_i y0 y1
  have key := LT_step ks_l1Val_0 hp (fun q hq => loopsAll_in _ _ _ _ hp hq) (fun (y1:Int) => (hs_l1Val_0 y0 y1)) (xs_l1Val_0 y0) (g_Ss_l1Val_0 y0) (fun x => by first | exact bs_l1Val_0 y0 x) n (x := y1) (okO_some e1)
  have hx:∀ r,XT.sel (.br (isL r) (.leaf .ret [(.T 0,.t (.val false [.sl .any 3 (.int .i64) y0])),(.T 2,.t (.val false [.bool (getL r)]))]) (.leaf (.exit 0) [(.T 0,.t (.val false [.sl .any 3 (.int .i64) y0])),(.T 2,.t (.val false [.undef]))])) = xs_l1Val_0 y0 r := fun r => by first | rfl | rcases r with r | r <;> rfl | rcases r with r | r | r <;> rfl | rcases r with r | r | r | r <;> rfl
  have h3 := (hx (valO (g_Ls_l1Val_0 y0 y1))).symm.trans h2
  have e3 := congrArg Prod.fst h3
  have e4 := congrArg Prod.snd h3
  simp only at e3 e4
  rw [← e3,← e4]
  exact key
 ·exact .inl ⟨xt,h1,h2⟩)
def g_As_l1Val (a0:List Int):Bool := okO (g_Ls_l1Val_0 a0 (0:Int))&&(isL (valO (g_Ls_l1Val_0 a0 (0:Int))) || g_As_l1In (a0.length:Int) (1:Int) (3:Int))
def g_Vs_l1Val_0 (a0:List Int):Bool := bif isL (valO (g_Ls_l1Val_0 a0 (0:Int))) then getL (valO (g_Ls_l1Val_0 a0 (0:Int))) else g_Vs_l1In_0 (a0.length:Int) (1:Int) (3:Int)
def Fs_l1Val:FSem := fun ys => match ys with
 | [.val false [.sl .any 3 (.int .i64) a0]] => some ((g_As_l1Val a0),.val false [.bool (g_Vs_l1Val_0 a0)],[])
 | _ => none
theorem vs_l1Val (a0:List Int):collapseH .std Es_l1Val Os_l1Val_1 (execFn Es_l1Val Tryz.f174 mss_l1Val [.val false [.sl .any 3 (.int .i64) a0]]) = some ((g_As_l1Val a0),.val false [.bool (g_Vs_l1Val_0 a0)],[]) := by kernel_rfl
theorem ss_l1Val:Sound Tryz.prog 174 mss_l1Val Fs_l1Val := by
 refine fn_gen goods_l1Val (by kernel_rfl) .std (fn := Tryz.f174) (c := (Tryz.f174.body.getD .skip)) (o := Os_l1Val_1) (k := 1) (by kernel_rfl) (by kernel_rfl) (by kernel_rfl) (by kernel_rfl) (by decide) ks_l1Val_1 ?_
 intro ys r outs h
 unfold Fs_l1Val at h
 split at h
 ·exact (vs_l1Val _).trans h
 ·cases h
def Es_WrtOk:Env where
 tt := mkTI Tryz.prog
 fn := fun f => match f with
  | 155 => some (mss_l1Key,FSem.wk mss_l1Key Fs_l1Key)
  | 174 => some (mss_l1Val,FSem.wk mss_l1Val Fs_l1Val)
  | _ => none
 bxf := fun _ => none
 mv := []
 keep := fun _ => []
 keepB := fun _ => []
 keepX := fun _ => []
 keepXB := fun _ => []
theorem goodFs_WrtOk:∀ f ms F,Es_WrtOk.fn f = some (ms,F) → Sound Tryz.prog f ms F := fun f ms F h => by
 unfold Es_WrtOk at h
 dsimp only at h
 split at h
 ·exact gF ss_l1Key h
 ·exact gF ss_l1Val h
 ·cases h
theorem goods_WrtOk:Good Tryz.prog Es_WrtOk := ⟨rfl,goodFs_WrtOk,fun f ms F h => by cases h⟩
def Os_WrtOk_0:Orc := fun _ _ => none
def mss_WrtOk:List PM := [.rd]
def lss_WrtOk:List (Nat×Code) := loopsAll 0 (Tryz.f156.body.getD .skip)
theorem ks_WrtOk_0:OrcOk Es_WrtOk Os_WrtOk_0 lss_WrtOk 0 := orcOk_none
def g_As_WrtOk (a0:ByteArray) (a1:Bool) (a2:List Int):Bool := bif a1 then g_As_l1Key a0&&(!g_Vs_l1Key_0 a0 || true) else g_As_l1Key a0&&(!g_Vs_l1Key_0 a0 || g_As_l1Val a2)
def g_Vs_WrtOk_0 (a0:ByteArray) (a1:Bool) (a2:List Int):Bool := bif a1 then bif g_Vs_l1Key_0 a0 then (a2.length:Int) == 0 else false else bif g_Vs_l1Key_0 a0 then g_Vs_l1Val_0 a2 else false
def Fs_WrtOk:FSem := fun ys => match ys with
 | [.val true [.str a0,.bool a1,.sl .any 3 (.int .i64) a2]] => some ((g_As_WrtOk a0 a1 a2),.val false [.bool (g_Vs_WrtOk_0 a0 a1 a2)],[])
 | _ => none
theorem vs_WrtOk (a0:ByteArray) (a1:Bool) (a2:List Int):collapseH .std Es_WrtOk Os_WrtOk_0 (execFn Es_WrtOk Tryz.f156 mss_WrtOk [.val true [.str a0,.bool a1,.sl .any 3 (.int .i64) a2]]) = some ((g_As_WrtOk a0 a1 a2),.val false [.bool (g_Vs_WrtOk_0 a0 a1 a2)],[]) := by kernel_rfl
theorem ss_WrtOk:Sound Tryz.prog 156 mss_WrtOk Fs_WrtOk := by
 refine fn_gen goods_WrtOk (by kernel_rfl) .std (fn := Tryz.f156) (c := (Tryz.f156.body.getD .skip)) (o := Os_WrtOk_0) (k := 0) (by kernel_rfl) (by kernel_rfl) (by kernel_rfl) (by kernel_rfl) (by decide) ks_WrtOk_0 ?_
 intro ys r outs h
 unfold Fs_WrtOk at h
 split at h
 ·exact (vs_WrtOk _ _ _).trans h
 ·cases h
def Es_l2Has:Env where
 tt := mkTI Tryz.prog
 fn := fun _ => none
 bxf := fun _ => none
 mv := []
 keep := fun b => match b with
  | 0 => [(0,false),(1,false),(5,false)]
  | _ => []
 keepB := fun b => match b with
  | 0 => []
  | _ => []
 keepX := fun b => match b with
  | 0 => [(4,false)]
  | _ => []
 keepXB := fun b => match b with
  | 0 => []
  | _ => []
theorem goodFs_l2Has:∀ f ms F,Es_l2Has.fn f = some (ms,F) → Sound Tryz.prog f ms F := fun f ms F h => by cases h
theorem goods_l2Has:Good Tryz.prog Es_l2Has := ⟨rfl,goodFs_l2Has,fun f ms F h => by cases h⟩
def Os_l2Has_0:Orc := fun _ _ => none
def mss_l2Has:List PM := [.rd,.own]
def lss_l2Has:List (Nat×Code) := loopsAll 0 (Tryz.f157.body.getD .skip)
def cs_l2Has_0:Code := (loopOf 0 (Tryz.f157.body.getD .skip)).getD .skip
theorem lseqs_l2Has:lss_l2Has = [(0,cs_l2Has_0)] := by kernel_rfl
theorem ms_l2Has_0:∀ p,p ∈ lss_l2Has → p.1 = 0 → p.2 = cs_l2Has_0 := by
 intro p hp
 rw [lseqs_l2Has] at hp
 simp only [List.mem_cons,List.not_mem_nil,or_false] at hp
 subst hp; simp
theorem ks_l2Has_0:OrcOk Es_l2Has Os_l2Has_0 lss_l2Has 0 := orcOk_none
def hs_l2Has_0 (y0:List ByteArray) (y1:ByteArray) (y2:Int):List (Pl×LV) := [(.T 0,.t (.val false [.sl .any 9 .str y0])),(.T 1,.t (.val false [.str y1])),(.T 5,.t (.val false [.int .i64 y2]))]
def g_Ss_l2Has_0 (y0:List ByteArray) (y1:ByteArray):(Int) → RT (Int) ((Bool) ⊕ (Unit))
 | y2 => .br (true) (.br (decide (y2 < (y0.length:Int))) (.br (decide (0 ≤ y2 ∧ y2 < (y0.length:Int))) (.br (true) (.br (ByteArray.toList (at_ Ty.str y0 (Int.toNat y2)) == ByteArray.toList y1) (.out (.inl true)) (.br (true) (.go (IntKind.i64.wrap (y2 + 1))) .bad)) .bad) .bad) (.out (.inr (())))) .bad
def g_Ls_l2Has_0 (y0:List ByteArray) (y1:ByteArray) (x:Int):Option ((Bool) ⊕ (Unit)) := loopO (g_Ss_l2Has_0 y0 y1) x
def xs_l2Has_0 (y0:List ByteArray) (y1:ByteArray):((Bool) ⊕ (Unit)) → Ex×List (Pl×LV) := fun
 | .inl r => (.ret,[(.T 4,.t (.val false [.bool r]))])
 | .inr (r) => (.exit 0,[(.T 4,.t (.val false [.undef]))])
def Os_l2Has_1:Orc := fun b h => match b,h with
 | 0,[(.T 0,.t (.val false [.sl .any 9 .str y0])),(.T 1,.t (.val false [.str y1])),(.T 5,.t (.val false [.int .i64 y2]))] => some (okO (g_Ls_l2Has_0 y0 y1 y2),(.br (isL (valO (g_Ls_l2Has_0 y0 y1 y2))) (.leaf .ret [(.T 4,.t (.val false [.bool (getL (valO (g_Ls_l2Has_0 y0 y1 y2)))]))]) (.leaf (.exit 0) [(.T 4,.t (.val false [.undef]))])))
 | b,h => Os_l2Has_0 b h
theorem bs_l2Has_0 (y0:List ByteArray) (y1:ByteArray) (y2:Int):Tr.bt Es_l2Has Os_l2Has_0 (exec Es_l2Has 0 cs_l2Has_0 (St.of (hs_l2Has_0 y0 y1 y2)) (leafRd Es_l2Has 0)) = (g_Ss_l2Has_0 y0 y1 y2).bt (fun (y2:Int) => (hs_l2Has_0 y0 y1 y2)) (xs_l2Has_0 y0 y1) := by kernel_rfl
theorem ks_l2Has_1:OrcOk Es_l2Has Os_l2Has_1 lss_l2Has 1 := orc_add ks_l2Has_0 (fun n p hp h ex h' ho => by
 obtain ⟨b,c⟩ := p
 obtain ⟨xt,h1,h2⟩ := ho
 have h1:Os_l2Has_1 b h = some (true,xt) := h1
 unfold Os_l2Has_1 at h1
 split at h1
 ·injection h1 with h1
  injection h1 with e1 e2
  subst e2
  have hc:c = cs_l2Has_0 := ms_l2Has_0 _ hp rfl
  subst hc
  right
  rename_i y0 y1 y2
  have key := LT_step ks_l2Has_0 hp (fun q hq => loopsAll_in _ _ _ _ hp hq) (fun (y2:Int) => (hs_l2Has_0 y0 y1 y2)) (xs_l2Has_0 y0 y1) (g_Ss_l2Has_0 y0 y1) (fun x => by first | exact bs_l2Has_0 y0 y1 x) n (x := y2) (okO_some e1)
  have hx:∀ r,XT.sel (.br (isL r) (.leaf .ret [(.T 4,.t (.val false [.bool (getL r)]))]) (.leaf (.exit 0) [(.T 4,.t (.val false [.undef]))])) = xs_l2Has_0 y0 y1 r := fun r => by first | rfl | rcases r with r | r <;> rfl | rcases r with r | r | r <;> rfl | rcases r with r | r | r | r <;> rfl
  have h3 := (hx (valO (g_Ls_l2Has_0 y0 y1 y2))).symm.trans h2
  have e3 := congrArg Prod.fst h3
  have e4 := congrArg Prod.snd h3
  simp only at e3 e4
  rw [← e3,← e4]
  exact key
 ·exact .inl ⟨xt,h1,h2⟩)
def g_As_l2Has (a0:List ByteArray) (a1:ByteArray):Bool := okO (g_Ls_l2Has_0 a0 a1 (0:Int))
def g_Vs_l2Has_0 (a0:List ByteArray) (a1:ByteArray):Bool := bif isL (valO (g_Ls_l2Has_0 a0 a1 (0:Int))) then getL (valO (g_Ls_l2Has_0 a0 a1 (0:Int))) else false
def Fs_l2Has:FSem := fun ys => match ys with
 | [.val false [.sl .any 9 .str a0],.val false [.str a1]] => some ((g_As_l2Has a0 a1),.val false [.bool (g_Vs_l2Has_0 a0 a1)],[])
 | _ => none
theorem vs_l2Has (a0:List ByteArray) (a1:ByteArray):collapseH .std Es_l2Has Os_l2Has_1 (execFn Es_l2Has Tryz.f157 mss_l2Has [.val false [.sl .any 9 .str a0],.val false [.str a1]]) = some ((g_As_l2Has a0 a1),.val false [.bool (g_Vs_l2Has_0 a0 a1)],[]) := by kernel_rfl
theorem ss_l2Has:Sound Tryz.prog 157 mss_l2Has Fs_l2Has := by
 refine fn_gen goods_l2Has (by kernel_rfl) .std (fn := Tryz.f157) (c := (Tryz.f157.body.getD .skip)) (o := Os_l2Has_1) (k := 1) (by kernel_rfl) (by kernel_rfl) (by kernel_rfl) (by kernel_rfl) (by decide) ks_l2Has_1 ?_
 intro ys r outs h
 unfold Fs_l2Has at h
 split at h
 ·exact (vs_l2Has _ _).trans h
 ·cases h
def Es_NoteOk:Env where
 tt := mkTI Tryz.prog
 fn := fun f => match f with
  | 55 => some (mss_l1In,FSem.wk mss_l1In Fs_l1In)
  | 155 => some (mss_l1Key,FSem.wk mss_l1Key Fs_l1Key)
  | 156 => some (mss_WrtOk,FSem.wk mss_WrtOk Fs_WrtOk)
  | 157 => some (mss_l2Has,FSem.wk mss_l2Has Fs_l2Has)
  | _ => none
 bxf := fun _ => none
 mv := []
 keep := fun b => match b with
  | 0 => [(1,false),(3,false)]
  | 2 => [(1,false),(4,false)]
  | _ => []
 keepB := fun b => match b with
  | 0 => [(1,false)]
  | 2 => [(1,false)]
  | _ => []
 keepX := fun b => match b with
  | 0 => [(1,false),(2,false)]
  | 2 => [(1,false),(2,false)]
  | _ => []
 keepXB := fun b => match b with
  | 0 => [(1,false)]
  | 2 => [(1,false)]
  | _ => []
theorem goodFs_NoteOk:∀ f ms F,Es_NoteOk.fn f = some (ms,F) → Sound Tryz.prog f ms F := fun f ms F h => by
 unfold Es_NoteOk at h
 dsimp only at h
 split at h
 ·exact gF ss_l1In h
 ·exact gF ss_l1Key h
 ·exact gF ss_WrtOk h
 ·exact gF ss_l2Has h
 ·cases h
theorem goods_NoteOk:Good Tryz.prog Es_NoteOk := ⟨rfl,goodFs_NoteOk,fun f ms F h => by cases h⟩
def Os_NoteOk_0:Orc := fun _ _ => none
def mss_NoteOk:List PM := [.rd]
def lss_NoteOk:List (Nat×Code) := loopsAll 0 (Tryz.f134.body.getD .skip)
def cs_NoteOk_0:Code := (loopOf 0 (Tryz.f134.body.getD .skip)).getD .skip
def cs_NoteOk_2:Code := (loopOf 2 (Tryz.f134.body.getD .skip)).getD .skip
theorem lseqs_NoteOk:lss_NoteOk = [(0,cs_NoteOk_0),(2,cs_NoteOk_2)] := by kernel_rfl
theorem ms_NoteOk_0:∀ p,p ∈ lss_NoteOk → p.1 = 0 → p.2 = cs_NoteOk_0 := by
 intro p hp
 rw [lseqs_NoteOk] at hp
 simp only [List.mem_cons,List.not_mem_nil,or_false] at hp
 rcases hp with rfl | rfl <;> simp
theorem ms_NoteOk_2:∀ p,p ∈ lss_NoteOk → p.1 = 2 → p.2 = cs_NoteOk_2 := by
 intro p hp
 rw [lseqs_NoteOk] at hp
 simp only [List.mem_cons,List.not_mem_nil,or_false] at hp
 rcases hp with rfl | rfl <;> simp
theorem ks_NoteOk_0:OrcOk Es_NoteOk Os_NoteOk_0 lss_NoteOk 0 := orcOk_none
def hs_NoteOk_0 (y0:Int) (y1:Int) (y2:Int) (y3:List ByteArray) (y4:tL2):List (Pl×LV) := [(.T 1,.t (.val false [.ptr 1 0 0])),(.T 3,.t (.val false [.int .i64 y0])),(.B 1,.b 0 false [.int .i64 y1,.int .i64 y2,.sl .any 9 .str y3,.sl .any 155 (.pair .str (.pair .bool (.sl 3 (.int .i64)))) y4])]
def g_Ss_NoteOk_0 (y1:Int) (y2:Int) (y3:List ByteArray) (y4:tL2):(Int) → RT (Int) ((Bool) ⊕ (Unit))
 | y0 => .br (true) (.br (decide (y0 < (y3.length:Int))) (.br (decide (0 ≤ y0 ∧ y0 < (y3.length:Int))) (.br (g_As_l1Key (at_ Ty.str y3 (Int.toNat y0))) (.br (!g_Vs_l1Key_0 (at_ Ty.str y3 (Int.toNat y0))) (.out (.inl false)) (.br (true) (.go (IntKind.i64.wrap (y0 + 1))) .bad)) .bad) .bad) (.out (.inr (())))) .bad
def g_Ls_NoteOk_0 (y1:Int) (y2:Int) (y3:List ByteArray) (y4:tL2) (x:Int):Option ((Bool) ⊕ (Unit)) := loopO (g_Ss_NoteOk_0 y1 y2 y3 y4) x
def xs_NoteOk_0 (y1:Int) (y2:Int) (y3:List ByteArray) (y4:tL2):((Bool) ⊕ (Unit)) → Ex×List (Pl×LV) := fun
 | .inl r => (.ret,[(.T 1,.t (.val false [.ptr 1 0 0])),(.T 2,.t (.val false [.bool r])),(.B 1,.b 0 false [.int .i64 y1,.int .i64 y2,.sl .any 9 .str y3,.sl .any 155 (.pair .str (.pair .bool (.sl 3 (.int .i64)))) y4])])
 | .inr (r) => (.exit 0,[(.T 1,.t (.val false [.ptr 1 0 0])),(.T 2,.t (.val false [.undef])),(.B 1,.b 0 false [.int .i64 y1,.int .i64 y2,.sl .any 9 .str y3,.sl .any 155 (.pair .str (.pair .bool (.sl 3 (.int .i64)))) y4])])
def Os_NoteOk_1:Orc := fun b h => match b,h with
 | 0,[(.T 1,.t (.val false [.ptr 1 0 0])),(.T 3,.t (.val false [.int .i64 y0])),(.B 1,.b 0 false [.int .i64 y1,.int .i64 y2,.sl .any 9 .str y3,.sl .any 155 (.pair .str (.pair .bool (.sl 3 (.int .i64)))) y4])] => some (okO (g_Ls_NoteOk_0 y1 y2 y3 y4 y0),(.br (isL (valO (g_Ls_NoteOk_0 y1 y2 y3 y4 y0))) (.leaf .ret [(.T 1,.t (.val false [.ptr 1 0 0])),(.T 2,.t (.val false [.bool (getL (valO (g_Ls_NoteOk_0 y1 y2 y3 y4 y0)))])),(.B 1,.b 0 false [.int .i64 y1,.int .i64 y2,.sl .any 9 .str y3,.sl .any 155 (.pair .str (.pair .bool (.sl 3 (.int .i64)))) y4])]) (.leaf (.exit 0) [(.T 1,.t (.val false [.ptr 1 0 0])),(.T 2,.t (.val false [.undef])),(.B 1,.b 0 false [.int .i64 y1,.int .i64 y2,.sl .any 9 .str y3,.sl .any 155 (.pair .str (.pair .bool (.sl 3 (.int .i64)))) y4])])))
 | b,h => Os_NoteOk_0 b h
theorem bs_NoteOk_0 (y0:Int) (y1:Int) (y2:Int) (y3:List ByteArray) (y4:tL2):Tr.bt Es_NoteOk Os_NoteOk_0 (exec Es_NoteOk 0 cs_NoteOk_0 (St.of (hs_NoteOk_0 y0 y1 y2 y3 y4)) (leafRd Es_NoteOk 0)) = (g_Ss_NoteOk_0 y1 y2 y3 y4 y0).bt (fun (y0:Int) => (hs_NoteOk_0 y0 y1 y2 y3 y4)) (xs_NoteOk_0 y1 y2 y3 y4) := by kernel_rfl
theorem ks_NoteOk_1:OrcOk Es_NoteOk Os_NoteOk_1 lss_NoteOk 1 := orc_add ks_NoteOk_0 (fun n p hp h ex h' ho => by
 obtain ⟨b,c⟩ := p
 obtain ⟨xt,h1,h2⟩ := ho
 have h1:Os_NoteOk_1 b h = some (true,xt) := h1
 unfold Os_NoteOk_1 at h1
 split at h1
 ·injection h1 with h1
  injection h1 with e1 e2
  subst e2
  have hc:c = cs_NoteOk_0 := ms_NoteOk_0 _ hp rfl
  subst hc
  right
  rename_i y0 y1 y2 y3 y4
  have key := LT_step ks_NoteOk_0 hp (fun q hq => loopsAll_in _ _ _ _ hp hq) (fun (y0:Int) => (hs_NoteOk_0 y0 y1 y2 y3 y4)) (xs_NoteOk_0 y1 y2 y3 y4) (g_Ss_NoteOk_0 y1 y2 y3 y4) (fun x => by first | exact bs_NoteOk_0 x y1 y2 y3 y4) n (x := y0) (okO_some e1)
  have hx:∀ r,XT.sel (.br (isL r) (.leaf .ret [(.T 1,.t (.val false [.ptr 1 0 0])),(.T 2,.t (.val false [.bool (getL r)])),(.B 1,.b 0 false [.int .i64 y1,.int .i64 y2,.sl .any 9 .str y3,.sl .any 155 (.pair .str (.pair .bool (.sl 3 (.int .i64)))) y4])]) (.leaf (.exit 0) [(.T 1,.t (.val false [.ptr 1 0 0])),(.T 2,.t (.val false [.undef])),(.B 1,.b 0 false [.int .i64 y1,.int .i64 y2,.sl .any 9 .str y3,.sl .any 155 (.pair .str (.pair .bool (.sl 3 (.int .i64)))) y4])])) = xs_NoteOk_0 y1 y2 y3 y4 r := fun r => by first | rfl | rcases r with r | r <;> rfl | rcases r with r | r | r <;> rfl | rcases r with r | r | r | r <;> rfl
  have h3 := (hx (valO (g_Ls_NoteOk_0 y1 y2 y3 y4 y0))).symm.trans h2
  have e3 := congrArg Prod.fst h3
  have e4 := congrArg Prod.snd h3
  simp only at e3 e4
  rw [← e3,← e4]
  exact key
 ·exact .inl ⟨xt,h1,h2⟩)
def hs_NoteOk_2 (y0:Int) (y1:Int) (y2:Int) (y3:List ByteArray) (y4:tL2):List (Pl×LV) := [(.T 1,.t (.val false [.ptr 1 0 0])),(.T 4,.t (.val false [.int .i64 y0])),(.B 1,.b 0 false [.int .i64 y1,.int .i64 y2,.sl .any 9 .str y3,.sl .any 155 (.pair .str (.pair .bool (.sl 3 (.int .i64)))) y4])]
def g_Ss_NoteOk_2 (y1:Int) (y2:Int) (y3:List ByteArray) (y4:tL2):(Int) → RT (Int) ((Bool) ⊕ (Unit))
 | y0 => .br (true) (.br (decide (y0 < (y4.length:Int))) (.br (decide (0 ≤ y0 ∧ y0 < (y4.length:Int))) (.br (g_As_WrtOk (at_ yT2 y4 (Int.toNat y0)).1 (at_ yT2 y4 (Int.toNat y0)).2.1 (at_ yT2 y4 (Int.toNat y0)).2.2) (.br (!g_Vs_WrtOk_0 (at_ yT2 y4 (Int.toNat y0)).1 (at_ yT2 y4 (Int.toNat y0)).2.1 (at_ yT2 y4 (Int.toNat y0)).2.2) (.out (.inl false)) (.br (decide (0 ≤ y0 ∧ y0 < (y4.length:Int))) (.br (g_As_l2Has y3 (at_ yT2 y4 (Int.toNat y0)).1) (.br (!g_Vs_l2Has_0 y3 (at_ yT2 y4 (Int.toNat y0)).1) (.out (.inl false)) (.br (true) (.go (IntKind.i64.wrap (y0 + 1))) .bad)) .bad) .bad)) .bad) .bad) (.out (.inr (())))) .bad
def g_Ls_NoteOk_2 (y1:Int) (y2:Int) (y3:List ByteArray) (y4:tL2) (x:Int):Option ((Bool) ⊕ (Unit)) := loopO (g_Ss_NoteOk_2 y1 y2 y3 y4) x
def xs_NoteOk_2 (y1:Int) (y2:Int) (y3:List ByteArray) (y4:tL2):((Bool) ⊕ (Unit)) → Ex×List (Pl×LV) := fun
 | .inl r => (.ret,[(.T 1,.t (.val false [.ptr 1 0 0])),(.T 2,.t (.val false [.bool r])),(.B 1,.b 0 false [.int .i64 y1,.int .i64 y2,.sl .any 9 .str y3,.sl .any 155 (.pair .str (.pair .bool (.sl 3 (.int .i64)))) y4])])
 | .inr (r) => (.exit 2,[(.T 1,.t (.val false [.ptr 1 0 0])),(.T 2,.t (.val false [.undef])),(.B 1,.b 0 false [.int .i64 y1,.int .i64 y2,.sl .any 9 .str y3,.sl .any 155 (.pair .str (.pair .bool (.sl 3 (.int .i64)))) y4])])
def Os_NoteOk_2:Orc := fun b h => match b,h with
 | 2,[(.T 1,.t (.val false [.ptr 1 0 0])),(.T 4,.t (.val false [.int .i64 y0])),(.B 1,.b 0 false [.int .i64 y1,.int .i64 y2,.sl .any 9 .str y3,.sl .any 155 (.pair .str (.pair .bool (.sl 3 (.int .i64)))) y4])] => some (okO (g_Ls_NoteOk_2 y1 y2 y3 y4 y0),(.br (isL (valO (g_Ls_NoteOk_2 y1 y2 y3 y4 y0))) (.leaf .ret [(.T 1,.t (.val false [.ptr 1 0 0])),(.T 2,.t (.val false [.bool (getL (valO (g_Ls_NoteOk_2 y1 y2 y3 y4 y0)))])),(.B 1,.b 0 false [.int .i64 y1,.int .i64 y2,.sl .any 9 .str y3,.sl .any 155 (.pair .str (.pair .bool (.sl 3 (.int .i64)))) y4])]) (.leaf (.exit 2) [(.T 1,.t (.val false [.ptr 1 0 0])),(.T 2,.t (.val false [.undef])),(.B 1,.b 0 false [.int .i64 y1,.int .i64 y2,.sl .any 9 .str y3,.sl .any 155 (.pair .str (.pair .bool (.sl 3 (.int .i64)))) y4])])))
 | b,h => Os_NoteOk_1 b h
theorem bs_NoteOk_2 (y0:Int) (y1:Int) (y2:Int) (y3:List ByteArray) (y4:tL2):Tr.bt Es_NoteOk Os_NoteOk_1 (exec Es_NoteOk 2 cs_NoteOk_2 (St.of (hs_NoteOk_2 y0 y1 y2 y3 y4)) (leafRd Es_NoteOk 2)) = (g_Ss_NoteOk_2 y1 y2 y3 y4 y0).bt (fun (y0:Int) => (hs_NoteOk_2 y0 y1 y2 y3 y4)) (xs_NoteOk_2 y1 y2 y3 y4) := by kernel_rfl
theorem ks_NoteOk_2:OrcOk Es_NoteOk Os_NoteOk_2 lss_NoteOk 2 := orc_add ks_NoteOk_1 (fun n p hp h ex h' ho => by
 obtain ⟨b,c⟩ := p
 obtain ⟨xt,h1,h2⟩ := ho
 have h1:Os_NoteOk_2 b h = some (true,xt) := h1
 unfold Os_NoteOk_2 at h1
 split at h1
 ·injection h1 with h1
  injection h1 with e1 e2
  subst e2
  have hc:c = cs_NoteOk_2 := ms_NoteOk_2 _ hp rfl
  subst hc
  right
  rename_i y0 y1 y2 y3 y4
  have key := LT_step ks_NoteOk_1 hp (fun q hq => loopsAll_in _ _ _ _ hp hq) (fun (y0:Int) => (hs_NoteOk_2 y0 y1 y2 y3 y4)) (xs_NoteOk_2 y1 y2 y3 y4) (g_Ss_NoteOk_2 y1 y2 y3 y4) (fun x => by first | exact bs_NoteOk_2 x y1 y2 y3 y4) n (x := y0) (okO_some e1)
  have hx:∀ r,XT.sel (.br (isL r) (.leaf .ret [(.T 1,.t (.val false [.ptr 1 0 0])),(.T 2,.t (.val false [.bool (getL r)])),(.B 1,.b 0 false [.int .i64 y1,.int .i64 y2,.sl .any 9 .str y3,.sl .any 155 (.pair .str (.pair .bool (.sl 3 (.int .i64)))) y4])]) (.leaf (.exit 2) [(.T 1,.t (.val false [.ptr 1 0 0])),(.T 2,.t (.val false [.undef])),(.B 1,.b 0 false [.int .i64 y1,.int .i64 y2,.sl .any 9 .str y3,.sl .any 155 (.pair .str (.pair .bool (.sl 3 (.int .i64)))) y4])])) = xs_NoteOk_2 y1 y2 y3 y4 r := fun r => by first | rfl | rcases r with r | r <;> rfl | rcases r with r | r | r <;> rfl | rcases r with r | r | r | r <;> rfl
  have h3 := (hx (valO (g_Ls_NoteOk_2 y1 y2 y3 y4 y0))).symm.trans h2
  have e3 := congrArg Prod.fst h3
  have e4 := congrArg Prod.snd h3
  simp only at e3 e4
  rw [← e3,← e4]
  exact key
 ·exact .inl ⟨xt,h1,h2⟩)
def g_As_NoteOk (a0:Int) (a1:Int) (a2:List ByteArray) (a3:tL2):Bool := g_As_l1In a0 (1:Int) (4:Int)&&(!g_Vs_l1In_0 a0 (1:Int) (4:Int) || g_As_l1In a1 (0:Int) (29:Int)&&(!g_Vs_l1In_0 a1 (0:Int) (29:Int) || (decide ((a2.length:Int) > 12) || (decide ((a3.length:Int) > 12) || okO (g_Ls_NoteOk_0 a0 a1 a2 a3 (0:Int))&&(isL (valO (g_Ls_NoteOk_0 a0 a1 a2 a3 (0:Int))) || okO (g_Ls_NoteOk_2 a0 a1 a2 a3 (0:Int))&&(isL (valO (g_Ls_NoteOk_2 a0 a1 a2 a3 (0:Int))) || (a0 == 1 || true)))))))
def g_Vs_NoteOk_0 (a0:Int) (a1:Int) (a2:List ByteArray) (a3:tL2):Bool := bif !g_Vs_l1In_0 a0 (1:Int) (4:Int) then false else bif !g_Vs_l1In_0 a1 (0:Int) (29:Int) then false else bif decide ((a2.length:Int) > 12) then false else bif decide ((a3.length:Int) > 12) then false else bif isL (valO (g_Ls_NoteOk_0 a0 a1 a2 a3 (0:Int))) then getL (valO (g_Ls_NoteOk_0 a0 a1 a2 a3 (0:Int))) else bif isL (valO (g_Ls_NoteOk_2 a0 a1 a2 a3 (0:Int))) then getL (valO (g_Ls_NoteOk_2 a0 a1 a2 a3 (0:Int))) else bif a0 == 1 then true else IntKind.i64.wrap ((a2.length:Int) + (a3.length:Int)) == 0
def Fs_NoteOk:FSem := fun ys => match ys with
 | [.val true [.int .i64 a0,.int .i64 a1,.sl .any 9 .str a2,.sl .any 155 (.pair .str (.pair .bool (.sl 3 (.int .i64)))) a3]] => some ((g_As_NoteOk a0 a1 a2 a3),.val false [.bool (g_Vs_NoteOk_0 a0 a1 a2 a3)],[])
 | _ => none
theorem vs_NoteOk (a0:Int) (a1:Int) (a2:List ByteArray) (a3:tL2):collapseH .std Es_NoteOk Os_NoteOk_2 (execFn Es_NoteOk Tryz.f134 mss_NoteOk [.val true [.int .i64 a0,.int .i64 a1,.sl .any 9 .str a2,.sl .any 155 (.pair .str (.pair .bool (.sl 3 (.int .i64)))) a3]]) = some ((g_As_NoteOk a0 a1 a2 a3),.val false [.bool (g_Vs_NoteOk_0 a0 a1 a2 a3)],[]) := by kernel_rfl
theorem ss_NoteOk:Sound Tryz.prog 134 mss_NoteOk Fs_NoteOk := by
 refine fn_gen goods_NoteOk (by kernel_rfl) .std (fn := Tryz.f134) (c := (Tryz.f134.body.getD .skip)) (o := Os_NoteOk_2) (k := 2) (by kernel_rfl) (by kernel_rfl) (by kernel_rfl) (by kernel_rfl) (by decide) ks_NoteOk_2 ?_
 intro ys r outs h
 unfold Fs_NoteOk at h
 split at h
 ·exact (vs_NoteOk _ _ _ _).trans h
 ·cases h
def Es_DiskOk:Env where
 tt := mkTI Tryz.prog
 fn := fun f => match f with
  | 55 => some (mss_l1In,FSem.wk mss_l1In Fs_l1In)
  | 134 => some (mss_NoteOk,FSem.wk mss_NoteOk Fs_NoteOk)
  | _ => none
 bxf := fun _ => none
 mv := []
 keep := fun b => match b with
  | 0 => [(1,false),(3,false)]
  | _ => []
 keepB := fun b => match b with
  | 0 => [(1,false)]
  | _ => []
 keepX := fun b => match b with
  | 0 => [(2,false)]
  | _ => []
 keepXB := fun b => match b with
  | 0 => []
  | _ => []
theorem goodFs_DiskOk:∀ f ms F,Es_DiskOk.fn f = some (ms,F) → Sound Tryz.prog f ms F := fun f ms F h => by
 unfold Es_DiskOk at h
 dsimp only at h
 split at h
 ·exact gF ss_l1In h
 ·exact gF ss_NoteOk h
 ·cases h
theorem goods_DiskOk:Good Tryz.prog Es_DiskOk := ⟨rfl,goodFs_DiskOk,fun f ms F h => by cases h⟩
def Os_DiskOk_0:Orc := fun _ _ => none
def mss_DiskOk:List PM := [.rd]
def lss_DiskOk:List (Nat×Code) := loopsAll 0 (Tryz.f90.body.getD .skip)
def cs_DiskOk_0:Code := (loopOf 0 (Tryz.f90.body.getD .skip)).getD .skip
theorem lseqs_DiskOk:lss_DiskOk = [(0,cs_DiskOk_0)] := by kernel_rfl
theorem ms_DiskOk_0:∀ p,p ∈ lss_DiskOk → p.1 = 0 → p.2 = cs_DiskOk_0 := by
 intro p hp
 rw [lseqs_DiskOk] at hp
 simp only [List.mem_cons,List.not_mem_nil,or_false] at hp
 subst hp; simp
theorem ks_DiskOk_0:OrcOk Es_DiskOk Os_DiskOk_0 lss_DiskOk 0 := orcOk_none
def hs_DiskOk_0 (y0:Int) (y1:tL0) (y2:Int):List (Pl×LV) := [(.T 1,.t (.val false [.ptr 1 0 0])),(.T 3,.t (.val false [.int .i64 y0])),(.B 1,.b 0 false [.sl .any 92 (.pair (.int .i64) (.pair (.int .i64) (.pair (.sl 9 .str) (.sl 155 (.pair .str (.pair .bool (.sl 3 (.int .i64)))))))) y1,.int .i64 y2])]
def g_Ss_DiskOk_0 (y1:tL0) (y2:Int):(Int) → RT (Int) ((Bool) ⊕ (Unit))
 | y0 => .br (true) (.br (decide (y0 < (y1.length:Int))) (.br (decide (0 ≤ y0 ∧ y0 < (y1.length:Int))) (.br (g_As_NoteOk (at_ yT1 y1 (Int.toNat y0)).1 (at_ yT1 y1 (Int.toNat y0)).2.1 (at_ yT1 y1 (Int.toNat y0)).2.2.1 (at_ yT1 y1 (Int.toNat y0)).2.2.2) (.br (!g_Vs_NoteOk_0 (at_ yT1 y1 (Int.toNat y0)).1 (at_ yT1 y1 (Int.toNat y0)).2.1 (at_ yT1 y1 (Int.toNat y0)).2.2.1 (at_ yT1 y1 (Int.toNat y0)).2.2.2) (.out (.inl false)) (.br (true) (.go (IntKind.i64.wrap (y0 + 1))) .bad)) .bad) .bad) (.out (.inr (())))) .bad
def g_Ls_DiskOk_0 (y1:tL0) (y2:Int) (x:Int):Option ((Bool) ⊕ (Unit)) := loopO (g_Ss_DiskOk_0 y1 y2) x
def xs_DiskOk_0 (y1:tL0) (y2:Int):((Bool) ⊕ (Unit)) → Ex×List (Pl×LV) := fun
 | .inl r => (.ret,[(.T 2,.t (.val false [.bool r]))])
 | .inr (r) => (.exit 0,[(.T 2,.t (.val false [.undef]))])
def Os_DiskOk_1:Orc := fun b h => match b,h with
 | 0,[(.T 1,.t (.val false [.ptr 1 0 0])),(.T 3,.t (.val false [.int .i64 y0])),(.B 1,.b 0 false [.sl .any 92 (.pair (.int .i64) (.pair (.int .i64) (.pair (.sl 9 .str) (.sl 155 (.pair .str (.pair .bool (.sl 3 (.int .i64)))))))) y1,.int .i64 y2])] => some (okO (g_Ls_DiskOk_0 y1 y2 y0),(.br (isL (valO (g_Ls_DiskOk_0 y1 y2 y0))) (.leaf .ret [(.T 2,.t (.val false [.bool (getL (valO (g_Ls_DiskOk_0 y1 y2 y0)))]))]) (.leaf (.exit 0) [(.T 2,.t (.val false [.undef]))])))
 | b,h => Os_DiskOk_0 b h
theorem bs_DiskOk_0 (y0:Int) (y1:tL0) (y2:Int):Tr.bt Es_DiskOk Os_DiskOk_0 (exec Es_DiskOk 0 cs_DiskOk_0 (St.of (hs_DiskOk_0 y0 y1 y2)) (leafRd Es_DiskOk 0)) = (g_Ss_DiskOk_0 y1 y2 y0).bt (fun (y0:Int) => (hs_DiskOk_0 y0 y1 y2)) (xs_DiskOk_0 y1 y2) := by kernel_rfl
theorem ks_DiskOk_1:OrcOk Es_DiskOk Os_DiskOk_1 lss_DiskOk 1 := orc_add ks_DiskOk_0 (fun n p hp h ex h' ho => by
 obtain ⟨b,c⟩ := p
 obtain ⟨xt,h1,h2⟩ := ho
 have h1:Os_DiskOk_1 b h = some (true,xt) := h1
 unfold Os_DiskOk_1 at h1
 split at h1
 ·injection h1 with h1
  injection h1 with e1 e2
  subst e2
  have hc:c = cs_DiskOk_0 := ms_DiskOk_0 _ hp rfl
  subst hc
  right
  rename_i y0 y1 y2
  have key := LT_step ks_DiskOk_0 hp (fun q hq => loopsAll_in _ _ _ _ hp hq) (fun (y0:Int) => (hs_DiskOk_0 y0 y1 y2)) (xs_DiskOk_0 y1 y2) (g_Ss_DiskOk_0 y1 y2) (fun x => by first | exact bs_DiskOk_0 x y1 y2) n (x := y0) (okO_some e1)
  have hx:∀ r,XT.sel (.br (isL r) (.leaf .ret [(.T 2,.t (.val false [.bool (getL r)]))]) (.leaf (.exit 0) [(.T 2,.t (.val false [.undef]))])) = xs_DiskOk_0 y1 y2 r := fun r => by first | rfl | rcases r with r | r <;> rfl | rcases r with r | r | r <;> rfl | rcases r with r | r | r | r <;> rfl
  have h3 := (hx (valO (g_Ls_DiskOk_0 y1 y2 y0))).symm.trans h2
  have e3 := congrArg Prod.fst h3
  have e4 := congrArg Prod.snd h3
  simp only at e3 e4
  rw [← e3,← e4]
  exact key
 ·exact .inl ⟨xt,h1,h2⟩)
def g_As_DiskOk (a0:tL0) (a1:Int):Bool := decide ((a0.length:Int) > 120) || g_As_l1In a1 (0:Int) (a0.length:Int)&&(!g_Vs_l1In_0 a1 (0:Int) (a0.length:Int) || okO (g_Ls_DiskOk_0 a0 a1 (0:Int)))
def g_Vs_DiskOk_0 (a0:tL0) (a1:Int):Bool := bif decide ((a0.length:Int) > 120) then false else bif !g_Vs_l1In_0 a1 (0:Int) (a0.length:Int) then false else bif isL (valO (g_Ls_DiskOk_0 a0 a1 (0:Int))) then getL (valO (g_Ls_DiskOk_0 a0 a1 (0:Int))) else true
def Fs_DiskOk:FSem := fun ys => match ys with
 | [.val true [.sl .any 92 (.pair (.int .i64) (.pair (.int .i64) (.pair (.sl 9 .str) (.sl 155 (.pair .str (.pair .bool (.sl 3 (.int .i64)))))))) a0,.int .i64 a1]] => some ((g_As_DiskOk a0 a1),.val false [.bool (g_Vs_DiskOk_0 a0 a1)],[])
 | _ => none
theorem vs_DiskOk (a0:tL0) (a1:Int):collapseH .std Es_DiskOk Os_DiskOk_1 (execFn Es_DiskOk Tryz.f90 mss_DiskOk [.val true [.sl .any 92 (.pair (.int .i64) (.pair (.int .i64) (.pair (.sl 9 .str) (.sl 155 (.pair .str (.pair .bool (.sl 3 (.int .i64)))))))) a0,.int .i64 a1]]) = some ((g_As_DiskOk a0 a1),.val false [.bool (g_Vs_DiskOk_0 a0 a1)],[]) := by kernel_rfl
theorem ss_DiskOk:Sound Tryz.prog 90 mss_DiskOk Fs_DiskOk := by
 refine fn_gen goods_DiskOk (by kernel_rfl) .std (fn := Tryz.f90) (c := (Tryz.f90.body.getD .skip)) (o := Os_DiskOk_1) (k := 1) (by kernel_rfl) (by kernel_rfl) (by kernel_rfl) (by kernel_rfl) (by decide) ks_DiskOk_1 ?_
 intro ys r outs h
 unfold Fs_DiskOk at h
 split at h
 ·exact (vs_DiskOk _ _).trans h
 ·cases h
def Es_l2Note:Env where
 tt := mkTI Tryz.prog
 fn := fun _ => none
 bxf := fun _ => none
 mv := []
 keep := fun b => match b with
  | 0 => [(1,false),(2,false),(3,false),(4,false)]
  | _ => []
 keepB := fun b => match b with
  | 0 => [(1,false),(2,false),(3,false)]
  | _ => []
 keepX := fun b => match b with
  | 0 => [(2,false),(3,false)]
  | _ => []
 keepXB := fun b => match b with
  | 0 => [(2,false),(3,false)]
  | _ => []
theorem goodFs_l2Note:∀ f ms F,Es_l2Note.fn f = some (ms,F) → Sound Tryz.prog f ms F := fun f ms F h => by cases h
theorem goods_l2Note:Good Tryz.prog Es_l2Note := ⟨rfl,goodFs_l2Note,fun f ms F h => by cases h⟩
def Os_l2Note_0:Orc := fun _ _ => none
def mss_l2Note:List PM := [.rd]
def lss_l2Note:List (Nat×Code) := loopsAll 0 (Tryz.f145.body.getD .skip)
def cs_l2Note_0:Code := (loopOf 0 (Tryz.f145.body.getD .skip)).getD .skip
theorem lseqs_l2Note:lss_l2Note = [(0,cs_l2Note_0)] := by kernel_rfl
theorem ms_l2Note_0:∀ p,p ∈ lss_l2Note → p.1 = 0 → p.2 = cs_l2Note_0 := by
 intro p hp
 rw [lseqs_l2Note] at hp
 simp only [List.mem_cons,List.not_mem_nil,or_false] at hp
 subst hp; simp
theorem ks_l2Note_0:OrcOk Es_l2Note Os_l2Note_0 lss_l2Note 0 := orcOk_none
def hs_l2Note_0 (y0:Int) (y1:Int) (y2:Int) (y3:List ByteArray) (y4:tL2) (y5:Int) (y6:Int) (y7:List ByteArray) (y8:tL2) (y9:Int) (y10:Int) (y11:List ByteArray) (y12:tL2):List (Pl×LV) := [(.T 1,.t (.val false [.ptr 1 0 0])),(.T 2,.t (.val false [.ptr 2 0 0])),(.T 3,.t (.val false [.ptr 3 0 0])),(.T 4,.t (.val false [.int .i64 y0])),(.B 1,.b 0 false [.int .i64 y1,.int .i64 y2,.sl .any 9 .str y3,.sl .any 155 (.pair .str (.pair .bool (.sl 3 (.int .i64)))) y4]),(.B 2,.b 0 false [.int .i64 y5,.int .i64 y6,.row 2 5 0,.row 2 7 0]),(.R 2 5,.r 0 (some ⟨false,.any,true,9,.str,y7⟩)),(.R 2 7,.r 0 (some ⟨false,.any,true,155,(.pair .str (.pair .bool (.sl 3 (.int .i64)))),y8⟩)),(.B 3,.b 0 false [.int .i64 y9,.int .i64 y10,.row 3 5 0,.row 3 7 0]),(.R 3 5,.r 0 (some ⟨false,.non,true,9,.str,y11⟩)),(.R 3 7,.r 0 (some ⟨false,.any,true,155,(.pair .str (.pair .bool (.sl 3 (.int .i64)))),y12⟩))]
def g_Ss_l2Note_0 (y1:Int) (y2:Int) (y3:List ByteArray) (y4:tL2) (y5:Int) (y6:Int) (y7:List ByteArray) (y8:tL2) (y9:Int) (y10:Int) (y11:List ByteArray):(Int×tL2) → RT (Int×tL2) ((tL2))
 | (y0,y12) => .br (true) (.br (decide (y0 < (y4.length:Int))) (.br (decide (0 ≤ y0 ∧ y0 < (y4.length:Int))) (.br (decide ((nat_lit 0 + List.length (at_ yT2 y4 (Int.toNat y0)).2.2) * nat_lit 8 ≤ nat_lit 140737488355328 ∧ nat_lit 0 + List.length (at_ yT2 y4 (Int.toNat y0)).2.2 ≤ nat_lit 9223372036854775807)) (.br (decide ((List.length y12 + List.length [((at_ yT2 y4 (Int.toNat y0)).1,(at_ yT2 y4 (Int.toNat y0)).2.1,[] ++ (at_ yT2 y4 (Int.toNat y0)).2.2)]) * nat_lit 48 ≤ nat_lit 140737488355328 ∧ List.length y12 + List.length [((at_ yT2 y4 (Int.toNat y0)).1,(at_ yT2 y4 (Int.toNat y0)).2.1,[] ++ (at_ yT2 y4 (Int.toNat y0)).2.2)] ≤ nat_lit 9223372036854775807)) (.br (true) (.go ((IntKind.i64.wrap (y0 + 1),y12 ++ [((at_ yT2 y4 (Int.toNat y0)).1,(at_ yT2 y4 (Int.toNat y0)).2.1,[] ++ (at_ yT2 y4 (Int.toNat y0)).2.2)]))) .bad) .bad) .bad) .bad) (.out (y12))) .bad
def g_Ls_l2Note_0 (y1:Int) (y2:Int) (y3:List ByteArray) (y4:tL2) (y5:Int) (y6:Int) (y7:List ByteArray) (y8:tL2) (y9:Int) (y10:Int) (y11:List ByteArray) (x:Int×tL2):Option ((tL2)) := loopO (g_Ss_l2Note_0 y1 y2 y3 y4 y5 y6 y7 y8 y9 y10 y11) x
def xs_l2Note_0 (y1:Int) (y2:Int) (y3:List ByteArray) (y4:tL2) (y5:Int) (y6:Int) (y7:List ByteArray) (y8:tL2) (y9:Int) (y10:Int) (y11:List ByteArray):((tL2)) → Ex×List (Pl×LV) := fun r => (.exit 0,[(.T 2,.t (.val false [.ptr 2 0 0])),(.T 3,.t (.val false [.ptr 3 0 0])),(.B 2,.b 0 false [.int .i64 y5,.int .i64 y6,.row 2 5 0,.row 2 7 0]),(.R 2 5,.r 0 (some ⟨false,.any,true,9,.str,y7⟩)),(.R 2 7,.r 0 (some ⟨false,.any,true,155,(.pair .str (.pair .bool (.sl 3 (.int .i64)))),y8⟩)),(.B 3,.b 0 false [.int .i64 y9,.int .i64 y10,.row 3 5 0,.row 3 7 0]),(.R 3 5,.r 0 (some ⟨false,.non,true,9,.str,y11⟩)),(.R 3 7,.r 0 (some ⟨false,.any,true,155,(.pair .str (.pair .bool (.sl 3 (.int .i64)))),r⟩))])
def Os_l2Note_1:Orc := fun b h => match b,h with
 | 0,[(.T 1,.t (.val false [.ptr 1 0 0])),(.T 2,.t (.val false [.ptr 2 0 0])),(.T 3,.t (.val false [.ptr 3 0 0])),(.T 4,.t (.val false [.int .i64 y0])),(.B 1,.b 0 false [.int .i64 y1,.int .i64 y2,.sl .any 9 .str y3,.sl .any 155 (.pair .str (.pair .bool (.sl 3 (.int .i64)))) y4]),(.B 2,.b 0 false [.int .i64 y5,.int .i64 y6,.row 2 5 0,.row 2 7 0]),(.R 2 5,.r 0 (some ⟨false,.any,true,9,.str,y7⟩)),(.R 2 7,.r 0 (some ⟨false,.any,true,155,(.pair .str (.pair .bool (.sl 3 (.int .i64)))),y8⟩)),(.B 3,.b 0 false [.int .i64 y9,.int .i64 y10,.row 3 5 0,.row 3 7 0]),(.R 3 5,.r 0 (some ⟨false,.non,true,9,.str,y11⟩)),(.R 3 7,.r 0 (some ⟨false,.any,true,155,(.pair .str (.pair .bool (.sl 3 (.int .i64)))),y12⟩))] => some (okO (g_Ls_l2Note_0 y1 y2 y3 y4 y5 y6 y7 y8 y9 y10 y11 (y0,y12)),(.leaf (.exit 0) [(.T 2,.t (.val false [.ptr 2 0 0])),(.T 3,.t (.val false [.ptr 3 0 0])),(.B 2,.b 0 false [.int .i64 y5,.int .i64 y6,.row 2 5 0,.row 2 7 0]),(.R 2 5,.r 0 (some ⟨false,.any,true,9,.str,y7⟩)),(.R 2 7,.r 0 (some ⟨false,.any,true,155,(.pair .str (.pair .bool (.sl 3 (.int .i64)))),y8⟩)),(.B 3,.b 0 false [.int .i64 y9,.int .i64 y10,.row 3 5 0,.row 3 7 0]),(.R 3 5,.r 0 (some ⟨false,.non,true,9,.str,y11⟩)),(.R 3 7,.r 0 (some ⟨false,.any,true,155,(.pair .str (.pair .bool (.sl 3 (.int .i64)))),(valO (g_Ls_l2Note_0 y1 y2 y3 y4 y5 y6 y7 y8 y9 y10 y11 (y0,y12)))⟩))]))
 | b,h => Os_l2Note_0 b h
theorem bs_l2Note_0 (y0:Int) (y1:Int) (y2:Int) (y3:List ByteArray) (y4:tL2) (y5:Int) (y6:Int) (y7:List ByteArray) (y8:tL2) (y9:Int) (y10:Int) (y11:List ByteArray) (y12:tL2):Tr.bt Es_l2Note Os_l2Note_0 (exec Es_l2Note 0 cs_l2Note_0 (St.of (hs_l2Note_0 y0 y1 y2 y3 y4 y5 y6 y7 y8 y9 y10 y11 y12)) (leafRd Es_l2Note 0)) = (g_Ss_l2Note_0 y1 y2 y3 y4 y5 y6 y7 y8 y9 y10 y11 (y0,y12)).bt (fun ((y0,y12):Int×tL2) => (hs_l2Note_0 y0 y1 y2 y3 y4 y5 y6 y7 y8 y9 y10 y11 y12)) (xs_l2Note_0 y1 y2 y3 y4 y5 y6 y7 y8 y9 y10 y11) := by kernel_rfl
theorem ks_l2Note_1:OrcOk Es_l2Note Os_l2Note_1 lss_l2Note 1 := orc_add ks_l2Note_0 (fun n p hp h ex h' ho => by
 obtain ⟨b,c⟩ := p
 obtain ⟨xt,h1,h2⟩ := ho
 have h1:Os_l2Note_1 b h = some (true,xt) := h1
 unfold Os_l2Note_1 at h1
 split at h1
 ·injection h1 with h1
  injection h1 with e1 e2
  subst e2
  have hc:c = cs_l2Note_0 := ms_l2Note_0 _ hp rfl
  subst hc
  right
  rename_i y0 y1 y2 y3 y4 y5 y6 y7 y8 y9 y10 y11 y12
  have key := LT_step ks_l2Note_0 hp (fun q hq => loopsAll_in _ _ _ _ hp hq) (fun ((y0,y12):Int×tL2) => (hs_l2Note_0 y0 y1 y2 y3 y4 y5 y6 y7 y8 y9 y10 y11 y12)) (xs_l2Note_0 y1 y2 y3 y4 y5 y6 y7 y8 y9 y10 y11) (g_Ss_l2Note_0 y1 y2 y3 y4 y5 y6 y7 y8 y9 y10 y11) (fun x => by first | exact bs_l2Note_0 x.1 y1 y2 y3 y4 y5 y6 y7 y8 y9 y10 y11 x.2) n (x := (y0,y12)) (okO_some e1)
  have hx:∀ r,XT.sel (.leaf (.exit 0) [(.T 2,.t (.val false [.ptr 2 0 0])),(.T 3,.t (.val false [.ptr 3 0 0])),(.B 2,.b 0 false [.int .i64 y5,.int .i64 y6,.row 2 5 0,.row 2 7 0]),(.R 2 5,.r 0 (some ⟨false,.any,true,9,.str,y7⟩)),(.R 2 7,.r 0 (some ⟨false,.any,true,155,(.pair .str (.pair .bool (.sl 3 (.int .i64)))),y8⟩)),(.B 3,.b 0 false [.int .i64 y9,.int .i64 y10,.row 3 5 0,.row 3 7 0]),(.R 3 5,.r 0 (some ⟨false,.non,true,9,.str,y11⟩)),(.R 3 7,.r 0 (some ⟨false,.any,true,155,(.pair .str (.pair .bool (.sl 3 (.int .i64)))),r⟩))]) = xs_l2Note_0 y1 y2 y3 y4 y5 y6 y7 y8 y9 y10 y11 r := fun r => by first | rfl | rcases r with r | r <;> rfl | rcases r with r | r | r <;> rfl | rcases r with r | r | r | r <;> rfl
  have h3 := (hx (valO (g_Ls_l2Note_0 y1 y2 y3 y4 y5 y6 y7 y8 y9 y10 y11 (y0,y12)))).symm.trans h2
  have e3 := congrArg Prod.fst h3
  have e4 := congrArg Prod.snd h3
  simp only at e3 e4
  rw [← e3,← e4]
  exact key
 ·exact .inl ⟨xt,h1,h2⟩)
def g_As_l2Note (a0:Int) (a1:Int) (a2:List ByteArray) (a3:tL2):Bool := decide ((nat_lit 0 + List.length a2) * nat_lit 16 ≤ nat_lit 140737488355328 ∧ nat_lit 0 + List.length a2 ≤ nat_lit 9223372036854775807)&&okO (g_Ls_l2Note_0 a0 a1 a2 a3 (0:Int) (0:Int) [] [] a0 a1 ([] ++ a2) ((0:Int),[]))
def g_Vs_l2Note_0 (a0:Int) (a1:Int) (a2:List ByteArray) (a3:tL2):List ByteArray := [] ++ a2
def g_Vs_l2Note_1 (a0:Int) (a1:Int) (a2:List ByteArray) (a3:tL2):tL2 := valO (g_Ls_l2Note_0 a0 a1 a2 a3 (0:Int) (0:Int) [] [] a0 a1 ([] ++ a2) ((0:Int),[]))
def Fs_l2Note:FSem := fun ys => match ys with
 | [.val true [.int .i64 a0,.int .i64 a1,.sl .any 9 .str a2,.sl .any 155 (.pair .str (.pair .bool (.sl 3 (.int .i64)))) a3]] => some ((g_As_l2Note a0 a1 a2 a3),.val true [.int .i64 a0,.int .i64 a1,.own .any true 9 .str (g_Vs_l2Note_0 a0 a1 a2 a3),.own .any true 155 (.pair .str (.pair .bool (.sl 3 (.int .i64)))) (g_Vs_l2Note_1 a0 a1 a2 a3)],[])
 | _ => none
theorem vs_l2Note (a0:Int) (a1:Int) (a2:List ByteArray) (a3:tL2):collapseH .std Es_l2Note Os_l2Note_1 (execFn Es_l2Note Tryz.f145 mss_l2Note [.val true [.int .i64 a0,.int .i64 a1,.sl .any 9 .str a2,.sl .any 155 (.pair .str (.pair .bool (.sl 3 (.int .i64)))) a3]]) = some ((g_As_l2Note a0 a1 a2 a3),.val true [.int .i64 a0,.int .i64 a1,.own .any true 9 .str (g_Vs_l2Note_0 a0 a1 a2 a3),.own .any true 155 (.pair .str (.pair .bool (.sl 3 (.int .i64)))) (g_Vs_l2Note_1 a0 a1 a2 a3)],[]) := by kernel_rfl
theorem ss_l2Note:Sound Tryz.prog 145 mss_l2Note Fs_l2Note := by
 refine fn_gen goods_l2Note (by kernel_rfl) .std (fn := Tryz.f145) (c := (Tryz.f145.body.getD .skip)) (o := Os_l2Note_1) (k := 1) (by kernel_rfl) (by kernel_rfl) (by kernel_rfl) (by kernel_rfl) (by decide) ks_l2Note_1 ?_
 intro ys r outs h
 unfold Fs_l2Note at h
 split at h
 ·exact (vs_l2Note _ _ _ _).trans h
 ·cases h
end
end Go.Proofs.YtedhpmhlmdcpbaaGreatDoor.E
