/- What the functions that are reached do, by the engine: for the proof (laws.FnExactFroBegin): part 1. No conditions. -/
import Derived.Test.YtedhpmhlmdcpbaaGreatDoorEc
import Derived.Test.YtedhpmhlmdcpbaaGreatDoorProg
import Derived.Test.YtedhpmhlmdcpbaaGreatDoorShelf
import Derived.RangeFuncNested
import Derived.RangeFuncBound
import Derived.RangeFuncCalls
import Derived.RangeFuncLeaves
import Derived.RangeFuncBox
import Derived.Shelf.Abstract
import Derived.WalkKit
import Derived.OwnWalkIn
import Derived.TacticsInMore
import Derived.LoopNIn
import Derived.LoopIn
set_option linter.all false
namespace Go.Proofs.YtedhpmhlmdcpbaaGreatDoor.E
open Go
set_option maxRecDepth 100000
set_option maxHeartbeats 0
abbrev yT0:Ty := Ty.pair (Ty.int IntKind.i64) (Ty.pair (Ty.pair (Ty.int IntKind.i64) (Ty.pair (Ty.int IntKind.i64) (Ty.pair (Ty.int IntKind.i64) (Ty.pair (Ty.int IntKind.i64) (Ty.pair (Ty.int IntKind.i64) (Ty.pair (Ty.int IntKind.i64) (Ty.int IntKind.i64))))))) (Ty.pair Ty.bool (Ty.pair (Ty.sl (nat_lit 3) (Ty.int IntKind.i64)) (Ty.sl (nat_lit 3) (Ty.int IntKind.i64)))))
abbrev yT1:Ty := Ty.pair (Ty.int IntKind.i64) (Ty.pair (Ty.int IntKind.i64) (Ty.pair (Ty.sl (nat_lit 9) Ty.str) (Ty.sl (nat_lit 155) (Ty.pair Ty.str (Ty.pair Ty.bool (Ty.sl (nat_lit 3) (Ty.int IntKind.i64)))))))
abbrev yT2:Ty := Ty.pair (Ty.int IntKind.i64) (Ty.pair (Ty.int IntKind.i64) (Ty.pair (Ty.int IntKind.i64) (Ty.pair (Ty.int IntKind.i64) (Ty.pair (Ty.int IntKind.i64) (Ty.pair (Ty.int IntKind.i64) (Ty.pair (Ty.int IntKind.i64) (Ty.pair (Ty.int IntKind.i64) (Ty.pair (Ty.int IntKind.i64) (Ty.pair (Ty.int IntKind.i64) (Ty.int IntKind.i64))))))))))
abbrev yT3:Ty := Ty.pair Ty.str (Ty.pair Ty.bool (Ty.sl (nat_lit 3) (Ty.int IntKind.i64)))
abbrev yT4:Ty := Ty.pair (Ty.int IntKind.i64) (Ty.pair (Ty.int IntKind.i64) (Ty.pair (Ty.sl (nat_lit 9) Ty.str) (Ty.sl (nat_lit 196) (Ty.pair Ty.str (Ty.pair Ty.bool (Ty.sl (nat_lit 3) (Ty.int IntKind.i64)))))))
abbrev tL0:Type := List (Int×((Int×(Int×(Int×(Int×(Int×(Int×Int))))))×(Bool×((List Int)×(List Int)))))
abbrev tL1:Type := List (Int×(Int×((List ByteArray)×(List (ByteArray×(Bool×(List Int)))))))
abbrev tL2:Type := List (Int×(Int×(Int×(Int×(Int×(Int×(Int×(Int×(Int×(Int×Int))))))))))
abbrev tL3:Type := List (ByteArray×(Bool×(List Int)))
abbrev tS : Type := List (ByteArray × List Int)
abbrev tW : Type := List (ByteArray × Bool × List Int)
theorem gF {P : Program} {n : Nat} {ms0 ms : List PM} {F0 F : FSem} (s : Sound P n ms0 F0) (h : some (ms0, FSem.wk ms0 F0) = some (ms, F)) : Sound P n ms F := by cases h; exact Sound.wk s
noncomputable def Ei_in:Env where
 tt := mkTI Tryz.prog
 fn := fun _ => none
 bxf := fun _ => none
 mv := []
 keep := fun _ => []
 keepB := fun _ => []
 keepX := fun _ => []
 keepXB := fun _ => []
theorem goodFi_in:∀ f ms F,Ei_in.fn f = some (ms,F) → Sound Tryz.prog f ms F := fun f ms F h => by cases h
theorem goodi_in:Good Tryz.prog Ei_in := ⟨rfl,goodFi_in,fun f ms F h => by cases h⟩
noncomputable def Oi_in_0:Orc := fun _ _ => none
noncomputable def msi_in:List PM := [.own,.own,.own]
noncomputable def lsi_in:List (Nat×Code) := loopsAll 0 (Tryz.f75.body.getD .skip)
theorem ki_in_0:OrcOk Ei_in Oi_in_0 lsi_in 0 := orcOk_none
noncomputable def g_Ai_in (a0:Int) (a1:Int) (a2:Int):Bool := !decide (a0 ≥ a1) || true
noncomputable def g_Vi_in_0 (a0:Int) (a1:Int) (a2:Int):Bool := bif decide (a0 ≥ a1) then decide (a0 ≤ a2) else false
noncomputable def Fi_in:FSem := fun ys => match ys with
 | [.val false [.int .i64 a0],.val false [.int .i64 a1],.val false [.int .i64 a2]] => some ((g_Ai_in a0 a1 a2),.val false [.bool (g_Vi_in_0 a0 a1 a2)],[])
 | _ => none
theorem vi_in (a0:Int) (a1:Int) (a2:Int):collapseH .std Ei_in Oi_in_0 (execFn Ei_in Tryz.f75 msi_in [.val false [.int .i64 a0],.val false [.int .i64 a1],.val false [.int .i64 a2]]) = some ((g_Ai_in a0 a1 a2),.val false [.bool (g_Vi_in_0 a0 a1 a2)],[]) := by kernel_rfl
theorem si_in:Sound Tryz.prog 75 msi_in Fi_in := by
 refine fn_gen goodi_in (by kernel_rfl) .std (fn := Tryz.f75) (c := (Tryz.f75.body.getD .skip)) (o := Oi_in_0) (k := 0) (by kernel_rfl) (by kernel_rfl) (by kernel_rfl) (by kernel_rfl) (by decide) ki_in_0 ?_
 intro ys r outs h
 unfold Fi_in at h
 split at h
 ·exact (vi_in _ _ _).trans h
 ·cases h
noncomputable def Ei_isTx:Env where
 tt := mkTI Tryz.prog
 fn := fun f => match f with
  | 75 => some (msi_in,FSem.wk msi_in Fi_in)
  | _ => none
 bxf := fun _ => none
 mv := []
 keep := fun _ => []
 keepB := fun _ => []
 keepX := fun _ => []
 keepXB := fun _ => []
theorem goodFi_isTx:∀ f ms F,Ei_isTx.fn f = some (ms,F) → Sound Tryz.prog f ms F := fun f ms F h => by
 unfold Ei_isTx at h
 dsimp only at h
 split at h
 ·exact gF si_in h
 ·cases h
theorem goodi_isTx:Good Tryz.prog Ei_isTx := ⟨rfl,goodFi_isTx,fun f ms F h => by cases h⟩
noncomputable def Oi_isTx_0:Orc := fun _ _ => none
noncomputable def msi_isTx:List PM := [.own]
noncomputable def lsi_isTx:List (Nat×Code) := loopsAll 0 (Tryz.f59.body.getD .skip)
theorem ki_isTx_0:OrcOk Ei_isTx Oi_isTx_0 lsi_isTx 0 := orcOk_none
noncomputable def g_Ai_isTx (a0:Int):Bool := g_Ai_in a0 (0:Int) (29:Int)
noncomputable def g_Vi_isTx_0 (a0:Int):Bool := g_Vi_in_0 a0 (0:Int) (29:Int)
noncomputable def Fi_isTx:FSem := fun ys => match ys with
 | [.val false [.int .i64 a0]] => some ((g_Ai_isTx a0),.val false [.bool (g_Vi_isTx_0 a0)],[])
 | _ => none
theorem vi_isTx (a0:Int):collapseH .std Ei_isTx Oi_isTx_0 (execFn Ei_isTx Tryz.f59 msi_isTx [.val false [.int .i64 a0]]) = some ((g_Ai_isTx a0),.val false [.bool (g_Vi_isTx_0 a0)],[]) := by kernel_rfl
theorem si_isTx:Sound Tryz.prog 59 msi_isTx Fi_isTx := by
 refine fn_gen goodi_isTx (by kernel_rfl) .std (fn := Tryz.f59) (c := (Tryz.f59.body.getD .skip)) (o := Oi_isTx_0) (k := 0) (by kernel_rfl) (by kernel_rfl) (by kernel_rfl) (by kernel_rfl) (by decide) ki_isTx_0 ?_
 intro ys r outs h
 unfold Fi_isTx at h
 split at h
 ·exact (vi_isTx _).trans h
 ·cases h
def msstrings_Trim:List PM := [.own,.own]
def g_trim (s c:ByteArray):ByteArray := ⟨(Lib.trimS s.data.toList c.data.toList).toArray⟩
def g_ascii (c:ByteArray):Bool := c.data.toList.all fun b => decide (b.toNat < 128)
def Fstrings_Trim:FSem := fun ys => match ys with
 | [.val false [.str s],.val false [.str c]] => some (decide (s.size ≤ 9223372036854775807)&&(decide (c.size < 4294967281)&&g_ascii c),.val false [.str (g_trim s c)],[])
 | _ => none
theorem sstrings_Trim:Sound Tryz.prog 177 msstrings_Trim Fstrings_Trim := by
 refine sound_plain (by simp [msstrings_Trim]) ⟨_,Tryz.func177,by kernel_rfl,by kernel_rfl⟩ (fun w ys r outs h => ?_)
 unfold Fstrings_Trim at h
 split at h
 ·rename_i s c
  simp only [Option.some.injEq,Prod.mk.injEq,Bool.and_eq_true,decide_eq_true_eq] at h
  obtain ⟨⟨h1,h2,h3⟩,rfl,rfl⟩ := h
  refine ⟨rfl,[.string s,.string c],.string (g_trim s c),rfl,rfl,?_⟩
  exact Tryz.strings_Trim_laid s c w h1 h2 (fun j b hb => by
   have := List.all_eq_true.1 h3 b (List.mem_of_getElem? hb)
   simpa using this)
 ·cases h
noncomputable def Ei_keyOk:Env where
 tt := mkTI Tryz.prog
 fn := fun f => match f with
  | 75 => some (msi_in,FSem.wk msi_in Fi_in)
  | 177 => some (msstrings_Trim,FSem.wk msstrings_Trim Fstrings_Trim)
  | _ => none
 bxf := fun _ => none
 mv := []
 keep := fun _ => []
 keepB := fun _ => []
 keepX := fun _ => []
 keepXB := fun _ => []
theorem goodFi_keyOk:∀ f ms F,Ei_keyOk.fn f = some (ms,F) → Sound Tryz.prog f ms F := fun f ms F h => by
 unfold Ei_keyOk at h
 dsimp only at h
 split at h
 ·exact gF si_in h
 ·exact gF sstrings_Trim h
 ·cases h
theorem goodi_keyOk:Good Tryz.prog Ei_keyOk := ⟨rfl,goodFi_keyOk,fun f ms F h => by cases h⟩
noncomputable def Oi_keyOk_0:Orc := fun _ _ => none
noncomputable def msi_keyOk:List PM := [.own]
noncomputable def lsi_keyOk:List (Nat×Code) := loopsAll 0 (Tryz.f162.body.getD .skip)
theorem ki_keyOk_0:OrcOk Ei_keyOk Oi_keyOk_0 lsi_keyOk 0 := orcOk_none
noncomputable def g_Ai_keyOk (a0:ByteArray):Bool := g_Ai_in (↑(ByteArray.size a0):Int) (2:Int) (3:Int)&&(!g_Vi_in_0 (↑(ByteArray.size a0):Int) (2:Int) (3:Int) || decide ((0:Int) ≤ (0:Int) ∧ 0 < (↑(ByteArray.size a0):Int))&&(g_Ai_in (IntKind.i64.wrap (byteAt a0 (nat_lit 0))) (97:Int) (122:Int)&&(!g_Vi_in_0 (IntKind.i64.wrap (byteAt a0 (nat_lit 0))) (97:Int) (122:Int) || decide ((0:Int) ≤ (1:Int) ∧ 1 ≤ (↑(ByteArray.size a0):Int))&&(decide (ByteArray.size (ByteArray.extract a0 (nat_lit 1) (ByteArray.size a0)) ≤ nat_lit 9223372036854775807)&&g_ascii (lit [(48:Nat),(49:Nat),(50:Nat),(51:Nat),(52:Nat),(53:Nat),(54:Nat),(55:Nat),(56:Nat),(57:Nat)])&&true))))
noncomputable def g_Vi_keyOk_0 (a0:ByteArray):Bool := bif g_Vi_in_0 (↑(ByteArray.size a0):Int) (2:Int) (3:Int) then bif g_Vi_in_0 (IntKind.i64.wrap (byteAt a0 (nat_lit 0))) (97:Int) (122:Int) then ByteArray.toList (g_trim (ByteArray.extract a0 (nat_lit 1) (ByteArray.size a0)) (lit [(48:Nat),(49:Nat),(50:Nat),(51:Nat),(52:Nat),(53:Nat),(54:Nat),(55:Nat),(56:Nat),(57:Nat)])) == [] else false else false
noncomputable def Fi_keyOk:FSem := fun ys => match ys with
 | [.val false [.str a0]] => some ((g_Ai_keyOk a0),.val false [.bool (g_Vi_keyOk_0 a0)],[])
 | _ => none
theorem vi_keyOk (a0:ByteArray):collapseH .std Ei_keyOk Oi_keyOk_0 (execFn Ei_keyOk Tryz.f162 msi_keyOk [.val false [.str a0]]) = some ((g_Ai_keyOk a0),.val false [.bool (g_Vi_keyOk_0 a0)],[]) := by kernel_rfl
theorem si_keyOk:Sound Tryz.prog 162 msi_keyOk Fi_keyOk := by
 refine fn_gen goodi_keyOk (by kernel_rfl) .std (fn := Tryz.f162) (c := (Tryz.f162.body.getD .skip)) (o := Oi_keyOk_0) (k := 0) (by kernel_rfl) (by kernel_rfl) (by kernel_rfl) (by kernel_rfl) (by decide) ki_keyOk_0 ?_
 intro ys r outs h
 unfold Fi_keyOk at h
 split at h
 ·exact (vi_keyOk _).trans h
 ·cases h
noncomputable def Ei_valOk_1:Env where
 tt := mkTI Tryz.prog
 fn := fun f => match f with
  | 75 => some (msi_in,FSem.wk msi_in Fi_in)
  | _ => none
 bxf := fun _ => none
 mv := []
 keep := fun _ => []
 keepB := fun _ => []
 keepX := fun _ => []
 keepXB := fun _ => []
theorem goodFi_valOk_1:∀ f ms F,Ei_valOk_1.fn f = some (ms,F) → Sound Tryz.prog f ms F := fun f ms F h => by
 unfold Ei_valOk_1 at h
 dsimp only at h
 split at h
 ·exact gF si_in h
 ·cases h
theorem goodi_valOk_1:Good Tryz.prog Ei_valOk_1 := ⟨rfl,goodFi_valOk_1,fun f ms F h => by cases h⟩
noncomputable def Oi_valOk_1_0:Orc := fun _ _ => none
noncomputable def msi_valOk_1:List PM := [.own]
noncomputable def lsi_valOk_1:List (Nat×Code) := loopsAll 0 (Tryz.f189.body.getD .skip)
theorem ki_valOk_1_0:OrcOk Ei_valOk_1 Oi_valOk_1_0 lsi_valOk_1 0 := orcOk_none
noncomputable def g_Ai_valOk_1 (a0:Int):Bool := g_Ai_in a0 (0:Int) (9999:Int)
noncomputable def g_Vi_valOk_1_0 (a0:Int):Bool := !g_Vi_in_0 a0 (0:Int) (9999:Int)
noncomputable def Fi_valOk_1:FSem := fun ys => match ys with
 | [.val false [.int .i64 a0]] => some ((g_Ai_valOk_1 a0),.val false [.bool (g_Vi_valOk_1_0 a0)],[])
 | _ => none
theorem vi_valOk_1 (a0:Int):collapseH .std Ei_valOk_1 Oi_valOk_1_0 (execFn Ei_valOk_1 Tryz.f189 msi_valOk_1 [.val false [.int .i64 a0]]) = some ((g_Ai_valOk_1 a0),.val false [.bool (g_Vi_valOk_1_0 a0)],[]) := by kernel_rfl
theorem si_valOk_1:Sound Tryz.prog 189 msi_valOk_1 Fi_valOk_1 := by
 refine fn_gen goodi_valOk_1 (by kernel_rfl) .std (fn := Tryz.f189) (c := (Tryz.f189.body.getD .skip)) (o := Oi_valOk_1_0) (k := 0) (by kernel_rfl) (by kernel_rfl) (by kernel_rfl) (by kernel_rfl) (by decide) ki_valOk_1_0 ?_
 intro ys r outs h
 unfold Fi_valOk_1 at h
 split at h
 ·exact (vi_valOk_1 _).trans h
 ·cases h
noncomputable def EZ10:Env where
 tt := mkTI Tryz.prog
 fn := fun f => match f with
  | 189 => some (msi_valOk_1,FSem.wk msi_valOk_1 Fi_valOk_1)
  | _ => none
 bxf := fun _ => none
 mv := []
 keep := fun b => match b with
  | 0 => [(0,false),(1,false),(7,false),(8,false)]
  | _ => []
 keepB := fun b => match b with
  | 0 => []
  | _ => []
 keepX := fun b => match b with
  | 0 => [(4,false)]
  | _ => []
 keepXB := fun b => match b with
  | 0 => []
  | _ => []
theorem goodFZ10:∀ f ms F,EZ10.fn f = some (ms,F) → Sound Tryz.prog f ms F := fun f ms F h => by
 unfold EZ10 at h
 dsimp only at h
 split at h
 ·exact gF si_valOk_1 h
 ·cases h
theorem goodZ10:Good Tryz.prog EZ10 := ⟨rfl,goodFZ10,fun f ms F h => by cases h⟩
noncomputable def OZ10_0:Orc := fun _ _ => none
noncomputable def msZ10:List PM := [.rd,.rd]
noncomputable def lsZ10:List (Nat×Code) := loopsAll 0 (Tryz.f139.body.getD .skip)
noncomputable def cZ10_0:Code := (loopOf 0 (Tryz.f139.body.getD .skip)).getD .skip
theorem lseqZ10:lsZ10 = [(0,cZ10_0)] := by kernel_rfl
theorem mZ10_0:∀ p,p ∈ lsZ10 → p.1 = 0 → p.2 = cZ10_0 := by
 intro p hp
 rw [lseqZ10] at hp
 simp only [List.mem_cons,List.not_mem_nil,or_false] at hp
 subst hp; simp
theorem kZ10_0:OrcOk EZ10 OZ10_0 lsZ10 0 := orcOk_none
noncomputable def hZ10_0 (y0:List Int) (y1:Int) (y2:Int):List (Pl×LV) := [(.T 0,.t (.val false [.sl .any 3 (.int .i64) y0])),(.T 1,.t (.val false [.fn 189 []])),(.T 7,.t (.val false [.int .i64 y1])),(.T 8,.t (.val false [.int .i64 y2]))]
noncomputable def g_SZ10_0 (y0:List Int) (y1:Int):(Int) → RT (Int) ((Int) ⊕ (Unit))
 | y2 => .br (true) (.br (decide (y2 < y1)) (.br (decide (0 ≤ y2 ∧ y2 < (y0.length:Int))) (.br (g_Ai_valOk_1 (at_ (.int .i64) y0 (Int.toNat y2))) (.br (g_Vi_valOk_1_0 (at_ (.int .i64) y0 (Int.toNat y2))) (.out (.inl y2)) (.br (true) (.go (IntKind.i64.wrap (y2 + 1))) .bad)) .bad) .bad) (.out (.inr (())))) .bad
noncomputable def g_LZ10_0 (y0:List Int) (y1:Int) (x:Int):Option ((Int) ⊕ (Unit)) := loopO (g_SZ10_0 y0 y1) x
noncomputable def xZ10_0 (y0:List Int) (y1:Int):((Int) ⊕ (Unit)) → Ex×List (Pl×LV) := fun
 | .inl r => (.ret,[(.T 4,.t (.val false [.int .i64 r]))])
 | .inr (r) => (.exit 0,[(.T 4,.t (.val false [.undef]))])
noncomputable def OZ10_1:Orc := fun b h => match b,h with
 | 0,[(.T 0,.t (.val false [.sl .any 3 (.int .i64) y0])),(.T 1,.t (.val false [.fn 189 []])),(.T 7,.t (.val false [.int .i64 y1])),(.T 8,.t (.val false [.int .i64 y2]))] => some (okO (g_LZ10_0 y0 y1 y2),(.br (isL (valO (g_LZ10_0 y0 y1 y2))) (.leaf .ret [(.T 4,.t (.val false [.int .i64 (getL (valO (g_LZ10_0 y0 y1 y2)))]))]) (.leaf (.exit 0) [(.T 4,.t (.val false [.undef]))])))
 | b,h => OZ10_0 b h
theorem bZ10_0 (y0:List Int) (y1:Int) (y2:Int):Tr.bt EZ10 OZ10_0 (exec EZ10 0 cZ10_0 (St.of (hZ10_0 y0 y1 y2)) (leafRd EZ10 0)) = (g_SZ10_0 y0 y1 y2).bt (fun (y2:Int) => (hZ10_0 y0 y1 y2)) (xZ10_0 y0 y1) := by kernel_rfl
theorem kZ10_1:OrcOk EZ10 OZ10_1 lsZ10 1 := orc_add kZ10_0 (fun n p hp h ex h' ho => by
 obtain ⟨b,c⟩ := p
 obtain ⟨xt,h1,h2⟩ := ho
 have h1:OZ10_1 b h = some (true,xt) := h1
 unfold OZ10_1 at h1
 split at h1
 ·injection h1 with h1
  injection h1 with e1 e2
  subst e2
  have hc:c = cZ10_0 := mZ10_0 _ hp rfl
  subst hc
  right
  rename_i y0 y1 y2
  have key := LT_step kZ10_0 hp (fun q hq => loopsAll_in _ _ _ _ hp hq) (fun (y2:Int) => (hZ10_0 y0 y1 y2)) (xZ10_0 y0 y1) (g_SZ10_0 y0 y1) (fun x => by first | exact bZ10_0 y0 y1 x) n (x := y2) (okO_some e1)
  have hx:∀ r,XT.sel (.br (isL r) (.leaf .ret [(.T 4,.t (.val false [.int .i64 (getL r)]))]) (.leaf (.exit 0) [(.T 4,.t (.val false [.undef]))])) = xZ10_0 y0 y1 r := fun r => by first | rfl | rcases r with r | r <;> rfl | rcases r with r | r | r <;> rfl | rcases r with r | r | r | r <;> rfl
  have h3 := (hx (valO (g_LZ10_0 y0 y1 y2))).symm.trans h2
  have e3 := congrArg Prod.fst h3
  have e4 := congrArg Prod.snd h3
  simp only at e3 e4
  rw [← e3,← e4]
  exact key
 ·exact .inl ⟨xt,h1,h2⟩)
noncomputable def g_AZ10 (a0:List Int):Bool := okO (g_LZ10_0 a0 (a0.length:Int) (0:Int))
noncomputable def g_VZ10_0 (a0:List Int):Int := bif isL (valO (g_LZ10_0 a0 (a0.length:Int) (0:Int))) then getL (valO (g_LZ10_0 a0 (a0.length:Int) (0:Int))) else (-1:Int)
noncomputable def FZ10:FSem := fun ys => match ys with
 | [.val false [.sl .any 3 (.int .i64) a0],.val false [.fn 189 []]] => some ((g_AZ10 a0),.val false [.int .i64 (g_VZ10_0 a0)],[])
 | _ => none
theorem vZ10 (a0:List Int):collapseH .std EZ10 OZ10_1 (execFn EZ10 Tryz.f139 msZ10 [.val false [.sl .any 3 (.int .i64) a0],.val false [.fn 189 []]]) = some ((g_AZ10 a0),.val false [.int .i64 (g_VZ10_0 a0)],[]) := by kernel_rfl
theorem sZ10:Sound Tryz.prog 139 msZ10 FZ10 := by
 refine fn_gen goodZ10 (by kernel_rfl) .std (fn := Tryz.f139) (c := (Tryz.f139.body.getD .skip)) (o := OZ10_1) (k := 1) (by kernel_rfl) (by kernel_rfl) (by kernel_rfl) (by kernel_rfl) (by decide) kZ10_1 ?_
 intro ys r outs h
 unfold FZ10 at h
 split at h
 ·exact (vZ10 _).trans h
 ·cases h
noncomputable def EZ9:Env where
 tt := mkTI Tryz.prog
 fn := fun f => match f with
  | 139 => some (msZ10,FSem.wk msZ10 FZ10)
  | 189 => some (msi_valOk_1,FSem.wk msi_valOk_1 Fi_valOk_1)
  | _ => none
 bxf := fun _ => none
 mv := []
 keep := fun _ => []
 keepB := fun _ => []
 keepX := fun _ => []
 keepXB := fun _ => []
theorem goodFZ9:∀ f ms F,EZ9.fn f = some (ms,F) → Sound Tryz.prog f ms F := fun f ms F h => by
 unfold EZ9 at h
 dsimp only at h
 split at h
 ·exact gF sZ10 h
 ·exact gF si_valOk_1 h
 ·cases h
theorem goodZ9:Good Tryz.prog EZ9 := ⟨rfl,goodFZ9,fun f ms F h => by cases h⟩
noncomputable def OZ9_0:Orc := fun _ _ => none
noncomputable def msZ9:List PM := [.rd,.rd]
noncomputable def lsZ9:List (Nat×Code) := loopsAll 0 (Tryz.f188.body.getD .skip)
theorem kZ9_0:OrcOk EZ9 OZ9_0 lsZ9 0 := orcOk_none
noncomputable def g_AZ9 (a0:List Int):Bool := g_AZ10 a0&&true
noncomputable def g_VZ9_0 (a0:List Int):Bool := decide (g_VZ10_0 a0 ≥ 0)
noncomputable def FZ9:FSem := fun ys => match ys with
 | [.val false [.sl .any 3 (.int .i64) a0],.val false [.fn 189 []]] => some ((g_AZ9 a0),.val false [.bool (g_VZ9_0 a0)],[])
 | _ => none
theorem vZ9 (a0:List Int):collapseH .std EZ9 OZ9_0 (execFn EZ9 Tryz.f188 msZ9 [.val false [.sl .any 3 (.int .i64) a0],.val false [.fn 189 []]]) = some ((g_AZ9 a0),.val false [.bool (g_VZ9_0 a0)],[]) := by kernel_rfl
theorem sZ9:Sound Tryz.prog 188 msZ9 FZ9 := by
 refine fn_gen goodZ9 (by kernel_rfl) .std (fn := Tryz.f188) (c := (Tryz.f188.body.getD .skip)) (o := OZ9_0) (k := 0) (by kernel_rfl) (by kernel_rfl) (by kernel_rfl) (by kernel_rfl) (by decide) kZ9_0 ?_
 intro ys r outs h
 unfold FZ9 at h
 split at h
 ·exact (vZ9 _).trans h
 ·cases h
noncomputable def Ei_valOk:Env where
 tt := mkTI Tryz.prog
 fn := fun f => match f with
  | 75 => some (msi_in,FSem.wk msi_in Fi_in)
  | 188 => some (msZ9,FSem.wk msZ9 FZ9)
  | _ => none
 bxf := fun _ => none
 mv := []
 keep := fun _ => []
 keepB := fun _ => []
 keepX := fun _ => []
 keepXB := fun _ => []
theorem goodFi_valOk:∀ f ms F,Ei_valOk.fn f = some (ms,F) → Sound Tryz.prog f ms F := fun f ms F h => by
 unfold Ei_valOk at h
 dsimp only at h
 split at h
 ·exact gF si_in h
 ·exact gF sZ9 h
 ·cases h
theorem goodi_valOk:Good Tryz.prog Ei_valOk := ⟨rfl,goodFi_valOk,fun f ms F h => by cases h⟩
noncomputable def Oi_valOk_0:Orc := fun _ _ => none
noncomputable def msi_valOk:List PM := [.rd]
noncomputable def lsi_valOk:List (Nat×Code) := loopsAll 0 (Tryz.f178.body.getD .skip)
theorem ki_valOk_0:OrcOk Ei_valOk Oi_valOk_0 lsi_valOk 0 := orcOk_none
noncomputable def g_Ai_valOk (a0:List Int):Bool := g_Ai_in (a0.length:Int) (1:Int) (3:Int)&&(!g_Vi_in_0 (a0.length:Int) (1:Int) (3:Int) || g_AZ9 a0)
noncomputable def g_Vi_valOk_0 (a0:List Int):Bool := bif g_Vi_in_0 (a0.length:Int) (1:Int) (3:Int) then !g_VZ9_0 a0 else false
noncomputable def Fi_valOk:FSem := fun ys => match ys with
 | [.val false [.sl .any 3 (.int .i64) a0]] => some ((g_Ai_valOk a0),.val false [.bool (g_Vi_valOk_0 a0)],[])
 | _ => none
theorem vi_valOk (a0:List Int):collapseH .std Ei_valOk Oi_valOk_0 (execFn Ei_valOk Tryz.f178 msi_valOk [.val false [.sl .any 3 (.int .i64) a0]]) = some ((g_Ai_valOk a0),.val false [.bool (g_Vi_valOk_0 a0)],[]) := by kernel_rfl
theorem si_valOk:Sound Tryz.prog 178 msi_valOk Fi_valOk := by
 refine fn_gen goodi_valOk (by kernel_rfl) .std (fn := Tryz.f178) (c := (Tryz.f178.body.getD .skip)) (o := Oi_valOk_0) (k := 0) (by kernel_rfl) (by kernel_rfl) (by kernel_rfl) (by kernel_rfl) (by decide) ki_valOk_0 ?_
 intro ys r outs h
 unfold Fi_valOk at h
 split at h
 ·exact (vi_valOk _).trans h
 ·cases h
noncomputable def Ei_WrtOk:Env where
 tt := mkTI Tryz.prog
 fn := fun f => match f with
  | 162 => some (msi_keyOk,FSem.wk msi_keyOk Fi_keyOk)
  | 178 => some (msi_valOk,FSem.wk msi_valOk Fi_valOk)
  | _ => none
 bxf := fun _ => none
 mv := []
 keep := fun _ => []
 keepB := fun _ => []
 keepX := fun _ => []
 keepXB := fun _ => []
theorem goodFi_WrtOk:∀ f ms F,Ei_WrtOk.fn f = some (ms,F) → Sound Tryz.prog f ms F := fun f ms F h => by
 unfold Ei_WrtOk at h
 dsimp only at h
 split at h
 ·exact gF si_keyOk h
 ·exact gF si_valOk h
 ·cases h
theorem goodi_WrtOk:Good Tryz.prog Ei_WrtOk := ⟨rfl,goodFi_WrtOk,fun f ms F h => by cases h⟩
noncomputable def Oi_WrtOk_0:Orc := fun _ _ => none
noncomputable def msi_WrtOk:List PM := [.rd]
noncomputable def lsi_WrtOk:List (Nat×Code) := loopsAll 0 (Tryz.f164.body.getD .skip)
theorem ki_WrtOk_0:OrcOk Ei_WrtOk Oi_WrtOk_0 lsi_WrtOk 0 := orcOk_none
noncomputable def g_Ai_WrtOk (a0:ByteArray) (a1:Bool) (a2:List Int):Bool := bif a1 then g_Ai_keyOk a0&&(!g_Vi_keyOk_0 a0 || true) else g_Ai_keyOk a0&&(!g_Vi_keyOk_0 a0 || g_Ai_valOk a2)
noncomputable def g_Vi_WrtOk_0 (a0:ByteArray) (a1:Bool) (a2:List Int):Bool := bif a1 then bif g_Vi_keyOk_0 a0 then (a2.length:Int) == 0 else false else bif g_Vi_keyOk_0 a0 then g_Vi_valOk_0 a2 else false
noncomputable def Fi_WrtOk:FSem := fun ys => match ys with
 | [.val true [.str a0,.bool a1,.sl .any 3 (.int .i64) a2]] => some ((g_Ai_WrtOk a0 a1 a2),.val false [.bool (g_Vi_WrtOk_0 a0 a1 a2)],[])
 | _ => none
theorem vi_WrtOk (a0:ByteArray) (a1:Bool) (a2:List Int):collapseH .std Ei_WrtOk Oi_WrtOk_0 (execFn Ei_WrtOk Tryz.f164 msi_WrtOk [.val true [.str a0,.bool a1,.sl .any 3 (.int .i64) a2]]) = some ((g_Ai_WrtOk a0 a1 a2),.val false [.bool (g_Vi_WrtOk_0 a0 a1 a2)],[]) := by kernel_rfl
theorem si_WrtOk:Sound Tryz.prog 164 msi_WrtOk Fi_WrtOk := by
 refine fn_gen goodi_WrtOk (by kernel_rfl) .std (fn := Tryz.f164) (c := (Tryz.f164.body.getD .skip)) (o := Oi_WrtOk_0) (k := 0) (by kernel_rfl) (by kernel_rfl) (by kernel_rfl) (by kernel_rfl) (by decide) ki_WrtOk_0 ?_
 intro ys r outs h
 unfold Fi_WrtOk at h
 split at h
 ·exact (vi_WrtOk _ _ _).trans h
 ·cases h
noncomputable def EZ14:Env where
 tt := mkTI Tryz.prog
 fn := fun _ => none
 bxf := fun _ => none
 mv := []
 keep := fun b => match b with
  | 0 => [(0,false),(1,false),(7,false),(8,false)]
  | _ => []
 keepB := fun b => match b with
  | 0 => []
  | _ => []
 keepX := fun b => match b with
  | 0 => [(4,false)]
  | _ => []
 keepXB := fun b => match b with
  | 0 => []
  | _ => []
theorem goodFZ14:∀ f ms F,EZ14.fn f = some (ms,F) → Sound Tryz.prog f ms F := fun f ms F h => by cases h
theorem goodZ14:Good Tryz.prog EZ14 := ⟨rfl,goodFZ14,fun f ms F h => by cases h⟩
noncomputable def OZ14_0:Orc := fun _ _ => none
noncomputable def msZ14:List PM := [.rd,.own]
noncomputable def lsZ14:List (Nat×Code) := loopsAll 0 (Tryz.f179.body.getD .skip)
noncomputable def cZ14_0:Code := (loopOf 0 (Tryz.f179.body.getD .skip)).getD .skip
theorem lseqZ14:lsZ14 = [(0,cZ14_0)] := by kernel_rfl
theorem mZ14_0:∀ p,p ∈ lsZ14 → p.1 = 0 → p.2 = cZ14_0 := by
 intro p hp
 rw [lseqZ14] at hp
 simp only [List.mem_cons,List.not_mem_nil,or_false] at hp
 subst hp; simp
theorem kZ14_0:OrcOk EZ14 OZ14_0 lsZ14 0 := orcOk_none
noncomputable def hZ14_0 (y0:List ByteArray) (y1:ByteArray) (y2:Int) (y3:Int):List (Pl×LV) := [(.T 0,.t (.val false [.sl .any 9 .str y0])),(.T 1,.t (.val false [.str y1])),(.T 7,.t (.val false [.int .i64 y2])),(.T 8,.t (.val false [.int .i64 y3]))]
noncomputable def g_SZ14_0 (y0:List ByteArray) (y1:ByteArray) (y2:Int):(Int) → RT (Int) ((Int) ⊕ (Unit))
 | y3 => .br (true) (.br (decide (y3 < y2)) (.br (decide (0 ≤ y3 ∧ y3 < (y0.length:Int))) (.br (true) (.br (ByteArray.toList y1 == ByteArray.toList (at_ Ty.str y0 (Int.toNat y3))) (.out (.inl y3)) (.br (true) (.go (IntKind.i64.wrap (y3 + 1))) .bad)) .bad) .bad) (.out (.inr (())))) .bad
noncomputable def g_LZ14_0 (y0:List ByteArray) (y1:ByteArray) (y2:Int) (x:Int):Option ((Int) ⊕ (Unit)) := loopO (g_SZ14_0 y0 y1 y2) x
noncomputable def xZ14_0 (y0:List ByteArray) (y1:ByteArray) (y2:Int):((Int) ⊕ (Unit)) → Ex×List (Pl×LV) := fun
 | .inl r => (.ret,[(.T 4,.t (.val false [.int .i64 r]))])
 | .inr (r) => (.exit 0,[(.T 4,.t (.val false [.undef]))])
noncomputable def OZ14_1:Orc := fun b h => match b,h with
 | 0,[(.T 0,.t (.val false [.sl .any 9 .str y0])),(.T 1,.t (.val false [.str y1])),(.T 7,.t (.val false [.int .i64 y2])),(.T 8,.t (.val false [.int .i64 y3]))] => some (okO (g_LZ14_0 y0 y1 y2 y3),(.br (isL (valO (g_LZ14_0 y0 y1 y2 y3))) (.leaf .ret [(.T 4,.t (.val false [.int .i64 (getL (valO (g_LZ14_0 y0 y1 y2 y3)))]))]) (.leaf (.exit 0) [(.T 4,.t (.val false [.undef]))])))
 | b,h => OZ14_0 b h
theorem bZ14_0 (y0:List ByteArray) (y1:ByteArray) (y2:Int) (y3:Int):Tr.bt EZ14 OZ14_0 (exec EZ14 0 cZ14_0 (St.of (hZ14_0 y0 y1 y2 y3)) (leafRd EZ14 0)) = (g_SZ14_0 y0 y1 y2 y3).bt (fun (y3:Int) => (hZ14_0 y0 y1 y2 y3)) (xZ14_0 y0 y1 y2) := by kernel_rfl
theorem kZ14_1:OrcOk EZ14 OZ14_1 lsZ14 1 := orc_add kZ14_0 (fun n p hp h ex h' ho => by
 obtain ⟨b,c⟩ := p
 obtain ⟨xt,h1,h2⟩ := ho
 have h1:OZ14_1 b h = some (true,xt) := h1
 unfold OZ14_1 at h1
 split at h1
 ·injection h1 with h1
  injection h1 with e1 e2
  subst e2
  have hc:c = cZ14_0 := mZ14_0 _ hp rfl
  subst hc
  right
  rename_i y0 y1 y2 y3
  have key := LT_step kZ14_0 hp (fun q hq => loopsAll_in _ _ _ _ hp hq) (fun (y3:Int) => (hZ14_0 y0 y1 y2 y3)) (xZ14_0 y0 y1 y2) (g_SZ14_0 y0 y1 y2) (fun x => by first | exact bZ14_0 y0 y1 y2 x) n (x := y3) (okO_some e1)
  have hx:∀ r,XT.sel (.br (isL r) (.leaf .ret [(.T 4,.t (.val false [.int .i64 (getL r)]))]) (.leaf (.exit 0) [(.T 4,.t (.val false [.undef]))])) = xZ14_0 y0 y1 y2 r := fun r => by first | rfl | rcases r with r | r <;> rfl | rcases r with r | r | r <;> rfl | rcases r with r | r | r | r <;> rfl
  have h3 := (hx (valO (g_LZ14_0 y0 y1 y2 y3))).symm.trans h2
  have e3 := congrArg Prod.fst h3
  have e4 := congrArg Prod.snd h3
  simp only at e3 e4
  rw [← e3,← e4]
  exact key
 ·exact .inl ⟨xt,h1,h2⟩)
noncomputable def g_AZ14 (a0:List ByteArray) (a1:ByteArray):Bool := okO (g_LZ14_0 a0 a1 (a0.length:Int) (0:Int))
noncomputable def g_VZ14_0 (a0:List ByteArray) (a1:ByteArray):Int := bif isL (valO (g_LZ14_0 a0 a1 (a0.length:Int) (0:Int))) then getL (valO (g_LZ14_0 a0 a1 (a0.length:Int) (0:Int))) else (-1:Int)
noncomputable def FZ14:FSem := fun ys => match ys with
 | [.val false [.sl .any 9 .str a0],.val false [.str a1]] => some ((g_AZ14 a0 a1),.val false [.int .i64 (g_VZ14_0 a0 a1)],[])
 | _ => none
theorem vZ14 (a0:List ByteArray) (a1:ByteArray):collapseH .std EZ14 OZ14_1 (execFn EZ14 Tryz.f179 msZ14 [.val false [.sl .any 9 .str a0],.val false [.str a1]]) = some ((g_AZ14 a0 a1),.val false [.int .i64 (g_VZ14_0 a0 a1)],[]) := by kernel_rfl
theorem sZ14:Sound Tryz.prog 179 msZ14 FZ14 := by
 refine fn_gen goodZ14 (by kernel_rfl) .std (fn := Tryz.f179) (c := (Tryz.f179.body.getD .skip)) (o := OZ14_1) (k := 1) (by kernel_rfl) (by kernel_rfl) (by kernel_rfl) (by kernel_rfl) (by decide) kZ14_1 ?_
 intro ys r outs h
 unfold FZ14 at h
 split at h
 ·exact (vZ14 _ _).trans h
 ·cases h
noncomputable def EZ11:Env where
 tt := mkTI Tryz.prog
 fn := fun f => match f with
  | 179 => some (msZ14,FSem.wk msZ14 FZ14)
  | _ => none
 bxf := fun _ => none
 mv := []
 keep := fun _ => []
 keepB := fun _ => []
 keepX := fun _ => []
 keepXB := fun _ => []
theorem goodFZ11:∀ f ms F,EZ11.fn f = some (ms,F) → Sound Tryz.prog f ms F := fun f ms F h => by
 unfold EZ11 at h
 dsimp only at h
 split at h
 ·exact gF sZ14 h
 ·cases h
theorem goodZ11:Good Tryz.prog EZ11 := ⟨rfl,goodFZ11,fun f ms F h => by cases h⟩
noncomputable def OZ11_0:Orc := fun _ _ => none
noncomputable def msZ11:List PM := [.rd,.own]
noncomputable def lsZ11:List (Nat×Code) := loopsAll 0 (Tryz.f165.body.getD .skip)
theorem kZ11_0:OrcOk EZ11 OZ11_0 lsZ11 0 := orcOk_none
noncomputable def g_AZ11 (a0:List ByteArray) (a1:ByteArray):Bool := g_AZ14 a0 a1&&true
noncomputable def g_VZ11_0 (a0:List ByteArray) (a1:ByteArray):Bool := decide (g_VZ14_0 a0 a1 ≥ 0)
noncomputable def FZ11:FSem := fun ys => match ys with
 | [.val false [.sl .any 9 .str a0],.val false [.str a1]] => some ((g_AZ11 a0 a1),.val false [.bool (g_VZ11_0 a0 a1)],[])
 | _ => none
theorem vZ11 (a0:List ByteArray) (a1:ByteArray):collapseH .std EZ11 OZ11_0 (execFn EZ11 Tryz.f165 msZ11 [.val false [.sl .any 9 .str a0],.val false [.str a1]]) = some ((g_AZ11 a0 a1),.val false [.bool (g_VZ11_0 a0 a1)],[]) := by kernel_rfl
theorem sZ11:Sound Tryz.prog 165 msZ11 FZ11 := by
 refine fn_gen goodZ11 (by kernel_rfl) .std (fn := Tryz.f165) (c := (Tryz.f165.body.getD .skip)) (o := OZ11_0) (k := 0) (by kernel_rfl) (by kernel_rfl) (by kernel_rfl) (by kernel_rfl) (by decide) kZ11_0 ?_
 intro ys r outs h
 unfold FZ11 at h
 split at h
 ·exact (vZ11 _ _).trans h
 ·cases h
noncomputable def EZ64:Env where
 tt := mkTI Tryz.prog
 fn := fun f => match f with
  | 164 => some (msi_WrtOk,FSem.wk msi_WrtOk Fi_WrtOk)
  | 165 => some (msZ11,FSem.wk msZ11 FZ11)
  | _ => none
 bxf := fun _ => none
 mv := []
 keep := fun _ => []
 keepB := fun _ => []
 keepX := fun _ => []
 keepXB := fun _ => []
theorem goodFZ64:∀ f ms F,EZ64.fn f = some (ms,F) → Sound Tryz.prog f ms F := fun f ms F h => by
 unfold EZ64 at h
 dsimp only at h
 split at h
 ·exact gF si_WrtOk h
 ·exact gF sZ11 h
 ·cases h
theorem goodZ64:Good Tryz.prog EZ64 := ⟨rfl,goodFZ64,fun f ms F h => by cases h⟩
noncomputable def OZ64_0:Orc := fun _ _ => none
noncomputable def msZ64:List PM := [.rd,.rd]
noncomputable def lsZ64:List (Nat×Code) := loopsAll 0 (Tryz.f163.body.getD .skip)
theorem kZ64_0:OrcOk EZ64 OZ64_0 lsZ64 0 := orcOk_none
noncomputable def g_AZ64 (a0:ByteArray) (a1:Bool) (a2:List Int) (c0:Int×(Int×((List ByteArray)×tL3))):Bool := g_Ai_WrtOk a0 a1 a2&&(!g_Vi_WrtOk_0 a0 a1 a2 || g_AZ11 c0.2.2.1 a0)
noncomputable def g_VZ64_0 (a0:ByteArray) (a1:Bool) (a2:List Int) (c0:Int×(Int×((List ByteArray)×tL3))):Bool := bif !g_Vi_WrtOk_0 a0 a1 a2 then true else !g_VZ11_0 c0.2.2.1 a0
noncomputable def FZ64:FSem := fun ys => match ys with
 | [.val true [.str a0,.bool a1,.sl .any 3 (.int .i64) a2],.val false [.sptr (.pair (.int .i64) (.pair (.int .i64) (.pair (.sl 9 .str) (.sl 155 (.pair .str (.pair .bool (.sl 3 (.int .i64)))))))) c0 0]] => some ((g_AZ64 a0 a1 a2 c0),.val false [.bool (g_VZ64_0 a0 a1 a2 c0)],[])
 | _ => none
theorem vZ64 (a0:ByteArray) (a1:Bool) (a2:List Int) (c0:Int×(Int×((List ByteArray)×tL3))):collapseH .std EZ64 OZ64_0 (execFn EZ64 Tryz.f163 msZ64 [.val true [.str a0,.bool a1,.sl .any 3 (.int .i64) a2],.val false [.sptr (.pair (.int .i64) (.pair (.int .i64) (.pair (.sl 9 .str) (.sl 155 (.pair .str (.pair .bool (.sl 3 (.int .i64)))))))) c0 0]]) = some ((g_AZ64 a0 a1 a2 c0),.val false [.bool (g_VZ64_0 a0 a1 a2 c0)],[]) := by kernel_rfl
theorem sZ64:Sound Tryz.prog 163 msZ64 FZ64 := by
 refine fn_gen goodZ64 (by kernel_rfl) .std (fn := Tryz.f163) (c := (Tryz.f163.body.getD .skip)) (o := OZ64_0) (k := 0) (by kernel_rfl) (by kernel_rfl) (by kernel_rfl) (by kernel_rfl) (by decide) kZ64_0 ?_
 intro ys r outs h
 unfold FZ64 at h
 split at h
 ·exact (vZ64 _ _ _ _).trans h
 ·cases h
noncomputable def EZ3:Env where
 tt := mkTI Tryz.prog
 fn := fun f => match f with
  | 163 => some (msZ64,FSem.wk msZ64 FZ64)
  | _ => none
 bxf := fun _ => none
 mv := []
 keep := fun b => match b with
  | 0 => [(0,false),(1,false),(7,false),(8,false)]
  | _ => []
 keepB := fun b => match b with
  | 0 => []
  | _ => []
 keepX := fun b => match b with
  | 0 => [(4,false)]
  | _ => []
 keepXB := fun b => match b with
  | 0 => []
  | _ => []
theorem goodFZ3:∀ f ms F,EZ3.fn f = some (ms,F) → Sound Tryz.prog f ms F := fun f ms F h => by
 unfold EZ3 at h
 dsimp only at h
 split at h
 ·exact gF sZ64 h
 ·cases h
theorem goodZ3:Good Tryz.prog EZ3 := ⟨rfl,goodFZ3,fun f ms F h => by cases h⟩
noncomputable def OZ3_0:Orc := fun _ _ => none
noncomputable def msZ3:List PM := [.rd,.rd]
noncomputable def lsZ3:List (Nat×Code) := loopsAll 0 (Tryz.f152.body.getD .skip)
noncomputable def cZ3_0:Code := (loopOf 0 (Tryz.f152.body.getD .skip)).getD .skip
theorem lseqZ3:lsZ3 = [(0,cZ3_0)] := by kernel_rfl
theorem mZ3_0:∀ p,p ∈ lsZ3 → p.1 = 0 → p.2 = cZ3_0 := by
 intro p hp
 rw [lseqZ3] at hp
 simp only [List.mem_cons,List.not_mem_nil,or_false] at hp
 subst hp; simp
theorem kZ3_0:OrcOk EZ3 OZ3_0 lsZ3 0 := orcOk_none
noncomputable def hZ3_0 (y0:tL3) (y1:Int×(Int×((List ByteArray)×tL3))) (y2:Int) (y3:Int):List (Pl×LV) := [(.T 0,.t (.val false [.sl .any 155 (.pair .str (.pair .bool (.sl 3 (.int .i64)))) y0])),(.T 1,.t (.val false [.fn 163 [.sptr (.pair (.int .i64) (.pair (.int .i64) (.pair (.sl 9 .str) (.sl 155 (.pair .str (.pair .bool (.sl 3 (.int .i64)))))))) y1 0]])),(.T 7,.t (.val false [.int .i64 y2])),(.T 8,.t (.val false [.int .i64 y3]))]
noncomputable def g_SZ3_0 (y0:tL3) (y1:Int×(Int×((List ByteArray)×tL3))) (y2:Int):(Int) → RT (Int) ((Int) ⊕ (Unit))
 | y3 => .br (true) (.br (decide (y3 < y2)) (.br (decide (0 ≤ y3 ∧ y3 < (y0.length:Int))) (.br (g_AZ64 (at_ yT3 y0 (Int.toNat y3)).1 (at_ yT3 y0 (Int.toNat y3)).2.1 (at_ yT3 y0 (Int.toNat y3)).2.2 y1) (.br (g_VZ64_0 (at_ yT3 y0 (Int.toNat y3)).1 (at_ yT3 y0 (Int.toNat y3)).2.1 (at_ yT3 y0 (Int.toNat y3)).2.2 y1) (.out (.inl y3)) (.br (true) (.go (IntKind.i64.wrap (y3 + 1))) .bad)) .bad) .bad) (.out (.inr (())))) .bad
noncomputable def g_LZ3_0 (y0:tL3) (y1:Int×(Int×((List ByteArray)×tL3))) (y2:Int) (x:Int):Option ((Int) ⊕ (Unit)) := loopO (g_SZ3_0 y0 y1 y2) x
noncomputable def xZ3_0 (y0:tL3) (y1:Int×(Int×((List ByteArray)×tL3))) (y2:Int):((Int) ⊕ (Unit)) → Ex×List (Pl×LV) := fun
 | .inl r => (.ret,[(.T 4,.t (.val false [.int .i64 r]))])
 | .inr (r) => (.exit 0,[(.T 4,.t (.val false [.undef]))])
noncomputable def OZ3_1:Orc := fun b h => match b,h with
 | 0,[(.T 0,.t (.val false [.sl .any 155 (.pair .str (.pair .bool (.sl 3 (.int .i64)))) y0])),(.T 1,.t (.val false [.fn 163 [.sptr (.pair (.int .i64) (.pair (.int .i64) (.pair (.sl 9 .str) (.sl 155 (.pair .str (.pair .bool (.sl 3 (.int .i64)))))))) y1 0]])),(.T 7,.t (.val false [.int .i64 y2])),(.T 8,.t (.val false [.int .i64 y3]))] => some (okO (g_LZ3_0 y0 y1 y2 y3),(.br (isL (valO (g_LZ3_0 y0 y1 y2 y3))) (.leaf .ret [(.T 4,.t (.val false [.int .i64 (getL (valO (g_LZ3_0 y0 y1 y2 y3)))]))]) (.leaf (.exit 0) [(.T 4,.t (.val false [.undef]))])))
 | b,h => OZ3_0 b h
theorem bZ3_0 (y0:tL3) (y1:Int×(Int×((List ByteArray)×tL3))) (y2:Int) (y3:Int):Tr.bt EZ3 OZ3_0 (exec EZ3 0 cZ3_0 (St.of (hZ3_0 y0 y1 y2 y3)) (leafRd EZ3 0)) = (g_SZ3_0 y0 y1 y2 y3).bt (fun (y3:Int) => (hZ3_0 y0 y1 y2 y3)) (xZ3_0 y0 y1 y2) := by kernel_rfl
theorem kZ3_1:OrcOk EZ3 OZ3_1 lsZ3 1 := orc_add kZ3_0 (fun n p hp h ex h' ho => by
 obtain ⟨b,c⟩ := p
 obtain ⟨xt,h1,h2⟩ := ho
 have h1:OZ3_1 b h = some (true,xt) := h1
 unfold OZ3_1 at h1
 split at h1
 ·injection h1 with h1
  injection h1 with e1 e2
  subst e2
  have hc:c = cZ3_0 := mZ3_0 _ hp rfl
  subst hc
  right
  rename_i y0 y1 y2 y3
  have key := LT_step kZ3_0 hp (fun q hq => loopsAll_in _ _ _ _ hp hq) (fun (y3:Int) => (hZ3_0 y0 y1 y2 y3)) (xZ3_0 y0 y1 y2) (g_SZ3_0 y0 y1 y2) (fun x => by first | exact bZ3_0 y0 y1 y2 x) n (x := y3) (okO_some e1)
  have hx:∀ r,XT.sel (.br (isL r) (.leaf .ret [(.T 4,.t (.val false [.int .i64 (getL r)]))]) (.leaf (.exit 0) [(.T 4,.t (.val false [.undef]))])) = xZ3_0 y0 y1 y2 r := fun r => by first | rfl | rcases r with r | r <;> rfl | rcases r with r | r | r <;> rfl | rcases r with r | r | r | r <;> rfl
  have h3 := (hx (valO (g_LZ3_0 y0 y1 y2 y3))).symm.trans h2
  have e3 := congrArg Prod.fst h3
  have e4 := congrArg Prod.snd h3
  simp only at e3 e4
  rw [← e3,← e4]
  exact key
 ·exact .inl ⟨xt,h1,h2⟩)
noncomputable def g_AZ3 (a0:tL3) (c0:Int×(Int×((List ByteArray)×tL3))):Bool := okO (g_LZ3_0 a0 c0 (a0.length:Int) (0:Int))
noncomputable def g_VZ3_0 (a0:tL3) (c0:Int×(Int×((List ByteArray)×tL3))):Int := bif isL (valO (g_LZ3_0 a0 c0 (a0.length:Int) (0:Int))) then getL (valO (g_LZ3_0 a0 c0 (a0.length:Int) (0:Int))) else (-1:Int)
noncomputable def FZ3:FSem := fun ys => match ys with
 | [.val false [.sl .any 155 (.pair .str (.pair .bool (.sl 3 (.int .i64)))) a0],.val false [.fn 163 [.sptr (.pair (.int .i64) (.pair (.int .i64) (.pair (.sl 9 .str) (.sl 155 (.pair .str (.pair .bool (.sl 3 (.int .i64)))))))) c0 0]]] => some ((g_AZ3 a0 c0),.val false [.int .i64 (g_VZ3_0 a0 c0)],[])
 | _ => none
theorem vZ3 (a0:tL3) (c0:Int×(Int×((List ByteArray)×tL3))):collapseH .std EZ3 OZ3_1 (execFn EZ3 Tryz.f152 msZ3 [.val false [.sl .any 155 (.pair .str (.pair .bool (.sl 3 (.int .i64)))) a0],.val false [.fn 163 [.sptr (.pair (.int .i64) (.pair (.int .i64) (.pair (.sl 9 .str) (.sl 155 (.pair .str (.pair .bool (.sl 3 (.int .i64)))))))) c0 0]]]) = some ((g_AZ3 a0 c0),.val false [.int .i64 (g_VZ3_0 a0 c0)],[]) := by kernel_rfl
theorem sZ3:Sound Tryz.prog 152 msZ3 FZ3 := by
 refine fn_gen goodZ3 (by kernel_rfl) .std (fn := Tryz.f152) (c := (Tryz.f152.body.getD .skip)) (o := OZ3_1) (k := 1) (by kernel_rfl) (by kernel_rfl) (by kernel_rfl) (by kernel_rfl) (by decide) kZ3_1 ?_
 intro ys r outs h
 unfold FZ3 at h
 split at h
 ·exact (vZ3 _ _).trans h
 ·cases h
noncomputable def EZ0:Env where
 tt := mkTI Tryz.prog
 fn := fun f => match f with
  | 152 => some (msZ3,FSem.wk msZ3 FZ3)
  | 163 => some (msZ64,FSem.wk msZ64 FZ64)
  | _ => none
 bxf := fun _ => none
 mv := []
 keep := fun _ => []
 keepB := fun _ => []
 keepX := fun _ => []
 keepXB := fun _ => []
theorem goodFZ0:∀ f ms F,EZ0.fn f = some (ms,F) → Sound Tryz.prog f ms F := fun f ms F h => by
 unfold EZ0 at h
 dsimp only at h
 split at h
 ·exact gF sZ3 h
 ·exact gF sZ64 h
 ·cases h
theorem goodZ0:Good Tryz.prog EZ0 := ⟨rfl,goodFZ0,fun f ms F h => by cases h⟩
noncomputable def OZ0_0:Orc := fun _ _ => none
noncomputable def msZ0:List PM := [.rd,.rd]
noncomputable def lsZ0:List (Nat×Code) := loopsAll 0 (Tryz.f125.body.getD .skip)
theorem kZ0_0:OrcOk EZ0 OZ0_0 lsZ0 0 := orcOk_none
noncomputable def g_AZ0 (a0:tL3) (c0:Int×(Int×((List ByteArray)×tL3))):Bool := g_AZ3 a0 c0&&true
noncomputable def g_VZ0_0 (a0:tL3) (c0:Int×(Int×((List ByteArray)×tL3))):Bool := decide (g_VZ3_0 a0 c0 ≥ (0:Int))
noncomputable def FZ0:FSem := fun ys => match ys with
 | [.val false [.sl .any 155 (.pair .str (.pair .bool (.sl 3 (.int .i64)))) a0],.val false [.fn 163 [.sptr (.pair (.int .i64) (.pair (.int .i64) (.pair (.sl 9 .str) (.sl 155 (.pair .str (.pair .bool (.sl 3 (.int .i64)))))))) c0 0]]] => some ((g_AZ0 a0 c0),.val false [.bool (g_VZ0_0 a0 c0)],[])
 | _ => none
theorem vZ0 (a0:tL3) (c0:Int×(Int×((List ByteArray)×tL3))):collapseH .std EZ0 OZ0_0 (execFn EZ0 Tryz.f125 msZ0 [.val false [.sl .any 155 (.pair .str (.pair .bool (.sl 3 (.int .i64)))) a0],.val false [.fn 163 [.sptr (.pair (.int .i64) (.pair (.int .i64) (.pair (.sl 9 .str) (.sl 155 (.pair .str (.pair .bool (.sl 3 (.int .i64)))))))) c0 0]]]) = some ((g_AZ0 a0 c0),.val false [.bool (g_VZ0_0 a0 c0)],[]) := by kernel_rfl
theorem sZ0:Sound Tryz.prog 125 msZ0 FZ0 := by
 refine fn_gen goodZ0 (by kernel_rfl) .std (fn := Tryz.f125) (c := (Tryz.f125.body.getD .skip)) (o := OZ0_0) (k := 0) (by kernel_rfl) (by kernel_rfl) (by kernel_rfl) (by kernel_rfl) (by decide) kZ0_0 ?_
 intro ys r outs h
 unfold FZ0 at h
 split at h
 ·exact (vZ0 _ _).trans h
 ·cases h
noncomputable def EZ65:Env where
 tt := mkTI Tryz.prog
 fn := fun f => match f with
  | 162 => some (msi_keyOk,FSem.wk msi_keyOk Fi_keyOk)
  | _ => none
 bxf := fun _ => none
 mv := []
 keep := fun _ => []
 keepB := fun _ => []
 keepX := fun _ => []
 keepXB := fun _ => []
theorem goodFZ65:∀ f ms F,EZ65.fn f = some (ms,F) → Sound Tryz.prog f ms F := fun f ms F h => by
 unfold EZ65 at h
 dsimp only at h
 split at h
 ·exact gF si_keyOk h
 ·cases h
theorem goodZ65:Good Tryz.prog EZ65 := ⟨rfl,goodFZ65,fun f ms F h => by cases h⟩
noncomputable def OZ65_0:Orc := fun _ _ => none
noncomputable def msZ65:List PM := [.own]
noncomputable def lsZ65:List (Nat×Code) := loopsAll 0 (Tryz.f161.body.getD .skip)
theorem kZ65_0:OrcOk EZ65 OZ65_0 lsZ65 0 := orcOk_none
noncomputable def g_AZ65 (a0:ByteArray):Bool := g_Ai_keyOk a0
noncomputable def FZ65:FSem := fun ys => match ys with
 | [.val false [.str a0]] => some ((g_AZ65 a0),.val false [.bool (!g_Vi_keyOk_0 a0)],[])
 | _ => none
theorem vZ65 (a0:ByteArray):collapseH .std EZ65 OZ65_0 (execFn EZ65 Tryz.f161 msZ65 [.val false [.str a0]]) = some ((g_AZ65 a0),.val false [.bool (!g_Vi_keyOk_0 a0)],[]) := by kernel_rfl
theorem sZ65:Sound Tryz.prog 161 msZ65 FZ65 := by
 refine fn_gen goodZ65 (by kernel_rfl) .std (fn := Tryz.f161) (c := (Tryz.f161.body.getD .skip)) (o := OZ65_0) (k := 0) (by kernel_rfl) (by kernel_rfl) (by kernel_rfl) (by kernel_rfl) (by decide) kZ65_0 ?_
 intro ys r outs h
 unfold FZ65 at h
 split at h
 ·exact (vZ65 _).trans h
 ·cases h
noncomputable def EZ8:Env where
 tt := mkTI Tryz.prog
 fn := fun f => match f with
  | 161 => some (msZ65,FSem.wk msZ65 FZ65)
  | _ => none
 bxf := fun _ => none
 mv := []
 keep := fun b => match b with
  | 0 => [(0,false),(1,false),(7,false),(8,false)]
  | _ => []
 keepB := fun b => match b with
  | 0 => []
  | _ => []
 keepX := fun b => match b with
  | 0 => [(4,false)]
  | _ => []
 keepXB := fun b => match b with
  | 0 => []
  | _ => []
theorem goodFZ8:∀ f ms F,EZ8.fn f = some (ms,F) → Sound Tryz.prog f ms F := fun f ms F h => by
 unfold EZ8 at h
 dsimp only at h
 split at h
 ·exact gF sZ65 h
 ·cases h
theorem goodZ8:Good Tryz.prog EZ8 := ⟨rfl,goodFZ8,fun f ms F h => by cases h⟩
noncomputable def OZ8_0:Orc := fun _ _ => none
noncomputable def msZ8:List PM := [.rd,.rd]
noncomputable def lsZ8:List (Nat×Code) := loopsAll 0 (Tryz.f176.body.getD .skip)
noncomputable def cZ8_0:Code := (loopOf 0 (Tryz.f176.body.getD .skip)).getD .skip
theorem lseqZ8:lsZ8 = [(0,cZ8_0)] := by kernel_rfl
theorem mZ8_0:∀ p,p ∈ lsZ8 → p.1 = 0 → p.2 = cZ8_0 := by
 intro p hp
 rw [lseqZ8] at hp
 simp only [List.mem_cons,List.not_mem_nil,or_false] at hp
 subst hp; simp
theorem kZ8_0:OrcOk EZ8 OZ8_0 lsZ8 0 := orcOk_none
noncomputable def hZ8_0 (y0:List ByteArray) (y1:Int) (y2:Int):List (Pl×LV) := [(.T 0,.t (.val false [.sl .any 9 .str y0])),(.T 1,.t (.val false [.fn 161 []])),(.T 7,.t (.val false [.int .i64 y1])),(.T 8,.t (.val false [.int .i64 y2]))]
noncomputable def g_SZ8_0 (y0:List ByteArray) (y1:Int):(Int) → RT (Int) ((Int) ⊕ (Unit))
 | y2 => .br (true) (.br (decide (y2 < y1)) (.br (decide (0 ≤ y2 ∧ y2 < (y0.length:Int))) (.br (g_AZ65 (at_ Ty.str y0 (Int.toNat y2))) (.br (!g_Vi_keyOk_0 (at_ Ty.str y0 (Int.toNat y2))) (.out (.inl y2)) (.br (true) (.go (IntKind.i64.wrap (y2 + 1))) .bad)) .bad) .bad) (.out (.inr (())))) .bad
noncomputable def g_LZ8_0 (y0:List ByteArray) (y1:Int) (x:Int):Option ((Int) ⊕ (Unit)) := loopO (g_SZ8_0 y0 y1) x
noncomputable def xZ8_0 (y0:List ByteArray) (y1:Int):((Int) ⊕ (Unit)) → Ex×List (Pl×LV) := fun
 | .inl r => (.ret,[(.T 4,.t (.val false [.int .i64 r]))])
 | .inr (r) => (.exit 0,[(.T 4,.t (.val false [.undef]))])
noncomputable def OZ8_1:Orc := fun b h => match b,h with
 | 0,[(.T 0,.t (.val false [.sl .any 9 .str y0])),(.T 1,.t (.val false [.fn 161 []])),(.T 7,.t (.val false [.int .i64 y1])),(.T 8,.t (.val false [.int .i64 y2]))] => some (okO (g_LZ8_0 y0 y1 y2),(.br (isL (valO (g_LZ8_0 y0 y1 y2))) (.leaf .ret [(.T 4,.t (.val false [.int .i64 (getL (valO (g_LZ8_0 y0 y1 y2)))]))]) (.leaf (.exit 0) [(.T 4,.t (.val false [.undef]))])))
 | b,h => OZ8_0 b h
theorem bZ8_0 (y0:List ByteArray) (y1:Int) (y2:Int):Tr.bt EZ8 OZ8_0 (exec EZ8 0 cZ8_0 (St.of (hZ8_0 y0 y1 y2)) (leafRd EZ8 0)) = (g_SZ8_0 y0 y1 y2).bt (fun (y2:Int) => (hZ8_0 y0 y1 y2)) (xZ8_0 y0 y1) := by kernel_rfl
theorem kZ8_1:OrcOk EZ8 OZ8_1 lsZ8 1 := orc_add kZ8_0 (fun n p hp h ex h' ho => by
 obtain ⟨b,c⟩ := p
 obtain ⟨xt,h1,h2⟩ := ho
 have h1:OZ8_1 b h = some (true,xt) := h1
 unfold OZ8_1 at h1
 split at h1
 ·injection h1 with h1
  injection h1 with e1 e2
  subst e2
  have hc:c = cZ8_0 := mZ8_0 _ hp rfl
  subst hc
  right
  rename_i y0 y1 y2
  have key := LT_step kZ8_0 hp (fun q hq => loopsAll_in _ _ _ _ hp hq) (fun (y2:Int) => (hZ8_0 y0 y1 y2)) (xZ8_0 y0 y1) (g_SZ8_0 y0 y1) (fun x => by first | exact bZ8_0 y0 y1 x) n (x := y2) (okO_some e1)
  have hx:∀ r,XT.sel (.br (isL r) (.leaf .ret [(.T 4,.t (.val false [.int .i64 (getL r)]))]) (.leaf (.exit 0) [(.T 4,.t (.val false [.undef]))])) = xZ8_0 y0 y1 r := fun r => by first | rfl | rcases r with r | r <;> rfl | rcases r with r | r | r <;> rfl | rcases r with r | r | r | r <;> rfl
  have h3 := (hx (valO (g_LZ8_0 y0 y1 y2))).symm.trans h2
  have e3 := congrArg Prod.fst h3
  have e4 := congrArg Prod.snd h3
  simp only at e3 e4
  rw [← e3,← e4]
  exact key
 ·exact .inl ⟨xt,h1,h2⟩)
noncomputable def g_AZ8 (a0:List ByteArray):Bool := okO (g_LZ8_0 a0 (a0.length:Int) (0:Int))
noncomputable def g_VZ8_0 (a0:List ByteArray):Int := bif isL (valO (g_LZ8_0 a0 (a0.length:Int) (0:Int))) then getL (valO (g_LZ8_0 a0 (a0.length:Int) (0:Int))) else (-1:Int)
noncomputable def FZ8:FSem := fun ys => match ys with
 | [.val false [.sl .any 9 .str a0],.val false [.fn 161 []]] => some ((g_AZ8 a0),.val false [.int .i64 (g_VZ8_0 a0)],[])
 | _ => none
theorem vZ8 (a0:List ByteArray):collapseH .std EZ8 OZ8_1 (execFn EZ8 Tryz.f176 msZ8 [.val false [.sl .any 9 .str a0],.val false [.fn 161 []]]) = some ((g_AZ8 a0),.val false [.int .i64 (g_VZ8_0 a0)],[]) := by kernel_rfl
theorem sZ8:Sound Tryz.prog 176 msZ8 FZ8 := by
 refine fn_gen goodZ8 (by kernel_rfl) .std (fn := Tryz.f176) (c := (Tryz.f176.body.getD .skip)) (o := OZ8_1) (k := 1) (by kernel_rfl) (by kernel_rfl) (by kernel_rfl) (by kernel_rfl) (by decide) kZ8_1 ?_
 intro ys r outs h
 unfold FZ8 at h
 split at h
 ·exact (vZ8 _).trans h
 ·cases h
noncomputable def EZ7:Env where
 tt := mkTI Tryz.prog
 fn := fun f => match f with
  | 161 => some (msZ65,FSem.wk msZ65 FZ65)
  | 176 => some (msZ8,FSem.wk msZ8 FZ8)
  | _ => none
 bxf := fun _ => none
 mv := []
 keep := fun _ => []
 keepB := fun _ => []
 keepX := fun _ => []
 keepXB := fun _ => []
theorem goodFZ7:∀ f ms F,EZ7.fn f = some (ms,F) → Sound Tryz.prog f ms F := fun f ms F h => by
 unfold EZ7 at h
 dsimp only at h
 split at h
 ·exact gF sZ65 h
 ·exact gF sZ8 h
 ·cases h
theorem goodZ7:Good Tryz.prog EZ7 := ⟨rfl,goodFZ7,fun f ms F h => by cases h⟩
noncomputable def OZ7_0:Orc := fun _ _ => none
noncomputable def msZ7:List PM := [.rd,.rd]
noncomputable def lsZ7:List (Nat×Code) := loopsAll 0 (Tryz.f160.body.getD .skip)
theorem kZ7_0:OrcOk EZ7 OZ7_0 lsZ7 0 := orcOk_none
noncomputable def g_AZ7 (a0:List ByteArray):Bool := g_AZ8 a0&&true
noncomputable def g_VZ7_0 (a0:List ByteArray):Bool := decide (g_VZ8_0 a0 ≥ 0)
noncomputable def FZ7:FSem := fun ys => match ys with
 | [.val false [.sl .any 9 .str a0],.val false [.fn 161 []]] => some ((g_AZ7 a0),.val false [.bool (g_VZ7_0 a0)],[])
 | _ => none
theorem vZ7 (a0:List ByteArray):collapseH .std EZ7 OZ7_0 (execFn EZ7 Tryz.f160 msZ7 [.val false [.sl .any 9 .str a0],.val false [.fn 161 []]]) = some ((g_AZ7 a0),.val false [.bool (g_VZ7_0 a0)],[]) := by kernel_rfl
theorem sZ7:Sound Tryz.prog 160 msZ7 FZ7 := by
 refine fn_gen goodZ7 (by kernel_rfl) .std (fn := Tryz.f160) (c := (Tryz.f160.body.getD .skip)) (o := OZ7_0) (k := 0) (by kernel_rfl) (by kernel_rfl) (by kernel_rfl) (by kernel_rfl) (by decide) kZ7_0 ?_
 intro ys r outs h
 unfold FZ7 at h
 split at h
 ·exact (vZ7 _).trans h
 ·cases h
noncomputable def Ei_NoteOk:Env where
 tt := mkTI Tryz.prog
 fn := fun f => match f with
  | 59 => some (msi_isTx,FSem.wk msi_isTx Fi_isTx)
  | 75 => some (msi_in,FSem.wk msi_in Fi_in)
  | 125 => some (msZ0,FSem.wk msZ0 FZ0)
  | 160 => some (msZ7,FSem.wk msZ7 FZ7)
  | _ => none
 bxf := fun _ => none
 mv := []
 keep := fun _ => []
 keepB := fun _ => []
 keepX := fun _ => []
 keepXB := fun _ => []
theorem goodFi_NoteOk:∀ f ms F,Ei_NoteOk.fn f = some (ms,F) → Sound Tryz.prog f ms F := fun f ms F h => by
 unfold Ei_NoteOk at h
 dsimp only at h
 split at h
 ·exact gF si_isTx h
 ·exact gF si_in h
 ·exact gF sZ0 h
 ·exact gF sZ7 h
 ·cases h
theorem goodi_NoteOk:Good Tryz.prog Ei_NoteOk := ⟨rfl,goodFi_NoteOk,fun f ms F h => by cases h⟩
noncomputable def Oi_NoteOk_0:Orc := fun _ _ => none
noncomputable def msi_NoteOk:List PM := [.rd]
noncomputable def lsi_NoteOk:List (Nat×Code) := loopsAll 0 (Tryz.f138.body.getD .skip)
theorem ki_NoteOk_0:OrcOk Ei_NoteOk Oi_NoteOk_0 lsi_NoteOk 0 := orcOk_none
noncomputable def g_Ai_NoteOk (a0:Int) (a1:Int) (a2:List ByteArray) (a3:tL3):Bool := g_Ai_isTx a1&&(!g_Vi_isTx_0 a1 || g_Ai_in a0 (1:Int) (4:Int)&&(!g_Vi_in_0 a0 (1:Int) (4:Int) || bif a0 != 1 then !(a2.length:Int) == 0 || true else decide ((a2.length:Int) > 12) || (decide ((a3.length:Int) > 12) || g_AZ7 a2&&(g_VZ7_0 a2 || g_AZ0 a3 (a0,a1,a2,a3)))))
noncomputable def g_Vi_NoteOk_0 (a0:Int) (a1:Int) (a2:List ByteArray) (a3:tL3):Bool := bif !g_Vi_isTx_0 a1 then false else bif !g_Vi_in_0 a0 (1:Int) (4:Int) then false else bif a0 != 1 then bif (a2.length:Int) == 0 then (a3.length:Int) == 0 else false else bif decide ((a2.length:Int) > 12) then false else bif decide ((a3.length:Int) > 12) then false else bif g_VZ7_0 a2 then false else !g_VZ0_0 a3 (a0,a1,a2,a3)
noncomputable def Fi_NoteOk:FSem := fun ys => match ys with
 | [.val true [.int .i64 a0,.int .i64 a1,.sl .any 9 .str a2,.sl .any 155 (.pair .str (.pair .bool (.sl 3 (.int .i64)))) a3]] => some ((g_Ai_NoteOk a0 a1 a2 a3),.val false [.bool (g_Vi_NoteOk_0 a0 a1 a2 a3)],[])
 | _ => none
theorem vi_NoteOk (a0:Int) (a1:Int) (a2:List ByteArray) (a3:tL3):collapseH .std Ei_NoteOk Oi_NoteOk_0 (execFn Ei_NoteOk Tryz.f138 msi_NoteOk [.val true [.int .i64 a0,.int .i64 a1,.sl .any 9 .str a2,.sl .any 155 (.pair .str (.pair .bool (.sl 3 (.int .i64)))) a3]]) = some ((g_Ai_NoteOk a0 a1 a2 a3),.val false [.bool (g_Vi_NoteOk_0 a0 a1 a2 a3)],[]) := by kernel_rfl
theorem si_NoteOk:Sound Tryz.prog 138 msi_NoteOk Fi_NoteOk := by
 refine fn_gen goodi_NoteOk (by kernel_rfl) .std (fn := Tryz.f138) (c := (Tryz.f138.body.getD .skip)) (o := Oi_NoteOk_0) (k := 0) (by kernel_rfl) (by kernel_rfl) (by kernel_rfl) (by kernel_rfl) (by decide) ki_NoteOk_0 ?_
 intro ys r outs h
 unfold Fi_NoteOk at h
 split at h
 ·exact (vi_NoteOk _ _ _ _).trans h
 ·cases h
noncomputable def EZ66:Env where
 tt := mkTI Tryz.prog
 fn := fun f => match f with
  | 138 => some (msi_NoteOk,FSem.wk msi_NoteOk Fi_NoteOk)
  | _ => none
 bxf := fun _ => none
 mv := []
 keep := fun _ => []
 keepB := fun _ => []
 keepX := fun _ => []
 keepXB := fun _ => []
theorem goodFZ66:∀ f ms F,EZ66.fn f = some (ms,F) → Sound Tryz.prog f ms F := fun f ms F h => by
 unfold EZ66 at h
 dsimp only at h
 split at h
 ·exact gF si_NoteOk h
 ·cases h
theorem goodZ66:Good Tryz.prog EZ66 := ⟨rfl,goodFZ66,fun f ms F h => by cases h⟩
noncomputable def OZ66_0:Orc := fun _ _ => none
noncomputable def msZ66:List PM := [.rd]
noncomputable def lsZ66:List (Nat×Code) := loopsAll 0 (Tryz.f137.body.getD .skip)
theorem kZ66_0:OrcOk EZ66 OZ66_0 lsZ66 0 := orcOk_none
noncomputable def g_AZ66 (a0:Int) (a1:Int) (a2:List ByteArray) (a3:tL3):Bool := g_Ai_NoteOk a0 a1 a2 a3
noncomputable def FZ66:FSem := fun ys => match ys with
 | [.val true [.int .i64 a0,.int .i64 a1,.sl .any 9 .str a2,.sl .any 155 (.pair .str (.pair .bool (.sl 3 (.int .i64)))) a3]] => some ((g_AZ66 a0 a1 a2 a3),.val false [.bool (!g_Vi_NoteOk_0 a0 a1 a2 a3)],[])
 | _ => none
theorem vZ66 (a0:Int) (a1:Int) (a2:List ByteArray) (a3:tL3):collapseH .std EZ66 OZ66_0 (execFn EZ66 Tryz.f137 msZ66 [.val true [.int .i64 a0,.int .i64 a1,.sl .any 9 .str a2,.sl .any 155 (.pair .str (.pair .bool (.sl 3 (.int .i64)))) a3]]) = some ((g_AZ66 a0 a1 a2 a3),.val false [.bool (!g_Vi_NoteOk_0 a0 a1 a2 a3)],[]) := by kernel_rfl
theorem sZ66:Sound Tryz.prog 137 msZ66 FZ66 := by
 refine fn_gen goodZ66 (by kernel_rfl) .std (fn := Tryz.f137) (c := (Tryz.f137.body.getD .skip)) (o := OZ66_0) (k := 0) (by kernel_rfl) (by kernel_rfl) (by kernel_rfl) (by kernel_rfl) (by decide) kZ66_0 ?_
 intro ys r outs h
 unfold FZ66 at h
 split at h
 ·exact (vZ66 _ _ _ _).trans h
 ·cases h
noncomputable def EZ5:Env where
 tt := mkTI Tryz.prog
 fn := fun f => match f with
  | 137 => some (msZ66,FSem.wk msZ66 FZ66)
  | _ => none
 bxf := fun _ => none
 mv := []
 keep := fun b => match b with
  | 0 => [(0,false),(1,false),(7,false),(8,false)]
  | _ => []
 keepB := fun b => match b with
  | 0 => []
  | _ => []
 keepX := fun b => match b with
  | 0 => [(4,false)]
  | _ => []
 keepXB := fun b => match b with
  | 0 => []
  | _ => []
theorem goodFZ5:∀ f ms F,EZ5.fn f = some (ms,F) → Sound Tryz.prog f ms F := fun f ms F h => by
 unfold EZ5 at h
 dsimp only at h
 split at h
 ·exact gF sZ66 h
 ·cases h
theorem goodZ5:Good Tryz.prog EZ5 := ⟨rfl,goodFZ5,fun f ms F h => by cases h⟩
noncomputable def OZ5_0:Orc := fun _ _ => none
noncomputable def msZ5:List PM := [.rd,.rd]
noncomputable def lsZ5:List (Nat×Code) := loopsAll 0 (Tryz.f110.body.getD .skip)
noncomputable def cZ5_0:Code := (loopOf 0 (Tryz.f110.body.getD .skip)).getD .skip
theorem lseqZ5:lsZ5 = [(0,cZ5_0)] := by kernel_rfl
theorem mZ5_0:∀ p,p ∈ lsZ5 → p.1 = 0 → p.2 = cZ5_0 := by
 intro p hp
 rw [lseqZ5] at hp
 simp only [List.mem_cons,List.not_mem_nil,or_false] at hp
 subst hp; simp
theorem kZ5_0:OrcOk EZ5 OZ5_0 lsZ5 0 := orcOk_none
noncomputable def hZ5_0 (y0:tL1) (y1:Int) (y2:Int):List (Pl×LV) := [(.T 0,.t (.val false [.sl .any 92 (.pair (.int .i64) (.pair (.int .i64) (.pair (.sl 9 .str) (.sl 155 (.pair .str (.pair .bool (.sl 3 (.int .i64)))))))) y0])),(.T 1,.t (.val false [.fn 137 []])),(.T 7,.t (.val false [.int .i64 y1])),(.T 8,.t (.val false [.int .i64 y2]))]
noncomputable def g_SZ5_0 (y0:tL1) (y1:Int):(Int) → RT (Int) ((Int) ⊕ (Unit))
 | y2 => .br (true) (.br (decide (y2 < y1)) (.br (decide (0 ≤ y2 ∧ y2 < (y0.length:Int))) (.br (g_AZ66 (at_ yT1 y0 (Int.toNat y2)).1 (at_ yT1 y0 (Int.toNat y2)).2.1 (at_ yT1 y0 (Int.toNat y2)).2.2.1 (at_ yT1 y0 (Int.toNat y2)).2.2.2) (.br (!g_Vi_NoteOk_0 (at_ yT1 y0 (Int.toNat y2)).1 (at_ yT1 y0 (Int.toNat y2)).2.1 (at_ yT1 y0 (Int.toNat y2)).2.2.1 (at_ yT1 y0 (Int.toNat y2)).2.2.2) (.out (.inl y2)) (.br (true) (.go (IntKind.i64.wrap (y2 + 1))) .bad)) .bad) .bad) (.out (.inr (())))) .bad
noncomputable def g_LZ5_0 (y0:tL1) (y1:Int) (x:Int):Option ((Int) ⊕ (Unit)) := loopO (g_SZ5_0 y0 y1) x
noncomputable def xZ5_0 (y0:tL1) (y1:Int):((Int) ⊕ (Unit)) → Ex×List (Pl×LV) := fun
 | .inl r => (.ret,[(.T 4,.t (.val false [.int .i64 r]))])
 | .inr (r) => (.exit 0,[(.T 4,.t (.val false [.undef]))])
noncomputable def OZ5_1:Orc := fun b h => match b,h with
 | 0,[(.T 0,.t (.val false [.sl .any 92 (.pair (.int .i64) (.pair (.int .i64) (.pair (.sl 9 .str) (.sl 155 (.pair .str (.pair .bool (.sl 3 (.int .i64)))))))) y0])),(.T 1,.t (.val false [.fn 137 []])),(.T 7,.t (.val false [.int .i64 y1])),(.T 8,.t (.val false [.int .i64 y2]))] => some (okO (g_LZ5_0 y0 y1 y2),(.br (isL (valO (g_LZ5_0 y0 y1 y2))) (.leaf .ret [(.T 4,.t (.val false [.int .i64 (getL (valO (g_LZ5_0 y0 y1 y2)))]))]) (.leaf (.exit 0) [(.T 4,.t (.val false [.undef]))])))
 | b,h => OZ5_0 b h
theorem bZ5_0 (y0:tL1) (y1:Int) (y2:Int):Tr.bt EZ5 OZ5_0 (exec EZ5 0 cZ5_0 (St.of (hZ5_0 y0 y1 y2)) (leafRd EZ5 0)) = (g_SZ5_0 y0 y1 y2).bt (fun (y2:Int) => (hZ5_0 y0 y1 y2)) (xZ5_0 y0 y1) := by kernel_rfl
theorem kZ5_1:OrcOk EZ5 OZ5_1 lsZ5 1 := orc_add kZ5_0 (fun n p hp h ex h' ho => by
 obtain ⟨b,c⟩ := p
 obtain ⟨xt,h1,h2⟩ := ho
 have h1:OZ5_1 b h = some (true,xt) := h1
 unfold OZ5_1 at h1
 split at h1
 ·injection h1 with h1
  injection h1 with e1 e2
  subst e2
  have hc:c = cZ5_0 := mZ5_0 _ hp rfl
  subst hc
  right
  rename_i y0 y1 y2
  have key := LT_step kZ5_0 hp (fun q hq => loopsAll_in _ _ _ _ hp hq) (fun (y2:Int) => (hZ5_0 y0 y1 y2)) (xZ5_0 y0 y1) (g_SZ5_0 y0 y1) (fun x => by first | exact bZ5_0 y0 y1 x) n (x := y2) (okO_some e1)
  have hx:∀ r,XT.sel (.br (isL r) (.leaf .ret [(.T 4,.t (.val false [.int .i64 (getL r)]))]) (.leaf (.exit 0) [(.T 4,.t (.val false [.undef]))])) = xZ5_0 y0 y1 r := fun r => by first | rfl | rcases r with r | r <;> rfl | rcases r with r | r | r <;> rfl | rcases r with r | r | r | r <;> rfl
  have h3 := (hx (valO (g_LZ5_0 y0 y1 y2))).symm.trans h2
  have e3 := congrArg Prod.fst h3
  have e4 := congrArg Prod.snd h3
  simp only at e3 e4
  rw [← e3,← e4]
  exact key
 ·exact .inl ⟨xt,h1,h2⟩)
noncomputable def g_AZ5 (a0:tL1):Bool := okO (g_LZ5_0 a0 (a0.length:Int) (0:Int))
noncomputable def g_VZ5_0 (a0:tL1):Int := bif isL (valO (g_LZ5_0 a0 (a0.length:Int) (0:Int))) then getL (valO (g_LZ5_0 a0 (a0.length:Int) (0:Int))) else (-1:Int)
noncomputable def FZ5:FSem := fun ys => match ys with
 | [.val false [.sl .any 92 (.pair (.int .i64) (.pair (.int .i64) (.pair (.sl 9 .str) (.sl 155 (.pair .str (.pair .bool (.sl 3 (.int .i64)))))))) a0],.val false [.fn 137 []]] => some ((g_AZ5 a0),.val false [.int .i64 (g_VZ5_0 a0)],[])
 | _ => none
theorem vZ5 (a0:tL1):collapseH .std EZ5 OZ5_1 (execFn EZ5 Tryz.f110 msZ5 [.val false [.sl .any 92 (.pair (.int .i64) (.pair (.int .i64) (.pair (.sl 9 .str) (.sl 155 (.pair .str (.pair .bool (.sl 3 (.int .i64)))))))) a0],.val false [.fn 137 []]]) = some ((g_AZ5 a0),.val false [.int .i64 (g_VZ5_0 a0)],[]) := by kernel_rfl
theorem sZ5:Sound Tryz.prog 110 msZ5 FZ5 := by
 refine fn_gen goodZ5 (by kernel_rfl) .std (fn := Tryz.f110) (c := (Tryz.f110.body.getD .skip)) (o := OZ5_1) (k := 1) (by kernel_rfl) (by kernel_rfl) (by kernel_rfl) (by kernel_rfl) (by decide) kZ5_1 ?_
 intro ys r outs h
 unfold FZ5 at h
 split at h
 ·exact (vZ5 _).trans h
 ·cases h
noncomputable def EZ1:Env where
 tt := mkTI Tryz.prog
 fn := fun f => match f with
  | 110 => some (msZ5,FSem.wk msZ5 FZ5)
  | 137 => some (msZ66,FSem.wk msZ66 FZ66)
  | _ => none
 bxf := fun _ => none
 mv := []
 keep := fun _ => []
 keepB := fun _ => []
 keepX := fun _ => []
 keepXB := fun _ => []
theorem goodFZ1:∀ f ms F,EZ1.fn f = some (ms,F) → Sound Tryz.prog f ms F := fun f ms F h => by
 unfold EZ1 at h
 dsimp only at h
 split at h
 ·exact gF sZ5 h
 ·exact gF sZ66 h
 ·cases h
theorem goodZ1:Good Tryz.prog EZ1 := ⟨rfl,goodFZ1,fun f ms F h => by cases h⟩
noncomputable def OZ1_0:Orc := fun _ _ => none
noncomputable def msZ1:List PM := [.rd,.rd]
noncomputable def lsZ1:List (Nat×Code) := loopsAll 0 (Tryz.f50.body.getD .skip)
theorem kZ1_0:OrcOk EZ1 OZ1_0 lsZ1 0 := orcOk_none
noncomputable def g_AZ1 (a0:tL1):Bool := g_AZ5 a0&&true
noncomputable def g_VZ1_0 (a0:tL1):Bool := decide (g_VZ5_0 a0 ≥ 0)
noncomputable def FZ1:FSem := fun ys => match ys with
 | [.val false [.sl .any 92 (.pair (.int .i64) (.pair (.int .i64) (.pair (.sl 9 .str) (.sl 155 (.pair .str (.pair .bool (.sl 3 (.int .i64)))))))) a0],.val false [.fn 137 []]] => some ((g_AZ1 a0),.val false [.bool (g_VZ1_0 a0)],[])
 | _ => none
theorem vZ1 (a0:tL1):collapseH .std EZ1 OZ1_0 (execFn EZ1 Tryz.f50 msZ1 [.val false [.sl .any 92 (.pair (.int .i64) (.pair (.int .i64) (.pair (.sl 9 .str) (.sl 155 (.pair .str (.pair .bool (.sl 3 (.int .i64)))))))) a0],.val false [.fn 137 []]]) = some ((g_AZ1 a0),.val false [.bool (g_VZ1_0 a0)],[]) := by kernel_rfl
theorem sZ1:Sound Tryz.prog 50 msZ1 FZ1 := by
 refine fn_gen goodZ1 (by kernel_rfl) .std (fn := Tryz.f50) (c := (Tryz.f50.body.getD .skip)) (o := OZ1_0) (k := 0) (by kernel_rfl) (by kernel_rfl) (by kernel_rfl) (by kernel_rfl) (by decide) kZ1_0 ?_
 intro ys r outs h
 unfold FZ1 at h
 split at h
 ·exact (vZ1 _).trans h
 ·cases h
noncomputable def Ei_DiskOk:Env where
 tt := mkTI Tryz.prog
 fn := fun f => match f with
  | 50 => some (msZ1,FSem.wk msZ1 FZ1)
  | 75 => some (msi_in,FSem.wk msi_in Fi_in)
  | _ => none
 bxf := fun _ => none
 mv := []
 keep := fun _ => []
 keepB := fun _ => []
 keepX := fun _ => []
 keepXB := fun _ => []
theorem goodFi_DiskOk:∀ f ms F,Ei_DiskOk.fn f = some (ms,F) → Sound Tryz.prog f ms F := fun f ms F h => by
 unfold Ei_DiskOk at h
 dsimp only at h
 split at h
 ·exact gF sZ1 h
 ·exact gF si_in h
 ·cases h
theorem goodi_DiskOk:Good Tryz.prog Ei_DiskOk := ⟨rfl,goodFi_DiskOk,fun f ms F h => by cases h⟩
noncomputable def Oi_DiskOk_0:Orc := fun _ _ => none
noncomputable def msi_DiskOk:List PM := [.rd]
noncomputable def lsi_DiskOk:List (Nat×Code) := loopsAll 0 (Tryz.f96.body.getD .skip)
theorem ki_DiskOk_0:OrcOk Ei_DiskOk Oi_DiskOk_0 lsi_DiskOk 0 := orcOk_none
noncomputable def g_Ai_DiskOk (a0:tL1) (a1:Int):Bool := !decide ((a0.length:Int) ≤ 120) || g_AZ1 a0&&(!!g_VZ1_0 a0 || g_Ai_in a1 (0:Int) (a0.length:Int))
noncomputable def g_Vi_DiskOk_0 (a0:tL1) (a1:Int):Bool := bif decide ((a0.length:Int) ≤ 120) then bif !g_VZ1_0 a0 then g_Vi_in_0 a1 (0:Int) (a0.length:Int) else false else false
noncomputable def Fi_DiskOk:FSem := fun ys => match ys with
 | [.val true [.sl .any 92 (.pair (.int .i64) (.pair (.int .i64) (.pair (.sl 9 .str) (.sl 155 (.pair .str (.pair .bool (.sl 3 (.int .i64)))))))) a0,.int .i64 a1]] => some ((g_Ai_DiskOk a0 a1),.val false [.bool (g_Vi_DiskOk_0 a0 a1)],[])
 | _ => none
theorem vi_DiskOk (a0:tL1) (a1:Int):collapseH .std Ei_DiskOk Oi_DiskOk_0 (execFn Ei_DiskOk Tryz.f96 msi_DiskOk [.val true [.sl .any 92 (.pair (.int .i64) (.pair (.int .i64) (.pair (.sl 9 .str) (.sl 155 (.pair .str (.pair .bool (.sl 3 (.int .i64)))))))) a0,.int .i64 a1]]) = some ((g_Ai_DiskOk a0 a1),.val false [.bool (g_Vi_DiskOk_0 a0 a1)],[]) := by kernel_rfl
theorem si_DiskOk:Sound Tryz.prog 96 msi_DiskOk Fi_DiskOk := by
 refine fn_gen goodi_DiskOk (by kernel_rfl) .std (fn := Tryz.f96) (c := (Tryz.f96.body.getD .skip)) (o := Oi_DiskOk_0) (k := 0) (by kernel_rfl) (by kernel_rfl) (by kernel_rfl) (by kernel_rfl) (by decide) ki_DiskOk_0 ?_
 intro ys r outs h
 unfold Fi_DiskOk at h
 split at h
 ·exact (vi_DiskOk _ _).trans h
 ·cases h
end Go.Proofs.YtedhpmhlmdcpbaaGreatDoor.E
section
namespace Go.Proofs.YtedhpmhlmdcpbaaGreatDoor.E
open Go Go.RowKit Go.Shelf
attribute [local go_sem] Oper.semAt_some
abbrev SV:Type := Option Addr×Nat×Nat
abbrev E4:Type := Int×Int×SV×SV
def cE (e:E4):List Value := [.int .i64 e.1,.int .i64 e.2.1,.slice e.2.2.1.1 e.2.2.1.2.1 e.2.2.1.2.2,.slice e.2.2.2.1 e.2.2.2.2.1 e.2.2.2.2.2]
abbrev e0:E4 := (0,0,(none,0,0),(none,0,0))
set_option maxRecDepth 100000 in
set_option maxHeartbeats 2000000 in
theorem bk1_in (F:Fence) (n:Nat) (h7:F.fn 147) (hro:F.round = none) (hn:1 ≤ n) (l Bs n₀ b off cap:Nat) (cs:List E4) (hreach:cs.length ≤ 1048576) (hb:b < n₀) (hBn:Bs < n₀) (J Jx:List (Nat×E4) → World → Prop)
  (hY:∀ pre x W,J pre W → pre.length < cs.length → YieldAt F (n - 1) Tryz.prog l #[.int .i64 (x.1:Int),Value.agg (cE x.2).toArray] W fun e W' =>
   (e = .returned (.bool true) ∧ J (pre ++ [x]) W' ∧ Below n₀ W W') ∨ (e = .returned (.bool false) ∧ Jx (pre ++ [x]) W'))
  (W:World) (hBs:W.cell? ⟨Bs,0,none⟩ = some (.slice (some ⟨b,off,none⟩) cs.length cap)) (hc:∀ j c,cs[j]? = some c → Has W b (off + j * 4) (cE c)) (h0:J [] W) :
  CallsIn F n Tryz.prog 147 #[.func (.yield l) #[] #[],.pointer (some ⟨Bs,0,none⟩)] W fun e W' => (∃ v,e = .returned v) ∧
   ((∃ ys,ys = (List.range cs.length).map (fun j => (cs.length - 1 - j,cs.getD (cs.length - 1 - j) e0)) ∧ J ys W') ∨ (∃ pre,(∃ k,k ≤ cs.length ∧ pre = (List.range k).map (fun j => (cs.length - 1 - j,cs.getD (cs.length - 1 - j) e0))) ∧ Jx pre W')) := by
 refine callsIn_of_wp Tryz.func147 rfl h7 ?_ hro
 simp only [Tryz.ntmps147,List.size_toArray,List.length_cons,List.length_nil,Nat.reduceAdd,Nat.reduceSub,Array.replicate_succ,Array.replicate_zero,List.push_toArray,List.append_toArray,List.nil_append,List.cons_append]
 gi_wp2
 gi_loopw [3] (fun i wr => ∃ k:Nat,k ≤ cs.length ∧ i = .int .i64 ((cs.length:Int) - 1 - k) ∧ J ((List.range k).map (fun j => (cs.length - 1 - j,cs.getD (cs.length - 1 - j) e0))) wr ∧ Below n₀ W wr)
  (fun i _ => (intOf i + 1).toNat)
 case atStart => exact ⟨0,Nat.zero_le _,by simp,h0,Below.refl _ _⟩
 case round =>
  obtain ⟨k,hk,rfl,hJs,hnx⟩ := hrel
  have hBs' := (hnx.cell (p := ⟨Bs,0,none⟩) hBn).trans hBs
  by_cases hlt:k < cs.length
  ·obtain ⟨c,hcc⟩:∃ c,cs[cs.length - 1 - k]? = some c := ⟨_,List.getElem?_eq_getElem (by omega)⟩
   have hcH := hc _ c hcc
   obtain ⟨z0,z1,v2,v3⟩ := c
   have hidx:((cs.length:Int) - 1 - k) = ((cs.length - 1 - k:Nat):Int) := by omega
   rw [hidx]
   obtain ⟨fn,tmps,assign,body,hy,hR⟩ := hY _ (cs.length - 1 - k,(z0,z1,v2,v3)) wr hJs (by simp; exact hlt)
   dsimp only [cE] at hy
   have hge:((cs.length - 1 - k:Nat):Int) ≥ 0 := by omega
   have c0 := (hnx.cell (p := ⟨b,off + (cs.length - 1 - k) * 4,none⟩) hb).trans (hcH 0 (.int .i64 z0) rfl)
   have c1 := (hnx.cell (p := ⟨b,off + (cs.length - 1 - k) * 4 + 1,none⟩) hb).trans (hcH 1 (.int .i64 z1) rfl)
   have c2 := (hnx.cell (p := ⟨b,off + (cs.length - 1 - k) * 4 + 2,none⟩) hb).trans (hcH 2 (.slice v2.1 v2.2.1 v2.2.2) rfl)
   have c3 := (hnx.cell (p := ⟨b,off + (cs.length - 1 - k) * 4 + 3,none⟩) hb).trans (hcH 3 (.slice v3.1 v3.2.1 v3.2.2) rfl)
   have hget:cs.getD (cs.length - 1 - k) e0 = (z0,z1,v2,v3) := by simp [List.getD,hcc]
   have hup:(List.range k).map (fun j => (cs.length - 1 - j,cs.getD (cs.length - 1 - j) e0)) ++ [(cs.length - 1 - k,(z0,z1,v2,v3))] = (List.range (k + 1)).map (fun j => (cs.length - 1 - j,cs.getD (cs.length - 1 - j) e0)) := by
    rw [List.range_succ,List.map_append,List.map_singleton,hget]
   rw [hup] at hR
   gi_wp2
   refine hR.mono ?_
   rintro e W3 (⟨rfl,hJ3,hk3⟩ | ⟨rfl,hJx3⟩)
   ·gi_wp2
    go_roundw
    case rel => exact ⟨k + 1,by omega,by (simp; omega),hJ3,hnx.trans hk3⟩
    case measure => first | (simp [intOf]; done) | (simp [intOf]; omega)
   ·gi_wp2
    refine bodyPost_ret (results_none rfl _ _ _) rfl ?_
    exact ⟨⟨_,rfl⟩,.inr ⟨_,⟨k + 1,by omega,rfl⟩,hJx3⟩⟩
  ·obtain rfl:k = cs.length := by omega
   gi_wp2
   go_end0
   exact ⟨⟨_,rfl⟩,.inl ⟨_,rfl,hJs⟩⟩
set_option maxRecDepth 100000 in
set_option maxHeartbeats 1000000 in
theorem bk1_nil_in (F:Fence) (n:Nat) (h7:F.fn 147) (hro:F.round = none) (l Bs:Nat) (J:List (Nat×E4) → World → Prop) (W:World) (a:Option Addr) (cap:Nat) (hBs:W.cell? ⟨Bs,0,none⟩ = some (.slice a 0 cap)) (h0:J [] W) :
  CallsIn F n Tryz.prog 147 #[.func (.yield l) #[] #[],.pointer (some ⟨Bs,0,none⟩)] W fun e W' => (∃ v,e = .returned v) ∧ J [] W' := by
 refine callsIn_of_wp Tryz.func147 rfl h7 ?_ hro
 simp only [Tryz.ntmps147,List.size_toArray,List.length_cons,List.length_nil,Nat.reduceAdd,Nat.reduceSub,Array.replicate_succ,Array.replicate_zero,List.push_toArray,List.append_toArray,List.nil_append,List.cons_append]
 gi_wp2
 gi_loopw [3] (fun i wr => i = .int .i64 (-1) ∧ J [] wr) (fun _ _ => 0)
 case atStart => exact ⟨rfl,h0⟩
 case round =>
  obtain ⟨rfl,hJs⟩ := hrel
  gi_wp2
  go_end0
  exact ⟨⟨_,rfl⟩,hJs⟩
def Lies4 (n₀:Nat) (W:World) (sv:Value) (cs:List E4):Prop :=
 ((∃ a cap,sv = .slice a 0 cap) ∧ cs = []) ∨ ∃ b off cap,sv = .slice (some ⟨b,off,none⟩) cs.length cap ∧ b < n₀ ∧ ∀ j c,cs[j]? = some c → Has W b (off + j * 4) (cE c)
theorem Lies4.below {n₀:Nat} {A B:World} (h:Below n₀ A B) {sv:Value} {cs:List E4} (hl:Lies4 n₀ A sv cs):Lies4 n₀ B sv cs := by
 rcases hl with hl | ⟨b,off,cap,e,hb,hc⟩
 ·exact .inl hl
 ·exact .inr ⟨b,off,cap,e,hb,fun j c hj i v hv => (h.cell (p := ⟨b,off + j * 4 + i,none⟩) hb).trans (hc j c hj i v hv)⟩
abbrev backF (cs:List E4) (j:Nat):Nat×E4 := (cs.length - 1 - j,cs.getD (cs.length - 1 - j) e0)
theorem bk_stops (F:Fence) (n:Nat) (h8:F.fn 147) (hro:F.round = none) (hn:1 ≤ n) (Bs n₀:Nat) (sv:Value) (cs:List E4) (hreach:cs.length ≤ 1048576) (w:World) (hBn:Bs < n₀) (hn₀:n₀ ≤ w.heap.size)
  (hc:w.cell? ⟨Bs,0,none⟩ = some sv) (hI:Lies4 n₀ w sv cs) :
  SeqStopsK F n Tryz.prog 147 #[.pointer (some ⟨Bs,0,none⟩)] (fun x:Nat×E4 => #[Value.int .i64 (x.1:Int),Value.agg (cE x.2).toArray]) (Below n₀) (fun ys => ys = (List.range cs.length).map (backF cs))
   (fun pre => ∃ k,k ≤ cs.length ∧ pre = (List.range k).map (backF cs)) cs.length w := fun l J Jx W hW _ _ hY h0 => by
 have hc' := (hW.cell (p := ⟨Bs,0,none⟩) (Nat.lt_of_lt_of_le hBn hn₀)).trans hc
 rcases hI.below (hW.mono hn₀) with ⟨⟨a,cap,rfl⟩,rfl⟩ | ⟨b,off,cap,rfl,hb,hcs⟩
 ·exact (bk1_nil_in F n h8 hro l Bs J W a cap hc' h0).mono fun e W' ⟨he,hj⟩ => ⟨he,.inl ⟨_,rfl,hj⟩⟩
 ·exact bk1_in F n h8 hro hn l Bs n₀ b off cap cs hreach hb hBn J Jx hY W hc' hcs h0
set_option maxHeartbeats 1000000 in
theorem bk_in (F:Fence) (n:Nat) (h6:F.fn 111) (hro:F.round = none) (a:Option Addr) (len cap:Nat) (w:World) :
  CallsIn F n Tryz.prog 111 #[.slice a len cap] w fun e w' => e = .returned (.func (.func 147) #[] #[.pointer (some ⟨w.heap.size,0,none⟩)]) ∧ w' = w.alloc (.cells #[.slice a len cap] 31) := by
 refine callsIn_of_wp Tryz.func111 rfl h6 ?_ hro
 simp only [Tryz.ntmps111,List.size_toArray,List.length_cons,List.length_nil,Nat.reduceAdd,Nat.reduceSub,Array.replicate_succ,Array.replicate_zero,List.push_toArray,List.append_toArray,List.nil_append,List.cons_append]
 gi_wp2
 go_ret
 exact ⟨rfl,rfl⟩
theorem cellA {W:World} {p:Addr} {v:Value} (o:Obj) (h:W.cell? p = some v):(W.alloc o).cell? p = some v := (World.grownBy_alloc W o none).cell h (by simp)
theorem frozenA {W:World} {p:Addr} {v:Value} (o:Obj) (h:W.cell? p = some v) (hf:W.frozen? p = false):(W.alloc o).frozen? p = false :=
 (World.frozen?_of_block ((World.grownBy_alloc W o none).block p.block (World.block_lt_of_cell? W p h) (by simp))).trans hf
theorem cellN {W:World} {cur:Array Value} {e:TypeId} {j:Nat} {v:Value} (h:cur[j]? = some v):(W.alloc (.cells cur e)).cell? ⟨W.heap.size,j,none⟩ = some v := by
 rw [cell_of_row _ _ j _ _ _ (World.alloc_heap_new W (.cells cur e))]
 exact h
abbrev NT_:Ty := .pair (.int .i64) (.pair (.int .i64) (.pair (.sl 9 .str) (.sl 155 (.pair .str (.pair .bool (.sl 3 (.int .i64)))))))
theorem notes_cells {w:World} {S:Nat → Prop} (hS:∀ g,S g → g < w.heap.size) {l:List NT_.den} {sv:Value} (h:ROc w S (.sl 92 NT_) l [sv]) :
  ∃ (A:Option Addr) (cap:Nat) (cs:List E4),sv = .slice A l.length cap ∧ cs.length = l.length ∧ Lies4 w.heap.size w sv cs ∧ ∀ (i:Nat) (x:NT_.den),l[i]? = some x → ∃ e:E4,cs[i]? = some e ∧ e.1 = x.1 ∧ e.2.1 = x.2.1 ∧ ROc w S (.sl 155 (.pair .str (.pair .bool (.sl 3 (.int .i64))))) x.2.2.2 [.slice e.2.2.2.1 e.2.2.2.2.1 e.2.2.2.2.2] := by
 obtain ⟨A,cap,e1,_,h3⟩ := h
 injection e1 with e1 _
 subst e1
 by_cases hl:l.length = 0
 ·refine ⟨A,cap,[],rfl,by simp [hl],.inl ⟨⟨A,cap,by rw [hl]⟩,rfl⟩,fun i x hx => ?_⟩
  have:i < l.length := (List.getElem?_eq_some_iff.1 hx).1
  omega
 ·obtain ⟨g,off,c0,e2,hg,_⟩ := h3 0 l[0] (List.getElem?_eq_getElem (by omega))
  have key:∀ i:Nat,∃ e:E4,∀ x:NT_.den,l[i]? = some x → Has w g (off + i * 4) (cE e) ∧ e.1 = x.1 ∧ e.2.1 = x.2.1 ∧ ROc w S (.sl 155 (.pair .str (.pair .bool (.sl 3 (.int .i64))))) x.2.2.2 [.slice e.2.2.2.1 e.2.2.2.2.1 e.2.2.2.2.2] := by
   intro i
   cases hi:l[i]? with
   | none => exact ⟨e0,fun x hx => by cases hx⟩
   | some x =>
    obtain ⟨g',off',c,f1,f2,f3,f4,f5⟩ := h3 i x hi
    rw [e2] at f1
    injection f1 with f1
    injection f1 with f1 f1'
    subst f1
    subst f1'
    obtain ⟨c1,c2,r1,_,r2,c3,c4,r3,_,r4,c5,c6,r5,r6,r7,r8⟩ := f5
    obtain ⟨A5,cap5,s1,_⟩ := r7
    have r8' := r8
    obtain ⟨A6,cap6,s2,_⟩ := r8
    subst r1 r3 r5 s1 s2
    rw [show c1 = _ from r2,show c3 = _ from r4] at f4
    exact ⟨(x.1,x.2.1,(A5,x.2.2.1.length,cap5),(A6,x.2.2.2.length,cap6)),fun y hy => by cases hy; exact ⟨f4,rfl,rfl,r8'⟩⟩
  have hf := Classical.choice (α := { f:Nat → E4 // ∀ (i:Nat) (x:NT_.den),l[i]? = some x → Has w g (off + i * 4) (cE (f i)) ∧ (f i).1 = x.1 ∧ (f i).2.1 = x.2.1 ∧ ROc w S (.sl 155 (.pair .str (.pair .bool (.sl 3 (.int .i64))))) x.2.2.2 [.slice (f i).2.2.2.1 (f i).2.2.2.2.1 (f i).2.2.2.2.2] }) ⟨⟨fun i => (key i).choose,fun i => (key i).choose_spec⟩⟩
  obtain ⟨f,hf⟩ := hf
  have hget:∀ i,i < l.length → ((List.range l.length).map f)[i]? = some (f i) := fun i hi => by simp [hi]
  refine ⟨A,cap,(List.range l.length).map f,rfl,by simp,.inr ⟨g,off,cap,by rw [e2]; simp,hS g hg,fun j c hj => ?_⟩,fun i x hx => ?_⟩
  ·have hjl:j < l.length := by
    have := (List.getElem?_eq_some_iff.1 hj).1
    simpa using this
   rw [hget j hjl] at hj
   injection hj with hj
   subst hj
   exact (hf j l[j] (List.getElem?_eq_getElem hjl)).1
  ·have hi := (List.getElem?_eq_some_iff.1 hx).1
   exact ⟨f i,hget i hi,(hf i x hx).2⟩
end Go.Proofs.YtedhpmhlmdcpbaaGreatDoor.E
end
section
namespace Go.Proofs.YtedhpmhlmdcpbaaGreatDoor.E
open Go Go.RowKit Go.Shelf
attribute [local go_sem] Oper.semAt_some
def isOf (tx:Int) (e:E4):Bool := decide (e.2.1 = tx)&&!decide (e.1 = 4)
set_option maxRecDepth 100000 in
set_option maxHeartbeats 4000000 in
theorem of_in (F:Fence) (n:Nat) (h4:F.fn 52) (h6:F.fn 111) (h8:F.fn 147) (hro:F.round = none) (hn:3 ≤ n) (a:Option Addr) (len cap:Nat) (safe tx:Int) (cs:List E4) (hreach:cs.length ≤ 1048576) (w:World) (hI:Lies4 w.heap.size w (.slice a len cap) cs) :
  CallsIn F n Tryz.prog 52 #[.agg #[.slice a len cap,.int .i64 safe],.int .i64 tx] w fun e W' =>
   (e = .returned (.int .i64 0) ∧ (∀ j,j < cs.length → isOf tx (cs.getD j e0) = false) ∨ ∃ k,k < cs.length ∧ e = .returned (.int .i64 (cs.getD k e0).1) ∧ isOf tx (cs.getD k e0) = true ∧ ∀ j,k < j → j < cs.length → isOf tx (cs.getD j e0) = false) ∧ Below w.heap.size w W' := by
 have h1:1 ≤ n := by omega
 refine callsIn_of_wp_marks Tryz.func52 rfl h4 ?_ hro
 simp only [Tryz.ntmps52,List.size_toArray,List.length_cons,List.length_nil,Nat.reduceAdd,Nat.reduceSub,Array.replicate_succ,Array.replicate_zero,List.push_toArray,List.append_toArray,List.nil_append,List.cons_append]
 gi_wp2_with (gi_at_call 111; refine (bk_in F (n - 1) h6 hro _ _ _ _).mono ?_; rintro e w' ⟨rfl,rfl⟩)
 have hB0:Below w.heap.size w ((((w.alloc (.cells #[.slice a len cap,.int .i64 safe] 33)).alloc (.cells #[.int .i64 tx] 3)).alloc (.cells #[.int .i64 0] 3)).alloc (.cells #[.slice a len cap] 31)) :=
  ((((Below.refl _ w).alloc (Nat.le_refl _) _).alloc (by simp) _).alloc (by simp; omega) _).alloc (by simp; omega) _
 have b3 := ((Boxed.new (w.alloc (.cells #[.slice a len cap,.int .i64 safe] 33)) 3 (.int .i64 tx)).alloc (.cells #[.int .i64 0] 3)).alloc (.cells #[.slice a len cap] 31)
 have b4 := (Boxed.new ((w.alloc (.cells #[.slice a len cap,.int .i64 safe] 33)).alloc (.cells #[.int .i64 tx] 3)) 3 (.int .i64 0)).alloc (.cells #[.slice a len cap] 31)
 have bs := Boxed.new (((w.alloc (.cells #[.slice a len cap,.int .i64 safe] 33)).alloc (.cells #[.int .i64 tx] 3)).alloc (.cells #[.int .i64 0] 3)) 31 (.slice a len cap)
 simp only [World.size_alloc] at b3 b4 bs
 have hsz:((((w.alloc (.cells #[.slice a len cap,.int .i64 safe] 33)).alloc (.cells #[.int .i64 tx] 3)).alloc (.cells #[.int .i64 0] 3)).alloc (.cells #[.slice a len cap] 31)).heap.size = w.heap.size + 1 + 1 + 1 + 1 := by simp only [World.size_alloc]
 generalize hW0:((((w.alloc (.cells #[.slice a len cap,.int .i64 safe] 33)).alloc (.cells #[.int .i64 tx] 3)).alloc (.cells #[.int .i64 0] 3)).alloc (.cells #[.slice a len cap] 31)) = W0 at hB0 b3 b4 bs hsz ⊢
 have hI0:Lies4 (w.heap.size + 1 + 1 + 1 + 1) W0 (.slice a len cap) cs := by
  rcases hI.below hB0 with h | ⟨b,off,cap',e,hb,hc⟩
  ·exact .inl h
  ·exact .inr ⟨b,off,cap',e,by omega,hc⟩
 refine wpIn_rangeFunc_ownH hro h1 (gf := 147) (lb := #[.pointer (some ⟨w.heap.size + 1 + 1 + 1,0,none⟩)]) rfl h8 (enters_of Tryz.func147 (by kernel_rfl) rfl)
  (bk_stops F (n - 1) h8 hro (by omega) (w.heap.size + 1 + 1 + 1) (w.heap.size + 1 + 1 + 1 + 1) (.slice a len cap) cs hreach W0 (by omega) (by omega) bs.cell hI0) belowK_t (belowK_b (by omega)) (Below.refl _ _) (fun _ => rfl)
  (fun pre W => ((∀ p ∈ pre,isOf tx p.2 = false) ∧ W.cell? ⟨w.heap.size + 1,0,none⟩ = some (.int .i64 tx) ∧ W.cell? ⟨w.heap.size + 1 + 1,0,none⟩ = some (.int .i64 0) ∧ W.frozen? ⟨w.heap.size + 1 + 1,0,none⟩ = false ∧ w.heap.size + 1 + 1 + 1 + 1 ≤ W.heap.size) ∧ Below w.heap.size w W)
  (fun c pre W => (c = .ret ∧ ∃ ini last,pre = ini ++ [last] ∧ (∀ p ∈ ini,isOf tx p.2 = false) ∧ isOf tx last.2 = true ∧ W.cell? ⟨w.heap.size + 1 + 1,0,none⟩ = some (.int .i64 last.2.1)) ∧ Below w.heap.size w W)
  (OwnFrom.and (Own.from (fun s A B row hs hg hr => ⟨hs.1,cell_kept hs.2.1 hg hr,cell_kept hs.2.2.1 hg hr,(frozen_kept hs.2.2.1 hg hr).trans hs.2.2.2.1,Nat.le_trans hs.2.2.2.2 hg.size⟩) _) (ownFrom_below (Nat.le_refl _) (by omega)))
  (fun c => OwnFrom.and (Own.from (fun s A B row hs hg hr => by obtain ⟨hc,ini,last,e1,e2,e3,e4⟩ := hs; exact ⟨hc,ini,last,e1,e2,e3,cell_kept e4 hg hr⟩) _) (ownFrom_below (Nat.le_refl _) (by omega)))
  ⟨⟨by simp,b3.cell,b4.cell,b4.frozen,by omega⟩,hB0⟩
  (fun x a' W => ∃ Bx,w.heap.size + 1 + 1 + 1 + 1 ≤ Bx ∧ W.cell? ⟨Bx,0,none⟩ = some (.int .i64 x.2.1) ∧ W.cell? ⟨Bx,1,none⟩ = some (.int .i64 x.2.2.1) ∧
   a' = { tmps := #[.agg #[.slice a len cap,.int .i64 safe],.int .i64 tx,.pointer (some ⟨w.heap.size,0,none⟩),.pointer (some ⟨w.heap.size + 1,0,none⟩),.pointer (some ⟨w.heap.size + 1 + 1,0,none⟩),undef,.pointer (some ⟨Bx,0,none⟩),.pointer (some ⟨w.heap.size,0,none⟩),.slice a len cap,.func (.func 147) #[] #[.pointer (some ⟨w.heap.size + 1 + 1 + 1,0,none⟩)],.int .i64 (x.1:Int),.agg (cE x.2).toArray,undef,undef,undef,undef,undef,undef,undef,undef,undef,undef,undef],defers := [] })
  (fun x a' => Own.from (fun s A B row hs hg hr => by obtain ⟨Bx,e1,e2,e3,e4⟩ := hs; exact ⟨Bx,e1,cell_kept e2 hg hr,cell_kept e3 hg hr,e4⟩) _) ?assign ?body ?done ?stop
 case assign =>
  rintro l pre x W K ⟨⟨hp,h3,h4',h5,h9⟩,hB⟩ hK
  obtain ⟨i,z0,z1,v2,v3⟩ := x
  simp only [cE]
  gi_wp2
  exact hK _ _ ((KeepsOthers.alloc _ _).from _) ((Below.refl _ W).alloc h9 _) ⟨⟨hp,cellA _ h3,cellA _ h4',frozenA _ h4' h5,by simp; omega⟩,hB.alloc (by omega) _⟩
   ⟨W.heap.size,h9,cellN rfl,cellN rfl,rfl⟩
 case body =>
  rintro l pre x a' W hl hr ⟨⟨hp,h3,h4',h5,h9⟩,hB⟩ ⟨Bx,hBx,x0,x1,rfl⟩ hlt
  gi_wp2
  ·have e1:x.2.2.1 = tx := by assumption
   have e2:(x.2.1 != 4) = true := by assumption
   have e2:x.2.1 ≠ 4 := by simpa using e2
   exact ⟨(KeepsOthers.setCell _ _ _).from _,⟨rfl,pre,x,rfl,hp,by simp [isOf,e1,e2],World.cell?_setCell_same' _ _ _ (by rw [h4']; rfl)⟩,hB.setCell (p := ⟨w.heap.size + 1 + 1,0,none⟩) (by show _ ≤ w.heap.size + 1 + 1; omega) _⟩
  ·have e2:(x.2.1 != 4) = false := by assumption
   have e2:x.2.1 = 4 := by simpa using e2
   exact ⟨KeepsFrom.refl _ _,Below.refl _ _,⟨fun p hp' => (List.mem_append.1 hp').elim (hp p) (fun e => by simp at e; subst e; simp [isOf,e2]),h3,h4',h5,h9⟩,hB⟩
  ·have e1:¬ x.2.2.1 = tx := by assumption
   exact ⟨KeepsFrom.refl _ _,Below.refl _ _,⟨fun p hp' => (List.mem_append.1 hp').elim (hp p) (fun e => by simp at e; subst e; simp [isOf,e1]),h3,h4',h5,h9⟩,hB⟩
 case done =>
  rintro D ys W hD rfl ⟨⟨hne,h3,hcr,hfr,h9⟩,hB⟩ hK
  gi_wp2
  have hK' := (KeepsOthers.setCell W ⟨w.heap.size + 1 + 1,0,none⟩ (.int .i64 0)).same D _ hK rfl
  refine ⟨by simp,.inl ⟨_,_,rfl,run_takeDeferred hK',?_⟩⟩
  have hc5 := cell_kept (World.cell?_setCell_same' W ⟨w.heap.size + 1 + 1,0,none⟩ (.int .i64 0) (by rw [hcr]; rfl)) (grownBy_putObj' _ D (.deferred none)) (fun r e => by cases e; exact ⟨_,hK',rfl⟩)
  refine ⟨.int .i64 0,?_,.inl ⟨rfl,fun j hj => ?_⟩,(hB.setCell (p := ⟨w.heap.size + 1 + 1,0,none⟩) (by show _ ≤ w.heap.size + 1 + 1; omega) _).trans (belowK_b (w := w) (Nat.le_refl _) _ D _ _ (by omega) hK' rfl rfl)⟩
  ·simp [results,Tryz.f52,go_sem,hc5]
  ·have := hne (backF cs (cs.length - 1 - j)) (List.mem_map.2 ⟨_,List.mem_range.2 (by omega),rfl⟩)
   simp only [backF] at this
   rwa [show cs.length - 1 - (cs.length - 1 - j) = j by omega] at this
 case stop =>
  rintro D c pre W hD ⟨k,hk,rfl⟩ ⟨⟨rfl,ini,last,e1,e2,e3,hcr⟩,hB⟩ hK
  gi_wp2
  refine ⟨by simp,.inl ⟨_,_,rfl,run_takeDeferred hK,?_⟩⟩
  have hc5 := cell_kept hcr (grownBy_putObj' _ D (.deferred none)) (fun r e => by cases e; exact ⟨_,hK,rfl⟩)
  obtain ⟨k',rfl⟩:∃ k',k = k' + 1 := by
   cases k with
   | zero => simp at e1
   | succ k' => exact ⟨k',rfl⟩
  rw [List.range_succ,List.map_append] at e1
  obtain ⟨rfl,e5⟩ := List.append_inj' e1 rfl
  obtain rfl:backF cs k' = last := by simpa using e5
  refine ⟨.int .i64 (cs.getD (cs.length - 1 - k') e0).1,?_,.inr ⟨cs.length - 1 - k',by omega,rfl,e3,fun j hj hj2 => ?_⟩,hB.trans (belowK_b (w := w) (Nat.le_refl _) W D _ _ (by omega) hK rfl rfl)⟩
  ·simp [results,Tryz.f52,go_sem,hc5]
  ·have := e2 (backF cs (cs.length - 1 - j)) (List.mem_map.2 ⟨_,List.mem_range.2 (by omega),rfl⟩)
   simp only [backF] at this
   rwa [show cs.length - 1 - (cs.length - 1 - j) = j by omega] at this
end Go.Proofs.YtedhpmhlmdcpbaaGreatDoor.E
namespace Go.Proofs.YtedhpmhlmdcpbaaGreatDoor.E
open Go Go.RowKit
def msZ40:List PM := [.rd,.own]
def g_VZ40_0 (l:List (Int×Int×List ByteArray×List (ByteArray×Bool×List Int))) (tx:Int):Int := ((l.reverse.find? fun n => decide (n.2.1 = tx)&&!decide (n.1 = 4)).map (·.1)).getD 0
def g_AZ40 (l:List (Int×Int×List ByteArray×List (ByteArray×Bool×List Int))):Bool := decide (l.length ≤ 1048576)
def FZ40:FSem := fun ys => match ys with
 | [.val true [.sl .any 92 (.pair (.int .i64) (.pair (.int .i64) (.pair (.sl 9 .str) (.sl 155 (.pair .str (.pair .bool (.sl 3 (.int .i64)))))))) a0,.int .i64 a1],.val false [.int .i64 a2]] => some (g_AZ40 a0,.val false [.int .i64 (g_VZ40_0 a0 a2)],[])
 | _ => none
theorem sZ40:Sound Tryz.prog 52 msZ40 FZ40 := by
 refine ⟨⟨_,Tryz.func52,by kernel_rfl,by kernel_rfl⟩,fun w S ψ ys vs r outs hF hh hg => ?_⟩
 unfold FZ40 at hF
 split at hF
 ·rename_i l safe tx
  simp only [Option.some.injEq,Prod.mk.injEq,g_AZ40,decide_eq_true_eq] at hF
  obtain ⟨hlen,rfl,rfl⟩ := hF
  match vs,hg with
  | [v0,v1],hg =>
  obtain ⟨⟨us,⟨_,hb⟩,rfl,_⟩,⟨us1,⟨_,hb1⟩,rfl,_⟩,_⟩ := hg
  match us,hb,us1,hb1 with
  | [sv,iv],⟨⟨_,h1⟩,h2,_⟩,[tv],⟨h3,_⟩ =>
  have h2:iv = .int .i64 safe := h2
  have h3:tv = .int .i64 tx := h3
  subst h2 h3
  obtain ⟨A,cap,cs,rfl,hcl,hlies,hcs⟩ := notes_cells hh.lt h1
  have hof:∀ (j:Nat) (x:NT_.den),l[j]? = some x → isOf tx (cs.getD j e0) = (decide (x.2.1 = tx)&&!decide (x.1 = 4)) ∧ (cs.getD j e0).1 = x.1 := by
   intro j x hx
   obtain ⟨e,a1,a2,a3,_⟩ := hcs j x hx
   rw [List.getD,a1]
   simp only [Option.getD_some,isOf,a2,a3,and_self]
  refine Calls.mono ((callsIn_wide (n := 3)).1 (of_in Fence.wide 3 trivial trivial trivial rfl (by omega) A l.length cap safe tx cs (by omega) w hlies)) ?_
  rintro e w' ⟨he,hbl⟩
  have hval:e = .returned (.int .i64 (g_VZ40_0 l tx)) := by
   unfold g_VZ40_0
   rcases he with ⟨rfl,hno⟩ | ⟨k,hk,rfl,hk1,hk2⟩
   ·rw [List.find?_eq_none.2]
    ·rfl
    ·intro x hx
     obtain ⟨i,hi,rfl⟩ := List.getElem_of_mem (List.mem_reverse.1 hx)
     have := hno i (by omega)
     rw [(hof i _ (List.getElem?_eq_getElem hi)).1] at this
     simpa using this
   ·have hk':k < l.length := by omega
    have hx := List.getElem?_eq_getElem hk'
    rw [(hof k _ hx).1] at hk1
    rw [(hof k _ hx).2]
    have:l.reverse.find? (fun n => decide (n.2.1 = tx)&&!decide (n.1 = 4)) = some l[k] := by
     rw [List.find?_eq_some_iff_getElem]
     refine ⟨hk1,l.length - 1 - k,by simp; omega,?_,fun j hj => ?_⟩
     ·rw [List.getElem_reverse]
      congr 1
      omega
     ·rw [List.getElem_reverse]
      have := hk2 (l.length - 1 - j) (by omega) (by omega)
      rw [(hof _ _ (List.getElem?_eq_getElem (by omega))).1] at this
      simp only [this,Bool.not_false]
    rw [this]
    rfl
  subst hval
  refine ⟨S,fun _ _ _ => False,⟨hbl.os,hbl.tape,hbl.output,hbl.size,fun g hg' _ => ⟨hbl.block g hg',Iff.rfl,fun ⟨_,_,h⟩ => h⟩,⟨fun g hg' => Nat.lt_of_lt_of_le (hh.lt g hg') hbl.size,fun _ _ _ h => h.elim,fun _ _ _ _ _ h => h.elim⟩⟩,⟨[_],⟨rfl,rfl,trivial⟩,rfl,fun _ => rfl⟩,rfl⟩
 ·cases hF
end Go.Proofs.YtedhpmhlmdcpbaaGreatDoor.E
end
namespace Go.Proofs.YtedhpmhlmdcpbaaGreatDoor.E
open Go
set_option maxRecDepth 100000
set_option maxHeartbeats 0
noncomputable def Ei_OpOk_1:Env where
 tt := mkTI Tryz.prog
 fn := fun f => match f with
  | 75 => some (msi_in,FSem.wk msi_in Fi_in)
  | _ => none
 bxf := fun _ => none
 mv := []
 keep := fun _ => []
 keepB := fun _ => []
 keepX := fun _ => []
 keepXB := fun _ => []
theorem goodFi_OpOk_1:∀ f ms F,Ei_OpOk_1.fn f = some (ms,F) → Sound Tryz.prog f ms F := fun f ms F h => by
 unfold Ei_OpOk_1 at h
 dsimp only at h
 split at h
 ·exact gF si_in h
 ·cases h
theorem goodi_OpOk_1:Good Tryz.prog Ei_OpOk_1 := ⟨rfl,goodFi_OpOk_1,fun f ms F h => by cases h⟩
noncomputable def Oi_OpOk_1_0:Orc := fun _ _ => none
noncomputable def msi_OpOk_1:List PM := [.own]
noncomputable def lsi_OpOk_1:List (Nat×Code) := loopsAll 0 (Tryz.f115.body.getD .skip)
theorem ki_OpOk_1_0:OrcOk Ei_OpOk_1 Oi_OpOk_1_0 lsi_OpOk_1 0 := orcOk_none
noncomputable def g_Ai_OpOk_1 (a0:Int):Bool := g_Ai_in a0 (0:Int) (9:Int)
noncomputable def g_Vi_OpOk_1_0 (a0:Int):Bool := g_Vi_in_0 a0 (0:Int) (9:Int)
noncomputable def Fi_OpOk_1:FSem := fun ys => match ys with
 | [.val false [.int .i64 a0]] => some ((g_Ai_OpOk_1 a0),.val false [.bool (g_Vi_OpOk_1_0 a0)],[])
 | _ => none
theorem vi_OpOk_1 (a0:Int):collapseH .std Ei_OpOk_1 Oi_OpOk_1_0 (execFn Ei_OpOk_1 Tryz.f115 msi_OpOk_1 [.val false [.int .i64 a0]]) = some ((g_Ai_OpOk_1 a0),.val false [.bool (g_Vi_OpOk_1_0 a0)],[]) := by kernel_rfl
theorem si_OpOk_1:Sound Tryz.prog 115 msi_OpOk_1 Fi_OpOk_1 := by
 refine fn_gen goodi_OpOk_1 (by kernel_rfl) .std (fn := Tryz.f115) (c := (Tryz.f115.body.getD .skip)) (o := Oi_OpOk_1_0) (k := 0) (by kernel_rfl) (by kernel_rfl) (by kernel_rfl) (by kernel_rfl) (by decide) ki_OpOk_1_0 ?_
 intro ys r outs h
 unfold Fi_OpOk_1 at h
 split at h
 ·exact (vi_OpOk_1 _).trans h
 ·cases h
noncomputable def Ei_OpOk_2:Env where
 tt := mkTI Tryz.prog
 fn := fun f => match f with
  | 75 => some (msi_in,FSem.wk msi_in Fi_in)
  | _ => none
 bxf := fun _ => none
 mv := []
 keep := fun _ => []
 keepB := fun _ => []
 keepX := fun _ => []
 keepXB := fun _ => []
theorem goodFi_OpOk_2:∀ f ms F,Ei_OpOk_2.fn f = some (ms,F) → Sound Tryz.prog f ms F := fun f ms F h => by
 unfold Ei_OpOk_2 at h
 dsimp only at h
 split at h
 ·exact gF si_in h
 ·cases h
theorem goodi_OpOk_2:Good Tryz.prog Ei_OpOk_2 := ⟨rfl,goodFi_OpOk_2,fun f ms F h => by cases h⟩
noncomputable def Oi_OpOk_2_0:Orc := fun _ _ => none
noncomputable def msi_OpOk_2:List PM := [.own]
noncomputable def lsi_OpOk_2:List (Nat×Code) := loopsAll 0 (Tryz.f116.body.getD .skip)
theorem ki_OpOk_2_0:OrcOk Ei_OpOk_2 Oi_OpOk_2_0 lsi_OpOk_2 0 := orcOk_none
noncomputable def g_Ai_OpOk_2 (a0:Int):Bool := g_Ai_in a0 (0:Int) (99:Int)
noncomputable def g_Vi_OpOk_2_0 (a0:Int):Bool := g_Vi_in_0 a0 (0:Int) (99:Int)
noncomputable def Fi_OpOk_2:FSem := fun ys => match ys with
 | [.val false [.int .i64 a0]] => some ((g_Ai_OpOk_2 a0),.val false [.bool (g_Vi_OpOk_2_0 a0)],[])
 | _ => none
theorem vi_OpOk_2 (a0:Int):collapseH .std Ei_OpOk_2 Oi_OpOk_2_0 (execFn Ei_OpOk_2 Tryz.f116 msi_OpOk_2 [.val false [.int .i64 a0]]) = some ((g_Ai_OpOk_2 a0),.val false [.bool (g_Vi_OpOk_2_0 a0)],[]) := by kernel_rfl
theorem si_OpOk_2:Sound Tryz.prog 116 msi_OpOk_2 Fi_OpOk_2 := by
 refine fn_gen goodi_OpOk_2 (by kernel_rfl) .std (fn := Tryz.f116) (c := (Tryz.f116.body.getD .skip)) (o := Oi_OpOk_2_0) (k := 0) (by kernel_rfl) (by kernel_rfl) (by kernel_rfl) (by kernel_rfl) (by decide) ki_OpOk_2_0 ?_
 intro ys r outs h
 unfold Fi_OpOk_2 at h
 split at h
 ·exact (vi_OpOk_2 _).trans h
 ·cases h
noncomputable def Ei_OpOk:Env where
 tt := mkTI Tryz.prog
 fn := fun f => match f with
  | 115 => some (msi_OpOk_1,FSem.wk msi_OpOk_1 Fi_OpOk_1)
  | 116 => some (msi_OpOk_2,FSem.wk msi_OpOk_2 Fi_OpOk_2)
  | _ => none
 bxf := fun _ => none
 mv := []
 keep := fun _ => []
 keepB := fun _ => []
 keepX := fun _ => []
 keepXB := fun _ => []
theorem goodFi_OpOk:∀ f ms F,Ei_OpOk.fn f = some (ms,F) → Sound Tryz.prog f ms F := fun f ms F h => by
 unfold Ei_OpOk at h
 dsimp only at h
 split at h
 ·exact gF si_OpOk_1 h
 ·exact gF si_OpOk_2 h
 ·cases h
theorem goodi_OpOk:Good Tryz.prog Ei_OpOk := ⟨rfl,goodFi_OpOk,fun f ms F h => by cases h⟩
noncomputable def Oi_OpOk_0:Orc := fun _ _ => none
noncomputable def msi_OpOk:List PM := [.own]
noncomputable def lsi_OpOk:List (Nat×Code) := loopsAll 0 (Tryz.f58.body.getD .skip)
theorem ki_OpOk_0:OrcOk Ei_OpOk Oi_OpOk_0 lsi_OpOk 0 := orcOk_none
noncomputable def g_Ai_OpOk (a0:Int) (a1:Int) (a2:Int) (a3:Int) (a4:Int) (a5:Int) (a6:Int):Bool := g_Ai_OpOk_1 a1&&(!g_Vi_OpOk_1_0 a1 || g_Ai_OpOk_1 a2&&(!g_Vi_OpOk_1_0 a2 || g_Ai_OpOk_1 a3&&(!g_Vi_OpOk_1_0 a3 || g_Ai_OpOk_1 a5&&(!g_Vi_OpOk_1_0 a5 || g_Ai_OpOk_2 a4&&(!g_Vi_OpOk_2_0 a4 || g_Ai_OpOk_2 a6&&(!g_Vi_OpOk_2_0 a6 || bif a0 == 1 then a0 == 1 || (a0 == 2 || (a0 == 3 || true)) else a0 == 5 || (a0 == 2 || (a0 == 3 || true))))))))
noncomputable def g_Vi_OpOk_0 (a0:Int) (a1:Int) (a2:Int) (a3:Int) (a4:Int) (a5:Int) (a6:Int):Bool := bif !g_Vi_OpOk_1_0 a1 then false else bif !g_Vi_OpOk_1_0 a2 then false else bif !g_Vi_OpOk_1_0 a3 then false else bif !g_Vi_OpOk_1_0 a5 then false else bif !g_Vi_OpOk_2_0 a4 then false else bif !g_Vi_OpOk_2_0 a6 then false else bif a0 == 1 then bif a0 == 1 then a0 == a0&&(a1 == a1&&(a2 == a2&&(a3 == 0&&(a4 == 0&&(a5 == 0&&(a6 == 0&&true)))))) else bif a0 == 2 then a0 == a0&&(a1 == a1&&(a2 == a2&&(a3 == a3&&(a4 == a4&&(a5 == 0&&(a6 == 0&&true)))))) else bif a0 == 3 then a0 == a0&&(a1 == 0&&(a2 == 0&&(a3 == a3&&(a4 == a4&&(a5 == a5&&(a6 == 0&&true)))))) else bif a0 == 4 then a0 == a0&&(a1 == 0&&(a2 == 0&&(a3 == 0&&(a4 == 0&&(a5 == a5&&(a6 == a6&&true)))))) else false else bif a0 == 5 then a0 == a0&&(a1 == a1&&(a2 == a2&&(a3 == 0&&(a4 == 0&&(a5 == 0&&(a6 == 0&&true)))))) else bif a0 == 2 then a0 == a0&&(a1 == a1&&(a2 == a2&&(a3 == a3&&(a4 == a4&&(a5 == 0&&(a6 == 0&&true)))))) else bif a0 == 3 then a0 == a0&&(a1 == 0&&(a2 == 0&&(a3 == a3&&(a4 == a4&&(a5 == a5&&(a6 == 0&&true)))))) else bif a0 == 4 then a0 == a0&&(a1 == 0&&(a2 == 0&&(a3 == 0&&(a4 == 0&&(a5 == a5&&(a6 == a6&&true)))))) else false
noncomputable def Fi_OpOk:FSem := fun ys => match ys with
 | [.val true [.int .i64 a0,.int .i64 a1,.int .i64 a2,.int .i64 a3,.int .i64 a4,.int .i64 a5,.int .i64 a6]] => some ((g_Ai_OpOk a0 a1 a2 a3 a4 a5 a6),.val false [.bool (g_Vi_OpOk_0 a0 a1 a2 a3 a4 a5 a6)],[])
 | _ => none
theorem vi_OpOk (a0:Int) (a1:Int) (a2:Int) (a3:Int) (a4:Int) (a5:Int) (a6:Int):collapseH .std Ei_OpOk Oi_OpOk_0 (execFn Ei_OpOk Tryz.f58 msi_OpOk [.val true [.int .i64 a0,.int .i64 a1,.int .i64 a2,.int .i64 a3,.int .i64 a4,.int .i64 a5,.int .i64 a6]]) = some ((g_Ai_OpOk a0 a1 a2 a3 a4 a5 a6),.val false [.bool (g_Vi_OpOk_0 a0 a1 a2 a3 a4 a5 a6)],[]) := by kernel_rfl
theorem si_OpOk:Sound Tryz.prog 58 msi_OpOk Fi_OpOk := by
 refine fn_gen goodi_OpOk (by kernel_rfl) .std (fn := Tryz.f58) (c := (Tryz.f58.body.getD .skip)) (o := Oi_OpOk_0) (k := 0) (by kernel_rfl) (by kernel_rfl) (by kernel_rfl) (by kernel_rfl) (by decide) ki_OpOk_0 ?_
 intro ys r outs h
 unfold Fi_OpOk at h
 split at h
 ·exact (vi_OpOk _ _ _ _ _ _ _).trans h
 ·cases h
noncomputable def EZ53:Env where
 tt := mkTI Tryz.prog
 fn := fun f => match f with
  | 75 => some (msi_in,FSem.wk msi_in Fi_in)
  | _ => none
 bxf := fun _ => none
 mv := []
 keep := fun _ => []
 keepB := fun _ => []
 keepX := fun _ => []
 keepXB := fun _ => []
theorem goodFZ53:∀ f ms F,EZ53.fn f = some (ms,F) → Sound Tryz.prog f ms F := fun f ms F h => by
 unfold EZ53 at h
 dsimp only at h
 split at h
 ·exact gF si_in h
 ·cases h
theorem goodZ53:Good Tryz.prog EZ53 := ⟨rfl,goodFZ53,fun f ms F h => by cases h⟩
noncomputable def OZ53_0:Orc := fun _ _ => none
noncomputable def msZ53:List PM := [.own]
noncomputable def lsZ53:List (Nat×Code) := loopsAll 0 (Tryz.f126.body.getD .skip)
theorem kZ53_0:OrcOk EZ53 OZ53_0 lsZ53 0 := orcOk_none
noncomputable def g_AZ53 (a0:Int):Bool := g_Ai_in a0 (1:Int) (3:Int)
noncomputable def g_VZ53_0 (a0:Int):Bool := g_Vi_in_0 a0 (1:Int) (3:Int)
noncomputable def FZ53:FSem := fun ys => match ys with
 | [.val false [.int .i64 a0]] => some ((g_AZ53 a0),.val false [.bool (g_VZ53_0 a0)],[])
 | _ => none
theorem vZ53 (a0:Int):collapseH .std EZ53 OZ53_0 (execFn EZ53 Tryz.f126 msZ53 [.val false [.int .i64 a0]]) = some ((g_AZ53 a0),.val false [.bool (g_VZ53_0 a0)],[]) := by kernel_rfl
theorem sZ53:Sound Tryz.prog 126 msZ53 FZ53 := by
 refine fn_gen goodZ53 (by kernel_rfl) .std (fn := Tryz.f126) (c := (Tryz.f126.body.getD .skip)) (o := OZ53_0) (k := 0) (by kernel_rfl) (by kernel_rfl) (by kernel_rfl) (by kernel_rfl) (by decide) kZ53_0 ?_
 intro ys r outs h
 unfold FZ53 at h
 split at h
 ·exact (vZ53 _).trans h
 ·cases h
noncomputable def EZ41:Env where
 tt := mkTI Tryz.prog
 fn := fun f => match f with
  | 126 => some (msZ53,FSem.wk msZ53 FZ53)
  | _ => none
 bxf := fun _ => none
 mv := []
 keep := fun b => match b with
  | 0 => [(0,false),(5,false),(6,false),(7,false)]
  | _ => []
 keepB := fun b => match b with
  | 0 => []
  | _ => []
 keepX := fun b => match b with
  | 0 => [(2,false)]
  | _ => []
 keepXB := fun b => match b with
  | 0 => []
  | _ => []
theorem goodFZ41:∀ f ms F,EZ41.fn f = some (ms,F) → Sound Tryz.prog f ms F := fun f ms F h => by
 unfold EZ41 at h
 dsimp only at h
 split at h
 ·exact gF sZ53 h
 ·cases h
theorem goodZ41:Good Tryz.prog EZ41 := ⟨rfl,goodFZ41,fun f ms F h => by cases h⟩
noncomputable def OZ41_0:Orc := fun _ _ => none
noncomputable def msZ41:List PM := [.rd]
noncomputable def lsZ41:List (Nat×Code) := loopsAll 0 (Tryz.f97.body.getD .skip)
noncomputable def cZ41_0:Code := (loopOf 0 (Tryz.f97.body.getD .skip)).getD .skip
theorem lseqZ41:lsZ41 = [(0,cZ41_0)] := by kernel_rfl
theorem mZ41_0:∀ p,p ∈ lsZ41 → p.1 = 0 → p.2 = cZ41_0 := by
 intro p hp
 rw [lseqZ41] at hp
 simp only [List.mem_cons,List.not_mem_nil,or_false] at hp
 subst hp; simp
theorem kZ41_0:OrcOk EZ41 OZ41_0 lsZ41 0 := orcOk_none
noncomputable def hZ41_0 (y0:List Int) (y1:List Int) (y2:Int) (y3:Int):List (Pl×LV) := [(.T 0,.t (.val false [.sl .any 3 (.int .i64) y0])),(.T 5,.t (.val false [.sl .any 3 (.int .i64) y1])),(.T 6,.t (.val false [.int .i64 y2])),(.T 7,.t (.val false [.int .i64 y3]))]
noncomputable def g_SZ41_0 (y0:List Int) (y1:List Int) (y2:Int):(Int) → RT (Int) ((Bool) ⊕ (Unit))
 | y3 => .br (true) (.br (decide (y3 < y2)) (.br (decide (0 ≤ y3 ∧ y3 < (y1.length:Int))) (.br (g_AZ53 (at_ (.int .i64) y1 (Int.toNat y3))) (.br (!g_VZ53_0 (at_ (.int .i64) y1 (Int.toNat y3))) (.out (.inl false)) (.br (true) (.br (decide (y3 > 0)) (.br (true) (.br (decide (0 ≤ IntKind.i64.wrap (y3 - 1) ∧ IntKind.i64.wrap (y3 - 1) < (y0.length:Int))) (.br (true) (.br (decide (at_ (.int .i64) y1 (Int.toNat y3) ≤ at_ (.int .i64) y0 (Int.toNat (IntKind.i64.wrap (y3 - 1))))) (.out (.inl false)) (.br (true) (.go (IntKind.i64.wrap (y3 + 1))) .bad)) .bad) .bad) .bad) (.br (true) (.go (IntKind.i64.wrap (y3 + 1))) .bad)) .bad)) .bad) .bad) (.out (.inr (())))) .bad
noncomputable def g_LZ41_0 (y0:List Int) (y1:List Int) (y2:Int) (x:Int):Option ((Bool) ⊕ (Unit)) := loopO (g_SZ41_0 y0 y1 y2) x
noncomputable def xZ41_0 (y0:List Int) (y1:List Int) (y2:Int):((Bool) ⊕ (Unit)) → Ex×List (Pl×LV) := fun
 | .inl r => (.ret,[(.T 2,.t (.val false [.bool r]))])
 | .inr (r) => (.exit 0,[(.T 2,.t (.val false [.undef]))])
noncomputable def OZ41_1:Orc := fun b h => match b,h with
 | 0,[(.T 0,.t (.val false [.sl .any 3 (.int .i64) y0])),(.T 5,.t (.val false [.sl .any 3 (.int .i64) y1])),(.T 6,.t (.val false [.int .i64 y2])),(.T 7,.t (.val false [.int .i64 y3]))] => some (okO (g_LZ41_0 y0 y1 y2 y3),(.br (isL (valO (g_LZ41_0 y0 y1 y2 y3))) (.leaf .ret [(.T 2,.t (.val false [.bool (getL (valO (g_LZ41_0 y0 y1 y2 y3)))]))]) (.leaf (.exit 0) [(.T 2,.t (.val false [.undef]))])))
 | b,h => OZ41_0 b h
theorem bZ41_0 (y0:List Int) (y1:List Int) (y2:Int) (y3:Int):Tr.bt EZ41 OZ41_0 (exec EZ41 0 cZ41_0 (St.of (hZ41_0 y0 y1 y2 y3)) (leafRd EZ41 0)) = (g_SZ41_0 y0 y1 y2 y3).bt (fun (y3:Int) => (hZ41_0 y0 y1 y2 y3)) (xZ41_0 y0 y1 y2) := by kernel_rfl
theorem kZ41_1:OrcOk EZ41 OZ41_1 lsZ41 1 := orc_add kZ41_0 (fun n p hp h ex h' ho => by
 obtain ⟨b,c⟩ := p
 obtain ⟨xt,h1,h2⟩ := ho
 have h1:OZ41_1 b h = some (true,xt) := h1
 unfold OZ41_1 at h1
 split at h1
 ·injection h1 with h1
  injection h1 with e1 e2
  subst e2
  have hc:c = cZ41_0 := mZ41_0 _ hp rfl
  subst hc
  right
  rename_i y0 y1 y2 y3
  have key := LT_step kZ41_0 hp (fun q hq => loopsAll_in _ _ _ _ hp hq) (fun (y3:Int) => (hZ41_0 y0 y1 y2 y3)) (xZ41_0 y0 y1 y2) (g_SZ41_0 y0 y1 y2) (fun x => by first | exact bZ41_0 y0 y1 y2 x) n (x := y3) (okO_some e1)
  have hx:∀ r,XT.sel (.br (isL r) (.leaf .ret [(.T 2,.t (.val false [.bool (getL r)]))]) (.leaf (.exit 0) [(.T 2,.t (.val false [.undef]))])) = xZ41_0 y0 y1 y2 r := fun r => by first | rfl | rcases r with r | r <;> rfl | rcases r with r | r | r <;> rfl | rcases r with r | r | r | r <;> rfl
  have h3 := (hx (valO (g_LZ41_0 y0 y1 y2 y3))).symm.trans h2
  have e3 := congrArg Prod.fst h3
  have e4 := congrArg Prod.snd h3
  simp only at e3 e4
  rw [← e3,← e4]
  exact key
 ·exact .inl ⟨xt,h1,h2⟩)
noncomputable def g_AZ41 (a0:List Int):Bool := okO (g_LZ41_0 a0 a0 (a0.length:Int) (0:Int))
noncomputable def g_VZ41_0 (a0:List Int):Bool := bif isL (valO (g_LZ41_0 a0 a0 (a0.length:Int) (0:Int))) then getL (valO (g_LZ41_0 a0 a0 (a0.length:Int) (0:Int))) else true
noncomputable def FZ41:FSem := fun ys => match ys with
 | [.val false [.sl .any 3 (.int .i64) a0]] => some ((g_AZ41 a0),.val false [.bool (g_VZ41_0 a0)],[])
 | _ => none
theorem vZ41 (a0:List Int):collapseH .std EZ41 OZ41_1 (execFn EZ41 Tryz.f97 msZ41 [.val false [.sl .any 3 (.int .i64) a0]]) = some ((g_AZ41 a0),.val false [.bool (g_VZ41_0 a0)],[]) := by kernel_rfl
theorem sZ41:Sound Tryz.prog 97 msZ41 FZ41 := by
 refine fn_gen goodZ41 (by kernel_rfl) .std (fn := Tryz.f97) (c := (Tryz.f97.body.getD .skip)) (o := OZ41_1) (k := 1) (by kernel_rfl) (by kernel_rfl) (by kernel_rfl) (by kernel_rfl) (by decide) kZ41_1 ?_
 intro ys r outs h
 unfold FZ41 at h
 split at h
 ·exact (vZ41 _).trans h
 ·cases h
noncomputable def Ei_FroOk_1:Env where
 tt := mkTI Tryz.prog
 fn := fun _ => none
 bxf := fun _ => none
 mv := []
 keep := fun _ => []
 keepB := fun _ => []
 keepX := fun _ => []
 keepXB := fun _ => []
theorem goodFi_FroOk_1:∀ f ms F,Ei_FroOk_1.fn f = some (ms,F) → Sound Tryz.prog f ms F := fun f ms F h => by cases h
theorem goodi_FroOk_1:Good Tryz.prog Ei_FroOk_1 := ⟨rfl,goodFi_FroOk_1,fun f ms F h => by cases h⟩
noncomputable def Oi_FroOk_1_0:Orc := fun _ _ => none
noncomputable def msi_FroOk_1:List PM := [.rd]
noncomputable def lsi_FroOk_1:List (Nat×Code) := loopsAll 0 (Tryz.f95.body.getD .skip)
theorem ki_FroOk_1_0:OrcOk Ei_FroOk_1 Oi_FroOk_1_0 lsi_FroOk_1 0 := orcOk_none
noncomputable def g_Ai_FroOk_1 (a0:Int) (a1:Int) (a2:List ByteArray) (a3:tL3):Bool := !a0 != 2 || true
noncomputable def g_Vi_FroOk_1_0 (a0:Int) (a1:Int) (a2:List ByteArray) (a3:tL3):Bool := bif a0 != 2 then a0 != 4 else false
noncomputable def Fi_FroOk_1:FSem := fun ys => match ys with
 | [.val true [.int .i64 a0,.int .i64 a1,.sl .any 9 .str a2,.sl .any 155 (.pair .str (.pair .bool (.sl 3 (.int .i64)))) a3]] => some ((g_Ai_FroOk_1 a0 a1 a2 a3),.val false [.bool (g_Vi_FroOk_1_0 a0 a1 a2 a3)],[])
 | _ => none
theorem vi_FroOk_1 (a0:Int) (a1:Int) (a2:List ByteArray) (a3:tL3):collapseH .std Ei_FroOk_1 Oi_FroOk_1_0 (execFn Ei_FroOk_1 Tryz.f95 msi_FroOk_1 [.val true [.int .i64 a0,.int .i64 a1,.sl .any 9 .str a2,.sl .any 155 (.pair .str (.pair .bool (.sl 3 (.int .i64)))) a3]]) = some ((g_Ai_FroOk_1 a0 a1 a2 a3),.val false [.bool (g_Vi_FroOk_1_0 a0 a1 a2 a3)],[]) := by kernel_rfl
theorem si_FroOk_1:Sound Tryz.prog 95 msi_FroOk_1 Fi_FroOk_1 := by
 refine fn_gen goodi_FroOk_1 (by kernel_rfl) .std (fn := Tryz.f95) (c := (Tryz.f95.body.getD .skip)) (o := Oi_FroOk_1_0) (k := 0) (by kernel_rfl) (by kernel_rfl) (by kernel_rfl) (by kernel_rfl) (by decide) ki_FroOk_1_0 ?_
 intro ys r outs h
 unfold Fi_FroOk_1 at h
 split at h
 ·exact (vi_FroOk_1 _ _ _ _).trans h
 ·cases h
noncomputable def EZ6:Env where
 tt := mkTI Tryz.prog
 fn := fun f => match f with
  | 95 => some (msi_FroOk_1,FSem.wk msi_FroOk_1 Fi_FroOk_1)
  | _ => none
 bxf := fun _ => none
 mv := []
 keep := fun b => match b with
  | 0 => [(0,false),(1,false),(7,false),(8,false)]
  | _ => []
 keepB := fun b => match b with
  | 0 => []
  | _ => []
 keepX := fun b => match b with
  | 0 => [(4,false)]
  | _ => []
 keepXB := fun b => match b with
  | 0 => []
  | _ => []
theorem goodFZ6:∀ f ms F,EZ6.fn f = some (ms,F) → Sound Tryz.prog f ms F := fun f ms F h => by
 unfold EZ6 at h
 dsimp only at h
 split at h
 ·exact gF si_FroOk_1 h
 ·cases h
theorem goodZ6:Good Tryz.prog EZ6 := ⟨rfl,goodFZ6,fun f ms F h => by cases h⟩
noncomputable def OZ6_0:Orc := fun _ _ => none
noncomputable def msZ6:List PM := [.rd,.rd]
noncomputable def lsZ6:List (Nat×Code) := loopsAll 0 (Tryz.f110.body.getD .skip)
noncomputable def cZ6_0:Code := (loopOf 0 (Tryz.f110.body.getD .skip)).getD .skip
theorem lseqZ6:lsZ6 = [(0,cZ6_0)] := by kernel_rfl
theorem mZ6_0:∀ p,p ∈ lsZ6 → p.1 = 0 → p.2 = cZ6_0 := by
 intro p hp
 rw [lseqZ6] at hp
 simp only [List.mem_cons,List.not_mem_nil,or_false] at hp
 subst hp; simp
theorem kZ6_0:OrcOk EZ6 OZ6_0 lsZ6 0 := orcOk_none
noncomputable def hZ6_0 (y0:tL1) (y1:Int) (y2:Int):List (Pl×LV) := [(.T 0,.t (.val false [.sl .any 92 (.pair (.int .i64) (.pair (.int .i64) (.pair (.sl 9 .str) (.sl 155 (.pair .str (.pair .bool (.sl 3 (.int .i64)))))))) y0])),(.T 1,.t (.val false [.fn 95 []])),(.T 7,.t (.val false [.int .i64 y1])),(.T 8,.t (.val false [.int .i64 y2]))]
noncomputable def g_SZ6_0 (y0:tL1) (y1:Int):(Int) → RT (Int) ((Int) ⊕ (Unit))
 | y2 => .br (true) (.br (decide (y2 < y1)) (.br (decide (0 ≤ y2 ∧ y2 < (y0.length:Int))) (.br (g_Ai_FroOk_1 (at_ yT1 y0 (Int.toNat y2)).1 (at_ yT1 y0 (Int.toNat y2)).2.1 (at_ yT1 y0 (Int.toNat y2)).2.2.1 (at_ yT1 y0 (Int.toNat y2)).2.2.2) (.br (g_Vi_FroOk_1_0 (at_ yT1 y0 (Int.toNat y2)).1 (at_ yT1 y0 (Int.toNat y2)).2.1 (at_ yT1 y0 (Int.toNat y2)).2.2.1 (at_ yT1 y0 (Int.toNat y2)).2.2.2) (.out (.inl y2)) (.br (true) (.go (IntKind.i64.wrap (y2 + 1))) .bad)) .bad) .bad) (.out (.inr (())))) .bad
noncomputable def g_LZ6_0 (y0:tL1) (y1:Int) (x:Int):Option ((Int) ⊕ (Unit)) := loopO (g_SZ6_0 y0 y1) x
noncomputable def xZ6_0 (y0:tL1) (y1:Int):((Int) ⊕ (Unit)) → Ex×List (Pl×LV) := fun
 | .inl r => (.ret,[(.T 4,.t (.val false [.int .i64 r]))])
 | .inr (r) => (.exit 0,[(.T 4,.t (.val false [.undef]))])
noncomputable def OZ6_1:Orc := fun b h => match b,h with
 | 0,[(.T 0,.t (.val false [.sl .any 92 (.pair (.int .i64) (.pair (.int .i64) (.pair (.sl 9 .str) (.sl 155 (.pair .str (.pair .bool (.sl 3 (.int .i64)))))))) y0])),(.T 1,.t (.val false [.fn 95 []])),(.T 7,.t (.val false [.int .i64 y1])),(.T 8,.t (.val false [.int .i64 y2]))] => some (okO (g_LZ6_0 y0 y1 y2),(.br (isL (valO (g_LZ6_0 y0 y1 y2))) (.leaf .ret [(.T 4,.t (.val false [.int .i64 (getL (valO (g_LZ6_0 y0 y1 y2)))]))]) (.leaf (.exit 0) [(.T 4,.t (.val false [.undef]))])))
 | b,h => OZ6_0 b h
theorem bZ6_0 (y0:tL1) (y1:Int) (y2:Int):Tr.bt EZ6 OZ6_0 (exec EZ6 0 cZ6_0 (St.of (hZ6_0 y0 y1 y2)) (leafRd EZ6 0)) = (g_SZ6_0 y0 y1 y2).bt (fun (y2:Int) => (hZ6_0 y0 y1 y2)) (xZ6_0 y0 y1) := by kernel_rfl
theorem kZ6_1:OrcOk EZ6 OZ6_1 lsZ6 1 := orc_add kZ6_0 (fun n p hp h ex h' ho => by
 obtain ⟨b,c⟩ := p
 obtain ⟨xt,h1,h2⟩ := ho
 have h1:OZ6_1 b h = some (true,xt) := h1
 unfold OZ6_1 at h1
 split at h1
 ·injection h1 with h1
  injection h1 with e1 e2
  subst e2
  have hc:c = cZ6_0 := mZ6_0 _ hp rfl
  subst hc
  right
  rename_i y0 y1 y2
  have key := LT_step kZ6_0 hp (fun q hq => loopsAll_in _ _ _ _ hp hq) (fun (y2:Int) => (hZ6_0 y0 y1 y2)) (xZ6_0 y0 y1) (g_SZ6_0 y0 y1) (fun x => by first | exact bZ6_0 y0 y1 x) n (x := y2) (okO_some e1)
  have hx:∀ r,XT.sel (.br (isL r) (.leaf .ret [(.T 4,.t (.val false [.int .i64 (getL r)]))]) (.leaf (.exit 0) [(.T 4,.t (.val false [.undef]))])) = xZ6_0 y0 y1 r := fun r => by first | rfl | rcases r with r | r <;> rfl | rcases r with r | r | r <;> rfl | rcases r with r | r | r | r <;> rfl
  have h3 := (hx (valO (g_LZ6_0 y0 y1 y2))).symm.trans h2
  have e3 := congrArg Prod.fst h3
  have e4 := congrArg Prod.snd h3
  simp only at e3 e4
  rw [← e3,← e4]
  exact key
 ·exact .inl ⟨xt,h1,h2⟩)
noncomputable def g_AZ6 (a0:tL1):Bool := okO (g_LZ6_0 a0 (a0.length:Int) (0:Int))
noncomputable def g_VZ6_0 (a0:tL1):Int := bif isL (valO (g_LZ6_0 a0 (a0.length:Int) (0:Int))) then getL (valO (g_LZ6_0 a0 (a0.length:Int) (0:Int))) else (-1:Int)
noncomputable def FZ6:FSem := fun ys => match ys with
 | [.val false [.sl .any 92 (.pair (.int .i64) (.pair (.int .i64) (.pair (.sl 9 .str) (.sl 155 (.pair .str (.pair .bool (.sl 3 (.int .i64)))))))) a0],.val false [.fn 95 []]] => some ((g_AZ6 a0),.val false [.int .i64 (g_VZ6_0 a0)],[])
 | _ => none
theorem vZ6 (a0:tL1):collapseH .std EZ6 OZ6_1 (execFn EZ6 Tryz.f110 msZ6 [.val false [.sl .any 92 (.pair (.int .i64) (.pair (.int .i64) (.pair (.sl 9 .str) (.sl 155 (.pair .str (.pair .bool (.sl 3 (.int .i64)))))))) a0],.val false [.fn 95 []]]) = some ((g_AZ6 a0),.val false [.int .i64 (g_VZ6_0 a0)],[]) := by kernel_rfl
theorem sZ6:Sound Tryz.prog 110 msZ6 FZ6 := by
 refine fn_gen goodZ6 (by kernel_rfl) .std (fn := Tryz.f110) (c := (Tryz.f110.body.getD .skip)) (o := OZ6_1) (k := 1) (by kernel_rfl) (by kernel_rfl) (by kernel_rfl) (by kernel_rfl) (by decide) kZ6_1 ?_
 intro ys r outs h
 unfold FZ6 at h
 split at h
 ·exact (vZ6 _).trans h
 ·cases h
noncomputable def EZ4:Env where
 tt := mkTI Tryz.prog
 fn := fun f => match f with
  | 95 => some (msi_FroOk_1,FSem.wk msi_FroOk_1 Fi_FroOk_1)
  | 110 => some (msZ6,FSem.wk msZ6 FZ6)
  | _ => none
 bxf := fun _ => none
 mv := []
 keep := fun _ => []
 keepB := fun _ => []
 keepX := fun _ => []
 keepXB := fun _ => []
theorem goodFZ4:∀ f ms F,EZ4.fn f = some (ms,F) → Sound Tryz.prog f ms F := fun f ms F h => by
 unfold EZ4 at h
 dsimp only at h
 split at h
 ·exact gF si_FroOk_1 h
 ·exact gF sZ6 h
 ·cases h
theorem goodZ4:Good Tryz.prog EZ4 := ⟨rfl,goodFZ4,fun f ms F h => by cases h⟩
noncomputable def OZ4_0:Orc := fun _ _ => none
noncomputable def msZ4:List PM := [.rd,.rd]
noncomputable def lsZ4:List (Nat×Code) := loopsAll 0 (Tryz.f50.body.getD .skip)
theorem kZ4_0:OrcOk EZ4 OZ4_0 lsZ4 0 := orcOk_none
noncomputable def g_AZ4 (a0:tL1):Bool := g_AZ6 a0&&true
noncomputable def g_VZ4_0 (a0:tL1):Bool := decide (g_VZ6_0 a0 ≥ 0)
noncomputable def FZ4:FSem := fun ys => match ys with
 | [.val false [.sl .any 92 (.pair (.int .i64) (.pair (.int .i64) (.pair (.sl 9 .str) (.sl 155 (.pair .str (.pair .bool (.sl 3 (.int .i64)))))))) a0],.val false [.fn 95 []]] => some ((g_AZ4 a0),.val false [.bool (g_VZ4_0 a0)],[])
 | _ => none
theorem vZ4 (a0:tL1):collapseH .std EZ4 OZ4_0 (execFn EZ4 Tryz.f50 msZ4 [.val false [.sl .any 92 (.pair (.int .i64) (.pair (.int .i64) (.pair (.sl 9 .str) (.sl 155 (.pair .str (.pair .bool (.sl 3 (.int .i64)))))))) a0],.val false [.fn 95 []]]) = some ((g_AZ4 a0),.val false [.bool (g_VZ4_0 a0)],[]) := by kernel_rfl
theorem sZ4:Sound Tryz.prog 50 msZ4 FZ4 := by
 refine fn_gen goodZ4 (by kernel_rfl) .std (fn := Tryz.f50) (c := (Tryz.f50.body.getD .skip)) (o := OZ4_0) (k := 0) (by kernel_rfl) (by kernel_rfl) (by kernel_rfl) (by kernel_rfl) (by decide) kZ4_0 ?_
 intro ys r outs h
 unfold FZ4 at h
 split at h
 ·exact (vZ4 _).trans h
 ·cases h
noncomputable def Ei_FroOk:Env where
 tt := mkTI Tryz.prog
 fn := fun f => match f with
  | 50 => some (msZ4,FSem.wk msZ4 FZ4)
  | 52 => some (msZ40,FSem.wk msZ40 FZ40)
  | 58 => some (msi_OpOk,FSem.wk msi_OpOk Fi_OpOk)
  | 59 => some (msi_isTx,FSem.wk msi_isTx Fi_isTx)
  | 96 => some (msi_DiskOk,FSem.wk msi_DiskOk Fi_DiskOk)
  | 97 => some (msZ41,FSem.wk msZ41 FZ41)
  | _ => none
 bxf := fun _ => none
 mv := []
 keep := fun b => match b with
  | 0 => [(1,false),(24,false),(25,false),(26,false)]
  | _ => []
 keepB := fun b => match b with
  | 0 => [(1,false)]
  | _ => []
 keepX := fun b => match b with
  | 0 => [(2,false)]
  | _ => []
 keepXB := fun b => match b with
  | 0 => []
  | _ => []
theorem goodFi_FroOk:∀ f ms F,Ei_FroOk.fn f = some (ms,F) → Sound Tryz.prog f ms F := fun f ms F h => by
 unfold Ei_FroOk at h
 dsimp only at h
 split at h
 ·exact gF sZ4 h
 ·exact gF sZ40 h
 ·exact gF si_OpOk h
 ·exact gF si_isTx h
 ·exact gF si_DiskOk h
 ·exact gF sZ41 h
 ·cases h
theorem goodi_FroOk:Good Tryz.prog Ei_FroOk := ⟨rfl,goodFi_FroOk,fun f ms F h => by cases h⟩
noncomputable def Oi_FroOk_0:Orc := fun _ _ => none
noncomputable def msi_FroOk:List PM := [.rd]
noncomputable def lsi_FroOk:List (Nat×Code) := loopsAll 0 (Tryz.f36.body.getD .skip)
noncomputable def ci_FroOk_0:Code := (loopOf 0 (Tryz.f36.body.getD .skip)).getD .skip
theorem lseqi_FroOk:lsi_FroOk = [(0,ci_FroOk_0)] := by kernel_rfl
theorem mi_FroOk_0:∀ p,p ∈ lsi_FroOk → p.1 = 0 → p.2 = ci_FroOk_0 := by
 intro p hp
 rw [lseqi_FroOk] at hp
 simp only [List.mem_cons,List.not_mem_nil,or_false] at hp
 subst hp; simp
theorem ki_FroOk_0:OrcOk Ei_FroOk Oi_FroOk_0 lsi_FroOk 0 := orcOk_none
noncomputable def hi_FroOk_0 (y0:tL0) (y1:Int) (y2:Int) (y3:tL1) (y4:Int) (y5:tL0):List (Pl×LV) := [(.T 1,.t (.val false [.ptr 1 0 0])),(.T 24,.t (.val false [.sl .any 73 (.pair (.int .i64) (.pair (.pair (.int .i64) (.pair (.int .i64) (.pair (.int .i64) (.pair (.int .i64) (.pair (.int .i64) (.pair (.int .i64) (.int .i64))))))) (.pair .bool (.pair (.sl 3 (.int .i64)) (.sl 3 (.int .i64)))))) y0])),(.T 25,.t (.val false [.int .i64 y1])),(.T 26,.t (.val false [.int .i64 y2])),(.B 1,.b 0 false [.sl .any 92 (.pair (.int .i64) (.pair (.int .i64) (.pair (.sl 9 .str) (.sl 155 (.pair .str (.pair .bool (.sl 3 (.int .i64)))))))) y3,.int .i64 y4,.sl .any 73 (.pair (.int .i64) (.pair (.pair (.int .i64) (.pair (.int .i64) (.pair (.int .i64) (.pair (.int .i64) (.pair (.int .i64) (.pair (.int .i64) (.int .i64))))))) (.pair .bool (.pair (.sl 3 (.int .i64)) (.sl 3 (.int .i64)))))) y5])]
noncomputable def g_Si_FroOk_0 (y0:tL0) (y1:Int) (y3:tL1) (y4:Int) (y5:tL0):(Int) → RT (Int) ((Bool) ⊕ (Unit))
 | y2 => .br (true) (.br (decide (y2 < y1)) (.br (decide (0 ≤ y2 ∧ y2 < (y0.length:Int))) (.br (g_Ai_isTx (at_ yT0 y0 (Int.toNat y2)).1) (.br (!g_Vi_isTx_0 (at_ yT0 y0 (Int.toNat y2)).1) (.out (.inl false)) (.br (true) (.br (decide (y2 > 0)) (.br (true) (.br (decide (0 ≤ IntKind.i64.wrap (y2 - 1) ∧ IntKind.i64.wrap (y2 - 1) < (y5.length:Int))) (.br (true) (.br (decide ((at_ yT0 y0 (Int.toNat y2)).1 ≤ (at_ yT0 y5 (Int.toNat (IntKind.i64.wrap (y2 - 1)))).1)) (.out (.inl false)) (.br (g_AZ41 (at_ yT0 y0 (Int.toNat y2)).2.2.2.1) (.br (!g_VZ41_0 (at_ yT0 y0 (Int.toNat y2)).2.2.2.1) (.out (.inl false)) (.br (g_AZ41 (at_ yT0 y0 (Int.toNat y2)).2.2.2.2) (.br (!g_VZ41_0 (at_ yT0 y0 (Int.toNat y2)).2.2.2.2) (.out (.inl false)) (.br (g_AZ40 y3) (.br (true) (.br (!(at_ yT0 y0 (Int.toNat y2)).2.2.1 == (g_VZ40_0 y3 (at_ yT0 y0 (Int.toNat y2)).1 == 2)) (.out (.inl false)) (.br (!(at_ yT0 y0 (Int.toNat y2)).2.2.1) (.br (g_Ai_OpOk (at_ yT0 y0 (Int.toNat y2)).2.1.1 (at_ yT0 y0 (Int.toNat y2)).2.1.2.1 (at_ yT0 y0 (Int.toNat y2)).2.1.2.2.1 (at_ yT0 y0 (Int.toNat y2)).2.1.2.2.2.1 (at_ yT0 y0 (Int.toNat y2)).2.1.2.2.2.2.1 (at_ yT0 y0 (Int.toNat y2)).2.1.2.2.2.2.2.1 (at_ yT0 y0 (Int.toNat y2)).2.1.2.2.2.2.2.2) (.br (!g_Vi_OpOk_0 (at_ yT0 y0 (Int.toNat y2)).2.1.1 (at_ yT0 y0 (Int.toNat y2)).2.1.2.1 (at_ yT0 y0 (Int.toNat y2)).2.1.2.2.1 (at_ yT0 y0 (Int.toNat y2)).2.1.2.2.2.1 (at_ yT0 y0 (Int.toNat y2)).2.1.2.2.2.2.1 (at_ yT0 y0 (Int.toNat y2)).2.1.2.2.2.2.2.1 (at_ yT0 y0 (Int.toNat y2)).2.1.2.2.2.2.2.2) (.out (.inl false)) (.br (true) (.br (decide ((↑(List.length (at_ yT0 y0 (Int.toNat y2)).2.2.2.2):Int) > 0)) (.out (.inl false)) (.br (true) (.go (IntKind.i64.wrap (y2 + 1))) .bad)) .bad)) .bad) (.br (true) (.go (IntKind.i64.wrap (y2 + 1))) .bad))) .bad) .bad)) .bad)) .bad)) .bad) .bad) .bad) (.br (g_AZ41 (at_ yT0 y0 (Int.toNat y2)).2.2.2.1) (.br (!g_VZ41_0 (at_ yT0 y0 (Int.toNat y2)).2.2.2.1) (.out (.inl false)) (.br (g_AZ41 (at_ yT0 y0 (Int.toNat y2)).2.2.2.2) (.br (!g_VZ41_0 (at_ yT0 y0 (Int.toNat y2)).2.2.2.2) (.out (.inl false)) (.br (g_AZ40 y3) (.br (true) (.br (!(at_ yT0 y0 (Int.toNat y2)).2.2.1 == (g_VZ40_0 y3 (at_ yT0 y0 (Int.toNat y2)).1 == 2)) (.out (.inl false)) (.br (!(at_ yT0 y0 (Int.toNat y2)).2.2.1) (.br (g_Ai_OpOk (at_ yT0 y0 (Int.toNat y2)).2.1.1 (at_ yT0 y0 (Int.toNat y2)).2.1.2.1 (at_ yT0 y0 (Int.toNat y2)).2.1.2.2.1 (at_ yT0 y0 (Int.toNat y2)).2.1.2.2.2.1 (at_ yT0 y0 (Int.toNat y2)).2.1.2.2.2.2.1 (at_ yT0 y0 (Int.toNat y2)).2.1.2.2.2.2.2.1 (at_ yT0 y0 (Int.toNat y2)).2.1.2.2.2.2.2.2) (.br (!g_Vi_OpOk_0 (at_ yT0 y0 (Int.toNat y2)).2.1.1 (at_ yT0 y0 (Int.toNat y2)).2.1.2.1 (at_ yT0 y0 (Int.toNat y2)).2.1.2.2.1 (at_ yT0 y0 (Int.toNat y2)).2.1.2.2.2.1 (at_ yT0 y0 (Int.toNat y2)).2.1.2.2.2.2.1 (at_ yT0 y0 (Int.toNat y2)).2.1.2.2.2.2.2.1 (at_ yT0 y0 (Int.toNat y2)).2.1.2.2.2.2.2.2) (.out (.inl false)) (.br (true) (.br (decide ((↑(List.length (at_ yT0 y0 (Int.toNat y2)).2.2.2.2):Int) > 0)) (.out (.inl false)) (.br (true) (.go (IntKind.i64.wrap (y2 + 1))) .bad)) .bad)) .bad) (.br (true) (.go (IntKind.i64.wrap (y2 + 1))) .bad))) .bad) .bad)) .bad)) .bad)) .bad)) .bad) .bad) (.out (.inr (())))) .bad
noncomputable def g_Li_FroOk_0 (y0:tL0) (y1:Int) (y3:tL1) (y4:Int) (y5:tL0) (x:Int):Option ((Bool) ⊕ (Unit)) := loopO (g_Si_FroOk_0 y0 y1 y3 y4 y5) x
noncomputable def xi_FroOk_0 (y0:tL0) (y1:Int) (y3:tL1) (y4:Int) (y5:tL0):((Bool) ⊕ (Unit)) → Ex×List (Pl×LV) := fun
 | .inl r => (.ret,[(.T 2,.t (.val false [.bool r]))])
 | .inr (r) => (.exit 0,[(.T 2,.t (.val false [.undef]))])
noncomputable def Oi_FroOk_1:Orc := fun b h => match b,h with
 | 0,[(.T 1,.t (.val false [.ptr 1 0 0])),(.T 24,.t (.val false [.sl .any 73 (.pair (.int .i64) (.pair (.pair (.int .i64) (.pair (.int .i64) (.pair (.int .i64) (.pair (.int .i64) (.pair (.int .i64) (.pair (.int .i64) (.int .i64))))))) (.pair .bool (.pair (.sl 3 (.int .i64)) (.sl 3 (.int .i64)))))) y0])),(.T 25,.t (.val false [.int .i64 y1])),(.T 26,.t (.val false [.int .i64 y2])),(.B 1,.b 0 false [.sl .any 92 (.pair (.int .i64) (.pair (.int .i64) (.pair (.sl 9 .str) (.sl 155 (.pair .str (.pair .bool (.sl 3 (.int .i64)))))))) y3,.int .i64 y4,.sl .any 73 (.pair (.int .i64) (.pair (.pair (.int .i64) (.pair (.int .i64) (.pair (.int .i64) (.pair (.int .i64) (.pair (.int .i64) (.pair (.int .i64) (.int .i64))))))) (.pair .bool (.pair (.sl 3 (.int .i64)) (.sl 3 (.int .i64)))))) y5])] => some (okO (g_Li_FroOk_0 y0 y1 y3 y4 y5 y2),(.br (isL (valO (g_Li_FroOk_0 y0 y1 y3 y4 y5 y2))) (.leaf .ret [(.T 2,.t (.val false [.bool (getL (valO (g_Li_FroOk_0 y0 y1 y3 y4 y5 y2)))]))]) (.leaf (.exit 0) [(.T 2,.t (.val false [.undef]))])))
 | b,h => Oi_FroOk_0 b h
theorem bi_FroOk_0 (y0:tL0) (y1:Int) (y2:Int) (y3:tL1) (y4:Int) (y5:tL0):Tr.bt Ei_FroOk Oi_FroOk_0 (exec Ei_FroOk 0 ci_FroOk_0 (St.of (hi_FroOk_0 y0 y1 y2 y3 y4 y5)) (leafRd Ei_FroOk 0)) = (g_Si_FroOk_0 y0 y1 y3 y4 y5 y2).bt (fun (y2:Int) => (hi_FroOk_0 y0 y1 y2 y3 y4 y5)) (xi_FroOk_0 y0 y1 y3 y4 y5) := by kernel_rfl
theorem ki_FroOk_1:OrcOk Ei_FroOk Oi_FroOk_1 lsi_FroOk 1 := orc_add ki_FroOk_0 (fun n p hp h ex h' ho => by
 obtain ⟨b,c⟩ := p
 obtain ⟨xt,h1,h2⟩ := ho
 have h1:Oi_FroOk_1 b h = some (true,xt) := h1
 unfold Oi_FroOk_1 at h1
 split at h1
 ·injection h1 with h1
  injection h1 with e1 e2
  subst e2
  have hc:c = ci_FroOk_0 := mi_FroOk_0 _ hp rfl
  subst hc
  right
  rename_i y0 y1 y2 y3 y4 y5
  have key := LT_step ki_FroOk_0 hp (fun q hq => loopsAll_in _ _ _ _ hp hq) (fun (y2:Int) => (hi_FroOk_0 y0 y1 y2 y3 y4 y5)) (xi_FroOk_0 y0 y1 y3 y4 y5) (g_Si_FroOk_0 y0 y1 y3 y4 y5) (fun x => by first | exact bi_FroOk_0 y0 y1 x y3 y4 y5) n (x := y2) (okO_some e1)
  have hx:∀ r,XT.sel (.br (isL r) (.leaf .ret [(.T 2,.t (.val false [.bool (getL r)]))]) (.leaf (.exit 0) [(.T 2,.t (.val false [.undef]))])) = xi_FroOk_0 y0 y1 y3 y4 y5 r := fun r => by first | rfl | rcases r with r | r <;> rfl | rcases r with r | r | r <;> rfl | rcases r with r | r | r | r <;> rfl
  have h3 := (hx (valO (g_Li_FroOk_0 y0 y1 y3 y4 y5 y2))).symm.trans h2
  have e3 := congrArg Prod.fst h3
  have e4 := congrArg Prod.snd h3
  simp only at e3 e4
  rw [← e3,← e4]
  exact key
 ·exact .inl ⟨xt,h1,h2⟩)
noncomputable def g_Ai_FroOk (a0:tL1) (a1:Int) (a2:tL0):Bool := g_Ai_DiskOk a0 a1&&(!g_Vi_DiskOk_0 a0 a1 || g_AZ4 a0&&(g_VZ4_0 a0 || (decide ((a2.length:Int) > 30) || okO (g_Li_FroOk_0 a2 (a2.length:Int) a0 a1 a2 (0:Int)))))
noncomputable def g_Vi_FroOk_0 (a0:tL1) (a1:Int) (a2:tL0):Bool := bif !g_Vi_DiskOk_0 a0 a1 then false else bif g_VZ4_0 a0 then false else bif decide ((a2.length:Int) > 30) then false else bif isL (valO (g_Li_FroOk_0 a2 (a2.length:Int) a0 a1 a2 (0:Int))) then getL (valO (g_Li_FroOk_0 a2 (a2.length:Int) a0 a1 a2 (0:Int))) else true
noncomputable def Fi_FroOk:FSem := fun ys => match ys with
 | [.val true [.sl .any 92 (.pair (.int .i64) (.pair (.int .i64) (.pair (.sl 9 .str) (.sl 155 (.pair .str (.pair .bool (.sl 3 (.int .i64)))))))) a0,.int .i64 a1,.sl .any 73 (.pair (.int .i64) (.pair (.pair (.int .i64) (.pair (.int .i64) (.pair (.int .i64) (.pair (.int .i64) (.pair (.int .i64) (.pair (.int .i64) (.int .i64))))))) (.pair .bool (.pair (.sl 3 (.int .i64)) (.sl 3 (.int .i64)))))) a2]] => some ((g_Ai_FroOk a0 a1 a2),.val false [.bool (g_Vi_FroOk_0 a0 a1 a2)],[])
 | _ => none
theorem vi_FroOk (a0:tL1) (a1:Int) (a2:tL0):collapseH .std Ei_FroOk Oi_FroOk_1 (execFn Ei_FroOk Tryz.f36 msi_FroOk [.val true [.sl .any 92 (.pair (.int .i64) (.pair (.int .i64) (.pair (.sl 9 .str) (.sl 155 (.pair .str (.pair .bool (.sl 3 (.int .i64)))))))) a0,.int .i64 a1,.sl .any 73 (.pair (.int .i64) (.pair (.pair (.int .i64) (.pair (.int .i64) (.pair (.int .i64) (.pair (.int .i64) (.pair (.int .i64) (.pair (.int .i64) (.int .i64))))))) (.pair .bool (.pair (.sl 3 (.int .i64)) (.sl 3 (.int .i64)))))) a2]]) = some ((g_Ai_FroOk a0 a1 a2),.val false [.bool (g_Vi_FroOk_0 a0 a1 a2)],[]) := by kernel_rfl
theorem si_FroOk:Sound Tryz.prog 36 msi_FroOk Fi_FroOk := by
 refine fn_gen goodi_FroOk (by kernel_rfl) .std (fn := Tryz.f36) (c := (Tryz.f36.body.getD .skip)) (o := Oi_FroOk_1) (k := 1) (by kernel_rfl) (by kernel_rfl) (by kernel_rfl) (by kernel_rfl) (by decide) ki_FroOk_1 ?_
 intro ys r outs h
 unfold Fi_FroOk at h
 split at h
 ·exact (vi_FroOk _ _ _).trans h
 ·cases h
noncomputable def EZ19:Env where
 tt := mkTI Tryz.prog
 fn := fun _ => none
 bxf := fun _ => none
 mv := []
 keep := fun _ => []
 keepB := fun _ => []
 keepX := fun _ => []
 keepXB := fun _ => []
theorem goodFZ19:∀ f ms F,EZ19.fn f = some (ms,F) → Sound Tryz.prog f ms F := fun f ms F h => by cases h
theorem goodZ19:Good Tryz.prog EZ19 := ⟨rfl,goodFZ19,fun f ms F h => by cases h⟩
noncomputable def OZ19_0:Orc := fun _ _ => none
noncomputable def msZ19:List PM := [.rd,.rd]
noncomputable def lsZ19:List (Nat×Code) := loopsAll 0 (Tryz.f150.body.getD .skip)
theorem kZ19_0:OrcOk EZ19 OZ19_0 lsZ19 0 := orcOk_none
noncomputable def g_VZ19_0 (a0:Int) (a1:Int) (a2:Int) (a3:Int) (a4:Int) (a5:Int) (a6:Int) (a7:Int) (a8:Bool) (a9:List Int) (a10:List Int) (c0:Int):Bool := a0 == c0
noncomputable def FZ19:FSem := fun ys => match ys with
 | [.val true [.int .i64 a0,.int .i64 a1,.int .i64 a2,.int .i64 a3,.int .i64 a4,.int .i64 a5,.int .i64 a6,.int .i64 a7,.bool a8,.sl .any 3 (.int .i64) a9,.sl .any 3 (.int .i64) a10],.val false [.sptr (.int .i64) c0 0]] => some (true,.val false [.bool (g_VZ19_0 a0 a1 a2 a3 a4 a5 a6 a7 a8 a9 a10 c0)],[])
 | _ => none
theorem vZ19 (a0:Int) (a1:Int) (a2:Int) (a3:Int) (a4:Int) (a5:Int) (a6:Int) (a7:Int) (a8:Bool) (a9:List Int) (a10:List Int) (c0:Int):collapseH .std EZ19 OZ19_0 (execFn EZ19 Tryz.f150 msZ19 [.val true [.int .i64 a0,.int .i64 a1,.int .i64 a2,.int .i64 a3,.int .i64 a4,.int .i64 a5,.int .i64 a6,.int .i64 a7,.bool a8,.sl .any 3 (.int .i64) a9,.sl .any 3 (.int .i64) a10],.val false [.sptr (.int .i64) c0 0]]) = some (true,.val false [.bool (g_VZ19_0 a0 a1 a2 a3 a4 a5 a6 a7 a8 a9 a10 c0)],[]) := by kernel_rfl
theorem sZ19:Sound Tryz.prog 150 msZ19 FZ19 := by
 refine fn_gen goodZ19 (by kernel_rfl) .std (fn := Tryz.f150) (c := (Tryz.f150.body.getD .skip)) (o := OZ19_0) (k := 0) (by kernel_rfl) (by kernel_rfl) (by kernel_rfl) (by kernel_rfl) (by decide) kZ19_0 ?_
 intro ys r outs h
 unfold FZ19 at h
 split at h
 ·exact (vZ19 _ _ _ _ _ _ _ _ _ _ _ _).trans h
 ·cases h
noncomputable def EZ2:Env where
 tt := mkTI Tryz.prog
 fn := fun f => match f with
  | 150 => some (msZ19,FSem.wk msZ19 FZ19)
  | _ => none
 bxf := fun _ => none
 mv := []
 keep := fun b => match b with
  | 0 => [(0,false),(1,false),(7,false),(8,false)]
  | _ => []
 keepB := fun b => match b with
  | 0 => []
  | _ => []
 keepX := fun b => match b with
  | 0 => [(4,false)]
  | _ => []
 keepXB := fun b => match b with
  | 0 => []
  | _ => []
theorem goodFZ2:∀ f ms F,EZ2.fn f = some (ms,F) → Sound Tryz.prog f ms F := fun f ms F h => by
 unfold EZ2 at h
 dsimp only at h
 split at h
 ·exact gF sZ19 h
 ·cases h
theorem goodZ2:Good Tryz.prog EZ2 := ⟨rfl,goodFZ2,fun f ms F h => by cases h⟩
noncomputable def OZ2_0:Orc := fun _ _ => none
noncomputable def msZ2:List PM := [.rd,.rd]
noncomputable def lsZ2:List (Nat×Code) := loopsAll 0 (Tryz.f127.body.getD .skip)
noncomputable def cZ2_0:Code := (loopOf 0 (Tryz.f127.body.getD .skip)).getD .skip
theorem lseqZ2:lsZ2 = [(0,cZ2_0)] := by kernel_rfl
theorem mZ2_0:∀ p,p ∈ lsZ2 → p.1 = 0 → p.2 = cZ2_0 := by
 intro p hp
 rw [lseqZ2] at hp
 simp only [List.mem_cons,List.not_mem_nil,or_false] at hp
 subst hp; simp
theorem kZ2_0:OrcOk EZ2 OZ2_0 lsZ2 0 := orcOk_none
noncomputable def hZ2_0 (y0:tL0) (y1:Int) (y2:Int) (y3:Int):List (Pl×LV) := [(.T 0,.t (.val false [.sl .any 73 (.pair (.int .i64) (.pair (.pair (.int .i64) (.pair (.int .i64) (.pair (.int .i64) (.pair (.int .i64) (.pair (.int .i64) (.pair (.int .i64) (.int .i64))))))) (.pair .bool (.pair (.sl 3 (.int .i64)) (.sl 3 (.int .i64)))))) y0])),(.T 1,.t (.val false [.fn 150 [.sptr (.int .i64) y1 0]])),(.T 7,.t (.val false [.int .i64 y2])),(.T 8,.t (.val false [.int .i64 y3]))]
noncomputable def g_SZ2_0 (y0:tL0) (y1:Int) (y2:Int):(Int) → RT (Int) ((Int) ⊕ (Unit))
 | y3 => .br (true) (.br (decide (y3 < y2)) (.br (decide (0 ≤ y3 ∧ y3 < (y0.length:Int))) (.br (true) (.br (g_VZ19_0 (at_ yT0 y0 (Int.toNat y3)).1 (at_ yT0 y0 (Int.toNat y3)).2.1.1 (at_ yT0 y0 (Int.toNat y3)).2.1.2.1 (at_ yT0 y0 (Int.toNat y3)).2.1.2.2.1 (at_ yT0 y0 (Int.toNat y3)).2.1.2.2.2.1 (at_ yT0 y0 (Int.toNat y3)).2.1.2.2.2.2.1 (at_ yT0 y0 (Int.toNat y3)).2.1.2.2.2.2.2.1 (at_ yT0 y0 (Int.toNat y3)).2.1.2.2.2.2.2.2 (at_ yT0 y0 (Int.toNat y3)).2.2.1 (at_ yT0 y0 (Int.toNat y3)).2.2.2.1 (at_ yT0 y0 (Int.toNat y3)).2.2.2.2 y1) (.out (.inl y3)) (.br (true) (.go (IntKind.i64.wrap (y3 + 1))) .bad)) .bad) .bad) (.out (.inr (())))) .bad
noncomputable def g_LZ2_0 (y0:tL0) (y1:Int) (y2:Int) (x:Int):Option ((Int) ⊕ (Unit)) := loopO (g_SZ2_0 y0 y1 y2) x
noncomputable def xZ2_0 (y0:tL0) (y1:Int) (y2:Int):((Int) ⊕ (Unit)) → Ex×List (Pl×LV) := fun
 | .inl r => (.ret,[(.T 4,.t (.val false [.int .i64 r]))])
 | .inr (r) => (.exit 0,[(.T 4,.t (.val false [.undef]))])
noncomputable def OZ2_1:Orc := fun b h => match b,h with
 | 0,[(.T 0,.t (.val false [.sl .any 73 (.pair (.int .i64) (.pair (.pair (.int .i64) (.pair (.int .i64) (.pair (.int .i64) (.pair (.int .i64) (.pair (.int .i64) (.pair (.int .i64) (.int .i64))))))) (.pair .bool (.pair (.sl 3 (.int .i64)) (.sl 3 (.int .i64)))))) y0])),(.T 1,.t (.val false [.fn 150 [.sptr (.int .i64) y1 0]])),(.T 7,.t (.val false [.int .i64 y2])),(.T 8,.t (.val false [.int .i64 y3]))] => some (okO (g_LZ2_0 y0 y1 y2 y3),(.br (isL (valO (g_LZ2_0 y0 y1 y2 y3))) (.leaf .ret [(.T 4,.t (.val false [.int .i64 (getL (valO (g_LZ2_0 y0 y1 y2 y3)))]))]) (.leaf (.exit 0) [(.T 4,.t (.val false [.undef]))])))
 | b,h => OZ2_0 b h
theorem bZ2_0 (y0:tL0) (y1:Int) (y2:Int) (y3:Int):Tr.bt EZ2 OZ2_0 (exec EZ2 0 cZ2_0 (St.of (hZ2_0 y0 y1 y2 y3)) (leafRd EZ2 0)) = (g_SZ2_0 y0 y1 y2 y3).bt (fun (y3:Int) => (hZ2_0 y0 y1 y2 y3)) (xZ2_0 y0 y1 y2) := by kernel_rfl
theorem kZ2_1:OrcOk EZ2 OZ2_1 lsZ2 1 := orc_add kZ2_0 (fun n p hp h ex h' ho => by
 obtain ⟨b,c⟩ := p
 obtain ⟨xt,h1,h2⟩ := ho
 have h1:OZ2_1 b h = some (true,xt) := h1
 unfold OZ2_1 at h1
 split at h1
 ·injection h1 with h1
  injection h1 with e1 e2
  subst e2
  have hc:c = cZ2_0 := mZ2_0 _ hp rfl
  subst hc
  right
  rename_i y0 y1 y2 y3
  have key := LT_step kZ2_0 hp (fun q hq => loopsAll_in _ _ _ _ hp hq) (fun (y3:Int) => (hZ2_0 y0 y1 y2 y3)) (xZ2_0 y0 y1 y2) (g_SZ2_0 y0 y1 y2) (fun x => by first | exact bZ2_0 y0 y1 y2 x) n (x := y3) (okO_some e1)
  have hx:∀ r,XT.sel (.br (isL r) (.leaf .ret [(.T 4,.t (.val false [.int .i64 (getL r)]))]) (.leaf (.exit 0) [(.T 4,.t (.val false [.undef]))])) = xZ2_0 y0 y1 y2 r := fun r => by first | rfl | rcases r with r | r <;> rfl | rcases r with r | r | r <;> rfl | rcases r with r | r | r | r <;> rfl
  have h3 := (hx (valO (g_LZ2_0 y0 y1 y2 y3))).symm.trans h2
  have e3 := congrArg Prod.fst h3
  have e4 := congrArg Prod.snd h3
  simp only at e3 e4
  rw [← e3,← e4]
  exact key
 ·exact .inl ⟨xt,h1,h2⟩)
noncomputable def g_AZ2 (a0:tL0) (c0:Int):Bool := okO (g_LZ2_0 a0 c0 (a0.length:Int) (0:Int))
noncomputable def g_VZ2_0 (a0:tL0) (c0:Int):Int := bif isL (valO (g_LZ2_0 a0 c0 (a0.length:Int) (0:Int))) then getL (valO (g_LZ2_0 a0 c0 (a0.length:Int) (0:Int))) else (-1:Int)
noncomputable def FZ2:FSem := fun ys => match ys with
 | [.val false [.sl .any 73 (.pair (.int .i64) (.pair (.pair (.int .i64) (.pair (.int .i64) (.pair (.int .i64) (.pair (.int .i64) (.pair (.int .i64) (.pair (.int .i64) (.int .i64))))))) (.pair .bool (.pair (.sl 3 (.int .i64)) (.sl 3 (.int .i64)))))) a0],.val false [.fn 150 [.sptr (.int .i64) c0 0]]] => some ((g_AZ2 a0 c0),.val false [.int .i64 (g_VZ2_0 a0 c0)],[])
 | _ => none
theorem vZ2 (a0:tL0) (c0:Int):collapseH .std EZ2 OZ2_1 (execFn EZ2 Tryz.f127 msZ2 [.val false [.sl .any 73 (.pair (.int .i64) (.pair (.pair (.int .i64) (.pair (.int .i64) (.pair (.int .i64) (.pair (.int .i64) (.pair (.int .i64) (.pair (.int .i64) (.int .i64))))))) (.pair .bool (.pair (.sl 3 (.int .i64)) (.sl 3 (.int .i64)))))) a0],.val false [.fn 150 [.sptr (.int .i64) c0 0]]]) = some ((g_AZ2 a0 c0),.val false [.int .i64 (g_VZ2_0 a0 c0)],[]) := by kernel_rfl
theorem sZ2:Sound Tryz.prog 127 msZ2 FZ2 := by
 refine fn_gen goodZ2 (by kernel_rfl) .std (fn := Tryz.f127) (c := (Tryz.f127.body.getD .skip)) (o := OZ2_1) (k := 1) (by kernel_rfl) (by kernel_rfl) (by kernel_rfl) (by kernel_rfl) (by decide) kZ2_1 ?_
 intro ys r outs h
 unfold FZ2 at h
 split at h
 ·exact (vZ2 _ _).trans h
 ·cases h
noncomputable def EZ24:Env where
 tt := mkTI Tryz.prog
 fn := fun f => match f with
  | 127 => some (msZ2,FSem.wk msZ2 FZ2)
  | _ => none
 bxf := fun _ => none
 mv := []
 keep := fun _ => []
 keepB := fun _ => []
 keepX := fun _ => []
 keepXB := fun _ => []
theorem goodFZ24:∀ f ms F,EZ24.fn f = some (ms,F) → Sound Tryz.prog f ms F := fun f ms F h => by
 unfold EZ24 at h
 dsimp only at h
 split at h
 ·exact gF sZ2 h
 ·cases h
theorem goodZ24:Good Tryz.prog EZ24 := ⟨rfl,goodFZ24,fun f ms F h => by cases h⟩
noncomputable def OZ24_0:Orc := fun _ _ => none
noncomputable def msZ24:List PM := [.bxr,.own]
noncomputable def lsZ24:List (Nat×Code) := loopsAll 0 (Tryz.f117.body.getD .skip)
theorem kZ24_0:OrcOk EZ24 OZ24_0 lsZ24 0 := orcOk_none
noncomputable def g_AZ24 (a0:tL1) (a1:Int) (a2:tL0) (a3:Int):Bool := g_AZ2 a2 a3
noncomputable def FZ24:FSem := fun ys => match ys with
 | [.val true [.sl .any 92 (.pair (.int .i64) (.pair (.int .i64) (.pair (.sl 9 .str) (.sl 155 (.pair .str (.pair .bool (.sl 3 (.int .i64)))))))) a0,.int .i64 a1,.sl .any 73 (.pair (.int .i64) (.pair (.pair (.int .i64) (.pair (.int .i64) (.pair (.int .i64) (.pair (.int .i64) (.pair (.int .i64) (.pair (.int .i64) (.int .i64))))))) (.pair .bool (.pair (.sl 3 (.int .i64)) (.sl 3 (.int .i64)))))) a2],.val false [.int .i64 a3]] => some ((g_AZ24 a0 a1 a2 a3),.val false [.int .i64 (g_VZ2_0 a2 a3)],[])
 | _ => none
theorem vZ24 (a0:tL1) (a1:Int) (a2:tL0) (a3:Int):collapseH .std EZ24 OZ24_0 (execFn EZ24 Tryz.f117 msZ24 [.val true [.sl .any 92 (.pair (.int .i64) (.pair (.int .i64) (.pair (.sl 9 .str) (.sl 155 (.pair .str (.pair .bool (.sl 3 (.int .i64)))))))) a0,.int .i64 a1,.sl .any 73 (.pair (.int .i64) (.pair (.pair (.int .i64) (.pair (.int .i64) (.pair (.int .i64) (.pair (.int .i64) (.pair (.int .i64) (.pair (.int .i64) (.int .i64))))))) (.pair .bool (.pair (.sl 3 (.int .i64)) (.sl 3 (.int .i64)))))) a2],.val false [.int .i64 a3]]) = some ((g_AZ24 a0 a1 a2 a3),.val false [.int .i64 (g_VZ2_0 a2 a3)],[]) := by kernel_rfl
theorem sZ24:Sound Tryz.prog 117 msZ24 FZ24 := by
 refine fn_gen goodZ24 (by kernel_rfl) .std (fn := Tryz.f117) (c := (Tryz.f117.body.getD .skip)) (o := OZ24_0) (k := 0) (by kernel_rfl) (by kernel_rfl) (by kernel_rfl) (by kernel_rfl) (by decide) kZ24_0 ?_
 intro ys r outs h
 unfold FZ24 at h
 split at h
 ·exact (vZ24 _ _ _ _).trans h
 ·cases h
noncomputable def EZ67:Env where
 tt := mkTI Tryz.prog
 fn := fun f => match f with
  | 58 => some (msi_OpOk,FSem.wk msi_OpOk Fi_OpOk)
  | _ => none
 bxf := fun _ => none
 mv := []
 keep := fun _ => []
 keepB := fun _ => []
 keepX := fun _ => []
 keepXB := fun _ => []
theorem goodFZ67:∀ f ms F,EZ67.fn f = some (ms,F) → Sound Tryz.prog f ms F := fun f ms F h => by
 unfold EZ67 at h
 dsimp only at h
 split at h
 ·exact gF si_OpOk h
 ·cases h
theorem goodZ67:Good Tryz.prog EZ67 := ⟨rfl,goodFZ67,fun f ms F h => by cases h⟩
noncomputable def OZ67_0:Orc := fun _ _ => none
noncomputable def msZ67:List PM := [.own]
noncomputable def lsZ67:List (Nat×Code) := loopsAll 0 (Tryz.f40.body.getD .skip)
theorem kZ67_0:OrcOk EZ67 OZ67_0 lsZ67 0 := orcOk_none
noncomputable def g_AZ67 (a0:Int) (a1:Int) (a2:Int) (a3:Int) (a4:Int) (a5:Int) (a6:Int):Bool := g_Ai_OpOk a0 a1 a2 a3 a4 a5 a6&&(!g_Vi_OpOk_0 a0 a1 a2 a3 a4 a5 a6 || (a0 == 1 || (a0 == 2 || true)))
noncomputable def g_VZ67_0 (a0:Int) (a1:Int) (a2:Int) (a3:Int) (a4:Int) (a5:Int) (a6:Int):List Int := bif !g_Vi_OpOk_0 a0 a1 a2 a3 a4 a5 a6 then [] else bif a0 == 1 then [(1:Int),(3:Int)] else bif a0 == 2 then [(1:Int),(2:Int),(3:Int)] else bif a0 == 5 then [(1:Int),(2:Int),(3:Int)] else [(2:Int),(3:Int)]
noncomputable def FZ67:FSem := fun ys => match ys with
 | [.val true [.int .i64 a0,.int .i64 a1,.int .i64 a2,.int .i64 a3,.int .i64 a4,.int .i64 a5,.int .i64 a6]] => some ((g_AZ67 a0 a1 a2 a3 a4 a5 a6),.val false [.own .any true 3 (.int .i64) (g_VZ67_0 a0 a1 a2 a3 a4 a5 a6)],[])
 | _ => none
theorem vZ67 (a0:Int) (a1:Int) (a2:Int) (a3:Int) (a4:Int) (a5:Int) (a6:Int):collapseH .std EZ67 OZ67_0 (execFn EZ67 Tryz.f40 msZ67 [.val true [.int .i64 a0,.int .i64 a1,.int .i64 a2,.int .i64 a3,.int .i64 a4,.int .i64 a5,.int .i64 a6]]) = some ((g_AZ67 a0 a1 a2 a3 a4 a5 a6),.val false [.own .any true 3 (.int .i64) (g_VZ67_0 a0 a1 a2 a3 a4 a5 a6)],[]) := by kernel_rfl
theorem sZ67:Sound Tryz.prog 40 msZ67 FZ67 := by
 refine fn_gen goodZ67 (by kernel_rfl) .std (fn := Tryz.f40) (c := (Tryz.f40.body.getD .skip)) (o := OZ67_0) (k := 0) (by kernel_rfl) (by kernel_rfl) (by kernel_rfl) (by kernel_rfl) (by decide) kZ67_0 ?_
 intro ys r outs h
 unfold FZ67 at h
 split at h
 ·exact (vZ67 _ _ _ _ _ _ _).trans h
 ·cases h
noncomputable def Ei_told:Env where
 tt := mkTI Tryz.prog
 fn := fun _ => none
 bxf := fun _ => none
 mv := []
 keep := fun b => match b with
  | 0 => [(0,false),(1,false),(6,false),(9,false),(12,false),(13,false),(14,false)]
  | _ => []
 keepB := fun b => match b with
  | 0 => [(6,false)]
  | _ => []
 keepX := fun b => match b with
  | 0 => [(9,false)]
  | _ => []
 keepXB := fun b => match b with
  | 0 => []
  | _ => []
theorem goodFi_told:∀ f ms F,Ei_told.fn f = some (ms,F) → Sound Tryz.prog f ms F := fun f ms F h => by cases h
theorem goodi_told:Good Tryz.prog Ei_told := ⟨rfl,goodFi_told,fun f ms F h => by cases h⟩
noncomputable def Oi_told_0:Orc := fun _ _ => none
noncomputable def msi_told:List PM := [.own,.own,.own,.rd]
noncomputable def lsi_told:List (Nat×Code) := loopsAll 0 (Tryz.f37.body.getD .skip)
noncomputable def ci_told_0:Code := (loopOf 0 (Tryz.f37.body.getD .skip)).getD .skip
theorem lseqi_told:lsi_told = [(0,ci_told_0)] := by kernel_rfl
theorem mi_told_0:∀ p,p ∈ lsi_told → p.1 = 0 → p.2 = ci_told_0 := by
 intro p hp
 rw [lseqi_told] at hp
 simp only [List.mem_cons,List.not_mem_nil,or_false] at hp
 subst hp; simp
theorem ki_told_0:OrcOk Ei_told Oi_told_0 lsi_told 0 := orcOk_none
noncomputable def hi_told_0 (y0:Int) (y1:Int) (y2:tL2) (y3:List Int) (y4:Int) (y5:Int) (y6:Int) (y7:Int) (y8:Int) (y9:Int) (y10:Int) (y11:Int) (y12:Int):List (Pl×LV) := [(.T 0,.t (.val false [.int .i64 y0])),(.T 1,.t (.val false [.int .i64 y1])),(.T 6,.t (.val false [.ptr 6 0 0])),(.T 9,.t (.val false [.row 9 0 0])),(.R 9 0,.r 0 (some ⟨false,.any,true,83,(.pair (.int .i64) (.pair (.int .i64) (.pair (.int .i64) (.pair (.int .i64) (.pair (.int .i64) (.pair (.int .i64) (.pair (.int .i64) (.pair (.int .i64) (.pair (.int .i64) (.pair (.int .i64) (.int .i64))))))))))),y2⟩)),(.T 12,.t (.val false [.sl .any 3 (.int .i64) y3])),(.T 13,.t (.val false [.int .i64 y4])),(.T 14,.t (.val false [.int .i64 y5])),(.B 6,.b 0 false [.int .i64 y6,.int .i64 y7,.int .i64 y8,.int .i64 y9,.int .i64 y10,.int .i64 y11,.int .i64 y12])]
noncomputable def g_Si_told_0 (y0:Int) (y1:Int) (y3:List Int) (y4:Int) (y6:Int) (y7:Int) (y8:Int) (y9:Int) (y10:Int) (y11:Int) (y12:Int):(tL2×Int) → RT (tL2×Int) ((tL2))
 | (y2,y5) => .br (true) (.br (decide (y5 < y4)) (.br (decide (0 ≤ y5 ∧ y5 < (y3.length:Int))) (.br (decide ((List.length y2 + List.length [(y0,at_ (.int .i64) y3 (Int.toNat y5),(0:Int),y1,y6,y7,y8,y9,y10,y11,y12)]) * nat_lit 88 ≤ nat_lit 140737488355328 ∧ List.length y2 + List.length [(y0,at_ (.int .i64) y3 (Int.toNat y5),(0:Int),y1,y6,y7,y8,y9,y10,y11,y12)] ≤ nat_lit 9223372036854775807)) (.br (true) (.go ((y2 ++ [(y0,at_ (.int .i64) y3 (Int.toNat y5),(0:Int),y1,y6,y7,y8,y9,y10,y11,y12)],IntKind.i64.wrap (y5 + 1)))) .bad) .bad) .bad) (.out (y2))) .bad
noncomputable def g_Li_told_0 (y0:Int) (y1:Int) (y3:List Int) (y4:Int) (y6:Int) (y7:Int) (y8:Int) (y9:Int) (y10:Int) (y11:Int) (y12:Int) (x:tL2×Int):Option ((tL2)) := loopO (g_Si_told_0 y0 y1 y3 y4 y6 y7 y8 y9 y10 y11 y12) x
noncomputable def xi_told_0 (y0:Int) (y1:Int) (y3:List Int) (y4:Int) (y6:Int) (y7:Int) (y8:Int) (y9:Int) (y10:Int) (y11:Int) (y12:Int):((tL2)) → Ex×List (Pl×LV) := fun r => (.exit 0,[(.T 9,.t (.val false [.row 9 0 0])),(.R 9 0,.r 0 (some ⟨false,.any,true,83,(.pair (.int .i64) (.pair (.int .i64) (.pair (.int .i64) (.pair (.int .i64) (.pair (.int .i64) (.pair (.int .i64) (.pair (.int .i64) (.pair (.int .i64) (.pair (.int .i64) (.pair (.int .i64) (.int .i64))))))))))),r⟩))])
noncomputable def Oi_told_1:Orc := fun b h => match b,h with
 | 0,[(.T 0,.t (.val false [.int .i64 y0])),(.T 1,.t (.val false [.int .i64 y1])),(.T 6,.t (.val false [.ptr 6 0 0])),(.T 9,.t (.val false [.row 9 0 0])),(.R 9 0,.r 0 (some ⟨false,.any,true,83,(.pair (.int .i64) (.pair (.int .i64) (.pair (.int .i64) (.pair (.int .i64) (.pair (.int .i64) (.pair (.int .i64) (.pair (.int .i64) (.pair (.int .i64) (.pair (.int .i64) (.pair (.int .i64) (.int .i64))))))))))),y2⟩)),(.T 12,.t (.val false [.sl .any 3 (.int .i64) y3])),(.T 13,.t (.val false [.int .i64 y4])),(.T 14,.t (.val false [.int .i64 y5])),(.B 6,.b 0 false [.int .i64 y6,.int .i64 y7,.int .i64 y8,.int .i64 y9,.int .i64 y10,.int .i64 y11,.int .i64 y12])] => some (okO (g_Li_told_0 y0 y1 y3 y4 y6 y7 y8 y9 y10 y11 y12 (y2,y5)),(.leaf (.exit 0) [(.T 9,.t (.val false [.row 9 0 0])),(.R 9 0,.r 0 (some ⟨false,.any,true,83,(.pair (.int .i64) (.pair (.int .i64) (.pair (.int .i64) (.pair (.int .i64) (.pair (.int .i64) (.pair (.int .i64) (.pair (.int .i64) (.pair (.int .i64) (.pair (.int .i64) (.pair (.int .i64) (.int .i64))))))))))),(valO (g_Li_told_0 y0 y1 y3 y4 y6 y7 y8 y9 y10 y11 y12 (y2,y5)))⟩))]))
 | b,h => Oi_told_0 b h
theorem bi_told_0 (y0:Int) (y1:Int) (y2:tL2) (y3:List Int) (y4:Int) (y5:Int) (y6:Int) (y7:Int) (y8:Int) (y9:Int) (y10:Int) (y11:Int) (y12:Int):Tr.bt Ei_told Oi_told_0 (exec Ei_told 0 ci_told_0 (St.of (hi_told_0 y0 y1 y2 y3 y4 y5 y6 y7 y8 y9 y10 y11 y12)) (leafRd Ei_told 0)) = (g_Si_told_0 y0 y1 y3 y4 y6 y7 y8 y9 y10 y11 y12 (y2,y5)).bt (fun ((y2,y5):tL2×Int) => (hi_told_0 y0 y1 y2 y3 y4 y5 y6 y7 y8 y9 y10 y11 y12)) (xi_told_0 y0 y1 y3 y4 y6 y7 y8 y9 y10 y11 y12) := by kernel_rfl
theorem ki_told_1:OrcOk Ei_told Oi_told_1 lsi_told 1 := orc_add ki_told_0 (fun n p hp h ex h' ho => by
 obtain ⟨b,c⟩ := p
 obtain ⟨xt,h1,h2⟩ := ho
 have h1:Oi_told_1 b h = some (true,xt) := h1
 unfold Oi_told_1 at h1
 split at h1
 ·injection h1 with h1
  injection h1 with e1 e2
  subst e2
  have hc:c = ci_told_0 := mi_told_0 _ hp rfl
  subst hc
  right
  rename_i y0 y1 y2 y3 y4 y5 y6 y7 y8 y9 y10 y11 y12
  have key := LT_step ki_told_0 hp (fun q hq => loopsAll_in _ _ _ _ hp hq) (fun ((y2,y5):tL2×Int) => (hi_told_0 y0 y1 y2 y3 y4 y5 y6 y7 y8 y9 y10 y11 y12)) (xi_told_0 y0 y1 y3 y4 y6 y7 y8 y9 y10 y11 y12) (g_Si_told_0 y0 y1 y3 y4 y6 y7 y8 y9 y10 y11 y12) (fun x => by first | exact bi_told_0 y0 y1 x.1 y3 y4 x.2 y6 y7 y8 y9 y10 y11 y12) n (x := (y2,y5)) (okO_some e1)
  have hx:∀ r,XT.sel (.leaf (.exit 0) [(.T 9,.t (.val false [.row 9 0 0])),(.R 9 0,.r 0 (some ⟨false,.any,true,83,(.pair (.int .i64) (.pair (.int .i64) (.pair (.int .i64) (.pair (.int .i64) (.pair (.int .i64) (.pair (.int .i64) (.pair (.int .i64) (.pair (.int .i64) (.pair (.int .i64) (.pair (.int .i64) (.int .i64))))))))))),r⟩))]) = xi_told_0 y0 y1 y3 y4 y6 y7 y8 y9 y10 y11 y12 r := fun r => by first | rfl | rcases r with r | r <;> rfl | rcases r with r | r | r <;> rfl | rcases r with r | r | r | r <;> rfl
  have h3 := (hx (valO (g_Li_told_0 y0 y1 y3 y4 y6 y7 y8 y9 y10 y11 y12 (y2,y5)))).symm.trans h2
  have e3 := congrArg Prod.fst h3
  have e4 := congrArg Prod.snd h3
  simp only at e3 e4
  rw [← e3,← e4]
  exact key
 ·exact .inl ⟨xt,h1,h2⟩)
noncomputable def g_Ai_told (a0:Int) (a1:Int) (a2:Int) (a3:Int) (a4:Int) (a5:Int) (a6:Int) (a7:Int) (a8:Int) (a9:List Int):Bool := okO (g_Li_told_0 a0 a1 a9 (a9.length:Int) a2 a3 a4 a5 a6 a7 a8 ([],(0:Int)))
noncomputable def g_Vi_told_0 (a0:Int) (a1:Int) (a2:Int) (a3:Int) (a4:Int) (a5:Int) (a6:Int) (a7:Int) (a8:Int) (a9:List Int):tL2 := valO (g_Li_told_0 a0 a1 a9 (a9.length:Int) a2 a3 a4 a5 a6 a7 a8 ([],(0:Int)))
noncomputable def Fi_told:FSem := fun ys => match ys with
 | [.val false [.int .i64 a0],.val false [.int .i64 a1],.val true [.int .i64 a2,.int .i64 a3,.int .i64 a4,.int .i64 a5,.int .i64 a6,.int .i64 a7,.int .i64 a8],.val false [.sl .any 3 (.int .i64) a9]] => some ((g_Ai_told a0 a1 a2 a3 a4 a5 a6 a7 a8 a9),.val false [.own .any true 83 (.pair (.int .i64) (.pair (.int .i64) (.pair (.int .i64) (.pair (.int .i64) (.pair (.int .i64) (.pair (.int .i64) (.pair (.int .i64) (.pair (.int .i64) (.pair (.int .i64) (.pair (.int .i64) (.int .i64))))))))))) (g_Vi_told_0 a0 a1 a2 a3 a4 a5 a6 a7 a8 a9)],[])
 | _ => none
theorem vi_told (a0:Int) (a1:Int) (a2:Int) (a3:Int) (a4:Int) (a5:Int) (a6:Int) (a7:Int) (a8:Int) (a9:List Int):collapseH .std Ei_told Oi_told_1 (execFn Ei_told Tryz.f37 msi_told [.val false [.int .i64 a0],.val false [.int .i64 a1],.val true [.int .i64 a2,.int .i64 a3,.int .i64 a4,.int .i64 a5,.int .i64 a6,.int .i64 a7,.int .i64 a8],.val false [.sl .any 3 (.int .i64) a9]]) = some ((g_Ai_told a0 a1 a2 a3 a4 a5 a6 a7 a8 a9),.val false [.own .any true 83 (.pair (.int .i64) (.pair (.int .i64) (.pair (.int .i64) (.pair (.int .i64) (.pair (.int .i64) (.pair (.int .i64) (.pair (.int .i64) (.pair (.int .i64) (.pair (.int .i64) (.pair (.int .i64) (.int .i64))))))))))) (g_Vi_told_0 a0 a1 a2 a3 a4 a5 a6 a7 a8 a9)],[]) := by kernel_rfl
theorem si_told:Sound Tryz.prog 37 msi_told Fi_told := by
 refine fn_gen goodi_told (by kernel_rfl) .std (fn := Tryz.f37) (c := (Tryz.f37.body.getD .skip)) (o := Oi_told_1) (k := 1) (by kernel_rfl) (by kernel_rfl) (by kernel_rfl) (by kernel_rfl) (by decide) ki_told_1 ?_
 intro ys r outs h
 unfold Fi_told at h
 split at h
 ·exact (vi_told _ _ _ _ _ _ _ _ _ _).trans h
 ·cases h
noncomputable def EZ21:Env where
 tt := mkTI Tryz.prog
 fn := fun f => match f with
  | 37 => some (msi_told,FSem.wk msi_told Fi_told)
  | 40 => some (msZ67,FSem.wk msZ67 FZ67)
  | 52 => some (msZ40,FSem.wk msZ40 FZ40)
  | 117 => some (msZ24,FSem.wk msZ24 FZ24)
  | _ => none
 bxf := fun _ => none
 mv := []
 keep := fun _ => []
 keepB := fun _ => []
 keepX := fun _ => []
 keepXB := fun _ => []
theorem goodFZ21:∀ f ms F,EZ21.fn f = some (ms,F) → Sound Tryz.prog f ms F := fun f ms F h => by
 unfold EZ21 at h
 dsimp only at h
 split at h
 ·exact gF si_told h
 ·exact gF sZ67 h
 ·exact gF sZ40 h
 ·exact gF sZ24 h
 ·cases h
theorem goodZ21:Good Tryz.prog EZ21 := ⟨rfl,goodFZ21,fun f ms F h => by cases h⟩
noncomputable def OZ21_0:Orc := fun _ _ => none
noncomputable def msZ21:List PM := [.bx,.own,.own]
noncomputable def lsZ21:List (Nat×Code) := loopsAll 0 (Tryz.f61.body.getD .skip)
theorem kZ21_0:OrcOk EZ21 OZ21_0 lsZ21 0 := orcOk_none
noncomputable def g_AZ21 (a0:tL1) (a1:Int) (a2:tL0) (a3:Int) (a4:Int) (a5:Int) (a6:Int) (a7:Int) (a8:Int) (a9:Int) (a10:Int):Bool := g_AZ24 a0 a1 a2 a3&&(decide (g_VZ2_0 a2 a3 ≥ 0) || g_AZ40 a0&&(g_VZ40_0 a0 a3 != 0 || bif decide (IntKind.i64.wrap ((a2.length:Int) - 1) ≥ 0) then decide (0 ≤ IntKind.i64.wrap ((a2.length:Int) - 1) ∧ IntKind.i64.wrap ((a2.length:Int) - 1) < (a2.length:Int))&&(decide (Int.toNat (IntKind.i64.wrap ((a2.length:Int) - 1)) < List.length a2)&&(decide ((at_ yT0 a2 (Int.toNat (IntKind.i64.wrap ((a2.length:Int) - 1)))).1 > a3) || (decide (IntKind.i64.wrap (IntKind.i64.wrap ((a0.length:Int) + IntKind.i64.wrap (2 * (a2.length:Int))) + 2) > 120) || decide ((List.length a2 + List.length [(a3,(a4,a5,a6,a7,a8,a9,a10),false,([]:List Int),([]:List Int))]) * nat_lit 120 ≤ nat_lit 140737488355328 ∧ List.length a2 + List.length [(a3,(a4,a5,a6,a7,a8,a9,a10),false,([]:List Int),([]:List Int))] ≤ nat_lit 9223372036854775807)&&(g_AZ67 a4 a5 a6 a7 a8 a9 a10&&g_Ai_told (1:Int) a3 a4 a5 a6 a7 a8 a9 a10 (g_VZ67_0 a4 a5 a6 a7 a8 a9 a10))))) else decide (IntKind.i64.wrap (IntKind.i64.wrap ((a0.length:Int) + IntKind.i64.wrap (2 * (a2.length:Int))) + 2) > 120) || decide ((List.length a2 + List.length [(a3,(a4,a5,a6,a7,a8,a9,a10),false,([]:List Int),([]:List Int))]) * nat_lit 120 ≤ nat_lit 140737488355328 ∧ List.length a2 + List.length [(a3,(a4,a5,a6,a7,a8,a9,a10),false,([]:List Int),([]:List Int))] ≤ nat_lit 9223372036854775807)&&(g_AZ67 a4 a5 a6 a7 a8 a9 a10&&g_Ai_told (1:Int) a3 a4 a5 a6 a7 a8 a9 a10 (g_VZ67_0 a4 a5 a6 a7 a8 a9 a10))))
noncomputable def g_VZ21_0 (a0:tL1) (a1:Int) (a2:tL0) (a3:Int) (a4:Int) (a5:Int) (a6:Int) (a7:Int) (a8:Int) (a9:Int) (a10:Int):tL2 := bif decide (g_VZ2_0 a2 a3 ≥ 0) then [] else bif g_VZ40_0 a0 a3 != 0 then [] else bif decide (IntKind.i64.wrap ((a2.length:Int) - 1) ≥ 0) then bif decide ((at_ yT0 a2 (Int.toNat (IntKind.i64.wrap ((a2.length:Int) - 1)))).1 > a3) then [] else bif decide (IntKind.i64.wrap (IntKind.i64.wrap ((a0.length:Int) + IntKind.i64.wrap (2 * (a2.length:Int))) + 2) > 120) then [] else g_Vi_told_0 (1:Int) a3 a4 a5 a6 a7 a8 a9 a10 (g_VZ67_0 a4 a5 a6 a7 a8 a9 a10) else bif decide (IntKind.i64.wrap (IntKind.i64.wrap ((a0.length:Int) + IntKind.i64.wrap (2 * (a2.length:Int))) + 2) > 120) then [] else g_Vi_told_0 (1:Int) a3 a4 a5 a6 a7 a8 a9 a10 (g_VZ67_0 a4 a5 a6 a7 a8 a9 a10)
noncomputable def g_VZ21_1 (a0:tL1) (a1:Int) (a2:tL0) (a3:Int) (a4:Int) (a5:Int) (a6:Int) (a7:Int) (a8:Int) (a9:Int) (a10:Int):Bool := bif decide (g_VZ2_0 a2 a3 ≥ 0) then false else bif g_VZ40_0 a0 a3 != 0 then false else bif decide (IntKind.i64.wrap ((a2.length:Int) - 1) ≥ 0) then bif decide ((at_ yT0 a2 (Int.toNat (IntKind.i64.wrap ((a2.length:Int) - 1)))).1 > a3) then false else bif decide (IntKind.i64.wrap (IntKind.i64.wrap ((a0.length:Int) + IntKind.i64.wrap (2 * (a2.length:Int))) + 2) > 120) then false else true else bif decide (IntKind.i64.wrap (IntKind.i64.wrap ((a0.length:Int) + IntKind.i64.wrap (2 * (a2.length:Int))) + 2) > 120) then false else true
noncomputable def g_VZ21_2 (a0:tL1) (a1:Int) (a2:tL0) (a3:Int) (a4:Int) (a5:Int) (a6:Int) (a7:Int) (a8:Int) (a9:Int) (a10:Int):tL1 := bif decide (g_VZ2_0 a2 a3 ≥ 0) then a0 else bif g_VZ40_0 a0 a3 != 0 then a0 else bif decide (IntKind.i64.wrap ((a2.length:Int) - 1) ≥ 0) then bif decide ((at_ yT0 a2 (Int.toNat (IntKind.i64.wrap ((a2.length:Int) - 1)))).1 > a3) then a0 else bif decide (IntKind.i64.wrap (IntKind.i64.wrap ((a0.length:Int) + IntKind.i64.wrap (2 * (a2.length:Int))) + 2) > 120) then a0 else a0 else bif decide (IntKind.i64.wrap (IntKind.i64.wrap ((a0.length:Int) + IntKind.i64.wrap (2 * (a2.length:Int))) + 2) > 120) then a0 else a0
noncomputable def g_VZ21_3 (a0:tL1) (a1:Int) (a2:tL0) (a3:Int) (a4:Int) (a5:Int) (a6:Int) (a7:Int) (a8:Int) (a9:Int) (a10:Int):Int := bif decide (g_VZ2_0 a2 a3 ≥ 0) then a1 else bif g_VZ40_0 a0 a3 != 0 then a1 else bif decide (IntKind.i64.wrap ((a2.length:Int) - 1) ≥ 0) then bif decide ((at_ yT0 a2 (Int.toNat (IntKind.i64.wrap ((a2.length:Int) - 1)))).1 > a3) then a1 else bif decide (IntKind.i64.wrap (IntKind.i64.wrap ((a0.length:Int) + IntKind.i64.wrap (2 * (a2.length:Int))) + 2) > 120) then a1 else a1 else bif decide (IntKind.i64.wrap (IntKind.i64.wrap ((a0.length:Int) + IntKind.i64.wrap (2 * (a2.length:Int))) + 2) > 120) then a1 else a1
noncomputable def g_VZ21_4 (a0:tL1) (a1:Int) (a2:tL0) (a3:Int) (a4:Int) (a5:Int) (a6:Int) (a7:Int) (a8:Int) (a9:Int) (a10:Int):tL0 := bif decide (g_VZ2_0 a2 a3 ≥ 0) then a2 else bif g_VZ40_0 a0 a3 != 0 then a2 else bif decide (IntKind.i64.wrap ((a2.length:Int) - 1) ≥ 0) then bif decide ((at_ yT0 a2 (Int.toNat (IntKind.i64.wrap ((a2.length:Int) - 1)))).1 > a3) then a2 else bif decide (IntKind.i64.wrap (IntKind.i64.wrap ((a0.length:Int) + IntKind.i64.wrap (2 * (a2.length:Int))) + 2) > 120) then a2 else a2 ++ [(a3,(a4,a5,a6,a7,a8,a9,a10),false,([]:List Int),([]:List Int))] else bif decide (IntKind.i64.wrap (IntKind.i64.wrap ((a0.length:Int) + IntKind.i64.wrap (2 * (a2.length:Int))) + 2) > 120) then a2 else a2 ++ [(a3,(a4,a5,a6,a7,a8,a9,a10),false,([]:List Int),([]:List Int))]
noncomputable def FZ21:FSem := fun ys => match ys with
 | [.val true [.own .any true 92 (.pair (.int .i64) (.pair (.int .i64) (.pair (.sl 9 .str) (.sl 155 (.pair .str (.pair .bool (.sl 3 (.int .i64)))))))) a0,.int .i64 a1,.own .any true 73 (.pair (.int .i64) (.pair (.pair (.int .i64) (.pair (.int .i64) (.pair (.int .i64) (.pair (.int .i64) (.pair (.int .i64) (.pair (.int .i64) (.int .i64))))))) (.pair .bool (.pair (.sl 3 (.int .i64)) (.sl 3 (.int .i64)))))) a2],.val false [.int .i64 a3],.val true [.int .i64 a4,.int .i64 a5,.int .i64 a6,.int .i64 a7,.int .i64 a8,.int .i64 a9,.int .i64 a10]] => some ((g_AZ21 a0 a1 a2 a3 a4 a5 a6 a7 a8 a9 a10),.tup [(false,[.own .any true 83 (.pair (.int .i64) (.pair (.int .i64) (.pair (.int .i64) (.pair (.int .i64) (.pair (.int .i64) (.pair (.int .i64) (.pair (.int .i64) (.pair (.int .i64) (.pair (.int .i64) (.pair (.int .i64) (.int .i64))))))))))) (g_VZ21_0 a0 a1 a2 a3 a4 a5 a6 a7 a8 a9 a10)]),(false,[.bool (g_VZ21_1 a0 a1 a2 a3 a4 a5 a6 a7 a8 a9 a10)])],[[.own .any true 92 (.pair (.int .i64) (.pair (.int .i64) (.pair (.sl 9 .str) (.sl 155 (.pair .str (.pair .bool (.sl 3 (.int .i64)))))))) (g_VZ21_2 a0 a1 a2 a3 a4 a5 a6 a7 a8 a9 a10),.int .i64 (g_VZ21_3 a0 a1 a2 a3 a4 a5 a6 a7 a8 a9 a10),.own .any true 73 (.pair (.int .i64) (.pair (.pair (.int .i64) (.pair (.int .i64) (.pair (.int .i64) (.pair (.int .i64) (.pair (.int .i64) (.pair (.int .i64) (.int .i64))))))) (.pair .bool (.pair (.sl 3 (.int .i64)) (.sl 3 (.int .i64)))))) (g_VZ21_4 a0 a1 a2 a3 a4 a5 a6 a7 a8 a9 a10)]])
 | _ => none
theorem vZ21 (a0:tL1) (a1:Int) (a2:tL0) (a3:Int) (a4:Int) (a5:Int) (a6:Int) (a7:Int) (a8:Int) (a9:Int) (a10:Int):collapseH .std EZ21 OZ21_0 (execFn EZ21 Tryz.f61 msZ21 [.val true [.own .any true 92 (.pair (.int .i64) (.pair (.int .i64) (.pair (.sl 9 .str) (.sl 155 (.pair .str (.pair .bool (.sl 3 (.int .i64)))))))) a0,.int .i64 a1,.own .any true 73 (.pair (.int .i64) (.pair (.pair (.int .i64) (.pair (.int .i64) (.pair (.int .i64) (.pair (.int .i64) (.pair (.int .i64) (.pair (.int .i64) (.int .i64))))))) (.pair .bool (.pair (.sl 3 (.int .i64)) (.sl 3 (.int .i64)))))) a2],.val false [.int .i64 a3],.val true [.int .i64 a4,.int .i64 a5,.int .i64 a6,.int .i64 a7,.int .i64 a8,.int .i64 a9,.int .i64 a10]]) = some ((g_AZ21 a0 a1 a2 a3 a4 a5 a6 a7 a8 a9 a10),.tup [(false,[.own .any true 83 (.pair (.int .i64) (.pair (.int .i64) (.pair (.int .i64) (.pair (.int .i64) (.pair (.int .i64) (.pair (.int .i64) (.pair (.int .i64) (.pair (.int .i64) (.pair (.int .i64) (.pair (.int .i64) (.int .i64))))))))))) (g_VZ21_0 a0 a1 a2 a3 a4 a5 a6 a7 a8 a9 a10)]),(false,[.bool (g_VZ21_1 a0 a1 a2 a3 a4 a5 a6 a7 a8 a9 a10)])],[[.own .any true 92 (.pair (.int .i64) (.pair (.int .i64) (.pair (.sl 9 .str) (.sl 155 (.pair .str (.pair .bool (.sl 3 (.int .i64)))))))) (g_VZ21_2 a0 a1 a2 a3 a4 a5 a6 a7 a8 a9 a10),.int .i64 (g_VZ21_3 a0 a1 a2 a3 a4 a5 a6 a7 a8 a9 a10),.own .any true 73 (.pair (.int .i64) (.pair (.pair (.int .i64) (.pair (.int .i64) (.pair (.int .i64) (.pair (.int .i64) (.pair (.int .i64) (.pair (.int .i64) (.int .i64))))))) (.pair .bool (.pair (.sl 3 (.int .i64)) (.sl 3 (.int .i64)))))) (g_VZ21_4 a0 a1 a2 a3 a4 a5 a6 a7 a8 a9 a10)]]) := by kernel_rfl
theorem sZ21:Sound Tryz.prog 61 msZ21 FZ21 := by
 refine fn_gen goodZ21 (by kernel_rfl) .std (fn := Tryz.f61) (c := (Tryz.f61.body.getD .skip)) (o := OZ21_0) (k := 0) (by kernel_rfl) (by kernel_rfl) (by kernel_rfl) (by kernel_rfl) (by decide) kZ21_0 ?_
 intro ys r outs h
 unfold FZ21 at h
 split at h
 ·exact (vZ21 _ _ _ _ _ _ _ _ _ _ _).trans h
 ·cases h
noncomputable def EZ16:Env where
 tt := mkTI Tryz.prog
 fn := fun _ => none
 bxf := fun _ => none
 mv := []
 keep := fun _ => []
 keepB := fun _ => []
 keepX := fun _ => []
 keepXB := fun _ => []
theorem goodFZ16:∀ f ms F,EZ16.fn f = some (ms,F) → Sound Tryz.prog f ms F := fun f ms F h => by cases h
theorem goodZ16:Good Tryz.prog EZ16 := ⟨rfl,goodFZ16,fun f ms F h => by cases h⟩
noncomputable def OZ16_0:Orc := fun _ _ => none
noncomputable def msZ16:List PM := [.rd]
noncomputable def lsZ16:List (Nat×Code) := loopsAll 0 (Tryz.f99.body.getD .skip)
theorem kZ16_0:OrcOk EZ16 OZ16_0 lsZ16 0 := orcOk_none
noncomputable def g_VZ16_0:List Int := []
noncomputable def FZ16:FSem := fun ys => match ys with
 | [.val false [.nil 3 (.int .i64)]] => some (true,.val false [.own .any true 3 (.int .i64) g_VZ16_0],[])
 | _ => none
theorem vZ16:collapseH .std EZ16 OZ16_0 (execFn EZ16 Tryz.f99 msZ16 [.val false [.nil 3 (.int .i64)]]) = some (true,.val false [.own .any true 3 (.int .i64) g_VZ16_0],[]) := by kernel_rfl
theorem sZ16:Sound Tryz.prog 99 msZ16 FZ16 := by
 refine fn_gen goodZ16 (by kernel_rfl) .std (fn := Tryz.f99) (c := (Tryz.f99.body.getD .skip)) (o := OZ16_0) (k := 0) (by kernel_rfl) (by kernel_rfl) (by kernel_rfl) (by kernel_rfl) (by decide) kZ16_0 ?_
 intro ys r outs h
 unfold FZ16 at h
 split at h
 ·exact (vZ16).trans h
 ·cases h
noncomputable def EZ17:Env where
 tt := mkTI Tryz.prog
 fn := fun _ => none
 bxf := fun _ => none
 mv := []
 keep := fun _ => []
 keepB := fun _ => []
 keepX := fun _ => []
 keepXB := fun _ => []
theorem goodFZ17:∀ f ms F,EZ17.fn f = some (ms,F) → Sound Tryz.prog f ms F := fun f ms F h => by cases h
theorem goodZ17:Good Tryz.prog EZ17 := ⟨rfl,goodFZ17,fun f ms F h => by cases h⟩
noncomputable def OZ17_0:Orc := fun _ _ => none
noncomputable def msZ17:List PM := [.rd]
noncomputable def lsZ17:List (Nat×Code) := loopsAll 0 (Tryz.f99.body.getD .skip)
theorem kZ17_0:OrcOk EZ17 OZ17_0 lsZ17 0 := orcOk_none
noncomputable def g_AZ17 (a0:List Int):Bool := decide ((nat_lit 0 + List.length a0) * nat_lit 8 ≤ nat_lit 140737488355328 ∧ nat_lit 0 + List.length a0 ≤ nat_lit 9223372036854775807)
noncomputable def g_VZ17_0 (a0:List Int):List Int := [] ++ a0
noncomputable def FZ17:FSem := fun ys => match ys with
 | [.val false [.sl .non 3 (.int .i64) a0]] => some ((g_AZ17 a0),.val false [.own .any true 3 (.int .i64) (g_VZ17_0 a0)],[])
 | _ => none
theorem vZ17 (a0:List Int):collapseH .std EZ17 OZ17_0 (execFn EZ17 Tryz.f99 msZ17 [.val false [.sl .non 3 (.int .i64) a0]]) = some ((g_AZ17 a0),.val false [.own .any true 3 (.int .i64) (g_VZ17_0 a0)],[]) := by kernel_rfl
theorem sZ17:Sound Tryz.prog 99 msZ17 FZ17 := by
 refine fn_gen goodZ17 (by kernel_rfl) .std (fn := Tryz.f99) (c := (Tryz.f99.body.getD .skip)) (o := OZ17_0) (k := 0) (by kernel_rfl) (by kernel_rfl) (by kernel_rfl) (by kernel_rfl) (by decide) kZ17_0 ?_
 intro ys r outs h
 unfold FZ17 at h
 split at h
 ·exact (vZ17 _).trans h
 ·cases h
def msZ18:List PM := [.rd]
noncomputable def FZ18:FSem := fun ys => match ys with
 | [.val false [.sl .any 3 (.int .i64) a0]] => some ((g_AZ17 a0),.val false [.own .any true 3 (.int .i64) a0],[])
 | _ => none
theorem sZ18:Sound Tryz.prog 99 msZ18 FZ18 := by
 refine sound_cases (el := 3) (e := (.int .i64)) sZ16 sZ17 (fun ys r outs h => ?_)
 unfold FZ18 at h
 split at h
 ·rename_i a0
  simp only [Option.some.injEq,Prod.mk.injEq] at h
  obtain ⟨h1,rfl,rfl⟩ := h
  refine ⟨a0,rfl,fun e => ?_,?_⟩
  ·subst e
   rfl
  ·show some ((g_AZ17 a0),RV.val false [Cell.own .any true 3 (.int .i64) ([] ++ a0)],[]) = _
   rw [h1,List.nil_append]
 ·cases h
noncomputable def EZ68:Env where
 tt := mkTI Tryz.prog
 fn := fun f => match f with
  | 99 => some (msZ18,FSem.wk msZ18 FZ18)
  | _ => none
 bxf := fun _ => none
 mv := []
 keep := fun b => match b with
  | 0 => [(3,false),(6,false),(7,false),(8,false)]
  | _ => []
 keepB := fun b => match b with
  | 0 => []
  | _ => []
 keepX := fun b => match b with
  | 0 => [(3,false)]
  | _ => []
 keepXB := fun b => match b with
  | 0 => []
  | _ => []
theorem goodFZ68:∀ f ms F,EZ68.fn f = some (ms,F) → Sound Tryz.prog f ms F := fun f ms F h => by
 unfold EZ68 at h
 dsimp only at h
 split at h
 ·exact gF sZ18 h
 ·cases h
theorem goodZ68:Good Tryz.prog EZ68 := ⟨rfl,goodFZ68,fun f ms F h => by cases h⟩
noncomputable def OZ68_0:Orc := fun _ _ => none
noncomputable def msZ68:List PM := [.rd]
noncomputable def lsZ68:List (Nat×Code) := loopsAll 0 (Tryz.f170.body.getD .skip)
noncomputable def cZ68_0:Code := (loopOf 0 (Tryz.f170.body.getD .skip)).getD .skip
theorem lseqZ68:lsZ68 = [(0,cZ68_0)] := by kernel_rfl
theorem mZ68_0:∀ p,p ∈ lsZ68 → p.1 = 0 → p.2 = cZ68_0 := by
 intro p hp
 rw [lseqZ68] at hp
 simp only [List.mem_cons,List.not_mem_nil,or_false] at hp
 subst hp; simp
theorem kZ68_0:OrcOk EZ68 OZ68_0 lsZ68 0 := orcOk_none
noncomputable def hZ68_0 (y0:tL3) (y1:tL3) (y2:Int) (y3:Int):List (Pl×LV) := [(.T 3,.t (.val false [.row 3 0 0])),(.R 3 0,.r 0 (some ⟨false,.any,true,155,(.pair .str (.pair .bool (.sl 3 (.int .i64)))),y0⟩)),(.T 6,.t (.val false [.sl .any 155 (.pair .str (.pair .bool (.sl 3 (.int .i64)))) y1])),(.T 7,.t (.val false [.int .i64 y2])),(.T 8,.t (.val false [.int .i64 y3]))]
noncomputable def g_SZ68_0 (y1:tL3) (y2:Int):(tL3×Int) → RT (tL3×Int) ((tL3))
 | (y0,y3) => .br (true) (.br (decide (y3 < y2)) (.br (decide (0 ≤ y3 ∧ y3 < (y1.length:Int))) (.br (g_AZ17 (at_ yT3 y1 (Int.toNat y3)).2.2) (.br (decide ((List.length y0 + List.length [((at_ yT3 y1 (Int.toNat y3)).1,(at_ yT3 y1 (Int.toNat y3)).2.1,(at_ yT3 y1 (Int.toNat y3)).2.2)]) * nat_lit 48 ≤ nat_lit 140737488355328 ∧ List.length y0 + List.length [((at_ yT3 y1 (Int.toNat y3)).1,(at_ yT3 y1 (Int.toNat y3)).2.1,(at_ yT3 y1 (Int.toNat y3)).2.2)] ≤ nat_lit 9223372036854775807)) (.br (true) (.go ((y0 ++ [((at_ yT3 y1 (Int.toNat y3)).1,(at_ yT3 y1 (Int.toNat y3)).2.1,(at_ yT3 y1 (Int.toNat y3)).2.2)],IntKind.i64.wrap (y3 + 1)))) .bad) .bad) .bad) .bad) (.out (y0))) .bad
noncomputable def g_LZ68_0 (y1:tL3) (y2:Int) (x:tL3×Int):Option ((tL3)) := loopO (g_SZ68_0 y1 y2) x
noncomputable def xZ68_0 (y1:tL3) (y2:Int):((tL3)) → Ex×List (Pl×LV) := fun r => (.exit 0,[(.T 3,.t (.val false [.row 3 0 0])),(.R 3 0,.r 0 (some ⟨false,.any,true,155,(.pair .str (.pair .bool (.sl 3 (.int .i64)))),r⟩))])
noncomputable def OZ68_1:Orc := fun b h => match b,h with
 | 0,[(.T 3,.t (.val false [.row 3 0 0])),(.R 3 0,.r 0 (some ⟨false,.any,true,155,(.pair .str (.pair .bool (.sl 3 (.int .i64)))),y0⟩)),(.T 6,.t (.val false [.sl .any 155 (.pair .str (.pair .bool (.sl 3 (.int .i64)))) y1])),(.T 7,.t (.val false [.int .i64 y2])),(.T 8,.t (.val false [.int .i64 y3]))] => some (okO (g_LZ68_0 y1 y2 (y0,y3)),(.leaf (.exit 0) [(.T 3,.t (.val false [.row 3 0 0])),(.R 3 0,.r 0 (some ⟨false,.any,true,155,(.pair .str (.pair .bool (.sl 3 (.int .i64)))),(valO (g_LZ68_0 y1 y2 (y0,y3)))⟩))]))
 | b,h => OZ68_0 b h
theorem bZ68_0 (y0:tL3) (y1:tL3) (y2:Int) (y3:Int):Tr.bt EZ68 OZ68_0 (exec EZ68 0 cZ68_0 (St.of (hZ68_0 y0 y1 y2 y3)) (leafRd EZ68 0)) = (g_SZ68_0 y1 y2 (y0,y3)).bt (fun ((y0,y3):tL3×Int) => (hZ68_0 y0 y1 y2 y3)) (xZ68_0 y1 y2) := by kernel_rfl
theorem kZ68_1:OrcOk EZ68 OZ68_1 lsZ68 1 := orc_add kZ68_0 (fun n p hp h ex h' ho => by
 obtain ⟨b,c⟩ := p
 obtain ⟨xt,h1,h2⟩ := ho
 have h1:OZ68_1 b h = some (true,xt) := h1
 unfold OZ68_1 at h1
 split at h1
 ·injection h1 with h1
  injection h1 with e1 e2
  subst e2
  have hc:c = cZ68_0 := mZ68_0 _ hp rfl
  subst hc
  right
  rename_i y0 y1 y2 y3
  have key := LT_step kZ68_0 hp (fun q hq => loopsAll_in _ _ _ _ hp hq) (fun ((y0,y3):tL3×Int) => (hZ68_0 y0 y1 y2 y3)) (xZ68_0 y1 y2) (g_SZ68_0 y1 y2) (fun x => by first | exact bZ68_0 x.1 y1 y2 x.2) n (x := (y0,y3)) (okO_some e1)
  have hx:∀ r,XT.sel (.leaf (.exit 0) [(.T 3,.t (.val false [.row 3 0 0])),(.R 3 0,.r 0 (some ⟨false,.any,true,155,(.pair .str (.pair .bool (.sl 3 (.int .i64)))),r⟩))]) = xZ68_0 y1 y2 r := fun r => by first | rfl | rcases r with r | r <;> rfl | rcases r with r | r | r <;> rfl | rcases r with r | r | r | r <;> rfl
  have h3 := (hx (valO (g_LZ68_0 y1 y2 (y0,y3)))).symm.trans h2
  have e3 := congrArg Prod.fst h3
  have e4 := congrArg Prod.snd h3
  simp only at e3 e4
  rw [← e3,← e4]
  exact key
 ·exact .inl ⟨xt,h1,h2⟩)
noncomputable def g_AZ68 (a0:tL3):Bool := okO (g_LZ68_0 a0 (a0.length:Int) ([],(0:Int)))
noncomputable def g_VZ68_0 (a0:tL3):tL3 := valO (g_LZ68_0 a0 (a0.length:Int) ([],(0:Int)))
noncomputable def FZ68:FSem := fun ys => match ys with
 | [.val false [.sl .any 155 (.pair .str (.pair .bool (.sl 3 (.int .i64)))) a0]] => some ((g_AZ68 a0),.val false [.own .any true 155 (.pair .str (.pair .bool (.sl 3 (.int .i64)))) (g_VZ68_0 a0)],[])
 | _ => none
theorem vZ68 (a0:tL3):collapseH .std EZ68 OZ68_1 (execFn EZ68 Tryz.f170 msZ68 [.val false [.sl .any 155 (.pair .str (.pair .bool (.sl 3 (.int .i64)))) a0]]) = some ((g_AZ68 a0),.val false [.own .any true 155 (.pair .str (.pair .bool (.sl 3 (.int .i64)))) (g_VZ68_0 a0)],[]) := by kernel_rfl
theorem sZ68:Sound Tryz.prog 170 msZ68 FZ68 := by
 refine fn_gen goodZ68 (by kernel_rfl) .std (fn := Tryz.f170) (c := (Tryz.f170.body.getD .skip)) (o := OZ68_1) (k := 1) (by kernel_rfl) (by kernel_rfl) (by kernel_rfl) (by kernel_rfl) (by decide) kZ68_1 ?_
 intro ys r outs h
 unfold FZ68 at h
 split at h
 ·exact (vZ68 _).trans h
 ·cases h
noncomputable def EZ12:Env where
 tt := mkTI Tryz.prog
 fn := fun _ => none
 bxf := fun _ => none
 mv := []
 keep := fun _ => []
 keepB := fun _ => []
 keepX := fun _ => []
 keepXB := fun _ => []
theorem goodFZ12:∀ f ms F,EZ12.fn f = some (ms,F) → Sound Tryz.prog f ms F := fun f ms F h => by cases h
theorem goodZ12:Good Tryz.prog EZ12 := ⟨rfl,goodFZ12,fun f ms F h => by cases h⟩
noncomputable def OZ12_0:Orc := fun _ _ => none
noncomputable def msZ12:List PM := [.rd]
noncomputable def lsZ12:List (Nat×Code) := loopsAll 0 (Tryz.f169.body.getD .skip)
theorem kZ12_0:OrcOk EZ12 OZ12_0 lsZ12 0 := orcOk_none
noncomputable def g_VZ12_0:List ByteArray := []
noncomputable def FZ12:FSem := fun ys => match ys with
 | [.val false [.nil 9 .str]] => some (true,.val false [.own .any true 9 .str g_VZ12_0],[])
 | _ => none
theorem vZ12:collapseH .std EZ12 OZ12_0 (execFn EZ12 Tryz.f169 msZ12 [.val false [.nil 9 .str]]) = some (true,.val false [.own .any true 9 .str g_VZ12_0],[]) := by kernel_rfl
theorem sZ12:Sound Tryz.prog 169 msZ12 FZ12 := by
 refine fn_gen goodZ12 (by kernel_rfl) .std (fn := Tryz.f169) (c := (Tryz.f169.body.getD .skip)) (o := OZ12_0) (k := 0) (by kernel_rfl) (by kernel_rfl) (by kernel_rfl) (by kernel_rfl) (by decide) kZ12_0 ?_
 intro ys r outs h
 unfold FZ12 at h
 split at h
 ·exact (vZ12).trans h
 ·cases h
noncomputable def EZ13:Env where
 tt := mkTI Tryz.prog
 fn := fun _ => none
 bxf := fun _ => none
 mv := []
 keep := fun _ => []
 keepB := fun _ => []
 keepX := fun _ => []
 keepXB := fun _ => []
theorem goodFZ13:∀ f ms F,EZ13.fn f = some (ms,F) → Sound Tryz.prog f ms F := fun f ms F h => by cases h
theorem goodZ13:Good Tryz.prog EZ13 := ⟨rfl,goodFZ13,fun f ms F h => by cases h⟩
noncomputable def OZ13_0:Orc := fun _ _ => none
noncomputable def msZ13:List PM := [.rd]
noncomputable def lsZ13:List (Nat×Code) := loopsAll 0 (Tryz.f169.body.getD .skip)
theorem kZ13_0:OrcOk EZ13 OZ13_0 lsZ13 0 := orcOk_none
noncomputable def g_AZ13 (a0:List ByteArray):Bool := decide ((nat_lit 0 + List.length a0) * nat_lit 16 ≤ nat_lit 140737488355328 ∧ nat_lit 0 + List.length a0 ≤ nat_lit 9223372036854775807)
noncomputable def g_VZ13_0 (a0:List ByteArray):List ByteArray := [] ++ a0
noncomputable def FZ13:FSem := fun ys => match ys with
 | [.val false [.sl .non 9 .str a0]] => some ((g_AZ13 a0),.val false [.own .any true 9 .str (g_VZ13_0 a0)],[])
 | _ => none
theorem vZ13 (a0:List ByteArray):collapseH .std EZ13 OZ13_0 (execFn EZ13 Tryz.f169 msZ13 [.val false [.sl .non 9 .str a0]]) = some ((g_AZ13 a0),.val false [.own .any true 9 .str (g_VZ13_0 a0)],[]) := by kernel_rfl
theorem sZ13:Sound Tryz.prog 169 msZ13 FZ13 := by
 refine fn_gen goodZ13 (by kernel_rfl) .std (fn := Tryz.f169) (c := (Tryz.f169.body.getD .skip)) (o := OZ13_0) (k := 0) (by kernel_rfl) (by kernel_rfl) (by kernel_rfl) (by kernel_rfl) (by decide) kZ13_0 ?_
 intro ys r outs h
 unfold FZ13 at h
 split at h
 ·exact (vZ13 _).trans h
 ·cases h
def msZ15:List PM := [.rd]
noncomputable def FZ15:FSem := fun ys => match ys with
 | [.val false [.sl .any 9 .str a0]] => some ((g_AZ13 a0),.val false [.own .any true 9 .str a0],[])
 | _ => none
theorem sZ15:Sound Tryz.prog 169 msZ15 FZ15 := by
 refine sound_cases (el := 9) (e := .str) sZ12 sZ13 (fun ys r outs h => ?_)
 unfold FZ15 at h
 split at h
 ·rename_i a0
  simp only [Option.some.injEq,Prod.mk.injEq] at h
  obtain ⟨h1,rfl,rfl⟩ := h
  refine ⟨a0,rfl,fun e => ?_,?_⟩
  ·subst e
   rfl
  ·show some ((g_AZ13 a0),RV.val false [Cell.own .any true 9 .str ([] ++ a0)],[]) = _
   rw [h1,List.nil_append]
 ·cases h
noncomputable def EZ22:Env where
 tt := mkTI Tryz.prog
 fn := fun f => match f with
  | 169 => some (msZ15,FSem.wk msZ15 FZ15)
  | 170 => some (msZ68,FSem.wk msZ68 FZ68)
  | _ => none
 bxf := fun _ => none
 mv := []
 keep := fun _ => []
 keepB := fun _ => []
 keepX := fun _ => []
 keepXB := fun _ => []
theorem goodFZ22:∀ f ms F,EZ22.fn f = some (ms,F) → Sound Tryz.prog f ms F := fun f ms F h => by
 unfold EZ22 at h
 dsimp only at h
 split at h
 ·exact gF sZ15 h
 ·exact gF sZ68 h
 ·cases h
theorem goodZ22:Good Tryz.prog EZ22 := ⟨rfl,goodFZ22,fun f ms F h => by cases h⟩
noncomputable def OZ22_0:Orc := fun _ _ => none
noncomputable def msZ22:List PM := [.rd]
noncomputable def lsZ22:List (Nat×Code) := loopsAll 0 (Tryz.f146.body.getD .skip)
theorem kZ22_0:OrcOk EZ22 OZ22_0 lsZ22 0 := orcOk_none
noncomputable def g_AZ22 (a0:Int) (a1:Int) (a2:List ByteArray) (a3:tL3):Bool := g_AZ13 a2&&g_AZ68 a3
noncomputable def FZ22:FSem := fun ys => match ys with
 | [.val true [.int .i64 a0,.int .i64 a1,.sl .any 9 .str a2,.sl .any 155 (.pair .str (.pair .bool (.sl 3 (.int .i64)))) a3]] => some ((g_AZ22 a0 a1 a2 a3),.val true [.int .i64 a0,.int .i64 a1,.own .any true 9 .str a2,.own .any true 155 (.pair .str (.pair .bool (.sl 3 (.int .i64)))) (g_VZ68_0 a3)],[])
 | _ => none
theorem vZ22 (a0:Int) (a1:Int) (a2:List ByteArray) (a3:tL3):collapseH .std EZ22 OZ22_0 (execFn EZ22 Tryz.f146 msZ22 [.val true [.int .i64 a0,.int .i64 a1,.sl .any 9 .str a2,.sl .any 155 (.pair .str (.pair .bool (.sl 3 (.int .i64)))) a3]]) = some ((g_AZ22 a0 a1 a2 a3),.val true [.int .i64 a0,.int .i64 a1,.own .any true 9 .str a2,.own .any true 155 (.pair .str (.pair .bool (.sl 3 (.int .i64)))) (g_VZ68_0 a3)],[]) := by kernel_rfl
theorem sZ22:Sound Tryz.prog 146 msZ22 FZ22 := by
 refine fn_gen goodZ22 (by kernel_rfl) .std (fn := Tryz.f146) (c := (Tryz.f146.body.getD .skip)) (o := OZ22_0) (k := 0) (by kernel_rfl) (by kernel_rfl) (by kernel_rfl) (by kernel_rfl) (by decide) kZ22_0 ?_
 intro ys r outs h
 unfold FZ22 at h
 split at h
 ·exact (vZ22 _ _ _ _).trans h
 ·cases h
noncomputable def EZ23:Env where
 tt := mkTI Tryz.prog
 fn := fun f => match f with
  | 146 => some (msZ22,FSem.wk msZ22 FZ22)
  | _ => none
 bxf := fun _ => none
 mv := []
 keep := fun b => match b with
  | 0 => [(2,false),(3,false),(10,false),(11,false),(12,false)]
  | _ => []
 keepB := fun b => match b with
  | 0 => [(2,false),(3,false)]
  | _ => []
 keepX := fun b => match b with
  | 0 => [(2,false),(3,false)]
  | _ => []
 keepXB := fun b => match b with
  | 0 => [(2,false),(3,false)]
  | _ => []
theorem goodFZ23:∀ f ms F,EZ23.fn f = some (ms,F) → Sound Tryz.prog f ms F := fun f ms F h => by
 unfold EZ23 at h
 dsimp only at h
 split at h
 ·exact gF sZ22 h
 ·cases h
theorem goodZ23:Good Tryz.prog EZ23 := ⟨rfl,goodFZ23,fun f ms F h => by cases h⟩
noncomputable def OZ23_0:Orc := fun _ _ => none
noncomputable def msZ23:List PM := [.rd]
noncomputable def lsZ23:List (Nat×Code) := loopsAll 0 (Tryz.f108.body.getD .skip)
noncomputable def cZ23_0:Code := (loopOf 0 (Tryz.f108.body.getD .skip)).getD .skip
theorem lseqZ23:lsZ23 = [(0,cZ23_0)] := by kernel_rfl
theorem mZ23_0:∀ p,p ∈ lsZ23 → p.1 = 0 → p.2 = cZ23_0 := by
 intro p hp
 rw [lseqZ23] at hp
 simp only [List.mem_cons,List.not_mem_nil,or_false] at hp
 subst hp; simp
theorem kZ23_0:OrcOk EZ23 OZ23_0 lsZ23 0 := orcOk_none
noncomputable def hZ23_0 (y0:tL1) (y1:Int) (y2:Int) (y3:Int) (y4:tL1) (y5:Int) (y6:tL1):List (Pl×LV) := [(.T 2,.t (.val false [.ptr 2 0 0])),(.T 3,.t (.val false [.ptr 3 0 0])),(.T 10,.t (.val false [.sl .any 92 (.pair (.int .i64) (.pair (.int .i64) (.pair (.sl 9 .str) (.sl 155 (.pair .str (.pair .bool (.sl 3 (.int .i64)))))))) y0])),(.T 11,.t (.val false [.int .i64 y1])),(.T 12,.t (.val false [.int .i64 y2])),(.B 2,.b 0 false [.row 2 1 0,.int .i64 y3]),(.R 2 1,.r 0 (some ⟨false,.any,true,92,(.pair (.int .i64) (.pair (.int .i64) (.pair (.sl 9 .str) (.sl 155 (.pair .str (.pair .bool (.sl 3 (.int .i64)))))))),y4⟩)),(.B 3,.b 0 false [.row 3 1 0,.int .i64 y5]),(.R 3 1,.r 0 (some ⟨false,.any,true,92,(.pair (.int .i64) (.pair (.int .i64) (.pair (.sl 9 .str) (.sl 155 (.pair .str (.pair .bool (.sl 3 (.int .i64)))))))),y6⟩))]
noncomputable def g_SZ23_0 (y0:tL1) (y1:Int) (y3:Int) (y4:tL1) (y5:Int):(Int×tL1) → RT (Int×tL1) ((tL1))
 | (y2,y6) => .br (true) (.br (decide (y2 < y1)) (.br (decide (0 ≤ y2 ∧ y2 < (y0.length:Int))) (.br (g_AZ22 (at_ yT1 y0 (Int.toNat y2)).1 (at_ yT1 y0 (Int.toNat y2)).2.1 (at_ yT1 y0 (Int.toNat y2)).2.2.1 (at_ yT1 y0 (Int.toNat y2)).2.2.2) (.br (decide ((List.length y6 + List.length [((at_ yT1 y0 (Int.toNat y2)).1,(at_ yT1 y0 (Int.toNat y2)).2.1,(at_ yT1 y0 (Int.toNat y2)).2.2.1,g_VZ68_0 (at_ yT1 y0 (Int.toNat y2)).2.2.2)]) * nat_lit 64 ≤ nat_lit 140737488355328 ∧ List.length y6 + List.length [((at_ yT1 y0 (Int.toNat y2)).1,(at_ yT1 y0 (Int.toNat y2)).2.1,(at_ yT1 y0 (Int.toNat y2)).2.2.1,g_VZ68_0 (at_ yT1 y0 (Int.toNat y2)).2.2.2)] ≤ nat_lit 9223372036854775807)) (.br (true) (.go ((IntKind.i64.wrap (y2 + 1),y6 ++ [((at_ yT1 y0 (Int.toNat y2)).1,(at_ yT1 y0 (Int.toNat y2)).2.1,(at_ yT1 y0 (Int.toNat y2)).2.2.1,g_VZ68_0 (at_ yT1 y0 (Int.toNat y2)).2.2.2)]))) .bad) .bad) .bad) .bad) (.out (y6))) .bad
noncomputable def g_LZ23_0 (y0:tL1) (y1:Int) (y3:Int) (y4:tL1) (y5:Int) (x:Int×tL1):Option ((tL1)) := loopO (g_SZ23_0 y0 y1 y3 y4 y5) x
noncomputable def xZ23_0 (y0:tL1) (y1:Int) (y3:Int) (y4:tL1) (y5:Int):((tL1)) → Ex×List (Pl×LV) := fun r => (.exit 0,[(.T 2,.t (.val false [.ptr 2 0 0])),(.T 3,.t (.val false [.ptr 3 0 0])),(.B 2,.b 0 false [.row 2 1 0,.int .i64 y3]),(.R 2 1,.r 0 (some ⟨false,.any,true,92,(.pair (.int .i64) (.pair (.int .i64) (.pair (.sl 9 .str) (.sl 155 (.pair .str (.pair .bool (.sl 3 (.int .i64)))))))),y4⟩)),(.B 3,.b 0 false [.row 3 1 0,.int .i64 y5]),(.R 3 1,.r 0 (some ⟨false,.any,true,92,(.pair (.int .i64) (.pair (.int .i64) (.pair (.sl 9 .str) (.sl 155 (.pair .str (.pair .bool (.sl 3 (.int .i64)))))))),r⟩))])
noncomputable def OZ23_1:Orc := fun b h => match b,h with
 | 0,[(.T 2,.t (.val false [.ptr 2 0 0])),(.T 3,.t (.val false [.ptr 3 0 0])),(.T 10,.t (.val false [.sl .any 92 (.pair (.int .i64) (.pair (.int .i64) (.pair (.sl 9 .str) (.sl 155 (.pair .str (.pair .bool (.sl 3 (.int .i64)))))))) y0])),(.T 11,.t (.val false [.int .i64 y1])),(.T 12,.t (.val false [.int .i64 y2])),(.B 2,.b 0 false [.row 2 1 0,.int .i64 y3]),(.R 2 1,.r 0 (some ⟨false,.any,true,92,(.pair (.int .i64) (.pair (.int .i64) (.pair (.sl 9 .str) (.sl 155 (.pair .str (.pair .bool (.sl 3 (.int .i64)))))))),y4⟩)),(.B 3,.b 0 false [.row 3 1 0,.int .i64 y5]),(.R 3 1,.r 0 (some ⟨false,.any,true,92,(.pair (.int .i64) (.pair (.int .i64) (.pair (.sl 9 .str) (.sl 155 (.pair .str (.pair .bool (.sl 3 (.int .i64)))))))),y6⟩))] => some (okO (g_LZ23_0 y0 y1 y3 y4 y5 (y2,y6)),(.leaf (.exit 0) [(.T 2,.t (.val false [.ptr 2 0 0])),(.T 3,.t (.val false [.ptr 3 0 0])),(.B 2,.b 0 false [.row 2 1 0,.int .i64 y3]),(.R 2 1,.r 0 (some ⟨false,.any,true,92,(.pair (.int .i64) (.pair (.int .i64) (.pair (.sl 9 .str) (.sl 155 (.pair .str (.pair .bool (.sl 3 (.int .i64)))))))),y4⟩)),(.B 3,.b 0 false [.row 3 1 0,.int .i64 y5]),(.R 3 1,.r 0 (some ⟨false,.any,true,92,(.pair (.int .i64) (.pair (.int .i64) (.pair (.sl 9 .str) (.sl 155 (.pair .str (.pair .bool (.sl 3 (.int .i64)))))))),(valO (g_LZ23_0 y0 y1 y3 y4 y5 (y2,y6)))⟩))]))
 | b,h => OZ23_0 b h
theorem bZ23_0 (y0:tL1) (y1:Int) (y2:Int) (y3:Int) (y4:tL1) (y5:Int) (y6:tL1):Tr.bt EZ23 OZ23_0 (exec EZ23 0 cZ23_0 (St.of (hZ23_0 y0 y1 y2 y3 y4 y5 y6)) (leafRd EZ23 0)) = (g_SZ23_0 y0 y1 y3 y4 y5 (y2,y6)).bt (fun ((y2,y6):Int×tL1) => (hZ23_0 y0 y1 y2 y3 y4 y5 y6)) (xZ23_0 y0 y1 y3 y4 y5) := by kernel_rfl
theorem kZ23_1:OrcOk EZ23 OZ23_1 lsZ23 1 := orc_add kZ23_0 (fun n p hp h ex h' ho => by
 obtain ⟨b,c⟩ := p
 obtain ⟨xt,h1,h2⟩ := ho
 have h1:OZ23_1 b h = some (true,xt) := h1
 unfold OZ23_1 at h1
 split at h1
 ·injection h1 with h1
  injection h1 with e1 e2
  subst e2
  have hc:c = cZ23_0 := mZ23_0 _ hp rfl
  subst hc
  right
  rename_i y0 y1 y2 y3 y4 y5 y6
  have key := LT_step kZ23_0 hp (fun q hq => loopsAll_in _ _ _ _ hp hq) (fun ((y2,y6):Int×tL1) => (hZ23_0 y0 y1 y2 y3 y4 y5 y6)) (xZ23_0 y0 y1 y3 y4 y5) (g_SZ23_0 y0 y1 y3 y4 y5) (fun x => by first | exact bZ23_0 y0 y1 x.1 y3 y4 y5 x.2) n (x := (y2,y6)) (okO_some e1)
  have hx:∀ r,XT.sel (.leaf (.exit 0) [(.T 2,.t (.val false [.ptr 2 0 0])),(.T 3,.t (.val false [.ptr 3 0 0])),(.B 2,.b 0 false [.row 2 1 0,.int .i64 y3]),(.R 2 1,.r 0 (some ⟨false,.any,true,92,(.pair (.int .i64) (.pair (.int .i64) (.pair (.sl 9 .str) (.sl 155 (.pair .str (.pair .bool (.sl 3 (.int .i64)))))))),y4⟩)),(.B 3,.b 0 false [.row 3 1 0,.int .i64 y5]),(.R 3 1,.r 0 (some ⟨false,.any,true,92,(.pair (.int .i64) (.pair (.int .i64) (.pair (.sl 9 .str) (.sl 155 (.pair .str (.pair .bool (.sl 3 (.int .i64)))))))),r⟩))]) = xZ23_0 y0 y1 y3 y4 y5 r := fun r => by first | rfl | rcases r with r | r <;> rfl | rcases r with r | r | r <;> rfl | rcases r with r | r | r | r <;> rfl
  have h3 := (hx (valO (g_LZ23_0 y0 y1 y3 y4 y5 (y2,y6)))).symm.trans h2
  have e3 := congrArg Prod.fst h3
  have e4 := congrArg Prod.snd h3
  simp only at e3 e4
  rw [← e3,← e4]
  exact key
 ·exact .inl ⟨xt,h1,h2⟩)
noncomputable def g_AZ23 (a0:tL1) (a1:Int):Bool := okO (g_LZ23_0 a0 (a0.length:Int) (0:Int) [] a1 ((0:Int),[]))
noncomputable def g_VZ23_0 (a0:tL1) (a1:Int):tL1 := valO (g_LZ23_0 a0 (a0.length:Int) (0:Int) [] a1 ((0:Int),[]))
noncomputable def FZ23:FSem := fun ys => match ys with
 | [.val true [.sl .any 92 (.pair (.int .i64) (.pair (.int .i64) (.pair (.sl 9 .str) (.sl 155 (.pair .str (.pair .bool (.sl 3 (.int .i64)))))))) a0,.int .i64 a1]] => some ((g_AZ23 a0 a1),.val true [.own .any true 92 (.pair (.int .i64) (.pair (.int .i64) (.pair (.sl 9 .str) (.sl 155 (.pair .str (.pair .bool (.sl 3 (.int .i64)))))))) (g_VZ23_0 a0 a1),.int .i64 a1],[])
 | _ => none
theorem vZ23 (a0:tL1) (a1:Int):collapseH .std EZ23 OZ23_1 (execFn EZ23 Tryz.f108 msZ23 [.val true [.sl .any 92 (.pair (.int .i64) (.pair (.int .i64) (.pair (.sl 9 .str) (.sl 155 (.pair .str (.pair .bool (.sl 3 (.int .i64)))))))) a0,.int .i64 a1]]) = some ((g_AZ23 a0 a1),.val true [.own .any true 92 (.pair (.int .i64) (.pair (.int .i64) (.pair (.sl 9 .str) (.sl 155 (.pair .str (.pair .bool (.sl 3 (.int .i64)))))))) (g_VZ23_0 a0 a1),.int .i64 a1],[]) := by kernel_rfl
theorem sZ23:Sound Tryz.prog 108 msZ23 FZ23 := by
 refine fn_gen goodZ23 (by kernel_rfl) .std (fn := Tryz.f108) (c := (Tryz.f108.body.getD .skip)) (o := OZ23_1) (k := 1) (by kernel_rfl) (by kernel_rfl) (by kernel_rfl) (by kernel_rfl) (by decide) kZ23_1 ?_
 intro ys r outs h
 unfold FZ23 at h
 split at h
 ·exact (vZ23 _ _).trans h
 ·cases h
noncomputable def EZ20:Env where
 tt := mkTI Tryz.prog
 fn := fun f => match f with
  | 99 => some (msZ18,FSem.wk msZ18 FZ18)
  | 108 => some (msZ23,FSem.wk msZ23 FZ23)
  | _ => none
 bxf := fun _ => none
 mv := []
 keep := fun b => match b with
  | 0 => [(2,false),(3,false),(11,false),(12,false),(13,false)]
  | _ => []
 keepB := fun b => match b with
  | 0 => [(2,false),(3,false)]
  | _ => []
 keepX := fun b => match b with
  | 0 => [(2,false),(3,false)]
  | _ => []
 keepXB := fun b => match b with
  | 0 => [(2,false),(3,false)]
  | _ => []
theorem goodFZ20:∀ f ms F,EZ20.fn f = some (ms,F) → Sound Tryz.prog f ms F := fun f ms F h => by
 unfold EZ20 at h
 dsimp only at h
 split at h
 ·exact gF sZ18 h
 ·exact gF sZ23 h
 ·cases h
theorem goodZ20:Good Tryz.prog EZ20 := ⟨rfl,goodFZ20,fun f ms F h => by cases h⟩
noncomputable def OZ20_0:Orc := fun _ _ => none
noncomputable def msZ20:List PM := [.rd]
noncomputable def lsZ20:List (Nat×Code) := loopsAll 0 (Tryz.f60.body.getD .skip)
noncomputable def cZ20_0:Code := (loopOf 0 (Tryz.f60.body.getD .skip)).getD .skip
theorem lseqZ20:lsZ20 = [(0,cZ20_0)] := by kernel_rfl
theorem mZ20_0:∀ p,p ∈ lsZ20 → p.1 = 0 → p.2 = cZ20_0 := by
 intro p hp
 rw [lseqZ20] at hp
 simp only [List.mem_cons,List.not_mem_nil,or_false] at hp
 subst hp; simp
theorem kZ20_0:OrcOk EZ20 OZ20_0 lsZ20 0 := orcOk_none
noncomputable def hZ20_0 (y0:tL0) (y1:Int) (y2:Int) (y3:Int) (y4:tL1) (y5:tL0) (y6:Int) (y7:tL1) (y8:tL0):List (Pl×LV) := [(.T 2,.t (.val false [.ptr 2 0 0])),(.T 3,.t (.val false [.ptr 3 0 0])),(.T 11,.t (.val false [.sl .any 73 (.pair (.int .i64) (.pair (.pair (.int .i64) (.pair (.int .i64) (.pair (.int .i64) (.pair (.int .i64) (.pair (.int .i64) (.pair (.int .i64) (.int .i64))))))) (.pair .bool (.pair (.sl 3 (.int .i64)) (.sl 3 (.int .i64)))))) y0])),(.T 12,.t (.val false [.int .i64 y1])),(.T 13,.t (.val false [.int .i64 y2])),(.B 2,.b 0 false [.row 2 1 0,.int .i64 y3,.row 2 5 0]),(.R 2 1,.r 0 (some ⟨false,.any,true,92,(.pair (.int .i64) (.pair (.int .i64) (.pair (.sl 9 .str) (.sl 155 (.pair .str (.pair .bool (.sl 3 (.int .i64)))))))),y4⟩)),(.R 2 5,.r 0 (some ⟨false,.any,true,73,(.pair (.int .i64) (.pair (.pair (.int .i64) (.pair (.int .i64) (.pair (.int .i64) (.pair (.int .i64) (.pair (.int .i64) (.pair (.int .i64) (.int .i64))))))) (.pair .bool (.pair (.sl 3 (.int .i64)) (.sl 3 (.int .i64)))))),y5⟩)),(.B 3,.b 0 false [.row 3 1 0,.int .i64 y6,.row 3 5 0]),(.R 3 1,.r 0 (some ⟨false,.any,true,92,(.pair (.int .i64) (.pair (.int .i64) (.pair (.sl 9 .str) (.sl 155 (.pair .str (.pair .bool (.sl 3 (.int .i64)))))))),y7⟩)),(.R 3 5,.r 0 (some ⟨false,.any,true,73,(.pair (.int .i64) (.pair (.pair (.int .i64) (.pair (.int .i64) (.pair (.int .i64) (.pair (.int .i64) (.pair (.int .i64) (.pair (.int .i64) (.int .i64))))))) (.pair .bool (.pair (.sl 3 (.int .i64)) (.sl 3 (.int .i64)))))),y8⟩))]
noncomputable def g_SZ20_0 (y0:tL0) (y1:Int) (y3:Int) (y4:tL1) (y5:tL0) (y6:Int) (y7:tL1):(Int×tL0) → RT (Int×tL0) ((tL0))
 | (y2,y8) => .br (true) (.br (decide (y2 < y1)) (.br (decide (0 ≤ y2 ∧ y2 < (y0.length:Int))) (.br (g_AZ17 (at_ yT0 y0 (Int.toNat y2)).2.2.2.1) (.br (g_AZ17 (at_ yT0 y0 (Int.toNat y2)).2.2.2.2) (.br (decide ((List.length y8 + List.length [((at_ yT0 y0 (Int.toNat y2)).1,((at_ yT0 y0 (Int.toNat y2)).2.1.1,(at_ yT0 y0 (Int.toNat y2)).2.1.2.1,(at_ yT0 y0 (Int.toNat y2)).2.1.2.2.1,(at_ yT0 y0 (Int.toNat y2)).2.1.2.2.2.1,(at_ yT0 y0 (Int.toNat y2)).2.1.2.2.2.2.1,(at_ yT0 y0 (Int.toNat y2)).2.1.2.2.2.2.2.1,(at_ yT0 y0 (Int.toNat y2)).2.1.2.2.2.2.2.2),(at_ yT0 y0 (Int.toNat y2)).2.2.1,(at_ yT0 y0 (Int.toNat y2)).2.2.2.1,(at_ yT0 y0 (Int.toNat y2)).2.2.2.2)]) * nat_lit 120 ≤ nat_lit 140737488355328 ∧ List.length y8 + List.length [((at_ yT0 y0 (Int.toNat y2)).1,((at_ yT0 y0 (Int.toNat y2)).2.1.1,(at_ yT0 y0 (Int.toNat y2)).2.1.2.1,(at_ yT0 y0 (Int.toNat y2)).2.1.2.2.1,(at_ yT0 y0 (Int.toNat y2)).2.1.2.2.2.1,(at_ yT0 y0 (Int.toNat y2)).2.1.2.2.2.2.1,(at_ yT0 y0 (Int.toNat y2)).2.1.2.2.2.2.2.1,(at_ yT0 y0 (Int.toNat y2)).2.1.2.2.2.2.2.2),(at_ yT0 y0 (Int.toNat y2)).2.2.1,(at_ yT0 y0 (Int.toNat y2)).2.2.2.1,(at_ yT0 y0 (Int.toNat y2)).2.2.2.2)] ≤ nat_lit 9223372036854775807)) (.br (true) (.go ((IntKind.i64.wrap (y2 + 1),y8 ++ [((at_ yT0 y0 (Int.toNat y2)).1,((at_ yT0 y0 (Int.toNat y2)).2.1.1,(at_ yT0 y0 (Int.toNat y2)).2.1.2.1,(at_ yT0 y0 (Int.toNat y2)).2.1.2.2.1,(at_ yT0 y0 (Int.toNat y2)).2.1.2.2.2.1,(at_ yT0 y0 (Int.toNat y2)).2.1.2.2.2.2.1,(at_ yT0 y0 (Int.toNat y2)).2.1.2.2.2.2.2.1,(at_ yT0 y0 (Int.toNat y2)).2.1.2.2.2.2.2.2),(at_ yT0 y0 (Int.toNat y2)).2.2.1,(at_ yT0 y0 (Int.toNat y2)).2.2.2.1,(at_ yT0 y0 (Int.toNat y2)).2.2.2.2)]))) .bad) .bad) .bad) .bad) .bad) (.out (y8))) .bad
noncomputable def g_LZ20_0 (y0:tL0) (y1:Int) (y3:Int) (y4:tL1) (y5:tL0) (y6:Int) (y7:tL1) (x:Int×tL0):Option ((tL0)) := loopO (g_SZ20_0 y0 y1 y3 y4 y5 y6 y7) x
noncomputable def xZ20_0 (y0:tL0) (y1:Int) (y3:Int) (y4:tL1) (y5:tL0) (y6:Int) (y7:tL1):((tL0)) → Ex×List (Pl×LV) := fun r => (.exit 0,[(.T 2,.t (.val false [.ptr 2 0 0])),(.T 3,.t (.val false [.ptr 3 0 0])),(.B 2,.b 0 false [.row 2 1 0,.int .i64 y3,.row 2 5 0]),(.R 2 1,.r 0 (some ⟨false,.any,true,92,(.pair (.int .i64) (.pair (.int .i64) (.pair (.sl 9 .str) (.sl 155 (.pair .str (.pair .bool (.sl 3 (.int .i64)))))))),y4⟩)),(.R 2 5,.r 0 (some ⟨false,.any,true,73,(.pair (.int .i64) (.pair (.pair (.int .i64) (.pair (.int .i64) (.pair (.int .i64) (.pair (.int .i64) (.pair (.int .i64) (.pair (.int .i64) (.int .i64))))))) (.pair .bool (.pair (.sl 3 (.int .i64)) (.sl 3 (.int .i64)))))),y5⟩)),(.B 3,.b 0 false [.row 3 1 0,.int .i64 y6,.row 3 5 0]),(.R 3 1,.r 0 (some ⟨false,.any,true,92,(.pair (.int .i64) (.pair (.int .i64) (.pair (.sl 9 .str) (.sl 155 (.pair .str (.pair .bool (.sl 3 (.int .i64)))))))),y7⟩)),(.R 3 5,.r 0 (some ⟨false,.any,true,73,(.pair (.int .i64) (.pair (.pair (.int .i64) (.pair (.int .i64) (.pair (.int .i64) (.pair (.int .i64) (.pair (.int .i64) (.pair (.int .i64) (.int .i64))))))) (.pair .bool (.pair (.sl 3 (.int .i64)) (.sl 3 (.int .i64)))))),r⟩))])
noncomputable def OZ20_1:Orc := fun b h => match b,h with
 | 0,[(.T 2,.t (.val false [.ptr 2 0 0])),(.T 3,.t (.val false [.ptr 3 0 0])),(.T 11,.t (.val false [.sl .any 73 (.pair (.int .i64) (.pair (.pair (.int .i64) (.pair (.int .i64) (.pair (.int .i64) (.pair (.int .i64) (.pair (.int .i64) (.pair (.int .i64) (.int .i64))))))) (.pair .bool (.pair (.sl 3 (.int .i64)) (.sl 3 (.int .i64)))))) y0])),(.T 12,.t (.val false [.int .i64 y1])),(.T 13,.t (.val false [.int .i64 y2])),(.B 2,.b 0 false [.row 2 1 0,.int .i64 y3,.row 2 5 0]),(.R 2 1,.r 0 (some ⟨false,.any,true,92,(.pair (.int .i64) (.pair (.int .i64) (.pair (.sl 9 .str) (.sl 155 (.pair .str (.pair .bool (.sl 3 (.int .i64)))))))),y4⟩)),(.R 2 5,.r 0 (some ⟨false,.any,true,73,(.pair (.int .i64) (.pair (.pair (.int .i64) (.pair (.int .i64) (.pair (.int .i64) (.pair (.int .i64) (.pair (.int .i64) (.pair (.int .i64) (.int .i64))))))) (.pair .bool (.pair (.sl 3 (.int .i64)) (.sl 3 (.int .i64)))))),y5⟩)),(.B 3,.b 0 false [.row 3 1 0,.int .i64 y6,.row 3 5 0]),(.R 3 1,.r 0 (some ⟨false,.any,true,92,(.pair (.int .i64) (.pair (.int .i64) (.pair (.sl 9 .str) (.sl 155 (.pair .str (.pair .bool (.sl 3 (.int .i64)))))))),y7⟩)),(.R 3 5,.r 0 (some ⟨false,.any,true,73,(.pair (.int .i64) (.pair (.pair (.int .i64) (.pair (.int .i64) (.pair (.int .i64) (.pair (.int .i64) (.pair (.int .i64) (.pair (.int .i64) (.int .i64))))))) (.pair .bool (.pair (.sl 3 (.int .i64)) (.sl 3 (.int .i64)))))),y8⟩))] => some (okO (g_LZ20_0 y0 y1 y3 y4 y5 y6 y7 (y2,y8)),(.leaf (.exit 0) [(.T 2,.t (.val false [.ptr 2 0 0])),(.T 3,.t (.val false [.ptr 3 0 0])),(.B 2,.b 0 false [.row 2 1 0,.int .i64 y3,.row 2 5 0]),(.R 2 1,.r 0 (some ⟨false,.any,true,92,(.pair (.int .i64) (.pair (.int .i64) (.pair (.sl 9 .str) (.sl 155 (.pair .str (.pair .bool (.sl 3 (.int .i64)))))))),y4⟩)),(.R 2 5,.r 0 (some ⟨false,.any,true,73,(.pair (.int .i64) (.pair (.pair (.int .i64) (.pair (.int .i64) (.pair (.int .i64) (.pair (.int .i64) (.pair (.int .i64) (.pair (.int .i64) (.int .i64))))))) (.pair .bool (.pair (.sl 3 (.int .i64)) (.sl 3 (.int .i64)))))),y5⟩)),(.B 3,.b 0 false [.row 3 1 0,.int .i64 y6,.row 3 5 0]),(.R 3 1,.r 0 (some ⟨false,.any,true,92,(.pair (.int .i64) (.pair (.int .i64) (.pair (.sl 9 .str) (.sl 155 (.pair .str (.pair .bool (.sl 3 (.int .i64)))))))),y7⟩)),(.R 3 5,.r 0 (some ⟨false,.any,true,73,(.pair (.int .i64) (.pair (.pair (.int .i64) (.pair (.int .i64) (.pair (.int .i64) (.pair (.int .i64) (.pair (.int .i64) (.pair (.int .i64) (.int .i64))))))) (.pair .bool (.pair (.sl 3 (.int .i64)) (.sl 3 (.int .i64)))))),(valO (g_LZ20_0 y0 y1 y3 y4 y5 y6 y7 (y2,y8)))⟩))]))
 | b,h => OZ20_0 b h
theorem bZ20_0 (y0:tL0) (y1:Int) (y2:Int) (y3:Int) (y4:tL1) (y5:tL0) (y6:Int) (y7:tL1) (y8:tL0):Tr.bt EZ20 OZ20_0 (exec EZ20 0 cZ20_0 (St.of (hZ20_0 y0 y1 y2 y3 y4 y5 y6 y7 y8)) (leafRd EZ20 0)) = (g_SZ20_0 y0 y1 y3 y4 y5 y6 y7 (y2,y8)).bt (fun ((y2,y8):Int×tL0) => (hZ20_0 y0 y1 y2 y3 y4 y5 y6 y7 y8)) (xZ20_0 y0 y1 y3 y4 y5 y6 y7) := by kernel_rfl
theorem kZ20_1:OrcOk EZ20 OZ20_1 lsZ20 1 := orc_add kZ20_0 (fun n p hp h ex h' ho => by
 obtain ⟨b,c⟩ := p
 obtain ⟨xt,h1,h2⟩ := ho
 have h1:OZ20_1 b h = some (true,xt) := h1
 unfold OZ20_1 at h1
 split at h1
 ·injection h1 with h1
  injection h1 with e1 e2
  subst e2
  have hc:c = cZ20_0 := mZ20_0 _ hp rfl
  subst hc
  right
  rename_i y0 y1 y2 y3 y4 y5 y6 y7 y8
  have key := LT_step kZ20_0 hp (fun q hq => loopsAll_in _ _ _ _ hp hq) (fun ((y2,y8):Int×tL0) => (hZ20_0 y0 y1 y2 y3 y4 y5 y6 y7 y8)) (xZ20_0 y0 y1 y3 y4 y5 y6 y7) (g_SZ20_0 y0 y1 y3 y4 y5 y6 y7) (fun x => by first | exact bZ20_0 y0 y1 x.1 y3 y4 y5 y6 y7 x.2) n (x := (y2,y8)) (okO_some e1)
  have hx:∀ r,XT.sel (.leaf (.exit 0) [(.T 2,.t (.val false [.ptr 2 0 0])),(.T 3,.t (.val false [.ptr 3 0 0])),(.B 2,.b 0 false [.row 2 1 0,.int .i64 y3,.row 2 5 0]),(.R 2 1,.r 0 (some ⟨false,.any,true,92,(.pair (.int .i64) (.pair (.int .i64) (.pair (.sl 9 .str) (.sl 155 (.pair .str (.pair .bool (.sl 3 (.int .i64)))))))),y4⟩)),(.R 2 5,.r 0 (some ⟨false,.any,true,73,(.pair (.int .i64) (.pair (.pair (.int .i64) (.pair (.int .i64) (.pair (.int .i64) (.pair (.int .i64) (.pair (.int .i64) (.pair (.int .i64) (.int .i64))))))) (.pair .bool (.pair (.sl 3 (.int .i64)) (.sl 3 (.int .i64)))))),y5⟩)),(.B 3,.b 0 false [.row 3 1 0,.int .i64 y6,.row 3 5 0]),(.R 3 1,.r 0 (some ⟨false,.any,true,92,(.pair (.int .i64) (.pair (.int .i64) (.pair (.sl 9 .str) (.sl 155 (.pair .str (.pair .bool (.sl 3 (.int .i64)))))))),y7⟩)),(.R 3 5,.r 0 (some ⟨false,.any,true,73,(.pair (.int .i64) (.pair (.pair (.int .i64) (.pair (.int .i64) (.pair (.int .i64) (.pair (.int .i64) (.pair (.int .i64) (.pair (.int .i64) (.int .i64))))))) (.pair .bool (.pair (.sl 3 (.int .i64)) (.sl 3 (.int .i64)))))),r⟩))]) = xZ20_0 y0 y1 y3 y4 y5 y6 y7 r := fun r => by first | rfl | rcases r with r | r <;> rfl | rcases r with r | r | r <;> rfl | rcases r with r | r | r | r <;> rfl
  have h3 := (hx (valO (g_LZ20_0 y0 y1 y3 y4 y5 y6 y7 (y2,y8)))).symm.trans h2
  have e3 := congrArg Prod.fst h3
  have e4 := congrArg Prod.snd h3
  simp only at e3 e4
  rw [← e3,← e4]
  exact key
 ·exact .inl ⟨xt,h1,h2⟩)
noncomputable def g_AZ20 (a0:tL1) (a1:Int) (a2:tL0):Bool := g_AZ23 a0 a1&&okO (g_LZ20_0 a2 (a2.length:Int) (0:Int) [] [] a1 (g_VZ23_0 a0 a1) ((0:Int),[]))
noncomputable def g_VZ20_0 (a0:tL1) (a1:Int) (a2:tL0):tL0 := valO (g_LZ20_0 a2 (a2.length:Int) (0:Int) [] [] a1 (g_VZ23_0 a0 a1) ((0:Int),[]))
noncomputable def FZ20:FSem := fun ys => match ys with
 | [.val true [.sl .any 92 (.pair (.int .i64) (.pair (.int .i64) (.pair (.sl 9 .str) (.sl 155 (.pair .str (.pair .bool (.sl 3 (.int .i64)))))))) a0,.int .i64 a1,.sl .any 73 (.pair (.int .i64) (.pair (.pair (.int .i64) (.pair (.int .i64) (.pair (.int .i64) (.pair (.int .i64) (.pair (.int .i64) (.pair (.int .i64) (.int .i64))))))) (.pair .bool (.pair (.sl 3 (.int .i64)) (.sl 3 (.int .i64)))))) a2]] => some ((g_AZ20 a0 a1 a2),.val true [.own .any true 92 (.pair (.int .i64) (.pair (.int .i64) (.pair (.sl 9 .str) (.sl 155 (.pair .str (.pair .bool (.sl 3 (.int .i64)))))))) (g_VZ23_0 a0 a1),.int .i64 a1,.own .any true 73 (.pair (.int .i64) (.pair (.pair (.int .i64) (.pair (.int .i64) (.pair (.int .i64) (.pair (.int .i64) (.pair (.int .i64) (.pair (.int .i64) (.int .i64))))))) (.pair .bool (.pair (.sl 3 (.int .i64)) (.sl 3 (.int .i64)))))) (g_VZ20_0 a0 a1 a2)],[])
 | _ => none
theorem vZ20 (a0:tL1) (a1:Int) (a2:tL0):collapseH .std EZ20 OZ20_1 (execFn EZ20 Tryz.f60 msZ20 [.val true [.sl .any 92 (.pair (.int .i64) (.pair (.int .i64) (.pair (.sl 9 .str) (.sl 155 (.pair .str (.pair .bool (.sl 3 (.int .i64)))))))) a0,.int .i64 a1,.sl .any 73 (.pair (.int .i64) (.pair (.pair (.int .i64) (.pair (.int .i64) (.pair (.int .i64) (.pair (.int .i64) (.pair (.int .i64) (.pair (.int .i64) (.int .i64))))))) (.pair .bool (.pair (.sl 3 (.int .i64)) (.sl 3 (.int .i64)))))) a2]]) = some ((g_AZ20 a0 a1 a2),.val true [.own .any true 92 (.pair (.int .i64) (.pair (.int .i64) (.pair (.sl 9 .str) (.sl 155 (.pair .str (.pair .bool (.sl 3 (.int .i64)))))))) (g_VZ23_0 a0 a1),.int .i64 a1,.own .any true 73 (.pair (.int .i64) (.pair (.pair (.int .i64) (.pair (.int .i64) (.pair (.int .i64) (.pair (.int .i64) (.pair (.int .i64) (.pair (.int .i64) (.int .i64))))))) (.pair .bool (.pair (.sl 3 (.int .i64)) (.sl 3 (.int .i64)))))) (g_VZ20_0 a0 a1 a2)],[]) := by kernel_rfl
theorem sZ20:Sound Tryz.prog 60 msZ20 FZ20 := by
 refine fn_gen goodZ20 (by kernel_rfl) .std (fn := Tryz.f60) (c := (Tryz.f60.body.getD .skip)) (o := OZ20_1) (k := 1) (by kernel_rfl) (by kernel_rfl) (by kernel_rfl) (by kernel_rfl) (by decide) kZ20_1 ?_
 intro ys r outs h
 unfold FZ20 at h
 split at h
 ·exact (vZ20 _ _ _).trans h
 ·cases h
noncomputable def EZ69:Env where
 tt := mkTI Tryz.prog
 fn := fun f => match f with
  | 36 => some (msi_FroOk,FSem.wk msi_FroOk Fi_FroOk)
  | 58 => some (msi_OpOk,FSem.wk msi_OpOk Fi_OpOk)
  | 59 => some (msi_isTx,FSem.wk msi_isTx Fi_isTx)
  | 60 => some (msZ20,FSem.wk msZ20 FZ20)
  | 61 => some (msZ21,FSem.wk msZ21 FZ21)
  | _ => none
 bxf := fun _ => none
 mv := []
 keep := fun _ => []
 keepB := fun _ => []
 keepX := fun _ => []
 keepXB := fun _ => []
theorem goodFZ69:∀ f ms F,EZ69.fn f = some (ms,F) → Sound Tryz.prog f ms F := fun f ms F h => by
 unfold EZ69 at h
 dsimp only at h
 split at h
 ·exact gF si_FroOk h
 ·exact gF si_OpOk h
 ·exact gF si_isTx h
 ·exact gF sZ20 h
 ·exact gF sZ21 h
 ·cases h
theorem goodZ69:Good Tryz.prog EZ69 := ⟨rfl,goodFZ69,fun f ms F h => by cases h⟩
noncomputable def OZ69_0:Orc := fun _ _ => none
noncomputable def msZ69:List PM := [.rd,.own,.own]
noncomputable def lsZ69:List (Nat×Code) := loopsAll 0 (Tryz.f21.body.getD .skip)
theorem kZ69_0:OrcOk EZ69 OZ69_0 lsZ69 0 := orcOk_none
noncomputable def g_AZ69 (a0:tL1) (a1:Int) (a2:tL0) (a3:Int) (a4:Int) (a5:Int) (a6:Int) (a7:Int) (a8:Int) (a9:Int) (a10:Int):Bool := g_Ai_FroOk a0 a1 a2&&(!g_Vi_FroOk_0 a0 a1 a2 || g_Ai_OpOk a4 a5 a6 a7 a8 a9 a10&&(!g_Vi_OpOk_0 a4 a5 a6 a7 a8 a9 a10 || g_Ai_isTx a3&&(!g_Vi_isTx_0 a3 || g_AZ20 a0 a1 a2&&g_AZ21 (g_VZ23_0 a0 a1) a1 (g_VZ20_0 a0 a1 a2) a3 a4 a5 a6 a7 a8 a9 a10)))
noncomputable def g_VZ69_0 (a0:tL1) (a1:Int) (a2:tL0) (a3:Int) (a4:Int) (a5:Int) (a6:Int) (a7:Int) (a8:Int) (a9:Int) (a10:Int):tL1 := bif !g_Vi_FroOk_0 a0 a1 a2 then [] else bif !g_Vi_OpOk_0 a4 a5 a6 a7 a8 a9 a10 then [] else bif !g_Vi_isTx_0 a3 then [] else g_VZ21_2 (g_VZ23_0 a0 a1) a1 (g_VZ20_0 a0 a1 a2) a3 a4 a5 a6 a7 a8 a9 a10
noncomputable def g_VZ69_1 (a0:tL1) (a1:Int) (a2:tL0) (a3:Int) (a4:Int) (a5:Int) (a6:Int) (a7:Int) (a8:Int) (a9:Int) (a10:Int):Int := bif !g_Vi_FroOk_0 a0 a1 a2 then (0:Int) else bif !g_Vi_OpOk_0 a4 a5 a6 a7 a8 a9 a10 then (0:Int) else bif !g_Vi_isTx_0 a3 then (0:Int) else g_VZ21_3 (g_VZ23_0 a0 a1) a1 (g_VZ20_0 a0 a1 a2) a3 a4 a5 a6 a7 a8 a9 a10
noncomputable def g_VZ69_2 (a0:tL1) (a1:Int) (a2:tL0) (a3:Int) (a4:Int) (a5:Int) (a6:Int) (a7:Int) (a8:Int) (a9:Int) (a10:Int):tL0 := bif !g_Vi_FroOk_0 a0 a1 a2 then [] else bif !g_Vi_OpOk_0 a4 a5 a6 a7 a8 a9 a10 then [] else bif !g_Vi_isTx_0 a3 then [] else g_VZ21_4 (g_VZ23_0 a0 a1) a1 (g_VZ20_0 a0 a1 a2) a3 a4 a5 a6 a7 a8 a9 a10
noncomputable def g_VZ69_3 (a0:tL1) (a1:Int) (a2:tL0) (a3:Int) (a4:Int) (a5:Int) (a6:Int) (a7:Int) (a8:Int) (a9:Int) (a10:Int):tL2 := bif !g_Vi_FroOk_0 a0 a1 a2 then [] else bif !g_Vi_OpOk_0 a4 a5 a6 a7 a8 a9 a10 then [] else bif !g_Vi_isTx_0 a3 then [] else g_VZ21_0 (g_VZ23_0 a0 a1) a1 (g_VZ20_0 a0 a1 a2) a3 a4 a5 a6 a7 a8 a9 a10
noncomputable def g_VZ69_4 (a0:tL1) (a1:Int) (a2:tL0) (a3:Int) (a4:Int) (a5:Int) (a6:Int) (a7:Int) (a8:Int) (a9:Int) (a10:Int):Bool := bif !g_Vi_FroOk_0 a0 a1 a2 then false else bif !g_Vi_OpOk_0 a4 a5 a6 a7 a8 a9 a10 then false else bif !g_Vi_isTx_0 a3 then false else g_VZ21_1 (g_VZ23_0 a0 a1) a1 (g_VZ20_0 a0 a1 a2) a3 a4 a5 a6 a7 a8 a9 a10
noncomputable def FZ69:FSem := fun ys => match ys with
 | [.val true [.sl .any 92 (.pair (.int .i64) (.pair (.int .i64) (.pair (.sl 9 .str) (.sl 155 (.pair .str (.pair .bool (.sl 3 (.int .i64)))))))) a0,.int .i64 a1,.sl .any 73 (.pair (.int .i64) (.pair (.pair (.int .i64) (.pair (.int .i64) (.pair (.int .i64) (.pair (.int .i64) (.pair (.int .i64) (.pair (.int .i64) (.int .i64))))))) (.pair .bool (.pair (.sl 3 (.int .i64)) (.sl 3 (.int .i64)))))) a2],.val false [.int .i64 a3],.val true [.int .i64 a4,.int .i64 a5,.int .i64 a6,.int .i64 a7,.int .i64 a8,.int .i64 a9,.int .i64 a10]] => some ((g_AZ69 a0 a1 a2 a3 a4 a5 a6 a7 a8 a9 a10),.tup [(true,[.own .any true 92 (.pair (.int .i64) (.pair (.int .i64) (.pair (.sl 9 .str) (.sl 155 (.pair .str (.pair .bool (.sl 3 (.int .i64)))))))) (g_VZ69_0 a0 a1 a2 a3 a4 a5 a6 a7 a8 a9 a10),.int .i64 (g_VZ69_1 a0 a1 a2 a3 a4 a5 a6 a7 a8 a9 a10),.own .any true 73 (.pair (.int .i64) (.pair (.pair (.int .i64) (.pair (.int .i64) (.pair (.int .i64) (.pair (.int .i64) (.pair (.int .i64) (.pair (.int .i64) (.int .i64))))))) (.pair .bool (.pair (.sl 3 (.int .i64)) (.sl 3 (.int .i64)))))) (g_VZ69_2 a0 a1 a2 a3 a4 a5 a6 a7 a8 a9 a10)]),(false,[.own .any true 83 (.pair (.int .i64) (.pair (.int .i64) (.pair (.int .i64) (.pair (.int .i64) (.pair (.int .i64) (.pair (.int .i64) (.pair (.int .i64) (.pair (.int .i64) (.pair (.int .i64) (.pair (.int .i64) (.int .i64))))))))))) (g_VZ69_3 a0 a1 a2 a3 a4 a5 a6 a7 a8 a9 a10)]),(false,[.bool (g_VZ69_4 a0 a1 a2 a3 a4 a5 a6 a7 a8 a9 a10)])],[])
 | _ => none
theorem vZ69 (a0:tL1) (a1:Int) (a2:tL0) (a3:Int) (a4:Int) (a5:Int) (a6:Int) (a7:Int) (a8:Int) (a9:Int) (a10:Int):collapseH .std EZ69 OZ69_0 (execFn EZ69 Tryz.f21 msZ69 [.val true [.sl .any 92 (.pair (.int .i64) (.pair (.int .i64) (.pair (.sl 9 .str) (.sl 155 (.pair .str (.pair .bool (.sl 3 (.int .i64)))))))) a0,.int .i64 a1,.sl .any 73 (.pair (.int .i64) (.pair (.pair (.int .i64) (.pair (.int .i64) (.pair (.int .i64) (.pair (.int .i64) (.pair (.int .i64) (.pair (.int .i64) (.int .i64))))))) (.pair .bool (.pair (.sl 3 (.int .i64)) (.sl 3 (.int .i64)))))) a2],.val false [.int .i64 a3],.val true [.int .i64 a4,.int .i64 a5,.int .i64 a6,.int .i64 a7,.int .i64 a8,.int .i64 a9,.int .i64 a10]]) = some ((g_AZ69 a0 a1 a2 a3 a4 a5 a6 a7 a8 a9 a10),.tup [(true,[.own .any true 92 (.pair (.int .i64) (.pair (.int .i64) (.pair (.sl 9 .str) (.sl 155 (.pair .str (.pair .bool (.sl 3 (.int .i64)))))))) (g_VZ69_0 a0 a1 a2 a3 a4 a5 a6 a7 a8 a9 a10),.int .i64 (g_VZ69_1 a0 a1 a2 a3 a4 a5 a6 a7 a8 a9 a10),.own .any true 73 (.pair (.int .i64) (.pair (.pair (.int .i64) (.pair (.int .i64) (.pair (.int .i64) (.pair (.int .i64) (.pair (.int .i64) (.pair (.int .i64) (.int .i64))))))) (.pair .bool (.pair (.sl 3 (.int .i64)) (.sl 3 (.int .i64)))))) (g_VZ69_2 a0 a1 a2 a3 a4 a5 a6 a7 a8 a9 a10)]),(false,[.own .any true 83 (.pair (.int .i64) (.pair (.int .i64) (.pair (.int .i64) (.pair (.int .i64) (.pair (.int .i64) (.pair (.int .i64) (.pair (.int .i64) (.pair (.int .i64) (.pair (.int .i64) (.pair (.int .i64) (.int .i64))))))))))) (g_VZ69_3 a0 a1 a2 a3 a4 a5 a6 a7 a8 a9 a10)]),(false,[.bool (g_VZ69_4 a0 a1 a2 a3 a4 a5 a6 a7 a8 a9 a10)])],[]) := by kernel_rfl
theorem sZ69:Sound Tryz.prog 21 msZ69 FZ69 := by
 refine fn_gen goodZ69 (by kernel_rfl) .std (fn := Tryz.f21) (c := (Tryz.f21.body.getD .skip)) (o := OZ69_0) (k := 0) (by kernel_rfl) (by kernel_rfl) (by kernel_rfl) (by kernel_rfl) (by decide) kZ69_0 ?_
 intro ys r outs h
 unfold FZ69 at h
 split at h
 ·exact (vZ69 _ _ _ _ _ _ _ _ _ _ _).trans h
 ·cases h
noncomputable def Es_l1In:Env where
 tt := mkTI Tryz.prog
 fn := fun _ => none
 bxf := fun _ => none
 mv := []
 keep := fun _ => []
 keepB := fun _ => []
 keepX := fun _ => []
 keepXB := fun _ => []
theorem goodFs_l1In:∀ f ms F,Es_l1In.fn f = some (ms,F) → Sound Tryz.prog f ms F := fun f ms F h => by cases h
theorem goods_l1In:Good Tryz.prog Es_l1In := ⟨rfl,goodFs_l1In,fun f ms F h => by cases h⟩
noncomputable def Os_l1In_0:Orc := fun _ _ => none
noncomputable def mss_l1In:List PM := [.own,.own,.own]
noncomputable def lss_l1In:List (Nat×Code) := loopsAll 0 (Tryz.f55.body.getD .skip)
theorem ks_l1In_0:OrcOk Es_l1In Os_l1In_0 lss_l1In 0 := orcOk_none
noncomputable def g_As_l1In (a0:Int) (a1:Int) (a2:Int):Bool := !decide (a0 ≥ a1) || true
noncomputable def g_Vs_l1In_0 (a0:Int) (a1:Int) (a2:Int):Bool := bif decide (a0 ≥ a1) then decide (a0 ≤ a2) else false
noncomputable def Fs_l1In:FSem := fun ys => match ys with
 | [.val false [.int .i64 a0],.val false [.int .i64 a1],.val false [.int .i64 a2]] => some ((g_As_l1In a0 a1 a2),.val false [.bool (g_Vs_l1In_0 a0 a1 a2)],[])
 | _ => none
theorem vs_l1In (a0:Int) (a1:Int) (a2:Int):collapseH .std Es_l1In Os_l1In_0 (execFn Es_l1In Tryz.f55 mss_l1In [.val false [.int .i64 a0],.val false [.int .i64 a1],.val false [.int .i64 a2]]) = some ((g_As_l1In a0 a1 a2),.val false [.bool (g_Vs_l1In_0 a0 a1 a2)],[]) := by kernel_rfl
theorem ss_l1In:Sound Tryz.prog 55 mss_l1In Fs_l1In := by
 refine fn_gen goods_l1In (by kernel_rfl) .std (fn := Tryz.f55) (c := (Tryz.f55.body.getD .skip)) (o := Os_l1In_0) (k := 0) (by kernel_rfl) (by kernel_rfl) (by kernel_rfl) (by kernel_rfl) (by decide) ks_l1In_0 ?_
 intro ys r outs h
 unfold Fs_l1In at h
 split at h
 ·exact (vs_l1In _ _ _).trans h
 ·cases h
noncomputable def Es_l1Key:Env where
 tt := mkTI Tryz.prog
 fn := fun f => match f with
  | 55 => some (mss_l1In,FSem.wk mss_l1In Fs_l1In)
  | _ => none
 bxf := fun _ => none
 mv := []
 keep := fun b => match b with
  | 0 => [(0,false),(3,false)]
  | _ => []
 keepB := fun b => match b with
  | 0 => []
  | _ => []
 keepX := fun b => match b with
  | 0 => [(2,false)]
  | _ => []
 keepXB := fun b => match b with
  | 0 => []
  | _ => []
theorem goodFs_l1Key:∀ f ms F,Es_l1Key.fn f = some (ms,F) → Sound Tryz.prog f ms F := fun f ms F h => by
 unfold Es_l1Key at h
 dsimp only at h
 split at h
 ·exact gF ss_l1In h
 ·cases h
theorem goods_l1Key:Good Tryz.prog Es_l1Key := ⟨rfl,goodFs_l1Key,fun f ms F h => by cases h⟩
noncomputable def Os_l1Key_0:Orc := fun _ _ => none
noncomputable def mss_l1Key:List PM := [.own]
noncomputable def lss_l1Key:List (Nat×Code) := loopsAll 0 (Tryz.f155.body.getD .skip)
noncomputable def cs_l1Key_0:Code := (loopOf 0 (Tryz.f155.body.getD .skip)).getD .skip
theorem lseqs_l1Key:lss_l1Key = [(0,cs_l1Key_0)] := by kernel_rfl
theorem ms_l1Key_0:∀ p,p ∈ lss_l1Key → p.1 = 0 → p.2 = cs_l1Key_0 := by
 intro p hp
 rw [lseqs_l1Key] at hp
 simp only [List.mem_cons,List.not_mem_nil,or_false] at hp
 subst hp; simp
theorem ks_l1Key_0:OrcOk Es_l1Key Os_l1Key_0 lss_l1Key 0 := orcOk_none
noncomputable def hs_l1Key_0 (y0:ByteArray) (y1:Int):List (Pl×LV) := [(.T 0,.t (.val false [.str y0])),(.T 3,.t (.val false [.int .i64 y1]))]
noncomputable def g_Ss_l1Key_0 (y0:ByteArray):(Int) → RT (Int) ((Bool) ⊕ (Unit))
 | y1 => .br (true) (.br (decide (y1 < (↑(ByteArray.size y0):Int))) (.br (decide (0 ≤ y1 ∧ y1 < (↑(ByteArray.size y0):Int))) (.br (true) (.br (decide (byteAt y0 (Int.toNat y1) < 48)) (.out (.inl false)) (.br (decide (0 ≤ y1 ∧ y1 < (↑(ByteArray.size y0):Int))) (.br (true) (.br (decide (byteAt y0 (Int.toNat y1) > 57)) (.out (.inl false)) (.br (true) (.go (IntKind.i64.wrap (y1 + 1))) .bad)) .bad) .bad)) .bad) .bad) (.out (.inr (())))) .bad
noncomputable def g_Ls_l1Key_0 (y0:ByteArray) (x:Int):Option ((Bool) ⊕ (Unit)) := loopO (g_Ss_l1Key_0 y0) x
noncomputable def xs_l1Key_0 (y0:ByteArray):((Bool) ⊕ (Unit)) → Ex×List (Pl×LV) := fun
 | .inl r => (.ret,[(.T 2,.t (.val false [.bool r]))])
 | .inr (r) => (.exit 0,[(.T 2,.t (.val false [.undef]))])
noncomputable def Os_l1Key_1:Orc := fun b h => match b,h with
 | 0,[(.T 0,.t (.val false [.str y0])),(.T 3,.t (.val false [.int .i64 y1]))] => some (okO (g_Ls_l1Key_0 y0 y1),(.br (isL (valO (g_Ls_l1Key_0 y0 y1))) (.leaf .ret [(.T 2,.t (.val false [.bool (getL (valO (g_Ls_l1Key_0 y0 y1)))]))]) (.leaf (.exit 0) [(.T 2,.t (.val false [.undef]))])))
 | b,h => Os_l1Key_0 b h
theorem bs_l1Key_0 (y0:ByteArray) (y1:Int):Tr.bt Es_l1Key Os_l1Key_0 (exec Es_l1Key 0 cs_l1Key_0 (St.of (hs_l1Key_0 y0 y1)) (leafRd Es_l1Key 0)) = (g_Ss_l1Key_0 y0 y1).bt (fun (y1:Int) => (hs_l1Key_0 y0 y1)) (xs_l1Key_0 y0) := by kernel_rfl
theorem ks_l1Key_1:OrcOk Es_l1Key Os_l1Key_1 lss_l1Key 1 := orc_add ks_l1Key_0 (fun n p hp h ex h' ho => by
 obtain ⟨b,c⟩ := p
 obtain ⟨xt,h1,h2⟩ := ho
 have h1:Os_l1Key_1 b h = some (true,xt) := h1
 unfold Os_l1Key_1 at h1
 split at h1
 ·injection h1 with h1
  injection h1 with e1 e2
  subst e2
  have hc:c = cs_l1Key_0 := ms_l1Key_0 _ hp rfl
  subst hc
  right
  rename_i y0 y1
  have key := LT_step ks_l1Key_0 hp (fun q hq => loopsAll_in _ _ _ _ hp hq) (fun (y1:Int) => (hs_l1Key_0 y0 y1)) (xs_l1Key_0 y0) (g_Ss_l1Key_0 y0) (fun x => by first | exact bs_l1Key_0 y0 x) n (x := y1) (okO_some e1)
  have hx:∀ r,XT.sel (.br (isL r) (.leaf .ret [(.T 2,.t (.val false [.bool (getL r)]))]) (.leaf (.exit 0) [(.T 2,.t (.val false [.undef]))])) = xs_l1Key_0 y0 r := fun r => by first | rfl | rcases r with r | r <;> rfl | rcases r with r | r | r <;> rfl | rcases r with r | r | r | r <;> rfl
  have h3 := (hx (valO (g_Ls_l1Key_0 y0 y1))).symm.trans h2
  have e3 := congrArg Prod.fst h3
  have e4 := congrArg Prod.snd h3
  simp only at e3 e4
  rw [← e3,← e4]
  exact key
 ·exact .inl ⟨xt,h1,h2⟩)
noncomputable def g_As_l1Key (a0:ByteArray):Bool := g_As_l1In (↑(ByteArray.size a0):Int) (2:Int) (3:Int)&&(!g_Vs_l1In_0 (↑(ByteArray.size a0):Int) (2:Int) (3:Int) || decide ((0:Int) ≤ (0:Int) ∧ 0 < (↑(ByteArray.size a0):Int))&&(decide (byteAt a0 (nat_lit 0) < 97) || decide ((0:Int) ≤ (0:Int) ∧ 0 < (↑(ByteArray.size a0):Int))&&(decide (byteAt a0 (nat_lit 0) > 122) || okO (g_Ls_l1Key_0 a0 (1:Int)))))
noncomputable def g_Vs_l1Key_0 (a0:ByteArray):Bool := bif !g_Vs_l1In_0 (↑(ByteArray.size a0):Int) (2:Int) (3:Int) then false else bif decide (byteAt a0 (nat_lit 0) < 97) then false else bif decide (byteAt a0 (nat_lit 0) > 122) then false else bif isL (valO (g_Ls_l1Key_0 a0 (1:Int))) then getL (valO (g_Ls_l1Key_0 a0 (1:Int))) else true
noncomputable def Fs_l1Key:FSem := fun ys => match ys with
 | [.val false [.str a0]] => some ((g_As_l1Key a0),.val false [.bool (g_Vs_l1Key_0 a0)],[])
 | _ => none
theorem vs_l1Key (a0:ByteArray):collapseH .std Es_l1Key Os_l1Key_1 (execFn Es_l1Key Tryz.f155 mss_l1Key [.val false [.str a0]]) = some ((g_As_l1Key a0),.val false [.bool (g_Vs_l1Key_0 a0)],[]) := by kernel_rfl
theorem ss_l1Key:Sound Tryz.prog 155 mss_l1Key Fs_l1Key := by
 refine fn_gen goods_l1Key (by kernel_rfl) .std (fn := Tryz.f155) (c := (Tryz.f155.body.getD .skip)) (o := Os_l1Key_1) (k := 1) (by kernel_rfl) (by kernel_rfl) (by kernel_rfl) (by kernel_rfl) (by decide) ks_l1Key_1 ?_
 intro ys r outs h
 unfold Fs_l1Key at h
 split at h
 ·exact (vs_l1Key _).trans h
 ·cases h
noncomputable def Es_l1Val:Env where
 tt := mkTI Tryz.prog
 fn := fun f => match f with
  | 55 => some (mss_l1In,FSem.wk mss_l1In Fs_l1In)
  | _ => none
 bxf := fun _ => none
 mv := []
 keep := fun b => match b with
  | 0 => [(0,false),(3,false)]
  | _ => []
 keepB := fun b => match b with
  | 0 => []
  | _ => []
 keepX := fun b => match b with
  | 0 => [(0,false),(2,false)]
  | _ => []
 keepXB := fun b => match b with
  | 0 => []
  | _ => []
theorem goodFs_l1Val:∀ f ms F,Es_l1Val.fn f = some (ms,F) → Sound Tryz.prog f ms F := fun f ms F h => by
 unfold Es_l1Val at h
 dsimp only at h
 split at h
 ·exact gF ss_l1In h
 ·cases h
theorem goods_l1Val:Good Tryz.prog Es_l1Val := ⟨rfl,goodFs_l1Val,fun f ms F h => by cases h⟩
noncomputable def Os_l1Val_0:Orc := fun _ _ => none
noncomputable def mss_l1Val:List PM := [.rd]
noncomputable def lss_l1Val:List (Nat×Code) := loopsAll 0 (Tryz.f174.body.getD .skip)
noncomputable def cs_l1Val_0:Code := (loopOf 0 (Tryz.f174.body.getD .skip)).getD .skip
theorem lseqs_l1Val:lss_l1Val = [(0,cs_l1Val_0)] := by kernel_rfl
theorem ms_l1Val_0:∀ p,p ∈ lss_l1Val → p.1 = 0 → p.2 = cs_l1Val_0 := by
 intro p hp
 rw [lseqs_l1Val] at hp
 simp only [List.mem_cons,List.not_mem_nil,or_false] at hp
 subst hp; simp
theorem ks_l1Val_0:OrcOk Es_l1Val Os_l1Val_0 lss_l1Val 0 := orcOk_none
noncomputable def hs_l1Val_0 (y0:List Int) (y1:Int):List (Pl×LV) := [(.T 0,.t (.val false [.sl .any 3 (.int .i64) y0])),(.T 3,.t (.val false [.int .i64 y1]))]
noncomputable def g_Ss_l1Val_0 (y0:List Int):(Int) → RT (Int) ((Bool) ⊕ (Unit))
 | y1 => .br (true) (.br (decide (y1 < (y0.length:Int))) (.br (decide (0 ≤ y1 ∧ y1 < (y0.length:Int))) (.br (g_As_l1In (at_ (.int .i64) y0 (Int.toNat y1)) (0:Int) (9999:Int)) (.br (!g_Vs_l1In_0 (at_ (.int .i64) y0 (Int.toNat y1)) (0:Int) (9999:Int)) (.out (.inl false)) (.br (true) (.go (IntKind.i64.wrap (y1 + 1))) .bad)) .bad) .bad) (.out (.inr (())))) .bad
noncomputable def g_Ls_l1Val_0 (y0:List Int) (x:Int):Option ((Bool) ⊕ (Unit)) := loopO (g_Ss_l1Val_0 y0) x
noncomputable def xs_l1Val_0 (y0:List Int):((Bool) ⊕ (Unit)) → Ex×List (Pl×LV) := fun
 | .inl r => (.ret,[(.T 0,.t (.val false [.sl .any 3 (.int .i64) y0])),(.T 2,.t (.val false [.bool r]))])
 | .inr (r) => (.exit 0,[(.T 0,.t (.val false [.sl .any 3 (.int .i64) y0])),(.T 2,.t (.val false [.undef]))])
noncomputable def Os_l1Val_1:Orc := fun b h => match b,h with
 | 0,[(.T 0,.t (.val false [.sl .any 3 (.int .i64) y0])),(.T 3,.t (.val false [.int .i64 y1]))] => some (okO (g_Ls_l1Val_0 y0 y1),(.br (isL (valO (g_Ls_l1Val_0 y0 y1))) (.leaf .ret [(.T 0,.t (.val false [.sl .any 3 (.int .i64) y0])),(.T 2,.t (.val false [.bool (getL (valO (g_Ls_l1Val_0 y0 y1)))]))]) (.leaf (.exit 0) [(.T 0,.t (.val false [.sl .any 3 (.int .i64) y0])),(.T 2,.t (.val false [.undef]))])))
 | b,h => Os_l1Val_0 b h
theorem bs_l1Val_0 (y0:List Int) (y1:Int):Tr.bt Es_l1Val Os_l1Val_0 (exec Es_l1Val 0 cs_l1Val_0 (St.of (hs_l1Val_0 y0 y1)) (leafRd Es_l1Val 0)) = (g_Ss_l1Val_0 y0 y1).bt (fun (y1:Int) => (hs_l1Val_0 y0 y1)) (xs_l1Val_0 y0) := by kernel_rfl
theorem ks_l1Val_1:OrcOk Es_l1Val Os_l1Val_1 lss_l1Val 1 := orc_add ks_l1Val_0 (fun n p hp h ex h' ho => by
 obtain ⟨b,c⟩ := p
 obtain ⟨xt,h1,h2⟩ := ho
 have h1:Os_l1Val_1 b h = some (true,xt) := h1
 unfold Os_l1Val_1 at h1
 split at h1
 ·injection h1 with h1
  injection h1 with e1 e2
  subst e2
  have hc:c = cs_l1Val_0 := ms_l1Val_0 _ hp rfl
  subst hc
  right
  rename_i y0 y1
  have key := LT_step ks_l1Val_0 hp (fun q hq => loopsAll_in _ _ _ _ hp hq) (fun (y1:Int) => (hs_l1Val_0 y0 y1)) (xs_l1Val_0 y0) (g_Ss_l1Val_0 y0) (fun x => by first | exact bs_l1Val_0 y0 x) n (x := y1) (okO_some e1)
  have hx:∀ r,XT.sel (.br (isL r) (.leaf .ret [(.T 0,.t (.val false [.sl .any 3 (.int .i64) y0])),(.T 2,.t (.val false [.bool (getL r)]))]) (.leaf (.exit 0) [(.T 0,.t (.val false [.sl .any 3 (.int .i64) y0])),(.T 2,.t (.val false [.undef]))])) = xs_l1Val_0 y0 r := fun r => by first | rfl | rcases r with r | r <;> rfl | rcases r with r | r | r <;> rfl | rcases r with r | r | r | r <;> rfl
  have h3 := (hx (valO (g_Ls_l1Val_0 y0 y1))).symm.trans h2
  have e3 := congrArg Prod.fst h3
  have e4 := congrArg Prod.snd h3
  simp only at e3 e4
  rw [← e3,← e4]
  exact key
 ·exact .inl ⟨xt,h1,h2⟩)
noncomputable def g_As_l1Val (a0:List Int):Bool := okO (g_Ls_l1Val_0 a0 (0:Int))&&(isL (valO (g_Ls_l1Val_0 a0 (0:Int))) || g_As_l1In (a0.length:Int) (1:Int) (3:Int))
noncomputable def g_Vs_l1Val_0 (a0:List Int):Bool := bif isL (valO (g_Ls_l1Val_0 a0 (0:Int))) then getL (valO (g_Ls_l1Val_0 a0 (0:Int))) else g_Vs_l1In_0 (a0.length:Int) (1:Int) (3:Int)
noncomputable def Fs_l1Val:FSem := fun ys => match ys with
 | [.val false [.sl .any 3 (.int .i64) a0]] => some ((g_As_l1Val a0),.val false [.bool (g_Vs_l1Val_0 a0)],[])
 | _ => none
theorem vs_l1Val (a0:List Int):collapseH .std Es_l1Val Os_l1Val_1 (execFn Es_l1Val Tryz.f174 mss_l1Val [.val false [.sl .any 3 (.int .i64) a0]]) = some ((g_As_l1Val a0),.val false [.bool (g_Vs_l1Val_0 a0)],[]) := by kernel_rfl
theorem ss_l1Val:Sound Tryz.prog 174 mss_l1Val Fs_l1Val := by
 refine fn_gen goods_l1Val (by kernel_rfl) .std (fn := Tryz.f174) (c := (Tryz.f174.body.getD .skip)) (o := Os_l1Val_1) (k := 1) (by kernel_rfl) (by kernel_rfl) (by kernel_rfl) (by kernel_rfl) (by decide) ks_l1Val_1 ?_
 intro ys r outs h
 unfold Fs_l1Val at h
 split at h
 ·exact (vs_l1Val _).trans h
 ·cases h
noncomputable def Es_WrtOk:Env where
 tt := mkTI Tryz.prog
 fn := fun f => match f with
  | 155 => some (mss_l1Key,FSem.wk mss_l1Key Fs_l1Key)
  | 174 => some (mss_l1Val,FSem.wk mss_l1Val Fs_l1Val)
  | _ => none
 bxf := fun _ => none
 mv := []
 keep := fun _ => []
 keepB := fun _ => []
 keepX := fun _ => []
 keepXB := fun _ => []
theorem goodFs_WrtOk:∀ f ms F,Es_WrtOk.fn f = some (ms,F) → Sound Tryz.prog f ms F := fun f ms F h => by
 unfold Es_WrtOk at h
 dsimp only at h
 split at h
 ·exact gF ss_l1Key h
 ·exact gF ss_l1Val h
 ·cases h
theorem goods_WrtOk:Good Tryz.prog Es_WrtOk := ⟨rfl,goodFs_WrtOk,fun f ms F h => by cases h⟩
noncomputable def Os_WrtOk_0:Orc := fun _ _ => none
noncomputable def mss_WrtOk:List PM := [.rd]
noncomputable def lss_WrtOk:List (Nat×Code) := loopsAll 0 (Tryz.f156.body.getD .skip)
theorem ks_WrtOk_0:OrcOk Es_WrtOk Os_WrtOk_0 lss_WrtOk 0 := orcOk_none
noncomputable def g_As_WrtOk (a0:ByteArray) (a1:Bool) (a2:List Int):Bool := bif a1 then g_As_l1Key a0&&(!g_Vs_l1Key_0 a0 || true) else g_As_l1Key a0&&(!g_Vs_l1Key_0 a0 || g_As_l1Val a2)
noncomputable def g_Vs_WrtOk_0 (a0:ByteArray) (a1:Bool) (a2:List Int):Bool := bif a1 then bif g_Vs_l1Key_0 a0 then (a2.length:Int) == 0 else false else bif g_Vs_l1Key_0 a0 then g_Vs_l1Val_0 a2 else false
noncomputable def Fs_WrtOk:FSem := fun ys => match ys with
 | [.val true [.str a0,.bool a1,.sl .any 3 (.int .i64) a2]] => some ((g_As_WrtOk a0 a1 a2),.val false [.bool (g_Vs_WrtOk_0 a0 a1 a2)],[])
 | _ => none
theorem vs_WrtOk (a0:ByteArray) (a1:Bool) (a2:List Int):collapseH .std Es_WrtOk Os_WrtOk_0 (execFn Es_WrtOk Tryz.f156 mss_WrtOk [.val true [.str a0,.bool a1,.sl .any 3 (.int .i64) a2]]) = some ((g_As_WrtOk a0 a1 a2),.val false [.bool (g_Vs_WrtOk_0 a0 a1 a2)],[]) := by kernel_rfl
theorem ss_WrtOk:Sound Tryz.prog 156 mss_WrtOk Fs_WrtOk := by
 refine fn_gen goods_WrtOk (by kernel_rfl) .std (fn := Tryz.f156) (c := (Tryz.f156.body.getD .skip)) (o := Os_WrtOk_0) (k := 0) (by kernel_rfl) (by kernel_rfl) (by kernel_rfl) (by kernel_rfl) (by decide) ks_WrtOk_0 ?_
 intro ys r outs h
 unfold Fs_WrtOk at h
 split at h
 ·exact (vs_WrtOk _ _ _).trans h
 ·cases h
noncomputable def Es_l2Has:Env where
 tt := mkTI Tryz.prog
 fn := fun _ => none
 bxf := fun _ => none
 mv := []
 keep := fun b => match b with
  | 0 => [(0,false),(1,false),(5,false)]
  | _ => []
 keepB := fun b => match b with
  | 0 => []
  | _ => []
 keepX := fun b => match b with
  | 0 => [(4,false)]
  | _ => []
 keepXB := fun b => match b with
  | 0 => []
  | _ => []
theorem goodFs_l2Has:∀ f ms F,Es_l2Has.fn f = some (ms,F) → Sound Tryz.prog f ms F := fun f ms F h => by cases h
theorem goods_l2Has:Good Tryz.prog Es_l2Has := ⟨rfl,goodFs_l2Has,fun f ms F h => by cases h⟩
noncomputable def Os_l2Has_0:Orc := fun _ _ => none
noncomputable def mss_l2Has:List PM := [.rd,.own]
noncomputable def lss_l2Has:List (Nat×Code) := loopsAll 0 (Tryz.f157.body.getD .skip)
noncomputable def cs_l2Has_0:Code := (loopOf 0 (Tryz.f157.body.getD .skip)).getD .skip
theorem lseqs_l2Has:lss_l2Has = [(0,cs_l2Has_0)] := by kernel_rfl
theorem ms_l2Has_0:∀ p,p ∈ lss_l2Has → p.1 = 0 → p.2 = cs_l2Has_0 := by
 intro p hp
 rw [lseqs_l2Has] at hp
 simp only [List.mem_cons,List.not_mem_nil,or_false] at hp
 subst hp; simp
theorem ks_l2Has_0:OrcOk Es_l2Has Os_l2Has_0 lss_l2Has 0 := orcOk_none
noncomputable def hs_l2Has_0 (y0:List ByteArray) (y1:ByteArray) (y2:Int):List (Pl×LV) := [(.T 0,.t (.val false [.sl .any 9 .str y0])),(.T 1,.t (.val false [.str y1])),(.T 5,.t (.val false [.int .i64 y2]))]
noncomputable def g_Ss_l2Has_0 (y0:List ByteArray) (y1:ByteArray):(Int) → RT (Int) ((Bool) ⊕ (Unit))
 | y2 => .br (true) (.br (decide (y2 < (y0.length:Int))) (.br (decide (0 ≤ y2 ∧ y2 < (y0.length:Int))) (.br (true) (.br (ByteArray.toList (at_ Ty.str y0 (Int.toNat y2)) == ByteArray.toList y1) (.out (.inl true)) (.br (true) (.go (IntKind.i64.wrap (y2 + 1))) .bad)) .bad) .bad) (.out (.inr (())))) .bad
noncomputable def g_Ls_l2Has_0 (y0:List ByteArray) (y1:ByteArray) (x:Int):Option ((Bool) ⊕ (Unit)) := loopO (g_Ss_l2Has_0 y0 y1) x
noncomputable def xs_l2Has_0 (y0:List ByteArray) (y1:ByteArray):((Bool) ⊕ (Unit)) → Ex×List (Pl×LV) := fun
 | .inl r => (.ret,[(.T 4,.t (.val false [.bool r]))])
 | .inr (r) => (.exit 0,[(.T 4,.t (.val false [.undef]))])
noncomputable def Os_l2Has_1:Orc := fun b h => match b,h with
 | 0,[(.T 0,.t (.val false [.sl .any 9 .str y0])),(.T 1,.t (.val false [.str y1])),(.T 5,.t (.val false [.int .i64 y2]))] => some (okO (g_Ls_l2Has_0 y0 y1 y2),(.br (isL (valO (g_Ls_l2Has_0 y0 y1 y2))) (.leaf .ret [(.T 4,.t (.val false [.bool (getL (valO (g_Ls_l2Has_0 y0 y1 y2)))]))]) (.leaf (.exit 0) [(.T 4,.t (.val false [.undef]))])))
 | b,h => Os_l2Has_0 b h
theorem bs_l2Has_0 (y0:List ByteArray) (y1:ByteArray) (y2:Int):Tr.bt Es_l2Has Os_l2Has_0 (exec Es_l2Has 0 cs_l2Has_0 (St.of (hs_l2Has_0 y0 y1 y2)) (leafRd Es_l2Has 0)) = (g_Ss_l2Has_0 y0 y1 y2).bt (fun (y2:Int) => (hs_l2Has_0 y0 y1 y2)) (xs_l2Has_0 y0 y1) := by kernel_rfl
theorem ks_l2Has_1:OrcOk Es_l2Has Os_l2Has_1 lss_l2Has 1 := orc_add ks_l2Has_0 (fun n p hp h ex h' ho => by
 obtain ⟨b,c⟩ := p
 obtain ⟨xt,h1,h2⟩ := ho
 have h1:Os_l2Has_1 b h = some (true,xt) := h1
 unfold Os_l2Has_1 at h1
 split at h1
 ·injection h1 with h1
  injection h1 with e1 e2
  subst e2
  have hc:c = cs_l2Has_0 := ms_l2Has_0 _ hp rfl
  subst hc
  right
  rename_i y0 y1 y2
  have key := LT_step ks_l2Has_0 hp (fun q hq => loopsAll_in _ _ _ _ hp hq) (fun (y2:Int) => (hs_l2Has_0 y0 y1 y2)) (xs_l2Has_0 y0 y1) (g_Ss_l2Has_0 y0 y1) (fun x => by first | exact bs_l2Has_0 y0 y1 x) n (x := y2) (okO_some e1)
  have hx:∀ r,XT.sel (.br (isL r) (.leaf .ret [(.T 4,.t (.val false [.bool (getL r)]))]) (.leaf (.exit 0) [(.T 4,.t (.val false [.undef]))])) = xs_l2Has_0 y0 y1 r := fun r => by first | rfl | rcases r with r | r <;> rfl | rcases r with r | r | r <;> rfl | rcases r with r | r | r | r <;> rfl
  have h3 := (hx (valO (g_Ls_l2Has_0 y0 y1 y2))).symm.trans h2
  have e3 := congrArg Prod.fst h3
  have e4 := congrArg Prod.snd h3
  simp only at e3 e4
  rw [← e3,← e4]
  exact key
 ·exact .inl ⟨xt,h1,h2⟩)
noncomputable def g_As_l2Has (a0:List ByteArray) (a1:ByteArray):Bool := okO (g_Ls_l2Has_0 a0 a1 (0:Int))
noncomputable def g_Vs_l2Has_0 (a0:List ByteArray) (a1:ByteArray):Bool := bif isL (valO (g_Ls_l2Has_0 a0 a1 (0:Int))) then getL (valO (g_Ls_l2Has_0 a0 a1 (0:Int))) else false
noncomputable def Fs_l2Has:FSem := fun ys => match ys with
 | [.val false [.sl .any 9 .str a0],.val false [.str a1]] => some ((g_As_l2Has a0 a1),.val false [.bool (g_Vs_l2Has_0 a0 a1)],[])
 | _ => none
theorem vs_l2Has (a0:List ByteArray) (a1:ByteArray):collapseH .std Es_l2Has Os_l2Has_1 (execFn Es_l2Has Tryz.f157 mss_l2Has [.val false [.sl .any 9 .str a0],.val false [.str a1]]) = some ((g_As_l2Has a0 a1),.val false [.bool (g_Vs_l2Has_0 a0 a1)],[]) := by kernel_rfl
theorem ss_l2Has:Sound Tryz.prog 157 mss_l2Has Fs_l2Has := by
 refine fn_gen goods_l2Has (by kernel_rfl) .std (fn := Tryz.f157) (c := (Tryz.f157.body.getD .skip)) (o := Os_l2Has_1) (k := 1) (by kernel_rfl) (by kernel_rfl) (by kernel_rfl) (by kernel_rfl) (by decide) ks_l2Has_1 ?_
 intro ys r outs h
 unfold Fs_l2Has at h
 split at h
 ·exact (vs_l2Has _ _).trans h
 ·cases h
noncomputable def Es_NoteOk:Env where
 tt := mkTI Tryz.prog
 fn := fun f => match f with
  | 55 => some (mss_l1In,FSem.wk mss_l1In Fs_l1In)
  | 155 => some (mss_l1Key,FSem.wk mss_l1Key Fs_l1Key)
  | 156 => some (mss_WrtOk,FSem.wk mss_WrtOk Fs_WrtOk)
  | 157 => some (mss_l2Has,FSem.wk mss_l2Has Fs_l2Has)
  | _ => none
 bxf := fun _ => none
 mv := []
 keep := fun b => match b with
  | 0 => [(1,false),(3,false)]
  | 2 => [(1,false),(4,false)]
  | _ => []
 keepB := fun b => match b with
  | 0 => [(1,false)]
  | 2 => [(1,false)]
  | _ => []
 keepX := fun b => match b with
  | 0 => [(1,false),(2,false)]
  | 2 => [(1,false),(2,false)]
  | _ => []
 keepXB := fun b => match b with
  | 0 => [(1,false)]
  | 2 => [(1,false)]
  | _ => []
theorem goodFs_NoteOk:∀ f ms F,Es_NoteOk.fn f = some (ms,F) → Sound Tryz.prog f ms F := fun f ms F h => by
 unfold Es_NoteOk at h
 dsimp only at h
 split at h
 ·exact gF ss_l1In h
 ·exact gF ss_l1Key h
 ·exact gF ss_WrtOk h
 ·exact gF ss_l2Has h
 ·cases h
theorem goods_NoteOk:Good Tryz.prog Es_NoteOk := ⟨rfl,goodFs_NoteOk,fun f ms F h => by cases h⟩
noncomputable def Os_NoteOk_0:Orc := fun _ _ => none
noncomputable def mss_NoteOk:List PM := [.rd]
noncomputable def lss_NoteOk:List (Nat×Code) := loopsAll 0 (Tryz.f134.body.getD .skip)
noncomputable def cs_NoteOk_0:Code := (loopOf 0 (Tryz.f134.body.getD .skip)).getD .skip
noncomputable def cs_NoteOk_2:Code := (loopOf 2 (Tryz.f134.body.getD .skip)).getD .skip
theorem lseqs_NoteOk:lss_NoteOk = [(0,cs_NoteOk_0),(2,cs_NoteOk_2)] := by kernel_rfl
theorem ms_NoteOk_0:∀ p,p ∈ lss_NoteOk → p.1 = 0 → p.2 = cs_NoteOk_0 := by
 intro p hp
 rw [lseqs_NoteOk] at hp
 simp only [List.mem_cons,List.not_mem_nil,or_false] at hp
 rcases hp with rfl | rfl <;> simp
theorem ms_NoteOk_2:∀ p,p ∈ lss_NoteOk → p.1 = 2 → p.2 = cs_NoteOk_2 := by
 intro p hp
 rw [lseqs_NoteOk] at hp
 simp only [List.mem_cons,List.not_mem_nil,or_false] at hp
 rcases hp with rfl | rfl <;> simp
theorem ks_NoteOk_0:OrcOk Es_NoteOk Os_NoteOk_0 lss_NoteOk 0 := orcOk_none
noncomputable def hs_NoteOk_0 (y0:Int) (y1:Int) (y2:Int) (y3:List ByteArray) (y4:tL3):List (Pl×LV) := [(.T 1,.t (.val false [.ptr 1 0 0])),(.T 3,.t (.val false [.int .i64 y0])),(.B 1,.b 0 false [.int .i64 y1,.int .i64 y2,.sl .any 9 .str y3,.sl .any 155 (.pair .str (.pair .bool (.sl 3 (.int .i64)))) y4])]
noncomputable def g_Ss_NoteOk_0 (y1:Int) (y2:Int) (y3:List ByteArray) (y4:tL3):(Int) → RT (Int) ((Bool) ⊕ (Unit))
 | y0 => .br (true) (.br (decide (y0 < (y3.length:Int))) (.br (decide (0 ≤ y0 ∧ y0 < (y3.length:Int))) (.br (g_As_l1Key (at_ Ty.str y3 (Int.toNat y0))) (.br (!g_Vs_l1Key_0 (at_ Ty.str y3 (Int.toNat y0))) (.out (.inl false)) (.br (true) (.go (IntKind.i64.wrap (y0 + 1))) .bad)) .bad) .bad) (.out (.inr (())))) .bad
noncomputable def g_Ls_NoteOk_0 (y1:Int) (y2:Int) (y3:List ByteArray) (y4:tL3) (x:Int):Option ((Bool) ⊕ (Unit)) := loopO (g_Ss_NoteOk_0 y1 y2 y3 y4) x
noncomputable def xs_NoteOk_0 (y1:Int) (y2:Int) (y3:List ByteArray) (y4:tL3):((Bool) ⊕ (Unit)) → Ex×List (Pl×LV) := fun
 | .inl r => (.ret,[(.T 1,.t (.val false [.ptr 1 0 0])),(.T 2,.t (.val false [.bool r])),(.B 1,.b 0 false [.int .i64 y1,.int .i64 y2,.sl .any 9 .str y3,.sl .any 155 (.pair .str (.pair .bool (.sl 3 (.int .i64)))) y4])])
 | .inr (r) => (.exit 0,[(.T 1,.t (.val false [.ptr 1 0 0])),(.T 2,.t (.val false [.undef])),(.B 1,.b 0 false [.int .i64 y1,.int .i64 y2,.sl .any 9 .str y3,.sl .any 155 (.pair .str (.pair .bool (.sl 3 (.int .i64)))) y4])])
noncomputable def Os_NoteOk_1:Orc := fun b h => match b,h with
 | 0,[(.T 1,.t (.val false [.ptr 1 0 0])),(.T 3,.t (.val false [.int .i64 y0])),(.B 1,.b 0 false [.int .i64 y1,.int .i64 y2,.sl .any 9 .str y3,.sl .any 155 (.pair .str (.pair .bool (.sl 3 (.int .i64)))) y4])] => some (okO (g_Ls_NoteOk_0 y1 y2 y3 y4 y0),(.br (isL (valO (g_Ls_NoteOk_0 y1 y2 y3 y4 y0))) (.leaf .ret [(.T 1,.t (.val false [.ptr 1 0 0])),(.T 2,.t (.val false [.bool (getL (valO (g_Ls_NoteOk_0 y1 y2 y3 y4 y0)))])),(.B 1,.b 0 false [.int .i64 y1,.int .i64 y2,.sl .any 9 .str y3,.sl .any 155 (.pair .str (.pair .bool (.sl 3 (.int .i64)))) y4])]) (.leaf (.exit 0) [(.T 1,.t (.val false [.ptr 1 0 0])),(.T 2,.t (.val false [.undef])),(.B 1,.b 0 false [.int .i64 y1,.int .i64 y2,.sl .any 9 .str y3,.sl .any 155 (.pair .str (.pair .bool (.sl 3 (.int .i64)))) y4])])))
 | b,h => Os_NoteOk_0 b h
theorem bs_NoteOk_0 (y0:Int) (y1:Int) (y2:Int) (y3:List ByteArray) (y4:tL3):Tr.bt Es_NoteOk Os_NoteOk_0 (exec Es_NoteOk 0 cs_NoteOk_0 (St.of (hs_NoteOk_0 y0 y1 y2 y3 y4)) (leafRd Es_NoteOk 0)) = (g_Ss_NoteOk_0 y1 y2 y3 y4 y0).bt (fun (y0:Int) => (hs_NoteOk_0 y0 y1 y2 y3 y4)) (xs_NoteOk_0 y1 y2 y3 y4) := by kernel_rfl
theorem ks_NoteOk_1:OrcOk Es_NoteOk Os_NoteOk_1 lss_NoteOk 1 := orc_add ks_NoteOk_0 (fun n p hp h ex h' ho => by
 obtain ⟨b,c⟩ := p
 obtain ⟨xt,h1,h2⟩ := ho
 have h1:Os_NoteOk_1 b h = some (true,xt) := h1
 unfold Os_NoteOk_1 at h1
 split at h1
 ·injection h1 with h1
  injection h1 with e1 e2
  subst e2
  have hc:c = cs_NoteOk_0 := ms_NoteOk_0 _ hp rfl
  subst hc
  right
  rename_i y0 y1 y2 y3 y4
  have key := LT_step ks_NoteOk_0 hp (fun q hq => loopsAll_in _ _ _ _ hp hq) (fun (y0:Int) => (hs_NoteOk_0 y0 y1 y2 y3 y4)) (xs_NoteOk_0 y1 y2 y3 y4) (g_Ss_NoteOk_0 y1 y2 y3 y4) (fun x => by first | exact bs_NoteOk_0 x y1 y2 y3 y4) n (x := y0) (okO_some e1)
  have hx:∀ r,XT.sel (.br (isL r) (.leaf .ret [(.T 1,.t (.val false [.ptr 1 0 0])),(.T 2,.t (.val false [.bool (getL r)])),(.B 1,.b 0 false [.int .i64 y1,.int .i64 y2,.sl .any 9 .str y3,.sl .any 155 (.pair .str (.pair .bool (.sl 3 (.int .i64)))) y4])]) (.leaf (.exit 0) [(.T 1,.t (.val false [.ptr 1 0 0])),(.T 2,.t (.val false [.undef])),(.B 1,.b 0 false [.int .i64 y1,.int .i64 y2,.sl .any 9 .str y3,.sl .any 155 (.pair .str (.pair .bool (.sl 3 (.int .i64)))) y4])])) = xs_NoteOk_0 y1 y2 y3 y4 r := fun r => by first | rfl | rcases r with r | r <;> rfl | rcases r with r | r | r <;> rfl | rcases r with r | r | r | r <;> rfl
  have h3 := (hx (valO (g_Ls_NoteOk_0 y1 y2 y3 y4 y0))).symm.trans h2
  have e3 := congrArg Prod.fst h3
  have e4 := congrArg Prod.snd h3
  simp only at e3 e4
  rw [← e3,← e4]
  exact key
 ·exact .inl ⟨xt,h1,h2⟩)
noncomputable def hs_NoteOk_2 (y0:Int) (y1:Int) (y2:Int) (y3:List ByteArray) (y4:tL3):List (Pl×LV) := [(.T 1,.t (.val false [.ptr 1 0 0])),(.T 4,.t (.val false [.int .i64 y0])),(.B 1,.b 0 false [.int .i64 y1,.int .i64 y2,.sl .any 9 .str y3,.sl .any 155 (.pair .str (.pair .bool (.sl 3 (.int .i64)))) y4])]
noncomputable def g_Ss_NoteOk_2 (y1:Int) (y2:Int) (y3:List ByteArray) (y4:tL3):(Int) → RT (Int) ((Bool) ⊕ (Unit))
 | y0 => .br (true) (.br (decide (y0 < (y4.length:Int))) (.br (decide (0 ≤ y0 ∧ y0 < (y4.length:Int))) (.br (g_As_WrtOk (at_ yT3 y4 (Int.toNat y0)).1 (at_ yT3 y4 (Int.toNat y0)).2.1 (at_ yT3 y4 (Int.toNat y0)).2.2) (.br (!g_Vs_WrtOk_0 (at_ yT3 y4 (Int.toNat y0)).1 (at_ yT3 y4 (Int.toNat y0)).2.1 (at_ yT3 y4 (Int.toNat y0)).2.2) (.out (.inl false)) (.br (decide (0 ≤ y0 ∧ y0 < (y4.length:Int))) (.br (g_As_l2Has y3 (at_ yT3 y4 (Int.toNat y0)).1) (.br (!g_Vs_l2Has_0 y3 (at_ yT3 y4 (Int.toNat y0)).1) (.out (.inl false)) (.br (true) (.go (IntKind.i64.wrap (y0 + 1))) .bad)) .bad) .bad)) .bad) .bad) (.out (.inr (())))) .bad
noncomputable def g_Ls_NoteOk_2 (y1:Int) (y2:Int) (y3:List ByteArray) (y4:tL3) (x:Int):Option ((Bool) ⊕ (Unit)) := loopO (g_Ss_NoteOk_2 y1 y2 y3 y4) x
noncomputable def xs_NoteOk_2 (y1:Int) (y2:Int) (y3:List ByteArray) (y4:tL3):((Bool) ⊕ (Unit)) → Ex×List (Pl×LV) := fun
 | .inl r => (.ret,[(.T 1,.t (.val false [.ptr 1 0 0])),(.T 2,.t (.val false [.bool r])),(.B 1,.b 0 false [.int .i64 y1,.int .i64 y2,.sl .any 9 .str y3,.sl .any 155 (.pair .str (.pair .bool (.sl 3 (.int .i64)))) y4])])
 | .inr (r) => (.exit 2,[(.T 1,.t (.val false [.ptr 1 0 0])),(.T 2,.t (.val false [.undef])),(.B 1,.b 0 false [.int .i64 y1,.int .i64 y2,.sl .any 9 .str y3,.sl .any 155 (.pair .str (.pair .bool (.sl 3 (.int .i64)))) y4])])
noncomputable def Os_NoteOk_2:Orc := fun b h => match b,h with
 | 2,[(.T 1,.t (.val false [.ptr 1 0 0])),(.T 4,.t (.val false [.int .i64 y0])),(.B 1,.b 0 false [.int .i64 y1,.int .i64 y2,.sl .any 9 .str y3,.sl .any 155 (.pair .str (.pair .bool (.sl 3 (.int .i64)))) y4])] => some (okO (g_Ls_NoteOk_2 y1 y2 y3 y4 y0),(.br (isL (valO (g_Ls_NoteOk_2 y1 y2 y3 y4 y0))) (.leaf .ret [(.T 1,.t (.val false [.ptr 1 0 0])),(.T 2,.t (.val false [.bool (getL (valO (g_Ls_NoteOk_2 y1 y2 y3 y4 y0)))])),(.B 1,.b 0 false [.int .i64 y1,.int .i64 y2,.sl .any 9 .str y3,.sl .any 155 (.pair .str (.pair .bool (.sl 3 (.int .i64)))) y4])]) (.leaf (.exit 2) [(.T 1,.t (.val false [.ptr 1 0 0])),(.T 2,.t (.val false [.undef])),(.B 1,.b 0 false [.int .i64 y1,.int .i64 y2,.sl .any 9 .str y3,.sl .any 155 (.pair .str (.pair .bool (.sl 3 (.int .i64)))) y4])])))
 | b,h => Os_NoteOk_1 b h
theorem bs_NoteOk_2 (y0:Int) (y1:Int) (y2:Int) (y3:List ByteArray) (y4:tL3):Tr.bt Es_NoteOk Os_NoteOk_1 (exec Es_NoteOk 2 cs_NoteOk_2 (St.of (hs_NoteOk_2 y0 y1 y2 y3 y4)) (leafRd Es_NoteOk 2)) = (g_Ss_NoteOk_2 y1 y2 y3 y4 y0).bt (fun (y0:Int) => (hs_NoteOk_2 y0 y1 y2 y3 y4)) (xs_NoteOk_2 y1 y2 y3 y4) := by kernel_rfl
theorem ks_NoteOk_2:OrcOk Es_NoteOk Os_NoteOk_2 lss_NoteOk 2 := orc_add ks_NoteOk_1 (fun n p hp h ex h' ho => by
 obtain ⟨b,c⟩ := p
 obtain ⟨xt,h1,h2⟩ := ho
 have h1:Os_NoteOk_2 b h = some (true,xt) := h1
 unfold Os_NoteOk_2 at h1
 split at h1
 ·injection h1 with h1
  injection h1 with e1 e2
  subst e2
  have hc:c = cs_NoteOk_2 := ms_NoteOk_2 _ hp rfl
  subst hc
  right
  rename_i y0 y1 y2 y3 y4
  have key := LT_step ks_NoteOk_1 hp (fun q hq => loopsAll_in _ _ _ _ hp hq) (fun (y0:Int) => (hs_NoteOk_2 y0 y1 y2 y3 y4)) (xs_NoteOk_2 y1 y2 y3 y4) (g_Ss_NoteOk_2 y1 y2 y3 y4) (fun x => by first | exact bs_NoteOk_2 x y1 y2 y3 y4) n (x := y0) (okO_some e1)
  have hx:∀ r,XT.sel (.br (isL r) (.leaf .ret [(.T 1,.t (.val false [.ptr 1 0 0])),(.T 2,.t (.val false [.bool (getL r)])),(.B 1,.b 0 false [.int .i64 y1,.int .i64 y2,.sl .any 9 .str y3,.sl .any 155 (.pair .str (.pair .bool (.sl 3 (.int .i64)))) y4])]) (.leaf (.exit 2) [(.T 1,.t (.val false [.ptr 1 0 0])),(.T 2,.t (.val false [.undef])),(.B 1,.b 0 false [.int .i64 y1,.int .i64 y2,.sl .any 9 .str y3,.sl .any 155 (.pair .str (.pair .bool (.sl 3 (.int .i64)))) y4])])) = xs_NoteOk_2 y1 y2 y3 y4 r := fun r => by first | rfl | rcases r with r | r <;> rfl | rcases r with r | r | r <;> rfl | rcases r with r | r | r | r <;> rfl
  have h3 := (hx (valO (g_Ls_NoteOk_2 y1 y2 y3 y4 y0))).symm.trans h2
  have e3 := congrArg Prod.fst h3
  have e4 := congrArg Prod.snd h3
  simp only at e3 e4
  rw [← e3,← e4]
  exact key
 ·exact .inl ⟨xt,h1,h2⟩)
noncomputable def g_As_NoteOk (a0:Int) (a1:Int) (a2:List ByteArray) (a3:tL3):Bool := g_As_l1In a0 (1:Int) (4:Int)&&(!g_Vs_l1In_0 a0 (1:Int) (4:Int) || g_As_l1In a1 (0:Int) (29:Int)&&(!g_Vs_l1In_0 a1 (0:Int) (29:Int) || (decide ((a2.length:Int) > 12) || (decide ((a3.length:Int) > 12) || okO (g_Ls_NoteOk_0 a0 a1 a2 a3 (0:Int))&&(isL (valO (g_Ls_NoteOk_0 a0 a1 a2 a3 (0:Int))) || okO (g_Ls_NoteOk_2 a0 a1 a2 a3 (0:Int))&&(isL (valO (g_Ls_NoteOk_2 a0 a1 a2 a3 (0:Int))) || (a0 == 1 || true)))))))
noncomputable def g_Vs_NoteOk_0 (a0:Int) (a1:Int) (a2:List ByteArray) (a3:tL3):Bool := bif !g_Vs_l1In_0 a0 (1:Int) (4:Int) then false else bif !g_Vs_l1In_0 a1 (0:Int) (29:Int) then false else bif decide ((a2.length:Int) > 12) then false else bif decide ((a3.length:Int) > 12) then false else bif isL (valO (g_Ls_NoteOk_0 a0 a1 a2 a3 (0:Int))) then getL (valO (g_Ls_NoteOk_0 a0 a1 a2 a3 (0:Int))) else bif isL (valO (g_Ls_NoteOk_2 a0 a1 a2 a3 (0:Int))) then getL (valO (g_Ls_NoteOk_2 a0 a1 a2 a3 (0:Int))) else bif a0 == 1 then true else IntKind.i64.wrap ((a2.length:Int) + (a3.length:Int)) == 0
noncomputable def Fs_NoteOk:FSem := fun ys => match ys with
 | [.val true [.int .i64 a0,.int .i64 a1,.sl .any 9 .str a2,.sl .any 155 (.pair .str (.pair .bool (.sl 3 (.int .i64)))) a3]] => some ((g_As_NoteOk a0 a1 a2 a3),.val false [.bool (g_Vs_NoteOk_0 a0 a1 a2 a3)],[])
 | _ => none
theorem vs_NoteOk (a0:Int) (a1:Int) (a2:List ByteArray) (a3:tL3):collapseH .std Es_NoteOk Os_NoteOk_2 (execFn Es_NoteOk Tryz.f134 mss_NoteOk [.val true [.int .i64 a0,.int .i64 a1,.sl .any 9 .str a2,.sl .any 155 (.pair .str (.pair .bool (.sl 3 (.int .i64)))) a3]]) = some ((g_As_NoteOk a0 a1 a2 a3),.val false [.bool (g_Vs_NoteOk_0 a0 a1 a2 a3)],[]) := by kernel_rfl
theorem ss_NoteOk:Sound Tryz.prog 134 mss_NoteOk Fs_NoteOk := by
 refine fn_gen goods_NoteOk (by kernel_rfl) .std (fn := Tryz.f134) (c := (Tryz.f134.body.getD .skip)) (o := Os_NoteOk_2) (k := 2) (by kernel_rfl) (by kernel_rfl) (by kernel_rfl) (by kernel_rfl) (by decide) ks_NoteOk_2 ?_
 intro ys r outs h
 unfold Fs_NoteOk at h
 split at h
 ·exact (vs_NoteOk _ _ _ _).trans h
 ·cases h
noncomputable def Es_DiskOk:Env where
 tt := mkTI Tryz.prog
 fn := fun f => match f with
  | 55 => some (mss_l1In,FSem.wk mss_l1In Fs_l1In)
  | 134 => some (mss_NoteOk,FSem.wk mss_NoteOk Fs_NoteOk)
  | _ => none
 bxf := fun _ => none
 mv := []
 keep := fun b => match b with
  | 0 => [(1,false),(3,false)]
  | _ => []
 keepB := fun b => match b with
  | 0 => [(1,false)]
  | _ => []
 keepX := fun b => match b with
  | 0 => [(2,false)]
  | _ => []
 keepXB := fun b => match b with
  | 0 => []
  | _ => []
theorem goodFs_DiskOk:∀ f ms F,Es_DiskOk.fn f = some (ms,F) → Sound Tryz.prog f ms F := fun f ms F h => by
 unfold Es_DiskOk at h
 dsimp only at h
 split at h
 ·exact gF ss_l1In h
 ·exact gF ss_NoteOk h
 ·cases h
theorem goods_DiskOk:Good Tryz.prog Es_DiskOk := ⟨rfl,goodFs_DiskOk,fun f ms F h => by cases h⟩
noncomputable def Os_DiskOk_0:Orc := fun _ _ => none
noncomputable def mss_DiskOk:List PM := [.rd]
noncomputable def lss_DiskOk:List (Nat×Code) := loopsAll 0 (Tryz.f90.body.getD .skip)
noncomputable def cs_DiskOk_0:Code := (loopOf 0 (Tryz.f90.body.getD .skip)).getD .skip
theorem lseqs_DiskOk:lss_DiskOk = [(0,cs_DiskOk_0)] := by kernel_rfl
theorem ms_DiskOk_0:∀ p,p ∈ lss_DiskOk → p.1 = 0 → p.2 = cs_DiskOk_0 := by
 intro p hp
 rw [lseqs_DiskOk] at hp
 simp only [List.mem_cons,List.not_mem_nil,or_false] at hp
 subst hp; simp
theorem ks_DiskOk_0:OrcOk Es_DiskOk Os_DiskOk_0 lss_DiskOk 0 := orcOk_none
noncomputable def hs_DiskOk_0 (y0:Int) (y1:tL1) (y2:Int):List (Pl×LV) := [(.T 1,.t (.val false [.ptr 1 0 0])),(.T 3,.t (.val false [.int .i64 y0])),(.B 1,.b 0 false [.sl .any 92 (.pair (.int .i64) (.pair (.int .i64) (.pair (.sl 9 .str) (.sl 155 (.pair .str (.pair .bool (.sl 3 (.int .i64)))))))) y1,.int .i64 y2])]
noncomputable def g_Ss_DiskOk_0 (y1:tL1) (y2:Int):(Int) → RT (Int) ((Bool) ⊕ (Unit))
 | y0 => .br (true) (.br (decide (y0 < (y1.length:Int))) (.br (decide (0 ≤ y0 ∧ y0 < (y1.length:Int))) (.br (g_As_NoteOk (at_ yT1 y1 (Int.toNat y0)).1 (at_ yT1 y1 (Int.toNat y0)).2.1 (at_ yT1 y1 (Int.toNat y0)).2.2.1 (at_ yT1 y1 (Int.toNat y0)).2.2.2) (.br (!g_Vs_NoteOk_0 (at_ yT1 y1 (Int.toNat y0)).1 (at_ yT1 y1 (Int.toNat y0)).2.1 (at_ yT1 y1 (Int.toNat y0)).2.2.1 (at_ yT1 y1 (Int.toNat y0)).2.2.2) (.out (.inl false)) (.br (true) (.go (IntKind.i64.wrap (y0 + 1))) .bad)) .bad) .bad) (.out (.inr (())))) .bad
noncomputable def g_Ls_DiskOk_0 (y1:tL1) (y2:Int) (x:Int):Option ((Bool) ⊕ (Unit)) := loopO (g_Ss_DiskOk_0 y1 y2) x
noncomputable def xs_DiskOk_0 (y1:tL1) (y2:Int):((Bool) ⊕ (Unit)) → Ex×List (Pl×LV) := fun
 | .inl r => (.ret,[(.T 2,.t (.val false [.bool r]))])
 | .inr (r) => (.exit 0,[(.T 2,.t (.val false [.undef]))])
noncomputable def Os_DiskOk_1:Orc := fun b h => match b,h with
 | 0,[(.T 1,.t (.val false [.ptr 1 0 0])),(.T 3,.t (.val false [.int .i64 y0])),(.B 1,.b 0 false [.sl .any 92 (.pair (.int .i64) (.pair (.int .i64) (.pair (.sl 9 .str) (.sl 155 (.pair .str (.pair .bool (.sl 3 (.int .i64)))))))) y1,.int .i64 y2])] => some (okO (g_Ls_DiskOk_0 y1 y2 y0),(.br (isL (valO (g_Ls_DiskOk_0 y1 y2 y0))) (.leaf .ret [(.T 2,.t (.val false [.bool (getL (valO (g_Ls_DiskOk_0 y1 y2 y0)))]))]) (.leaf (.exit 0) [(.T 2,.t (.val false [.undef]))])))
 | b,h => Os_DiskOk_0 b h
theorem bs_DiskOk_0 (y0:Int) (y1:tL1) (y2:Int):Tr.bt Es_DiskOk Os_DiskOk_0 (exec Es_DiskOk 0 cs_DiskOk_0 (St.of (hs_DiskOk_0 y0 y1 y2)) (leafRd Es_DiskOk 0)) = (g_Ss_DiskOk_0 y1 y2 y0).bt (fun (y0:Int) => (hs_DiskOk_0 y0 y1 y2)) (xs_DiskOk_0 y1 y2) := by kernel_rfl
theorem ks_DiskOk_1:OrcOk Es_DiskOk Os_DiskOk_1 lss_DiskOk 1 := orc_add ks_DiskOk_0 (fun n p hp h ex h' ho => by
 obtain ⟨b,c⟩ := p
 obtain ⟨xt,h1,h2⟩ := ho
 have h1:Os_DiskOk_1 b h = some (true,xt) := h1
 unfold Os_DiskOk_1 at h1
 split at h1
 ·injection h1 with h1
  injection h1 with e1 e2
  subst e2
  have hc:c = cs_DiskOk_0 := ms_DiskOk_0 _ hp rfl
  subst hc
  right
  rename_i y0 y1 y2
  have key := LT_step ks_DiskOk_0 hp (fun q hq => loopsAll_in _ _ _ _ hp hq) (fun (y0:Int) => (hs_DiskOk_0 y0 y1 y2)) (xs_DiskOk_0 y1 y2) (g_Ss_DiskOk_0 y1 y2) (fun x => by first | exact bs_DiskOk_0 x y1 y2) n (x := y0) (okO_some e1)
  have hx:∀ r,XT.sel (.br (isL r) (.leaf .ret [(.T 2,.t (.val false [.bool (getL r)]))]) (.leaf (.exit 0) [(.T 2,.t (.val false [.undef]))])) = xs_DiskOk_0 y1 y2 r := fun r => by first | rfl | rcases r with r | r <;> rfl | rcases r with r | r | r <;> rfl | rcases r with r | r | r | r <;> rfl
  have h3 := (hx (valO (g_Ls_DiskOk_0 y1 y2 y0))).symm.trans h2
  have e3 := congrArg Prod.fst h3
  have e4 := congrArg Prod.snd h3
  simp only at e3 e4
  rw [← e3,← e4]
  exact key
 ·exact .inl ⟨xt,h1,h2⟩)
noncomputable def g_As_DiskOk (a0:tL1) (a1:Int):Bool := decide ((a0.length:Int) > 120) || g_As_l1In a1 (0:Int) (a0.length:Int)&&(!g_Vs_l1In_0 a1 (0:Int) (a0.length:Int) || okO (g_Ls_DiskOk_0 a0 a1 (0:Int)))
noncomputable def g_Vs_DiskOk_0 (a0:tL1) (a1:Int):Bool := bif decide ((a0.length:Int) > 120) then false else bif !g_Vs_l1In_0 a1 (0:Int) (a0.length:Int) then false else bif isL (valO (g_Ls_DiskOk_0 a0 a1 (0:Int))) then getL (valO (g_Ls_DiskOk_0 a0 a1 (0:Int))) else true
noncomputable def Fs_DiskOk:FSem := fun ys => match ys with
 | [.val true [.sl .any 92 (.pair (.int .i64) (.pair (.int .i64) (.pair (.sl 9 .str) (.sl 155 (.pair .str (.pair .bool (.sl 3 (.int .i64)))))))) a0,.int .i64 a1]] => some ((g_As_DiskOk a0 a1),.val false [.bool (g_Vs_DiskOk_0 a0 a1)],[])
 | _ => none
theorem vs_DiskOk (a0:tL1) (a1:Int):collapseH .std Es_DiskOk Os_DiskOk_1 (execFn Es_DiskOk Tryz.f90 mss_DiskOk [.val true [.sl .any 92 (.pair (.int .i64) (.pair (.int .i64) (.pair (.sl 9 .str) (.sl 155 (.pair .str (.pair .bool (.sl 3 (.int .i64)))))))) a0,.int .i64 a1]]) = some ((g_As_DiskOk a0 a1),.val false [.bool (g_Vs_DiskOk_0 a0 a1)],[]) := by kernel_rfl
theorem ss_DiskOk:Sound Tryz.prog 90 mss_DiskOk Fs_DiskOk := by
 refine fn_gen goods_DiskOk (by kernel_rfl) .std (fn := Tryz.f90) (c := (Tryz.f90.body.getD .skip)) (o := Os_DiskOk_1) (k := 1) (by kernel_rfl) (by kernel_rfl) (by kernel_rfl) (by kernel_rfl) (by decide) ks_DiskOk_1 ?_
 intro ys r outs h
 unfold Fs_DiskOk at h
 split at h
 ·exact (vs_DiskOk _ _).trans h
 ·cases h
noncomputable def Es_OpOk:Env where
 tt := mkTI Tryz.prog
 fn := fun f => match f with
  | 55 => some (mss_l1In,FSem.wk mss_l1In Fs_l1In)
  | _ => none
 bxf := fun _ => none
 mv := []
 keep := fun _ => []
 keepB := fun _ => []
 keepX := fun _ => []
 keepXB := fun _ => []
theorem goodFs_OpOk:∀ f ms F,Es_OpOk.fn f = some (ms,F) → Sound Tryz.prog f ms F := fun f ms F h => by
 unfold Es_OpOk at h
 dsimp only at h
 split at h
 ·exact gF ss_l1In h
 ·cases h
theorem goods_OpOk:Good Tryz.prog Es_OpOk := ⟨rfl,goodFs_OpOk,fun f ms F h => by cases h⟩
noncomputable def Os_OpOk_0:Orc := fun _ _ => none
noncomputable def mss_OpOk:List PM := [.own]
noncomputable def lss_OpOk:List (Nat×Code) := loopsAll 0 (Tryz.f56.body.getD .skip)
theorem ks_OpOk_0:OrcOk Es_OpOk Os_OpOk_0 lss_OpOk 0 := orcOk_none
noncomputable def g_As_OpOk (a0:Int) (a1:Int) (a2:Int) (a3:Int) (a4:Int) (a5:Int) (a6:Int):Bool := g_As_l1In a1 (0:Int) (9:Int)&&(!g_Vs_l1In_0 a1 (0:Int) (9:Int) || g_As_l1In a2 (0:Int) (9:Int)&&(!g_Vs_l1In_0 a2 (0:Int) (9:Int) || g_As_l1In a3 (0:Int) (9:Int)&&(!g_Vs_l1In_0 a3 (0:Int) (9:Int) || g_As_l1In a4 (0:Int) (99:Int)&&(!g_Vs_l1In_0 a4 (0:Int) (99:Int) || g_As_l1In a5 (0:Int) (9:Int)&&(!g_Vs_l1In_0 a5 (0:Int) (9:Int) || g_As_l1In a6 (0:Int) (99:Int)&&(!g_Vs_l1In_0 a6 (0:Int) (99:Int) || bif a0 == 1 then bif a0 == 1 then !a3 == 0 || (!a4 == 0 || (!a5 == 0 || true)) else bif a0 == 2 then !a5 == 0 || true else bif a0 == 3 then !a1 == 0 || (!a2 == 0 || true) else !a0 == 4 || (!a1 == 0 || (!a2 == 0 || (!a3 == 0 || true))) else bif a0 == 5 then !a3 == 0 || (!a4 == 0 || (!a5 == 0 || true)) else bif a0 == 2 then !a5 == 0 || true else bif a0 == 3 then !a1 == 0 || (!a2 == 0 || true) else !a0 == 4 || (!a1 == 0 || (!a2 == 0 || (!a3 == 0 || true)))))))))
noncomputable def g_Vs_OpOk_0 (a0:Int) (a1:Int) (a2:Int) (a3:Int) (a4:Int) (a5:Int) (a6:Int):Bool := bif !g_Vs_l1In_0 a1 (0:Int) (9:Int) then false else bif !g_Vs_l1In_0 a2 (0:Int) (9:Int) then false else bif !g_Vs_l1In_0 a3 (0:Int) (9:Int) then false else bif !g_Vs_l1In_0 a4 (0:Int) (99:Int) then false else bif !g_Vs_l1In_0 a5 (0:Int) (9:Int) then false else bif !g_Vs_l1In_0 a6 (0:Int) (99:Int) then false else bif a0 == 1 then bif a0 == 1 then bif a3 == 0 then bif a4 == 0 then bif a5 == 0 then a6 == 0 else false else false else false else bif a0 == 2 then bif a5 == 0 then a6 == 0 else false else bif a0 == 3 then bif a1 == 0 then bif a2 == 0 then a6 == 0 else false else false else bif a0 == 4 then bif a1 == 0 then bif a2 == 0 then bif a3 == 0 then a4 == 0 else false else false else false else false else bif a0 == 5 then bif a3 == 0 then bif a4 == 0 then bif a5 == 0 then a6 == 0 else false else false else false else bif a0 == 2 then bif a5 == 0 then a6 == 0 else false else bif a0 == 3 then bif a1 == 0 then bif a2 == 0 then a6 == 0 else false else false else bif a0 == 4 then bif a1 == 0 then bif a2 == 0 then bif a3 == 0 then a4 == 0 else false else false else false else false
noncomputable def Fs_OpOk:FSem := fun ys => match ys with
 | [.val true [.int .i64 a0,.int .i64 a1,.int .i64 a2,.int .i64 a3,.int .i64 a4,.int .i64 a5,.int .i64 a6]] => some ((g_As_OpOk a0 a1 a2 a3 a4 a5 a6),.val false [.bool (g_Vs_OpOk_0 a0 a1 a2 a3 a4 a5 a6)],[])
 | _ => none
theorem vs_OpOk (a0:Int) (a1:Int) (a2:Int) (a3:Int) (a4:Int) (a5:Int) (a6:Int):collapseH .std Es_OpOk Os_OpOk_0 (execFn Es_OpOk Tryz.f56 mss_OpOk [.val true [.int .i64 a0,.int .i64 a1,.int .i64 a2,.int .i64 a3,.int .i64 a4,.int .i64 a5,.int .i64 a6]]) = some ((g_As_OpOk a0 a1 a2 a3 a4 a5 a6),.val false [.bool (g_Vs_OpOk_0 a0 a1 a2 a3 a4 a5 a6)],[]) := by kernel_rfl
theorem ss_OpOk:Sound Tryz.prog 56 mss_OpOk Fs_OpOk := by
 refine fn_gen goods_OpOk (by kernel_rfl) .std (fn := Tryz.f56) (c := (Tryz.f56.body.getD .skip)) (o := Os_OpOk_0) (k := 0) (by kernel_rfl) (by kernel_rfl) (by kernel_rfl) (by kernel_rfl) (by decide) ks_OpOk_0 ?_
 intro ys r outs h
 unfold Fs_OpOk at h
 split at h
 ·exact (vs_OpOk _ _ _ _ _ _ _).trans h
 ·cases h
noncomputable def Es_l2Of:Env where
 tt := mkTI Tryz.prog
 fn := fun _ => none
 bxf := fun _ => none
 mv := []
 keep := fun b => match b with
  | 0 => [(0,false),(1,false),(5,false),(6,false)]
  | _ => []
 keepB := fun b => match b with
  | 0 => []
  | _ => []
 keepX := fun b => match b with
  | 0 => [(5,false)]
  | _ => []
 keepXB := fun b => match b with
  | 0 => []
  | _ => []
theorem goodFs_l2Of:∀ f ms F,Es_l2Of.fn f = some (ms,F) → Sound Tryz.prog f ms F := fun f ms F h => by cases h
theorem goods_l2Of:Good Tryz.prog Es_l2Of := ⟨rfl,goodFs_l2Of,fun f ms F h => by cases h⟩
noncomputable def Os_l2Of_0:Orc := fun _ _ => none
noncomputable def mss_l2Of:List PM := [.rd,.own]
noncomputable def lss_l2Of:List (Nat×Code) := loopsAll 0 (Tryz.f47.body.getD .skip)
noncomputable def cs_l2Of_0:Code := (loopOf 0 (Tryz.f47.body.getD .skip)).getD .skip
theorem lseqs_l2Of:lss_l2Of = [(0,cs_l2Of_0)] := by kernel_rfl
theorem ms_l2Of_0:∀ p,p ∈ lss_l2Of → p.1 = 0 → p.2 = cs_l2Of_0 := by
 intro p hp
 rw [lseqs_l2Of] at hp
 simp only [List.mem_cons,List.not_mem_nil,or_false] at hp
 subst hp; simp
theorem ks_l2Of_0:OrcOk Es_l2Of Os_l2Of_0 lss_l2Of 0 := orcOk_none
noncomputable def hs_l2Of_0 (y0:tL1) (y1:Int) (y2:Int) (y3:Int):List (Pl×LV) := [(.T 0,.t (.val false [.sl .any 92 (.pair (.int .i64) (.pair (.int .i64) (.pair (.sl 9 .str) (.sl 155 (.pair .str (.pair .bool (.sl 3 (.int .i64)))))))) y0])),(.T 1,.t (.val false [.int .i64 y1])),(.T 5,.t (.val false [.int .i64 y2])),(.T 6,.t (.val false [.int .i64 y3]))]
noncomputable def g_Ss_l2Of_0 (y0:tL1) (y1:Int):(Int×Int) → RT (Int×Int) ((Int))
 | (y2,y3) => .br (true) (.br (decide (y3 < (y0.length:Int))) (.br (decide (0 ≤ y3 ∧ y3 < (y0.length:Int))) (.br (true) (.br ((at_ yT1 y0 (Int.toNat y3)).2.1 == y1) (.br (decide (0 ≤ y3 ∧ y3 < (y0.length:Int))) (.br (true) (.br ((at_ yT1 y0 (Int.toNat y3)).1 != 4) (.br (decide (0 ≤ y3 ∧ y3 < (y0.length:Int))) (.br (true) (.go (((at_ yT1 y0 (Int.toNat y3)).1,IntKind.i64.wrap (y3 + 1)))) .bad) .bad) (.br (true) (.go ((y2,IntKind.i64.wrap (y3 + 1)))) .bad)) .bad) .bad) (.br (true) (.go ((y2,IntKind.i64.wrap (y3 + 1)))) .bad)) .bad) .bad) (.out (y2))) .bad
noncomputable def g_Ls_l2Of_0 (y0:tL1) (y1:Int) (x:Int×Int):Option ((Int)) := loopO (g_Ss_l2Of_0 y0 y1) x
noncomputable def xs_l2Of_0 (y0:tL1) (y1:Int):((Int)) → Ex×List (Pl×LV) := fun r => (.exit 0,[(.T 5,.t (.val false [.int .i64 r]))])
noncomputable def Os_l2Of_1:Orc := fun b h => match b,h with
 | 0,[(.T 0,.t (.val false [.sl .any 92 (.pair (.int .i64) (.pair (.int .i64) (.pair (.sl 9 .str) (.sl 155 (.pair .str (.pair .bool (.sl 3 (.int .i64)))))))) y0])),(.T 1,.t (.val false [.int .i64 y1])),(.T 5,.t (.val false [.int .i64 y2])),(.T 6,.t (.val false [.int .i64 y3]))] => some (okO (g_Ls_l2Of_0 y0 y1 (y2,y3)),(.leaf (.exit 0) [(.T 5,.t (.val false [.int .i64 (valO (g_Ls_l2Of_0 y0 y1 (y2,y3)))]))]))
 | b,h => Os_l2Of_0 b h
theorem bs_l2Of_0 (y0:tL1) (y1:Int) (y2:Int) (y3:Int):Tr.bt Es_l2Of Os_l2Of_0 (exec Es_l2Of 0 cs_l2Of_0 (St.of (hs_l2Of_0 y0 y1 y2 y3)) (leafRd Es_l2Of 0)) = (g_Ss_l2Of_0 y0 y1 (y2,y3)).bt (fun ((y2,y3):Int×Int) => (hs_l2Of_0 y0 y1 y2 y3)) (xs_l2Of_0 y0 y1) := by kernel_rfl
theorem ks_l2Of_1:OrcOk Es_l2Of Os_l2Of_1 lss_l2Of 1 := orc_add ks_l2Of_0 (fun n p hp h ex h' ho => by
 obtain ⟨b,c⟩ := p
 obtain ⟨xt,h1,h2⟩ := ho
 have h1:Os_l2Of_1 b h = some (true,xt) := h1
 unfold Os_l2Of_1 at h1
 split at h1
 ·injection h1 with h1
  injection h1 with e1 e2
  subst e2
  have hc:c = cs_l2Of_0 := ms_l2Of_0 _ hp rfl
  subst hc
  right
  rename_i y0 y1 y2 y3
  have key := LT_step ks_l2Of_0 hp (fun q hq => loopsAll_in _ _ _ _ hp hq) (fun ((y2,y3):Int×Int) => (hs_l2Of_0 y0 y1 y2 y3)) (xs_l2Of_0 y0 y1) (g_Ss_l2Of_0 y0 y1) (fun x => by first | exact bs_l2Of_0 y0 y1 x.1 x.2) n (x := (y2,y3)) (okO_some e1)
  have hx:∀ r,XT.sel (.leaf (.exit 0) [(.T 5,.t (.val false [.int .i64 r]))]) = xs_l2Of_0 y0 y1 r := fun r => by first | rfl | rcases r with r | r <;> rfl | rcases r with r | r | r <;> rfl | rcases r with r | r | r | r <;> rfl
  have h3 := (hx (valO (g_Ls_l2Of_0 y0 y1 (y2,y3)))).symm.trans h2
  have e3 := congrArg Prod.fst h3
  have e4 := congrArg Prod.snd h3
  simp only at e3 e4
  rw [← e3,← e4]
  exact key
 ·exact .inl ⟨xt,h1,h2⟩)
noncomputable def g_As_l2Of (a0:tL1) (a1:Int):Bool := okO (g_Ls_l2Of_0 a0 a1 ((0:Int),(0:Int)))
noncomputable def g_Vs_l2Of_0 (a0:tL1) (a1:Int):Int := valO (g_Ls_l2Of_0 a0 a1 ((0:Int),(0:Int)))
noncomputable def Fs_l2Of:FSem := fun ys => match ys with
 | [.val false [.sl .any 92 (.pair (.int .i64) (.pair (.int .i64) (.pair (.sl 9 .str) (.sl 155 (.pair .str (.pair .bool (.sl 3 (.int .i64)))))))) a0],.val false [.int .i64 a1]] => some ((g_As_l2Of a0 a1),.val false [.int .i64 (g_Vs_l2Of_0 a0 a1)],[])
 | _ => none
theorem vs_l2Of (a0:tL1) (a1:Int):collapseH .std Es_l2Of Os_l2Of_1 (execFn Es_l2Of Tryz.f47 mss_l2Of [.val false [.sl .any 92 (.pair (.int .i64) (.pair (.int .i64) (.pair (.sl 9 .str) (.sl 155 (.pair .str (.pair .bool (.sl 3 (.int .i64)))))))) a0],.val false [.int .i64 a1]]) = some ((g_As_l2Of a0 a1),.val false [.int .i64 (g_Vs_l2Of_0 a0 a1)],[]) := by kernel_rfl
theorem ss_l2Of:Sound Tryz.prog 47 mss_l2Of Fs_l2Of := by
 refine fn_gen goods_l2Of (by kernel_rfl) .std (fn := Tryz.f47) (c := (Tryz.f47.body.getD .skip)) (o := Os_l2Of_1) (k := 1) (by kernel_rfl) (by kernel_rfl) (by kernel_rfl) (by kernel_rfl) (by decide) ks_l2Of_1 ?_
 intro ys r outs h
 unfold Fs_l2Of at h
 split at h
 ·exact (vs_l2Of _ _).trans h
 ·cases h
noncomputable def EZ70:Env where
 tt := mkTI Tryz.prog
 fn := fun f => match f with
  | 55 => some (mss_l1In,FSem.wk mss_l1In Fs_l1In)
  | _ => none
 bxf := fun _ => none
 mv := []
 keep := fun b => match b with
  | 0 => [(0,false),(3,false)]
  | _ => []
 keepB := fun b => match b with
  | 0 => []
  | _ => []
 keepX := fun b => match b with
  | 0 => [(2,false)]
  | _ => []
 keepXB := fun b => match b with
  | 0 => []
  | _ => []
theorem goodFZ70:∀ f ms F,EZ70.fn f = some (ms,F) → Sound Tryz.prog f ms F := fun f ms F h => by
 unfold EZ70 at h
 dsimp only at h
 split at h
 ·exact gF ss_l1In h
 ·cases h
theorem goodZ70:Good Tryz.prog EZ70 := ⟨rfl,goodFZ70,fun f ms F h => by cases h⟩
noncomputable def OZ70_0:Orc := fun _ _ => none
noncomputable def msZ70:List PM := [.rd]
noncomputable def lsZ70:List (Nat×Code) := loopsAll 0 (Tryz.f91.body.getD .skip)
noncomputable def cZ70_0:Code := (loopOf 0 (Tryz.f91.body.getD .skip)).getD .skip
theorem lseqZ70:lsZ70 = [(0,cZ70_0)] := by kernel_rfl
theorem mZ70_0:∀ p,p ∈ lsZ70 → p.1 = 0 → p.2 = cZ70_0 := by
 intro p hp
 rw [lseqZ70] at hp
 simp only [List.mem_cons,List.not_mem_nil,or_false] at hp
 subst hp; simp
theorem kZ70_0:OrcOk EZ70 OZ70_0 lsZ70 0 := orcOk_none
noncomputable def hZ70_0 (y0:List Int) (y1:Int):List (Pl×LV) := [(.T 0,.t (.val false [.sl .any 3 (.int .i64) y0])),(.T 3,.t (.val false [.int .i64 y1]))]
noncomputable def g_SZ70_0 (y0:List Int):(Int) → RT (Int) ((Bool) ⊕ (Unit))
 | y1 => .br (true) (.br (decide (y1 < (y0.length:Int))) (.br (decide (0 ≤ y1 ∧ y1 < (y0.length:Int))) (.br (g_As_l1In (at_ (.int .i64) y0 (Int.toNat y1)) (1:Int) (3:Int)) (.br (!g_Vs_l1In_0 (at_ (.int .i64) y0 (Int.toNat y1)) (1:Int) (3:Int)) (.out (.inl false)) (.br (true) (.br (decide (y1 > 0)) (.br (true) (.br (decide (0 ≤ IntKind.i64.wrap (y1 - 1) ∧ IntKind.i64.wrap (y1 - 1) < (y0.length:Int))) (.br (decide (0 ≤ y1 ∧ y1 < (y0.length:Int))) (.br (true) (.br (decide (at_ (.int .i64) y0 (Int.toNat (IntKind.i64.wrap (y1 - 1))) ≥ at_ (.int .i64) y0 (Int.toNat y1))) (.out (.inl false)) (.br (true) (.go (IntKind.i64.wrap (y1 + 1))) .bad)) .bad) .bad) .bad) .bad) (.br (true) (.go (IntKind.i64.wrap (y1 + 1))) .bad)) .bad)) .bad) .bad) (.out (.inr (())))) .bad
noncomputable def g_LZ70_0 (y0:List Int) (x:Int):Option ((Bool) ⊕ (Unit)) := loopO (g_SZ70_0 y0) x
noncomputable def xZ70_0 (y0:List Int):((Bool) ⊕ (Unit)) → Ex×List (Pl×LV) := fun
 | .inl r => (.ret,[(.T 2,.t (.val false [.bool r]))])
 | .inr (r) => (.exit 0,[(.T 2,.t (.val false [.undef]))])
noncomputable def OZ70_1:Orc := fun b h => match b,h with
 | 0,[(.T 0,.t (.val false [.sl .any 3 (.int .i64) y0])),(.T 3,.t (.val false [.int .i64 y1]))] => some (okO (g_LZ70_0 y0 y1),(.br (isL (valO (g_LZ70_0 y0 y1))) (.leaf .ret [(.T 2,.t (.val false [.bool (getL (valO (g_LZ70_0 y0 y1)))]))]) (.leaf (.exit 0) [(.T 2,.t (.val false [.undef]))])))
 | b,h => OZ70_0 b h
theorem bZ70_0 (y0:List Int) (y1:Int):Tr.bt EZ70 OZ70_0 (exec EZ70 0 cZ70_0 (St.of (hZ70_0 y0 y1)) (leafRd EZ70 0)) = (g_SZ70_0 y0 y1).bt (fun (y1:Int) => (hZ70_0 y0 y1)) (xZ70_0 y0) := by kernel_rfl
theorem kZ70_1:OrcOk EZ70 OZ70_1 lsZ70 1 := orc_add kZ70_0 (fun n p hp h ex h' ho => by
 obtain ⟨b,c⟩ := p
 obtain ⟨xt,h1,h2⟩ := ho
 have h1:OZ70_1 b h = some (true,xt) := h1
 unfold OZ70_1 at h1
 split at h1
 ·injection h1 with h1
  injection h1 with e1 e2
  subst e2
  have hc:c = cZ70_0 := mZ70_0 _ hp rfl
  subst hc
  right
  rename_i y0 y1
  have key := LT_step kZ70_0 hp (fun q hq => loopsAll_in _ _ _ _ hp hq) (fun (y1:Int) => (hZ70_0 y0 y1)) (xZ70_0 y0) (g_SZ70_0 y0) (fun x => by first | exact bZ70_0 y0 x) n (x := y1) (okO_some e1)
  have hx:∀ r,XT.sel (.br (isL r) (.leaf .ret [(.T 2,.t (.val false [.bool (getL r)]))]) (.leaf (.exit 0) [(.T 2,.t (.val false [.undef]))])) = xZ70_0 y0 r := fun r => by first | rfl | rcases r with r | r <;> rfl | rcases r with r | r | r <;> rfl | rcases r with r | r | r | r <;> rfl
  have h3 := (hx (valO (g_LZ70_0 y0 y1))).symm.trans h2
  have e3 := congrArg Prod.fst h3
  have e4 := congrArg Prod.snd h3
  simp only at e3 e4
  rw [← e3,← e4]
  exact key
 ·exact .inl ⟨xt,h1,h2⟩)
noncomputable def g_AZ70 (a0:List Int):Bool := okO (g_LZ70_0 a0 (0:Int))
noncomputable def g_VZ70_0 (a0:List Int):Bool := bif isL (valO (g_LZ70_0 a0 (0:Int))) then getL (valO (g_LZ70_0 a0 (0:Int))) else true
noncomputable def FZ70:FSem := fun ys => match ys with
 | [.val false [.sl .any 3 (.int .i64) a0]] => some ((g_AZ70 a0),.val false [.bool (g_VZ70_0 a0)],[])
 | _ => none
theorem vZ70 (a0:List Int):collapseH .std EZ70 OZ70_1 (execFn EZ70 Tryz.f91 msZ70 [.val false [.sl .any 3 (.int .i64) a0]]) = some ((g_AZ70 a0),.val false [.bool (g_VZ70_0 a0)],[]) := by kernel_rfl
theorem sZ70:Sound Tryz.prog 91 msZ70 FZ70 := by
 refine fn_gen goodZ70 (by kernel_rfl) .std (fn := Tryz.f91) (c := (Tryz.f91.body.getD .skip)) (o := OZ70_1) (k := 1) (by kernel_rfl) (by kernel_rfl) (by kernel_rfl) (by kernel_rfl) (by decide) kZ70_1 ?_
 intro ys r outs h
 unfold FZ70 at h
 split at h
 ·exact (vZ70 _).trans h
 ·cases h
noncomputable def Es_FroOk:Env where
 tt := mkTI Tryz.prog
 fn := fun f => match f with
  | 47 => some (mss_l2Of,FSem.wk mss_l2Of Fs_l2Of)
  | 55 => some (mss_l1In,FSem.wk mss_l1In Fs_l1In)
  | 56 => some (mss_OpOk,FSem.wk mss_OpOk Fs_OpOk)
  | 90 => some (mss_DiskOk,FSem.wk mss_DiskOk Fs_DiskOk)
  | 91 => some (msZ70,FSem.wk msZ70 FZ70)
  | _ => none
 bxf := fun _ => none
 mv := []
 keep := fun b => match b with
  | 0 => [(1,false),(3,false)]
  | 2 => [(1,false),(4,false)]
  | _ => []
 keepB := fun b => match b with
  | 0 => [(1,false)]
  | 2 => [(1,false)]
  | _ => []
 keepX := fun b => match b with
  | 0 => [(1,false),(2,false)]
  | 2 => [(2,false)]
  | _ => []
 keepXB := fun b => match b with
  | 0 => [(1,false)]
  | 2 => []
  | _ => []
theorem goodFs_FroOk:∀ f ms F,Es_FroOk.fn f = some (ms,F) → Sound Tryz.prog f ms F := fun f ms F h => by
 unfold Es_FroOk at h
 dsimp only at h
 split at h
 ·exact gF ss_l2Of h
 ·exact gF ss_l1In h
 ·exact gF ss_OpOk h
 ·exact gF ss_DiskOk h
 ·exact gF sZ70 h
 ·cases h
theorem goods_FroOk:Good Tryz.prog Es_FroOk := ⟨rfl,goodFs_FroOk,fun f ms F h => by cases h⟩
noncomputable def Os_FroOk_0:Orc := fun _ _ => none
noncomputable def mss_FroOk:List PM := [.rd]
noncomputable def lss_FroOk:List (Nat×Code) := loopsAll 0 (Tryz.f29.body.getD .skip)
noncomputable def cs_FroOk_0:Code := (loopOf 0 (Tryz.f29.body.getD .skip)).getD .skip
noncomputable def cs_FroOk_2:Code := (loopOf 2 (Tryz.f29.body.getD .skip)).getD .skip
theorem lseqs_FroOk:lss_FroOk = [(0,cs_FroOk_0),(2,cs_FroOk_2)] := by kernel_rfl
theorem ms_FroOk_0:∀ p,p ∈ lss_FroOk → p.1 = 0 → p.2 = cs_FroOk_0 := by
 intro p hp
 rw [lseqs_FroOk] at hp
 simp only [List.mem_cons,List.not_mem_nil,or_false] at hp
 rcases hp with rfl | rfl <;> simp
theorem ms_FroOk_2:∀ p,p ∈ lss_FroOk → p.1 = 2 → p.2 = cs_FroOk_2 := by
 intro p hp
 rw [lseqs_FroOk] at hp
 simp only [List.mem_cons,List.not_mem_nil,or_false] at hp
 rcases hp with rfl | rfl <;> simp
theorem ks_FroOk_0:OrcOk Es_FroOk Os_FroOk_0 lss_FroOk 0 := orcOk_none
noncomputable def hs_FroOk_0 (y0:Int) (y1:tL1) (y2:Int) (y3:tL0):List (Pl×LV) := [(.T 1,.t (.val false [.ptr 1 0 0])),(.T 3,.t (.val false [.int .i64 y0])),(.B 1,.b 0 false [.sl .any 92 (.pair (.int .i64) (.pair (.int .i64) (.pair (.sl 9 .str) (.sl 155 (.pair .str (.pair .bool (.sl 3 (.int .i64)))))))) y1,.int .i64 y2,.sl .any 73 (.pair (.int .i64) (.pair (.pair (.int .i64) (.pair (.int .i64) (.pair (.int .i64) (.pair (.int .i64) (.pair (.int .i64) (.pair (.int .i64) (.int .i64))))))) (.pair .bool (.pair (.sl 3 (.int .i64)) (.sl 3 (.int .i64)))))) y3])]
noncomputable def g_Ss_FroOk_0 (y1:tL1) (y2:Int) (y3:tL0):(Int) → RT (Int) ((Bool) ⊕ (Unit))
 | y0 => .br (true) (.br (decide (y0 < (y1.length:Int))) (.br (decide (0 ≤ y0 ∧ y0 < (y1.length:Int))) (.br (true) (.br ((at_ yT1 y1 (Int.toNat y0)).1 != 2) (.br (decide (0 ≤ y0 ∧ y0 < (y1.length:Int))) (.br (true) (.br ((at_ yT1 y1 (Int.toNat y0)).1 != 4) (.out (.inl false)) (.br (true) (.go (IntKind.i64.wrap (y0 + 1))) .bad)) .bad) .bad) (.br (true) (.go (IntKind.i64.wrap (y0 + 1))) .bad)) .bad) .bad) (.out (.inr (())))) .bad
noncomputable def g_Ls_FroOk_0 (y1:tL1) (y2:Int) (y3:tL0) (x:Int):Option ((Bool) ⊕ (Unit)) := loopO (g_Ss_FroOk_0 y1 y2 y3) x
noncomputable def xs_FroOk_0 (y1:tL1) (y2:Int) (y3:tL0):((Bool) ⊕ (Unit)) → Ex×List (Pl×LV) := fun
 | .inl r => (.ret,[(.T 1,.t (.val false [.ptr 1 0 0])),(.T 2,.t (.val false [.bool r])),(.B 1,.b 0 false [.sl .any 92 (.pair (.int .i64) (.pair (.int .i64) (.pair (.sl 9 .str) (.sl 155 (.pair .str (.pair .bool (.sl 3 (.int .i64)))))))) y1,.int .i64 y2,.sl .any 73 (.pair (.int .i64) (.pair (.pair (.int .i64) (.pair (.int .i64) (.pair (.int .i64) (.pair (.int .i64) (.pair (.int .i64) (.pair (.int .i64) (.int .i64))))))) (.pair .bool (.pair (.sl 3 (.int .i64)) (.sl 3 (.int .i64)))))) y3])])
 | .inr (r) => (.exit 0,[(.T 1,.t (.val false [.ptr 1 0 0])),(.T 2,.t (.val false [.undef])),(.B 1,.b 0 false [.sl .any 92 (.pair (.int .i64) (.pair (.int .i64) (.pair (.sl 9 .str) (.sl 155 (.pair .str (.pair .bool (.sl 3 (.int .i64)))))))) y1,.int .i64 y2,.sl .any 73 (.pair (.int .i64) (.pair (.pair (.int .i64) (.pair (.int .i64) (.pair (.int .i64) (.pair (.int .i64) (.pair (.int .i64) (.pair (.int .i64) (.int .i64))))))) (.pair .bool (.pair (.sl 3 (.int .i64)) (.sl 3 (.int .i64)))))) y3])])
noncomputable def Os_FroOk_1:Orc := fun b h => match b,h with
 | 0,[(.T 1,.t (.val false [.ptr 1 0 0])),(.T 3,.t (.val false [.int .i64 y0])),(.B 1,.b 0 false [.sl .any 92 (.pair (.int .i64) (.pair (.int .i64) (.pair (.sl 9 .str) (.sl 155 (.pair .str (.pair .bool (.sl 3 (.int .i64)))))))) y1,.int .i64 y2,.sl .any 73 (.pair (.int .i64) (.pair (.pair (.int .i64) (.pair (.int .i64) (.pair (.int .i64) (.pair (.int .i64) (.pair (.int .i64) (.pair (.int .i64) (.int .i64))))))) (.pair .bool (.pair (.sl 3 (.int .i64)) (.sl 3 (.int .i64)))))) y3])] => some (okO (g_Ls_FroOk_0 y1 y2 y3 y0),(.br (isL (valO (g_Ls_FroOk_0 y1 y2 y3 y0))) (.leaf .ret [(.T 1,.t (.val false [.ptr 1 0 0])),(.T 2,.t (.val false [.bool (getL (valO (g_Ls_FroOk_0 y1 y2 y3 y0)))])),(.B 1,.b 0 false [.sl .any 92 (.pair (.int .i64) (.pair (.int .i64) (.pair (.sl 9 .str) (.sl 155 (.pair .str (.pair .bool (.sl 3 (.int .i64)))))))) y1,.int .i64 y2,.sl .any 73 (.pair (.int .i64) (.pair (.pair (.int .i64) (.pair (.int .i64) (.pair (.int .i64) (.pair (.int .i64) (.pair (.int .i64) (.pair (.int .i64) (.int .i64))))))) (.pair .bool (.pair (.sl 3 (.int .i64)) (.sl 3 (.int .i64)))))) y3])]) (.leaf (.exit 0) [(.T 1,.t (.val false [.ptr 1 0 0])),(.T 2,.t (.val false [.undef])),(.B 1,.b 0 false [.sl .any 92 (.pair (.int .i64) (.pair (.int .i64) (.pair (.sl 9 .str) (.sl 155 (.pair .str (.pair .bool (.sl 3 (.int .i64)))))))) y1,.int .i64 y2,.sl .any 73 (.pair (.int .i64) (.pair (.pair (.int .i64) (.pair (.int .i64) (.pair (.int .i64) (.pair (.int .i64) (.pair (.int .i64) (.pair (.int .i64) (.int .i64))))))) (.pair .bool (.pair (.sl 3 (.int .i64)) (.sl 3 (.int .i64)))))) y3])])))
 | b,h => Os_FroOk_0 b h
theorem bs_FroOk_0 (y0:Int) (y1:tL1) (y2:Int) (y3:tL0):Tr.bt Es_FroOk Os_FroOk_0 (exec Es_FroOk 0 cs_FroOk_0 (St.of (hs_FroOk_0 y0 y1 y2 y3)) (leafRd Es_FroOk 0)) = (g_Ss_FroOk_0 y1 y2 y3 y0).bt (fun (y0:Int) => (hs_FroOk_0 y0 y1 y2 y3)) (xs_FroOk_0 y1 y2 y3) := by kernel_rfl
theorem ks_FroOk_1:OrcOk Es_FroOk Os_FroOk_1 lss_FroOk 1 := orc_add ks_FroOk_0 (fun n p hp h ex h' ho => by
 obtain ⟨b,c⟩ := p
 obtain ⟨xt,h1,h2⟩ := ho
 have h1:Os_FroOk_1 b h = some (true,xt) := h1
 unfold Os_FroOk_1 at h1
 split at h1
 ·injection h1 with h1
  injection h1 with e1 e2
  subst e2
  have hc:c = cs_FroOk_0 := ms_FroOk_0 _ hp rfl
  subst hc
  right
  rename_i y0 y1 y2 y3
  have key := LT_step ks_FroOk_0 hp (fun q hq => loopsAll_in _ _ _ _ hp hq) (fun (y0:Int) => (hs_FroOk_0 y0 y1 y2 y3)) (xs_FroOk_0 y1 y2 y3) (g_Ss_FroOk_0 y1 y2 y3) (fun x => by first | exact bs_FroOk_0 x y1 y2 y3) n (x := y0) (okO_some e1)
  have hx:∀ r,XT.sel (.br (isL r) (.leaf .ret [(.T 1,.t (.val false [.ptr 1 0 0])),(.T 2,.t (.val false [.bool (getL r)])),(.B 1,.b 0 false [.sl .any 92 (.pair (.int .i64) (.pair (.int .i64) (.pair (.sl 9 .str) (.sl 155 (.pair .str (.pair .bool (.sl 3 (.int .i64)))))))) y1,.int .i64 y2,.sl .any 73 (.pair (.int .i64) (.pair (.pair (.int .i64) (.pair (.int .i64) (.pair (.int .i64) (.pair (.int .i64) (.pair (.int .i64) (.pair (.int .i64) (.int .i64))))))) (.pair .bool (.pair (.sl 3 (.int .i64)) (.sl 3 (.int .i64)))))) y3])]) (.leaf (.exit 0) [(.T 1,.t (.val false [.ptr 1 0 0])),(.T 2,.t (.val false [.undef])),(.B 1,.b 0 false [.sl .any 92 (.pair (.int .i64) (.pair (.int .i64) (.pair (.sl 9 .str) (.sl 155 (.pair .str (.pair .bool (.sl 3 (.int .i64)))))))) y1,.int .i64 y2,.sl .any 73 (.pair (.int .i64) (.pair (.pair (.int .i64) (.pair (.int .i64) (.pair (.int .i64) (.pair (.int .i64) (.pair (.int .i64) (.pair (.int .i64) (.int .i64))))))) (.pair .bool (.pair (.sl 3 (.int .i64)) (.sl 3 (.int .i64)))))) y3])])) = xs_FroOk_0 y1 y2 y3 r := fun r => by first | rfl | rcases r with r | r <;> rfl | rcases r with r | r | r <;> rfl | rcases r with r | r | r | r <;> rfl
  have h3 := (hx (valO (g_Ls_FroOk_0 y1 y2 y3 y0))).symm.trans h2
  have e3 := congrArg Prod.fst h3
  have e4 := congrArg Prod.snd h3
  simp only at e3 e4
  rw [← e3,← e4]
  exact key
 ·exact .inl ⟨xt,h1,h2⟩)
noncomputable def hs_FroOk_2 (y0:Int) (y1:tL1) (y2:Int) (y3:tL0):List (Pl×LV) := [(.T 1,.t (.val false [.ptr 1 0 0])),(.T 4,.t (.val false [.int .i64 y0])),(.B 1,.b 0 false [.sl .any 92 (.pair (.int .i64) (.pair (.int .i64) (.pair (.sl 9 .str) (.sl 155 (.pair .str (.pair .bool (.sl 3 (.int .i64)))))))) y1,.int .i64 y2,.sl .any 73 (.pair (.int .i64) (.pair (.pair (.int .i64) (.pair (.int .i64) (.pair (.int .i64) (.pair (.int .i64) (.pair (.int .i64) (.pair (.int .i64) (.int .i64))))))) (.pair .bool (.pair (.sl 3 (.int .i64)) (.sl 3 (.int .i64)))))) y3])]
noncomputable def g_Ss_FroOk_2 (y1:tL1) (y2:Int) (y3:tL0):(Int) → RT (Int) ((Bool) ⊕ (Unit))
 | y0 => .br (true) (.br (decide (y0 < (y3.length:Int))) (.br (decide (0 ≤ y0 ∧ y0 < (y3.length:Int))) (.br (g_As_l1In (at_ yT0 y3 (Int.toNat y0)).1 (0:Int) (29:Int)) (.br (!g_Vs_l1In_0 (at_ yT0 y3 (Int.toNat y0)).1 (0:Int) (29:Int)) (.out (.inl false)) (.br (true) (.br (decide (y0 > 0)) (.br (true) (.br (decide (0 ≤ IntKind.i64.wrap (y0 - 1) ∧ IntKind.i64.wrap (y0 - 1) < (y3.length:Int))) (.br (true) (.br (decide ((at_ yT0 y3 (Int.toNat (IntKind.i64.wrap (y0 - 1)))).1 ≥ (at_ yT0 y3 (Int.toNat y0)).1)) (.out (.inl false)) (.br (g_AZ70 (at_ yT0 y3 (Int.toNat y0)).2.2.2.1) (.br (!g_VZ70_0 (at_ yT0 y3 (Int.toNat y0)).2.2.2.1) (.out (.inl false)) (.br (g_AZ70 (at_ yT0 y3 (Int.toNat y0)).2.2.2.2) (.br (!g_VZ70_0 (at_ yT0 y3 (Int.toNat y0)).2.2.2.2) (.out (.inl false)) (.br (g_As_l2Of y1 (at_ yT0 y3 (Int.toNat y0)).1) (.br (true) (.br (!(at_ yT0 y3 (Int.toNat y0)).2.2.1 == (g_Vs_l2Of_0 y1 (at_ yT0 y3 (Int.toNat y0)).1 == 2)) (.out (.inl false)) (.br (!(at_ yT0 y3 (Int.toNat y0)).2.2.1) (.br (g_As_OpOk (at_ yT0 y3 (Int.toNat y0)).2.1.1 (at_ yT0 y3 (Int.toNat y0)).2.1.2.1 (at_ yT0 y3 (Int.toNat y0)).2.1.2.2.1 (at_ yT0 y3 (Int.toNat y0)).2.1.2.2.2.1 (at_ yT0 y3 (Int.toNat y0)).2.1.2.2.2.2.1 (at_ yT0 y3 (Int.toNat y0)).2.1.2.2.2.2.2.1 (at_ yT0 y3 (Int.toNat y0)).2.1.2.2.2.2.2.2) (.br (!g_Vs_OpOk_0 (at_ yT0 y3 (Int.toNat y0)).2.1.1 (at_ yT0 y3 (Int.toNat y0)).2.1.2.1 (at_ yT0 y3 (Int.toNat y0)).2.1.2.2.1 (at_ yT0 y3 (Int.toNat y0)).2.1.2.2.2.1 (at_ yT0 y3 (Int.toNat y0)).2.1.2.2.2.2.1 (at_ yT0 y3 (Int.toNat y0)).2.1.2.2.2.2.2.1 (at_ yT0 y3 (Int.toNat y0)).2.1.2.2.2.2.2.2) (.out (.inl false)) (.br (true) (.br (decide ((↑(List.length (at_ yT0 y3 (Int.toNat y0)).2.2.2.2):Int) > 0)) (.out (.inl false)) (.br (true) (.go (IntKind.i64.wrap (y0 + 1))) .bad)) .bad)) .bad) (.br (true) (.go (IntKind.i64.wrap (y0 + 1))) .bad))) .bad) .bad)) .bad)) .bad)) .bad) .bad) .bad) (.br (g_AZ70 (at_ yT0 y3 (Int.toNat y0)).2.2.2.1) (.br (!g_VZ70_0 (at_ yT0 y3 (Int.toNat y0)).2.2.2.1) (.out (.inl false)) (.br (g_AZ70 (at_ yT0 y3 (Int.toNat y0)).2.2.2.2) (.br (!g_VZ70_0 (at_ yT0 y3 (Int.toNat y0)).2.2.2.2) (.out (.inl false)) (.br (g_As_l2Of y1 (at_ yT0 y3 (Int.toNat y0)).1) (.br (true) (.br (!(at_ yT0 y3 (Int.toNat y0)).2.2.1 == (g_Vs_l2Of_0 y1 (at_ yT0 y3 (Int.toNat y0)).1 == 2)) (.out (.inl false)) (.br (!(at_ yT0 y3 (Int.toNat y0)).2.2.1) (.br (g_As_OpOk (at_ yT0 y3 (Int.toNat y0)).2.1.1 (at_ yT0 y3 (Int.toNat y0)).2.1.2.1 (at_ yT0 y3 (Int.toNat y0)).2.1.2.2.1 (at_ yT0 y3 (Int.toNat y0)).2.1.2.2.2.1 (at_ yT0 y3 (Int.toNat y0)).2.1.2.2.2.2.1 (at_ yT0 y3 (Int.toNat y0)).2.1.2.2.2.2.2.1 (at_ yT0 y3 (Int.toNat y0)).2.1.2.2.2.2.2.2) (.br (!g_Vs_OpOk_0 (at_ yT0 y3 (Int.toNat y0)).2.1.1 (at_ yT0 y3 (Int.toNat y0)).2.1.2.1 (at_ yT0 y3 (Int.toNat y0)).2.1.2.2.1 (at_ yT0 y3 (Int.toNat y0)).2.1.2.2.2.1 (at_ yT0 y3 (Int.toNat y0)).2.1.2.2.2.2.1 (at_ yT0 y3 (Int.toNat y0)).2.1.2.2.2.2.2.1 (at_ yT0 y3 (Int.toNat y0)).2.1.2.2.2.2.2.2) (.out (.inl false)) (.br (true) (.br (decide ((↑(List.length (at_ yT0 y3 (Int.toNat y0)).2.2.2.2):Int) > 0)) (.out (.inl false)) (.br (true) (.go (IntKind.i64.wrap (y0 + 1))) .bad)) .bad)) .bad) (.br (true) (.go (IntKind.i64.wrap (y0 + 1))) .bad))) .bad) .bad)) .bad)) .bad)) .bad)) .bad) .bad) (.out (.inr (())))) .bad
noncomputable def g_Ls_FroOk_2 (y1:tL1) (y2:Int) (y3:tL0) (x:Int):Option ((Bool) ⊕ (Unit)) := loopO (g_Ss_FroOk_2 y1 y2 y3) x
noncomputable def xs_FroOk_2 (y1:tL1) (y2:Int) (y3:tL0):((Bool) ⊕ (Unit)) → Ex×List (Pl×LV) := fun
 | .inl r => (.ret,[(.T 2,.t (.val false [.bool r]))])
 | .inr (r) => (.exit 2,[(.T 2,.t (.val false [.undef]))])
noncomputable def Os_FroOk_2:Orc := fun b h => match b,h with
 | 2,[(.T 1,.t (.val false [.ptr 1 0 0])),(.T 4,.t (.val false [.int .i64 y0])),(.B 1,.b 0 false [.sl .any 92 (.pair (.int .i64) (.pair (.int .i64) (.pair (.sl 9 .str) (.sl 155 (.pair .str (.pair .bool (.sl 3 (.int .i64)))))))) y1,.int .i64 y2,.sl .any 73 (.pair (.int .i64) (.pair (.pair (.int .i64) (.pair (.int .i64) (.pair (.int .i64) (.pair (.int .i64) (.pair (.int .i64) (.pair (.int .i64) (.int .i64))))))) (.pair .bool (.pair (.sl 3 (.int .i64)) (.sl 3 (.int .i64)))))) y3])] => some (okO (g_Ls_FroOk_2 y1 y2 y3 y0),(.br (isL (valO (g_Ls_FroOk_2 y1 y2 y3 y0))) (.leaf .ret [(.T 2,.t (.val false [.bool (getL (valO (g_Ls_FroOk_2 y1 y2 y3 y0)))]))]) (.leaf (.exit 2) [(.T 2,.t (.val false [.undef]))])))
 | b,h => Os_FroOk_1 b h
theorem bs_FroOk_2 (y0:Int) (y1:tL1) (y2:Int) (y3:tL0):Tr.bt Es_FroOk Os_FroOk_1 (exec Es_FroOk 2 cs_FroOk_2 (St.of (hs_FroOk_2 y0 y1 y2 y3)) (leafRd Es_FroOk 2)) = (g_Ss_FroOk_2 y1 y2 y3 y0).bt (fun (y0:Int) => (hs_FroOk_2 y0 y1 y2 y3)) (xs_FroOk_2 y1 y2 y3) := by kernel_rfl
theorem ks_FroOk_2:OrcOk Es_FroOk Os_FroOk_2 lss_FroOk 2 := orc_add ks_FroOk_1 (fun n p hp h ex h' ho => by
 obtain ⟨b,c⟩ := p
 obtain ⟨xt,h1,h2⟩ := ho
 have h1:Os_FroOk_2 b h = some (true,xt) := h1
 unfold Os_FroOk_2 at h1
 split at h1
 ·injection h1 with h1
  injection h1 with e1 e2
  subst e2
  have hc:c = cs_FroOk_2 := ms_FroOk_2 _ hp rfl
  subst hc
  right
  rename_i y0 y1 y2 y3
  have key := LT_step ks_FroOk_1 hp (fun q hq => loopsAll_in _ _ _ _ hp hq) (fun (y0:Int) => (hs_FroOk_2 y0 y1 y2 y3)) (xs_FroOk_2 y1 y2 y3) (g_Ss_FroOk_2 y1 y2 y3) (fun x => by first | exact bs_FroOk_2 x y1 y2 y3) n (x := y0) (okO_some e1)
  have hx:∀ r,XT.sel (.br (isL r) (.leaf .ret [(.T 2,.t (.val false [.bool (getL r)]))]) (.leaf (.exit 2) [(.T 2,.t (.val false [.undef]))])) = xs_FroOk_2 y1 y2 y3 r := fun r => by first | rfl | rcases r with r | r <;> rfl | rcases r with r | r | r <;> rfl | rcases r with r | r | r | r <;> rfl
  have h3 := (hx (valO (g_Ls_FroOk_2 y1 y2 y3 y0))).symm.trans h2
  have e3 := congrArg Prod.fst h3
  have e4 := congrArg Prod.snd h3
  simp only at e3 e4
  rw [← e3,← e4]
  exact key
 ·exact .inl ⟨xt,h1,h2⟩)
noncomputable def g_As_FroOk (a0:tL1) (a1:Int) (a2:tL0):Bool := g_As_DiskOk a0 a1&&(!g_Vs_DiskOk_0 a0 a1 || (decide ((a2.length:Int) > 30) || okO (g_Ls_FroOk_0 a0 a1 a2 (0:Int))&&(isL (valO (g_Ls_FroOk_0 a0 a1 a2 (0:Int))) || okO (g_Ls_FroOk_2 a0 a1 a2 (0:Int)))))
noncomputable def g_Vs_FroOk_0 (a0:tL1) (a1:Int) (a2:tL0):Bool := bif !g_Vs_DiskOk_0 a0 a1 then false else bif decide ((a2.length:Int) > 30) then false else bif isL (valO (g_Ls_FroOk_0 a0 a1 a2 (0:Int))) then getL (valO (g_Ls_FroOk_0 a0 a1 a2 (0:Int))) else bif isL (valO (g_Ls_FroOk_2 a0 a1 a2 (0:Int))) then getL (valO (g_Ls_FroOk_2 a0 a1 a2 (0:Int))) else true
noncomputable def Fs_FroOk:FSem := fun ys => match ys with
 | [.val true [.sl .any 92 (.pair (.int .i64) (.pair (.int .i64) (.pair (.sl 9 .str) (.sl 155 (.pair .str (.pair .bool (.sl 3 (.int .i64)))))))) a0,.int .i64 a1,.sl .any 73 (.pair (.int .i64) (.pair (.pair (.int .i64) (.pair (.int .i64) (.pair (.int .i64) (.pair (.int .i64) (.pair (.int .i64) (.pair (.int .i64) (.int .i64))))))) (.pair .bool (.pair (.sl 3 (.int .i64)) (.sl 3 (.int .i64)))))) a2]] => some ((g_As_FroOk a0 a1 a2),.val false [.bool (g_Vs_FroOk_0 a0 a1 a2)],[])
 | _ => none
theorem vs_FroOk (a0:tL1) (a1:Int) (a2:tL0):collapseH .std Es_FroOk Os_FroOk_2 (execFn Es_FroOk Tryz.f29 mss_FroOk [.val true [.sl .any 92 (.pair (.int .i64) (.pair (.int .i64) (.pair (.sl 9 .str) (.sl 155 (.pair .str (.pair .bool (.sl 3 (.int .i64)))))))) a0,.int .i64 a1,.sl .any 73 (.pair (.int .i64) (.pair (.pair (.int .i64) (.pair (.int .i64) (.pair (.int .i64) (.pair (.int .i64) (.pair (.int .i64) (.pair (.int .i64) (.int .i64))))))) (.pair .bool (.pair (.sl 3 (.int .i64)) (.sl 3 (.int .i64)))))) a2]]) = some ((g_As_FroOk a0 a1 a2),.val false [.bool (g_Vs_FroOk_0 a0 a1 a2)],[]) := by kernel_rfl
theorem ss_FroOk:Sound Tryz.prog 29 mss_FroOk Fs_FroOk := by
 refine fn_gen goods_FroOk (by kernel_rfl) .std (fn := Tryz.f29) (c := (Tryz.f29.body.getD .skip)) (o := Os_FroOk_2) (k := 2) (by kernel_rfl) (by kernel_rfl) (by kernel_rfl) (by kernel_rfl) (by decide) ks_FroOk_2 ?_
 intro ys r outs h
 unfold Fs_FroOk at h
 split at h
 ·exact (vs_FroOk _ _ _).trans h
 ·cases h
noncomputable def EZ71:Env where
 tt := mkTI Tryz.prog
 fn := fun f => match f with
  | 56 => some (mss_OpOk,FSem.wk mss_OpOk Fs_OpOk)
  | _ => none
 bxf := fun _ => none
 mv := []
 keep := fun _ => []
 keepB := fun _ => []
 keepX := fun _ => []
 keepXB := fun _ => []
theorem goodFZ71:∀ f ms F,EZ71.fn f = some (ms,F) → Sound Tryz.prog f ms F := fun f ms F h => by
 unfold EZ71 at h
 dsimp only at h
 split at h
 ·exact gF ss_OpOk h
 ·cases h
theorem goodZ71:Good Tryz.prog EZ71 := ⟨rfl,goodFZ71,fun f ms F h => by cases h⟩
noncomputable def OZ71_0:Orc := fun _ _ => none
noncomputable def msZ71:List PM := [.own]
noncomputable def lsZ71:List (Nat×Code) := loopsAll 0 (Tryz.f33.body.getD .skip)
theorem kZ71_0:OrcOk EZ71 OZ71_0 lsZ71 0 := orcOk_none
noncomputable def g_AZ71 (a0:Int) (a1:Int) (a2:Int) (a3:Int) (a4:Int) (a5:Int) (a6:Int):Bool := g_As_OpOk a0 a1 a2 a3 a4 a5 a6&&(!g_Vs_OpOk_0 a0 a1 a2 a3 a4 a5 a6 || (a0 == 1 || (a0 == 2 || true)))
noncomputable def g_VZ71_0 (a0:Int) (a1:Int) (a2:Int) (a3:Int) (a4:Int) (a5:Int) (a6:Int):List Int := bif !g_Vs_OpOk_0 a0 a1 a2 a3 a4 a5 a6 then [] else bif a0 == 1 then [(1:Int),(3:Int)] else bif a0 == 2 then bif a0 == 2 then [(1:Int),(2:Int),(3:Int)] else [(2:Int),(3:Int)] else bif a0 == 5 then [(1:Int),(2:Int),(3:Int)] else [(2:Int),(3:Int)]
noncomputable def FZ71:FSem := fun ys => match ys with
 | [.val true [.int .i64 a0,.int .i64 a1,.int .i64 a2,.int .i64 a3,.int .i64 a4,.int .i64 a5,.int .i64 a6]] => some ((g_AZ71 a0 a1 a2 a3 a4 a5 a6),.val false [.own .any true 3 (.int .i64) (g_VZ71_0 a0 a1 a2 a3 a4 a5 a6)],[])
 | _ => none
theorem vZ71 (a0:Int) (a1:Int) (a2:Int) (a3:Int) (a4:Int) (a5:Int) (a6:Int):collapseH .std EZ71 OZ71_0 (execFn EZ71 Tryz.f33 msZ71 [.val true [.int .i64 a0,.int .i64 a1,.int .i64 a2,.int .i64 a3,.int .i64 a4,.int .i64 a5,.int .i64 a6]]) = some ((g_AZ71 a0 a1 a2 a3 a4 a5 a6),.val false [.own .any true 3 (.int .i64) (g_VZ71_0 a0 a1 a2 a3 a4 a5 a6)],[]) := by kernel_rfl
theorem sZ71:Sound Tryz.prog 33 msZ71 FZ71 := by
 refine fn_gen goodZ71 (by kernel_rfl) .std (fn := Tryz.f33) (c := (Tryz.f33.body.getD .skip)) (o := OZ71_0) (k := 0) (by kernel_rfl) (by kernel_rfl) (by kernel_rfl) (by kernel_rfl) (by decide) kZ71_0 ?_
 intro ys r outs h
 unfold FZ71 at h
 split at h
 ·exact (vZ71 _ _ _ _ _ _ _).trans h
 ·cases h
end Go.Proofs.YtedhpmhlmdcpbaaGreatDoor.E
