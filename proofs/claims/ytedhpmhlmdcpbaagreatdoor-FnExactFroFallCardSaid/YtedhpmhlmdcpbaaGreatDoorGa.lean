/- What the functions that are reached do, by the engine: for the proof (laws.FnExactFroFall): part 1. No conditions. -/
import Derived.Test.YtedhpmhlmdcpbaaGreatDoorEc
import Derived.Test.YtedhpmhlmdcpbaaGreatDoorProg
import Derived.Test.YtedhpmhlmdcpbaaGreatDoorShelf
import Derived.RangeFuncNested
import Derived.RangeFuncBound
import Derived.RangeFuncCalls
import Derived.RangeFuncLeaves
import Derived.RangeFuncBox
import Derived.Shelf.Abstract
import Derived.WalkKit
import Derived.OwnWalkIn
import Derived.TacticsInMore
import Derived.LoopNIn
import Derived.LoopIn
set_option linter.all false
namespace Go.Proofs.YtedhpmhlmdcpbaaGreatDoor.E
open Go
set_option maxRecDepth 100000
set_option maxHeartbeats 0
abbrev yT0:Ty := Ty.pair (Ty.int IntKind.i64) (Ty.pair (Ty.pair (Ty.int IntKind.i64) (Ty.pair (Ty.int IntKind.i64) (Ty.pair (Ty.int IntKind.i64) (Ty.pair (Ty.int IntKind.i64) (Ty.pair (Ty.int IntKind.i64) (Ty.pair (Ty.int IntKind.i64) (Ty.int IntKind.i64))))))) (Ty.pair Ty.bool (Ty.pair (Ty.sl (nat_lit 3) (Ty.int IntKind.i64)) (Ty.sl (nat_lit 3) (Ty.int IntKind.i64)))))
abbrev yT1:Ty := Ty.pair (Ty.int IntKind.i64) (Ty.pair (Ty.int IntKind.i64) (Ty.pair (Ty.sl (nat_lit 9) Ty.str) (Ty.sl (nat_lit 155) (Ty.pair Ty.str (Ty.pair Ty.bool (Ty.sl (nat_lit 3) (Ty.int IntKind.i64)))))))
abbrev yT2:Ty := Ty.pair Ty.str (Ty.pair Ty.bool (Ty.sl (nat_lit 3) (Ty.int IntKind.i64)))
abbrev yT3:Ty := Ty.pair (Ty.int IntKind.i64) (Ty.pair (Ty.int IntKind.i64) (Ty.pair (Ty.sl (nat_lit 9) Ty.str) (Ty.sl (nat_lit 196) (Ty.pair Ty.str (Ty.pair Ty.bool (Ty.sl (nat_lit 3) (Ty.int IntKind.i64)))))))
abbrev tL0:Type := List (Int×(Int×((List ByteArray)×(List (ByteArray×(Bool×(List Int)))))))
abbrev tL1:Type := List (Int×((Int×(Int×(Int×(Int×(Int×(Int×Int))))))×(Bool×((List Int)×(List Int)))))
abbrev tL2:Type := List (ByteArray×(Bool×(List Int)))
abbrev tS : Type := List (ByteArray × List Int)
abbrev tW : Type := List (ByteArray × Bool × List Int)
theorem gF {P : Program} {n : Nat} {ms0 ms : List PM} {F0 F : FSem} (s : Sound P n ms0 F0) (h : some (ms0, FSem.wk ms0 F0) = some (ms, F)) : Sound P n ms F := by cases h; exact Sound.wk s
noncomputable def Ei_in:Env where
 tt := mkTI Tryz.prog
 fn := fun _ => none
 bxf := fun _ => none
 mv := []
 keep := fun _ => []
 keepB := fun _ => []
 keepX := fun _ => []
 keepXB := fun _ => []
theorem goodFi_in:∀ f ms F,Ei_in.fn f = some (ms,F) → Sound Tryz.prog f ms F := fun f ms F h => by cases h
theorem goodi_in:Good Tryz.prog Ei_in := ⟨rfl,goodFi_in,fun f ms F h => by cases h⟩
noncomputable def Oi_in_0:Orc := fun _ _ => none
noncomputable def msi_in:List PM := [.own,.own,.own]
noncomputable def lsi_in:List (Nat×Code) := loopsAll 0 (Tryz.f75.body.getD .skip)
theorem ki_in_0:OrcOk Ei_in Oi_in_0 lsi_in 0 := orcOk_none
noncomputable def g_Ai_in (a0:Int) (a1:Int) (a2:Int):Bool := !decide (a0 ≥ a1) || true
noncomputable def g_Vi_in_0 (a0:Int) (a1:Int) (a2:Int):Bool := bif decide (a0 ≥ a1) then decide (a0 ≤ a2) else false
noncomputable def Fi_in:FSem := fun ys => match ys with
 | [.val false [.int .i64 a0],.val false [.int .i64 a1],.val false [.int .i64 a2]] => some ((g_Ai_in a0 a1 a2),.val false [.bool (g_Vi_in_0 a0 a1 a2)],[])
 | _ => none
theorem vi_in (a0:Int) (a1:Int) (a2:Int):collapseH .std Ei_in Oi_in_0 (execFn Ei_in Tryz.f75 msi_in [.val false [.int .i64 a0],.val false [.int .i64 a1],.val false [.int .i64 a2]]) = some ((g_Ai_in a0 a1 a2),.val false [.bool (g_Vi_in_0 a0 a1 a2)],[]) := by kernel_rfl
theorem si_in:Sound Tryz.prog 75 msi_in Fi_in := by
 refine fn_gen goodi_in (by kernel_rfl) .std (fn := Tryz.f75) (c := (Tryz.f75.body.getD .skip)) (o := Oi_in_0) (k := 0) (by kernel_rfl) (by kernel_rfl) (by kernel_rfl) (by kernel_rfl) (by decide) ki_in_0 ?_
 intro ys r outs h
 unfold Fi_in at h
 split at h
 ·exact (vi_in _ _ _).trans h
 ·cases h
noncomputable def Ei_isTx:Env where
 tt := mkTI Tryz.prog
 fn := fun f => match f with
  | 75 => some (msi_in,FSem.wk msi_in Fi_in)
  | _ => none
 bxf := fun _ => none
 mv := []
 keep := fun _ => []
 keepB := fun _ => []
 keepX := fun _ => []
 keepXB := fun _ => []
theorem goodFi_isTx:∀ f ms F,Ei_isTx.fn f = some (ms,F) → Sound Tryz.prog f ms F := fun f ms F h => by
 unfold Ei_isTx at h
 dsimp only at h
 split at h
 ·exact gF si_in h
 ·cases h
theorem goodi_isTx:Good Tryz.prog Ei_isTx := ⟨rfl,goodFi_isTx,fun f ms F h => by cases h⟩
noncomputable def Oi_isTx_0:Orc := fun _ _ => none
noncomputable def msi_isTx:List PM := [.own]
noncomputable def lsi_isTx:List (Nat×Code) := loopsAll 0 (Tryz.f59.body.getD .skip)
theorem ki_isTx_0:OrcOk Ei_isTx Oi_isTx_0 lsi_isTx 0 := orcOk_none
noncomputable def g_Ai_isTx (a0:Int):Bool := g_Ai_in a0 (0:Int) (29:Int)
noncomputable def g_Vi_isTx_0 (a0:Int):Bool := g_Vi_in_0 a0 (0:Int) (29:Int)
noncomputable def Fi_isTx:FSem := fun ys => match ys with
 | [.val false [.int .i64 a0]] => some ((g_Ai_isTx a0),.val false [.bool (g_Vi_isTx_0 a0)],[])
 | _ => none
theorem vi_isTx (a0:Int):collapseH .std Ei_isTx Oi_isTx_0 (execFn Ei_isTx Tryz.f59 msi_isTx [.val false [.int .i64 a0]]) = some ((g_Ai_isTx a0),.val false [.bool (g_Vi_isTx_0 a0)],[]) := by kernel_rfl
theorem si_isTx:Sound Tryz.prog 59 msi_isTx Fi_isTx := by
 refine fn_gen goodi_isTx (by kernel_rfl) .std (fn := Tryz.f59) (c := (Tryz.f59.body.getD .skip)) (o := Oi_isTx_0) (k := 0) (by kernel_rfl) (by kernel_rfl) (by kernel_rfl) (by kernel_rfl) (by decide) ki_isTx_0 ?_
 intro ys r outs h
 unfold Fi_isTx at h
 split at h
 ·exact (vi_isTx _).trans h
 ·cases h
def msstrings_Trim:List PM := [.own,.own]
def g_trim (s c:ByteArray):ByteArray := ⟨(Lib.trimS s.data.toList c.data.toList).toArray⟩
def g_ascii (c:ByteArray):Bool := c.data.toList.all fun b => decide (b.toNat < 128)
def Fstrings_Trim:FSem := fun ys => match ys with
 | [.val false [.str s],.val false [.str c]] => some (decide (s.size ≤ 9223372036854775807)&&(decide (c.size < 4294967281)&&g_ascii c),.val false [.str (g_trim s c)],[])
 | _ => none
theorem sstrings_Trim:Sound Tryz.prog 177 msstrings_Trim Fstrings_Trim := by
 refine sound_plain (by simp [msstrings_Trim]) ⟨_,Tryz.func177,by kernel_rfl,by kernel_rfl⟩ (fun w ys r outs h => ?_)
 unfold Fstrings_Trim at h
 split at h
 ·rename_i s c
  simp only [Option.some.injEq,Prod.mk.injEq,Bool.and_eq_true,decide_eq_true_eq] at h
  obtain ⟨⟨h1,h2,h3⟩,rfl,rfl⟩ := h
  refine ⟨rfl,[.string s,.string c],.string (g_trim s c),rfl,rfl,?_⟩
  exact Tryz.strings_Trim_laid s c w h1 h2 (fun j b hb => by
   have := List.all_eq_true.1 h3 b (List.mem_of_getElem? hb)
   simpa using this)
 ·cases h
noncomputable def Ei_keyOk:Env where
 tt := mkTI Tryz.prog
 fn := fun f => match f with
  | 75 => some (msi_in,FSem.wk msi_in Fi_in)
  | 177 => some (msstrings_Trim,FSem.wk msstrings_Trim Fstrings_Trim)
  | _ => none
 bxf := fun _ => none
 mv := []
 keep := fun _ => []
 keepB := fun _ => []
 keepX := fun _ => []
 keepXB := fun _ => []
theorem goodFi_keyOk:∀ f ms F,Ei_keyOk.fn f = some (ms,F) → Sound Tryz.prog f ms F := fun f ms F h => by
 unfold Ei_keyOk at h
 dsimp only at h
 split at h
 ·exact gF si_in h
 ·exact gF sstrings_Trim h
 ·cases h
theorem goodi_keyOk:Good Tryz.prog Ei_keyOk := ⟨rfl,goodFi_keyOk,fun f ms F h => by cases h⟩
noncomputable def Oi_keyOk_0:Orc := fun _ _ => none
noncomputable def msi_keyOk:List PM := [.own]
noncomputable def lsi_keyOk:List (Nat×Code) := loopsAll 0 (Tryz.f162.body.getD .skip)
theorem ki_keyOk_0:OrcOk Ei_keyOk Oi_keyOk_0 lsi_keyOk 0 := orcOk_none
noncomputable def g_Ai_keyOk (a0:ByteArray):Bool := g_Ai_in (↑(ByteArray.size a0):Int) (2:Int) (3:Int)&&(!g_Vi_in_0 (↑(ByteArray.size a0):Int) (2:Int) (3:Int) || decide ((0:Int) ≤ (0:Int) ∧ 0 < (↑(ByteArray.size a0):Int))&&(g_Ai_in (IntKind.i64.wrap (byteAt a0 (nat_lit 0))) (97:Int) (122:Int)&&(!g_Vi_in_0 (IntKind.i64.wrap (byteAt a0 (nat_lit 0))) (97:Int) (122:Int) || decide ((0:Int) ≤ (1:Int) ∧ 1 ≤ (↑(ByteArray.size a0):Int))&&(decide (ByteArray.size (ByteArray.extract a0 (nat_lit 1) (ByteArray.size a0)) ≤ nat_lit 9223372036854775807)&&g_ascii (lit [(48:Nat),(49:Nat),(50:Nat),(51:Nat),(52:Nat),(53:Nat),(54:Nat),(55:Nat),(56:Nat),(57:Nat)])&&true))))
noncomputable def g_Vi_keyOk_0 (a0:ByteArray):Bool := bif g_Vi_in_0 (↑(ByteArray.size a0):Int) (2:Int) (3:Int) then bif g_Vi_in_0 (IntKind.i64.wrap (byteAt a0 (nat_lit 0))) (97:Int) (122:Int) then ByteArray.toList (g_trim (ByteArray.extract a0 (nat_lit 1) (ByteArray.size a0)) (lit [(48:Nat),(49:Nat),(50:Nat),(51:Nat),(52:Nat),(53:Nat),(54:Nat),(55:Nat),(56:Nat),(57:Nat)])) == [] else false else false
noncomputable def Fi_keyOk:FSem := fun ys => match ys with
 | [.val false [.str a0]] => some ((g_Ai_keyOk a0),.val false [.bool (g_Vi_keyOk_0 a0)],[])
 | _ => none
theorem vi_keyOk (a0:ByteArray):collapseH .std Ei_keyOk Oi_keyOk_0 (execFn Ei_keyOk Tryz.f162 msi_keyOk [.val false [.str a0]]) = some ((g_Ai_keyOk a0),.val false [.bool (g_Vi_keyOk_0 a0)],[]) := by kernel_rfl
theorem si_keyOk:Sound Tryz.prog 162 msi_keyOk Fi_keyOk := by
 refine fn_gen goodi_keyOk (by kernel_rfl) .std (fn := Tryz.f162) (c := (Tryz.f162.body.getD .skip)) (o := Oi_keyOk_0) (k := 0) (by kernel_rfl) (by kernel_rfl) (by kernel_rfl) (by kernel_rfl) (by decide) ki_keyOk_0 ?_
 intro ys r outs h
 unfold Fi_keyOk at h
 split at h
 ·exact (vi_keyOk _).trans h
 ·cases h
noncomputable def Ei_valOk_1:Env where
 tt := mkTI Tryz.prog
 fn := fun f => match f with
  | 75 => some (msi_in,FSem.wk msi_in Fi_in)
  | _ => none
 bxf := fun _ => none
 mv := []
 keep := fun _ => []
 keepB := fun _ => []
 keepX := fun _ => []
 keepXB := fun _ => []
theorem goodFi_valOk_1:∀ f ms F,Ei_valOk_1.fn f = some (ms,F) → Sound Tryz.prog f ms F := fun f ms F h => by
 unfold Ei_valOk_1 at h
 dsimp only at h
 split at h
 ·exact gF si_in h
 ·cases h
theorem goodi_valOk_1:Good Tryz.prog Ei_valOk_1 := ⟨rfl,goodFi_valOk_1,fun f ms F h => by cases h⟩
noncomputable def Oi_valOk_1_0:Orc := fun _ _ => none
noncomputable def msi_valOk_1:List PM := [.own]
noncomputable def lsi_valOk_1:List (Nat×Code) := loopsAll 0 (Tryz.f189.body.getD .skip)
theorem ki_valOk_1_0:OrcOk Ei_valOk_1 Oi_valOk_1_0 lsi_valOk_1 0 := orcOk_none
noncomputable def g_Ai_valOk_1 (a0:Int):Bool := g_Ai_in a0 (0:Int) (9999:Int)
noncomputable def g_Vi_valOk_1_0 (a0:Int):Bool := !g_Vi_in_0 a0 (0:Int) (9999:Int)
noncomputable def Fi_valOk_1:FSem := fun ys => match ys with
 | [.val false [.int .i64 a0]] => some ((g_Ai_valOk_1 a0),.val false [.bool (g_Vi_valOk_1_0 a0)],[])
 | _ => none
theorem vi_valOk_1 (a0:Int):collapseH .std Ei_valOk_1 Oi_valOk_1_0 (execFn Ei_valOk_1 Tryz.f189 msi_valOk_1 [.val false [.int .i64 a0]]) = some ((g_Ai_valOk_1 a0),.val false [.bool (g_Vi_valOk_1_0 a0)],[]) := by kernel_rfl
theorem si_valOk_1:Sound Tryz.prog 189 msi_valOk_1 Fi_valOk_1 := by
 refine fn_gen goodi_valOk_1 (by kernel_rfl) .std (fn := Tryz.f189) (c := (Tryz.f189.body.getD .skip)) (o := Oi_valOk_1_0) (k := 0) (by kernel_rfl) (by kernel_rfl) (by kernel_rfl) (by kernel_rfl) (by decide) ki_valOk_1_0 ?_
 intro ys r outs h
 unfold Fi_valOk_1 at h
 split at h
 ·exact (vi_valOk_1 _).trans h
 ·cases h
noncomputable def EZ11:Env where
 tt := mkTI Tryz.prog
 fn := fun f => match f with
  | 189 => some (msi_valOk_1,FSem.wk msi_valOk_1 Fi_valOk_1)
  | _ => none
 bxf := fun _ => none
 mv := []
 keep := fun b => match b with
  | 0 => [(0,false),(1,false),(7,false),(8,false)]
  | _ => []
 keepB := fun b => match b with
  | 0 => []
  | _ => []
 keepX := fun b => match b with
  | 0 => [(4,false)]
  | _ => []
 keepXB := fun b => match b with
  | 0 => []
  | _ => []
theorem goodFZ11:∀ f ms F,EZ11.fn f = some (ms,F) → Sound Tryz.prog f ms F := fun f ms F h => by
 unfold EZ11 at h
 dsimp only at h
 split at h
 ·exact gF si_valOk_1 h
 ·cases h
theorem goodZ11:Good Tryz.prog EZ11 := ⟨rfl,goodFZ11,fun f ms F h => by cases h⟩
noncomputable def OZ11_0:Orc := fun _ _ => none
noncomputable def msZ11:List PM := [.rd,.rd]
noncomputable def lsZ11:List (Nat×Code) := loopsAll 0 (Tryz.f139.body.getD .skip)
noncomputable def cZ11_0:Code := (loopOf 0 (Tryz.f139.body.getD .skip)).getD .skip
theorem lseqZ11:lsZ11 = [(0,cZ11_0)] := by kernel_rfl
theorem mZ11_0:∀ p,p ∈ lsZ11 → p.1 = 0 → p.2 = cZ11_0 := by
 intro p hp
 rw [lseqZ11] at hp
 simp only [List.mem_cons,List.not_mem_nil,or_false] at hp
 subst hp; simp
theorem kZ11_0:OrcOk EZ11 OZ11_0 lsZ11 0 := orcOk_none
noncomputable def hZ11_0 (y0:List Int) (y1:Int) (y2:Int):List (Pl×LV) := [(.T 0,.t (.val false [.sl .any 3 (.int .i64) y0])),(.T 1,.t (.val false [.fn 189 []])),(.T 7,.t (.val false [.int .i64 y1])),(.T 8,.t (.val false [.int .i64 y2]))]
noncomputable def g_SZ11_0 (y0:List Int) (y1:Int):(Int) → RT (Int) ((Int) ⊕ (Unit))
 | y2 => .br (true) (.br (decide (y2 < y1)) (.br (decide (0 ≤ y2 ∧ y2 < (y0.length:Int))) (.br (g_Ai_valOk_1 (at_ (.int .i64) y0 (Int.toNat y2))) (.br (g_Vi_valOk_1_0 (at_ (.int .i64) y0 (Int.toNat y2))) (.out (.inl y2)) (.br (true) (.go (IntKind.i64.wrap (y2 + 1))) .bad)) .bad) .bad) (.out (.inr (())))) .bad
noncomputable def g_LZ11_0 (y0:List Int) (y1:Int) (x:Int):Option ((Int) ⊕ (Unit)) := loopO (g_SZ11_0 y0 y1) x
noncomputable def xZ11_0 (y0:List Int) (y1:Int):((Int) ⊕ (Unit)) → Ex×List (Pl×LV) := fun
 | .inl r => (.ret,[(.T 4,.t (.val false [.int .i64 r]))])
 | .inr (r) => (.exit 0,[(.T 4,.t (.val false [.undef]))])
noncomputable def OZ11_1:Orc := fun b h => match b,h with
 | 0,[(.T 0,.t (.val false [.sl .any 3 (.int .i64) y0])),(.T 1,.t (.val false [.fn 189 []])),(.T 7,.t (.val false [.int .i64 y1])),(.T 8,.t (.val false [.int .i64 y2]))] => some (okO (g_LZ11_0 y0 y1 y2),(.br (isL (valO (g_LZ11_0 y0 y1 y2))) (.leaf .ret [(.T 4,.t (.val false [.int .i64 (getL (valO (g_LZ11_0 y0 y1 y2)))]))]) (.leaf (.exit 0) [(.T 4,.t (.val false [.undef]))])))
 | b,h => OZ11_0 b h
theorem bZ11_0 (y0:List Int) (y1:Int) (y2:Int):Tr.bt EZ11 OZ11_0 (exec EZ11 0 cZ11_0 (St.of (hZ11_0 y0 y1 y2)) (leafRd EZ11 0)) = (g_SZ11_0 y0 y1 y2).bt (fun (y2:Int) => (hZ11_0 y0 y1 y2)) (xZ11_0 y0 y1) := by kernel_rfl
theorem kZ11_1:OrcOk EZ11 OZ11_1 lsZ11 1 := orc_add kZ11_0 (fun n p hp h ex h' ho => by
 obtain ⟨b,c⟩ := p
 obtain ⟨xt,h1,h2⟩ := ho
 have h1:OZ11_1 b h = some (true,xt) := h1
 unfold OZ11_1 at h1
 split at h1
 ·injection h1 with h1
  injection h1 with e1 e2
  subst e2
  have hc:c = cZ11_0 := mZ11_0 _ hp rfl
  subst hc
  right
  rename_i y0 y1 y2
  have key := LT_step kZ11_0 hp (fun q hq => loopsAll_in _ _ _ _ hp hq) (fun (y2:Int) => (hZ11_0 y0 y1 y2)) (xZ11_0 y0 y1) (g_SZ11_0 y0 y1) (fun x => by first | exact bZ11_0 y0 y1 x) n (x := y2) (okO_some e1)
  have hx:∀ r,XT.sel (.br (isL r) (.leaf .ret [(.T 4,.t (.val false [.int .i64 (getL r)]))]) (.leaf (.exit 0) [(.T 4,.t (.val false [.undef]))])) = xZ11_0 y0 y1 r := fun r => by first | rfl | rcases r with r | r <;> rfl | rcases r with r | r | r <;> rfl | rcases r with r | r | r | r <;> rfl
  have h3 := (hx (valO (g_LZ11_0 y0 y1 y2))).symm.trans h2
  have e3 := congrArg Prod.fst h3
  have e4 := congrArg Prod.snd h3
  simp only at e3 e4
  rw [← e3,← e4]
  exact key
 ·exact .inl ⟨xt,h1,h2⟩)
noncomputable def g_AZ11 (a0:List Int):Bool := okO (g_LZ11_0 a0 (a0.length:Int) (0:Int))
noncomputable def g_VZ11_0 (a0:List Int):Int := bif isL (valO (g_LZ11_0 a0 (a0.length:Int) (0:Int))) then getL (valO (g_LZ11_0 a0 (a0.length:Int) (0:Int))) else (-1:Int)
noncomputable def FZ11:FSem := fun ys => match ys with
 | [.val false [.sl .any 3 (.int .i64) a0],.val false [.fn 189 []]] => some ((g_AZ11 a0),.val false [.int .i64 (g_VZ11_0 a0)],[])
 | _ => none
theorem vZ11 (a0:List Int):collapseH .std EZ11 OZ11_1 (execFn EZ11 Tryz.f139 msZ11 [.val false [.sl .any 3 (.int .i64) a0],.val false [.fn 189 []]]) = some ((g_AZ11 a0),.val false [.int .i64 (g_VZ11_0 a0)],[]) := by kernel_rfl
theorem sZ11:Sound Tryz.prog 139 msZ11 FZ11 := by
 refine fn_gen goodZ11 (by kernel_rfl) .std (fn := Tryz.f139) (c := (Tryz.f139.body.getD .skip)) (o := OZ11_1) (k := 1) (by kernel_rfl) (by kernel_rfl) (by kernel_rfl) (by kernel_rfl) (by decide) kZ11_1 ?_
 intro ys r outs h
 unfold FZ11 at h
 split at h
 ·exact (vZ11 _).trans h
 ·cases h
noncomputable def EZ10:Env where
 tt := mkTI Tryz.prog
 fn := fun f => match f with
  | 139 => some (msZ11,FSem.wk msZ11 FZ11)
  | 189 => some (msi_valOk_1,FSem.wk msi_valOk_1 Fi_valOk_1)
  | _ => none
 bxf := fun _ => none
 mv := []
 keep := fun _ => []
 keepB := fun _ => []
 keepX := fun _ => []
 keepXB := fun _ => []
theorem goodFZ10:∀ f ms F,EZ10.fn f = some (ms,F) → Sound Tryz.prog f ms F := fun f ms F h => by
 unfold EZ10 at h
 dsimp only at h
 split at h
 ·exact gF sZ11 h
 ·exact gF si_valOk_1 h
 ·cases h
theorem goodZ10:Good Tryz.prog EZ10 := ⟨rfl,goodFZ10,fun f ms F h => by cases h⟩
noncomputable def OZ10_0:Orc := fun _ _ => none
noncomputable def msZ10:List PM := [.rd,.rd]
noncomputable def lsZ10:List (Nat×Code) := loopsAll 0 (Tryz.f188.body.getD .skip)
theorem kZ10_0:OrcOk EZ10 OZ10_0 lsZ10 0 := orcOk_none
noncomputable def g_AZ10 (a0:List Int):Bool := g_AZ11 a0&&true
noncomputable def g_VZ10_0 (a0:List Int):Bool := decide (g_VZ11_0 a0 ≥ 0)
noncomputable def FZ10:FSem := fun ys => match ys with
 | [.val false [.sl .any 3 (.int .i64) a0],.val false [.fn 189 []]] => some ((g_AZ10 a0),.val false [.bool (g_VZ10_0 a0)],[])
 | _ => none
theorem vZ10 (a0:List Int):collapseH .std EZ10 OZ10_0 (execFn EZ10 Tryz.f188 msZ10 [.val false [.sl .any 3 (.int .i64) a0],.val false [.fn 189 []]]) = some ((g_AZ10 a0),.val false [.bool (g_VZ10_0 a0)],[]) := by kernel_rfl
theorem sZ10:Sound Tryz.prog 188 msZ10 FZ10 := by
 refine fn_gen goodZ10 (by kernel_rfl) .std (fn := Tryz.f188) (c := (Tryz.f188.body.getD .skip)) (o := OZ10_0) (k := 0) (by kernel_rfl) (by kernel_rfl) (by kernel_rfl) (by kernel_rfl) (by decide) kZ10_0 ?_
 intro ys r outs h
 unfold FZ10 at h
 split at h
 ·exact (vZ10 _).trans h
 ·cases h
noncomputable def Ei_valOk:Env where
 tt := mkTI Tryz.prog
 fn := fun f => match f with
  | 75 => some (msi_in,FSem.wk msi_in Fi_in)
  | 188 => some (msZ10,FSem.wk msZ10 FZ10)
  | _ => none
 bxf := fun _ => none
 mv := []
 keep := fun _ => []
 keepB := fun _ => []
 keepX := fun _ => []
 keepXB := fun _ => []
theorem goodFi_valOk:∀ f ms F,Ei_valOk.fn f = some (ms,F) → Sound Tryz.prog f ms F := fun f ms F h => by
 unfold Ei_valOk at h
 dsimp only at h
 split at h
 ·exact gF si_in h
 ·exact gF sZ10 h
 ·cases h
theorem goodi_valOk:Good Tryz.prog Ei_valOk := ⟨rfl,goodFi_valOk,fun f ms F h => by cases h⟩
noncomputable def Oi_valOk_0:Orc := fun _ _ => none
noncomputable def msi_valOk:List PM := [.rd]
noncomputable def lsi_valOk:List (Nat×Code) := loopsAll 0 (Tryz.f178.body.getD .skip)
theorem ki_valOk_0:OrcOk Ei_valOk Oi_valOk_0 lsi_valOk 0 := orcOk_none
noncomputable def g_Ai_valOk (a0:List Int):Bool := g_Ai_in (a0.length:Int) (1:Int) (3:Int)&&(!g_Vi_in_0 (a0.length:Int) (1:Int) (3:Int) || g_AZ10 a0)
noncomputable def g_Vi_valOk_0 (a0:List Int):Bool := bif g_Vi_in_0 (a0.length:Int) (1:Int) (3:Int) then !g_VZ10_0 a0 else false
noncomputable def Fi_valOk:FSem := fun ys => match ys with
 | [.val false [.sl .any 3 (.int .i64) a0]] => some ((g_Ai_valOk a0),.val false [.bool (g_Vi_valOk_0 a0)],[])
 | _ => none
theorem vi_valOk (a0:List Int):collapseH .std Ei_valOk Oi_valOk_0 (execFn Ei_valOk Tryz.f178 msi_valOk [.val false [.sl .any 3 (.int .i64) a0]]) = some ((g_Ai_valOk a0),.val false [.bool (g_Vi_valOk_0 a0)],[]) := by kernel_rfl
theorem si_valOk:Sound Tryz.prog 178 msi_valOk Fi_valOk := by
 refine fn_gen goodi_valOk (by kernel_rfl) .std (fn := Tryz.f178) (c := (Tryz.f178.body.getD .skip)) (o := Oi_valOk_0) (k := 0) (by kernel_rfl) (by kernel_rfl) (by kernel_rfl) (by kernel_rfl) (by decide) ki_valOk_0 ?_
 intro ys r outs h
 unfold Fi_valOk at h
 split at h
 ·exact (vi_valOk _).trans h
 ·cases h
noncomputable def Ei_WrtOk:Env where
 tt := mkTI Tryz.prog
 fn := fun f => match f with
  | 162 => some (msi_keyOk,FSem.wk msi_keyOk Fi_keyOk)
  | 178 => some (msi_valOk,FSem.wk msi_valOk Fi_valOk)
  | _ => none
 bxf := fun _ => none
 mv := []
 keep := fun _ => []
 keepB := fun _ => []
 keepX := fun _ => []
 keepXB := fun _ => []
theorem goodFi_WrtOk:∀ f ms F,Ei_WrtOk.fn f = some (ms,F) → Sound Tryz.prog f ms F := fun f ms F h => by
 unfold Ei_WrtOk at h
 dsimp only at h
 split at h
 ·exact gF si_keyOk h
 ·exact gF si_valOk h
 ·cases h
theorem goodi_WrtOk:Good Tryz.prog Ei_WrtOk := ⟨rfl,goodFi_WrtOk,fun f ms F h => by cases h⟩
noncomputable def Oi_WrtOk_0:Orc := fun _ _ => none
noncomputable def msi_WrtOk:List PM := [.rd]
noncomputable def lsi_WrtOk:List (Nat×Code) := loopsAll 0 (Tryz.f164.body.getD .skip)
theorem ki_WrtOk_0:OrcOk Ei_WrtOk Oi_WrtOk_0 lsi_WrtOk 0 := orcOk_none
noncomputable def g_Ai_WrtOk (a0:ByteArray) (a1:Bool) (a2:List Int):Bool := bif a1 then g_Ai_keyOk a0&&(!g_Vi_keyOk_0 a0 || true) else g_Ai_keyOk a0&&(!g_Vi_keyOk_0 a0 || g_Ai_valOk a2)
noncomputable def g_Vi_WrtOk_0 (a0:ByteArray) (a1:Bool) (a2:List Int):Bool := bif a1 then bif g_Vi_keyOk_0 a0 then (a2.length:Int) == 0 else false else bif g_Vi_keyOk_0 a0 then g_Vi_valOk_0 a2 else false
noncomputable def Fi_WrtOk:FSem := fun ys => match ys with
 | [.val true [.str a0,.bool a1,.sl .any 3 (.int .i64) a2]] => some ((g_Ai_WrtOk a0 a1 a2),.val false [.bool (g_Vi_WrtOk_0 a0 a1 a2)],[])
 | _ => none
theorem vi_WrtOk (a0:ByteArray) (a1:Bool) (a2:List Int):collapseH .std Ei_WrtOk Oi_WrtOk_0 (execFn Ei_WrtOk Tryz.f164 msi_WrtOk [.val true [.str a0,.bool a1,.sl .any 3 (.int .i64) a2]]) = some ((g_Ai_WrtOk a0 a1 a2),.val false [.bool (g_Vi_WrtOk_0 a0 a1 a2)],[]) := by kernel_rfl
theorem si_WrtOk:Sound Tryz.prog 164 msi_WrtOk Fi_WrtOk := by
 refine fn_gen goodi_WrtOk (by kernel_rfl) .std (fn := Tryz.f164) (c := (Tryz.f164.body.getD .skip)) (o := Oi_WrtOk_0) (k := 0) (by kernel_rfl) (by kernel_rfl) (by kernel_rfl) (by kernel_rfl) (by decide) ki_WrtOk_0 ?_
 intro ys r outs h
 unfold Fi_WrtOk at h
 split at h
 ·exact (vi_WrtOk _ _ _).trans h
 ·cases h
noncomputable def EZ16:Env where
 tt := mkTI Tryz.prog
 fn := fun _ => none
 bxf := fun _ => none
 mv := []
 keep := fun b => match b with
  | 0 => [(0,false),(1,false),(7,false),(8,false)]
  | _ => []
 keepB := fun b => match b with
  | 0 => []
  | _ => []
 keepX := fun b => match b with
  | 0 => [(4,false)]
  | _ => []
 keepXB := fun b => match b with
  | 0 => []
  | _ => []
theorem goodFZ16:∀ f ms F,EZ16.fn f = some (ms,F) → Sound Tryz.prog f ms F := fun f ms F h => by cases h
theorem goodZ16:Good Tryz.prog EZ16 := ⟨rfl,goodFZ16,fun f ms F h => by cases h⟩
noncomputable def OZ16_0:Orc := fun _ _ => none
noncomputable def msZ16:List PM := [.rd,.own]
noncomputable def lsZ16:List (Nat×Code) := loopsAll 0 (Tryz.f179.body.getD .skip)
noncomputable def cZ16_0:Code := (loopOf 0 (Tryz.f179.body.getD .skip)).getD .skip
theorem lseqZ16:lsZ16 = [(0,cZ16_0)] := by kernel_rfl
theorem mZ16_0:∀ p,p ∈ lsZ16 → p.1 = 0 → p.2 = cZ16_0 := by
 intro p hp
 rw [lseqZ16] at hp
 simp only [List.mem_cons,List.not_mem_nil,or_false] at hp
 subst hp; simp
theorem kZ16_0:OrcOk EZ16 OZ16_0 lsZ16 0 := orcOk_none
noncomputable def hZ16_0 (y0:List ByteArray) (y1:ByteArray) (y2:Int) (y3:Int):List (Pl×LV) := [(.T 0,.t (.val false [.sl .any 9 .str y0])),(.T 1,.t (.val false [.str y1])),(.T 7,.t (.val false [.int .i64 y2])),(.T 8,.t (.val false [.int .i64 y3]))]
noncomputable def g_SZ16_0 (y0:List ByteArray) (y1:ByteArray) (y2:Int):(Int) → RT (Int) ((Int) ⊕ (Unit))
 | y3 => .br (true) (.br (decide (y3 < y2)) (.br (decide (0 ≤ y3 ∧ y3 < (y0.length:Int))) (.br (true) (.br (ByteArray.toList y1 == ByteArray.toList (at_ Ty.str y0 (Int.toNat y3))) (.out (.inl y3)) (.br (true) (.go (IntKind.i64.wrap (y3 + 1))) .bad)) .bad) .bad) (.out (.inr (())))) .bad
noncomputable def g_LZ16_0 (y0:List ByteArray) (y1:ByteArray) (y2:Int) (x:Int):Option ((Int) ⊕ (Unit)) := loopO (g_SZ16_0 y0 y1 y2) x
noncomputable def xZ16_0 (y0:List ByteArray) (y1:ByteArray) (y2:Int):((Int) ⊕ (Unit)) → Ex×List (Pl×LV) := fun
 | .inl r => (.ret,[(.T 4,.t (.val false [.int .i64 r]))])
 | .inr (r) => (.exit 0,[(.T 4,.t (.val false [.undef]))])
noncomputable def OZ16_1:Orc := fun b h => match b,h with
 | 0,[(.T 0,.t (.val false [.sl .any 9 .str y0])),(.T 1,.t (.val false [.str y1])),(.T 7,.t (.val false [.int .i64 y2])),(.T 8,.t (.val false [.int .i64 y3]))] => some (okO (g_LZ16_0 y0 y1 y2 y3),(.br (isL (valO (g_LZ16_0 y0 y1 y2 y3))) (.leaf .ret [(.T 4,.t (.val false [.int .i64 (getL (valO (g_LZ16_0 y0 y1 y2 y3)))]))]) (.leaf (.exit 0) [(.T 4,.t (.val false [.undef]))])))
 | b,h => OZ16_0 b h
theorem bZ16_0 (y0:List ByteArray) (y1:ByteArray) (y2:Int) (y3:Int):Tr.bt EZ16 OZ16_0 (exec EZ16 0 cZ16_0 (St.of (hZ16_0 y0 y1 y2 y3)) (leafRd EZ16 0)) = (g_SZ16_0 y0 y1 y2 y3).bt (fun (y3:Int) => (hZ16_0 y0 y1 y2 y3)) (xZ16_0 y0 y1 y2) := by kernel_rfl
theorem kZ16_1:OrcOk EZ16 OZ16_1 lsZ16 1 := orc_add kZ16_0 (fun n p hp h ex h' ho => by
 obtain ⟨b,c⟩ := p
 obtain ⟨xt,h1,h2⟩ := ho
 have h1:OZ16_1 b h = some (true,xt) := h1
 unfold OZ16_1 at h1
 split at h1
 ·injection h1 with h1
  injection h1 with e1 e2
  subst e2
  have hc:c = cZ16_0 := mZ16_0 _ hp rfl
  subst hc
  right
  rename_i y0 y1 y2 y3
  have key := LT_step kZ16_0 hp (fun q hq => loopsAll_in _ _ _ _ hp hq) (fun (y3:Int) => (hZ16_0 y0 y1 y2 y3)) (xZ16_0 y0 y1 y2) (g_SZ16_0 y0 y1 y2) (fun x => by first | exact bZ16_0 y0 y1 y2 x) n (x := y3) (okO_some e1)
  have hx:∀ r,XT.sel (.br (isL r) (.leaf .ret [(.T 4,.t (.val false [.int .i64 (getL r)]))]) (.leaf (.exit 0) [(.T 4,.t (.val false [.undef]))])) = xZ16_0 y0 y1 y2 r := fun r => by first | rfl | rcases r with r | r <;> rfl | rcases r with r | r | r <;> rfl | rcases r with r | r | r | r <;> rfl
  have h3 := (hx (valO (g_LZ16_0 y0 y1 y2 y3))).symm.trans h2
  have e3 := congrArg Prod.fst h3
  have e4 := congrArg Prod.snd h3
  simp only at e3 e4
  rw [← e3,← e4]
  exact key
 ·exact .inl ⟨xt,h1,h2⟩)
noncomputable def g_AZ16 (a0:List ByteArray) (a1:ByteArray):Bool := okO (g_LZ16_0 a0 a1 (a0.length:Int) (0:Int))
noncomputable def g_VZ16_0 (a0:List ByteArray) (a1:ByteArray):Int := bif isL (valO (g_LZ16_0 a0 a1 (a0.length:Int) (0:Int))) then getL (valO (g_LZ16_0 a0 a1 (a0.length:Int) (0:Int))) else (-1:Int)
noncomputable def FZ16:FSem := fun ys => match ys with
 | [.val false [.sl .any 9 .str a0],.val false [.str a1]] => some ((g_AZ16 a0 a1),.val false [.int .i64 (g_VZ16_0 a0 a1)],[])
 | _ => none
theorem vZ16 (a0:List ByteArray) (a1:ByteArray):collapseH .std EZ16 OZ16_1 (execFn EZ16 Tryz.f179 msZ16 [.val false [.sl .any 9 .str a0],.val false [.str a1]]) = some ((g_AZ16 a0 a1),.val false [.int .i64 (g_VZ16_0 a0 a1)],[]) := by kernel_rfl
theorem sZ16:Sound Tryz.prog 179 msZ16 FZ16 := by
 refine fn_gen goodZ16 (by kernel_rfl) .std (fn := Tryz.f179) (c := (Tryz.f179.body.getD .skip)) (o := OZ16_1) (k := 1) (by kernel_rfl) (by kernel_rfl) (by kernel_rfl) (by kernel_rfl) (by decide) kZ16_1 ?_
 intro ys r outs h
 unfold FZ16 at h
 split at h
 ·exact (vZ16 _ _).trans h
 ·cases h
noncomputable def EZ13:Env where
 tt := mkTI Tryz.prog
 fn := fun f => match f with
  | 179 => some (msZ16,FSem.wk msZ16 FZ16)
  | _ => none
 bxf := fun _ => none
 mv := []
 keep := fun _ => []
 keepB := fun _ => []
 keepX := fun _ => []
 keepXB := fun _ => []
theorem goodFZ13:∀ f ms F,EZ13.fn f = some (ms,F) → Sound Tryz.prog f ms F := fun f ms F h => by
 unfold EZ13 at h
 dsimp only at h
 split at h
 ·exact gF sZ16 h
 ·cases h
theorem goodZ13:Good Tryz.prog EZ13 := ⟨rfl,goodFZ13,fun f ms F h => by cases h⟩
noncomputable def OZ13_0:Orc := fun _ _ => none
noncomputable def msZ13:List PM := [.rd,.own]
noncomputable def lsZ13:List (Nat×Code) := loopsAll 0 (Tryz.f165.body.getD .skip)
theorem kZ13_0:OrcOk EZ13 OZ13_0 lsZ13 0 := orcOk_none
noncomputable def g_AZ13 (a0:List ByteArray) (a1:ByteArray):Bool := g_AZ16 a0 a1&&true
noncomputable def g_VZ13_0 (a0:List ByteArray) (a1:ByteArray):Bool := decide (g_VZ16_0 a0 a1 ≥ 0)
noncomputable def FZ13:FSem := fun ys => match ys with
 | [.val false [.sl .any 9 .str a0],.val false [.str a1]] => some ((g_AZ13 a0 a1),.val false [.bool (g_VZ13_0 a0 a1)],[])
 | _ => none
theorem vZ13 (a0:List ByteArray) (a1:ByteArray):collapseH .std EZ13 OZ13_0 (execFn EZ13 Tryz.f165 msZ13 [.val false [.sl .any 9 .str a0],.val false [.str a1]]) = some ((g_AZ13 a0 a1),.val false [.bool (g_VZ13_0 a0 a1)],[]) := by kernel_rfl
theorem sZ13:Sound Tryz.prog 165 msZ13 FZ13 := by
 refine fn_gen goodZ13 (by kernel_rfl) .std (fn := Tryz.f165) (c := (Tryz.f165.body.getD .skip)) (o := OZ13_0) (k := 0) (by kernel_rfl) (by kernel_rfl) (by kernel_rfl) (by kernel_rfl) (by decide) kZ13_0 ?_
 intro ys r outs h
 unfold FZ13 at h
 split at h
 ·exact (vZ13 _ _).trans h
 ·cases h
noncomputable def EZ61:Env where
 tt := mkTI Tryz.prog
 fn := fun f => match f with
  | 164 => some (msi_WrtOk,FSem.wk msi_WrtOk Fi_WrtOk)
  | 165 => some (msZ13,FSem.wk msZ13 FZ13)
  | _ => none
 bxf := fun _ => none
 mv := []
 keep := fun _ => []
 keepB := fun _ => []
 keepX := fun _ => []
 keepXB := fun _ => []
theorem goodFZ61:∀ f ms F,EZ61.fn f = some (ms,F) → Sound Tryz.prog f ms F := fun f ms F h => by
 unfold EZ61 at h
 dsimp only at h
 split at h
 ·exact gF si_WrtOk h
 ·exact gF sZ13 h
 ·cases h
theorem goodZ61:Good Tryz.prog EZ61 := ⟨rfl,goodFZ61,fun f ms F h => by cases h⟩
noncomputable def OZ61_0:Orc := fun _ _ => none
noncomputable def msZ61:List PM := [.rd,.rd]
noncomputable def lsZ61:List (Nat×Code) := loopsAll 0 (Tryz.f163.body.getD .skip)
theorem kZ61_0:OrcOk EZ61 OZ61_0 lsZ61 0 := orcOk_none
noncomputable def g_AZ61 (a0:ByteArray) (a1:Bool) (a2:List Int) (c0:Int×(Int×((List ByteArray)×tL2))):Bool := g_Ai_WrtOk a0 a1 a2&&(!g_Vi_WrtOk_0 a0 a1 a2 || g_AZ13 c0.2.2.1 a0)
noncomputable def g_VZ61_0 (a0:ByteArray) (a1:Bool) (a2:List Int) (c0:Int×(Int×((List ByteArray)×tL2))):Bool := bif !g_Vi_WrtOk_0 a0 a1 a2 then true else !g_VZ13_0 c0.2.2.1 a0
noncomputable def FZ61:FSem := fun ys => match ys with
 | [.val true [.str a0,.bool a1,.sl .any 3 (.int .i64) a2],.val false [.sptr (.pair (.int .i64) (.pair (.int .i64) (.pair (.sl 9 .str) (.sl 155 (.pair .str (.pair .bool (.sl 3 (.int .i64)))))))) c0 0]] => some ((g_AZ61 a0 a1 a2 c0),.val false [.bool (g_VZ61_0 a0 a1 a2 c0)],[])
 | _ => none
theorem vZ61 (a0:ByteArray) (a1:Bool) (a2:List Int) (c0:Int×(Int×((List ByteArray)×tL2))):collapseH .std EZ61 OZ61_0 (execFn EZ61 Tryz.f163 msZ61 [.val true [.str a0,.bool a1,.sl .any 3 (.int .i64) a2],.val false [.sptr (.pair (.int .i64) (.pair (.int .i64) (.pair (.sl 9 .str) (.sl 155 (.pair .str (.pair .bool (.sl 3 (.int .i64)))))))) c0 0]]) = some ((g_AZ61 a0 a1 a2 c0),.val false [.bool (g_VZ61_0 a0 a1 a2 c0)],[]) := by kernel_rfl
theorem sZ61:Sound Tryz.prog 163 msZ61 FZ61 := by
 refine fn_gen goodZ61 (by kernel_rfl) .std (fn := Tryz.f163) (c := (Tryz.f163.body.getD .skip)) (o := OZ61_0) (k := 0) (by kernel_rfl) (by kernel_rfl) (by kernel_rfl) (by kernel_rfl) (by decide) kZ61_0 ?_
 intro ys r outs h
 unfold FZ61 at h
 split at h
 ·exact (vZ61 _ _ _ _).trans h
 ·cases h
noncomputable def EZ3:Env where
 tt := mkTI Tryz.prog
 fn := fun f => match f with
  | 163 => some (msZ61,FSem.wk msZ61 FZ61)
  | _ => none
 bxf := fun _ => none
 mv := []
 keep := fun b => match b with
  | 0 => [(0,false),(1,false),(7,false),(8,false)]
  | _ => []
 keepB := fun b => match b with
  | 0 => []
  | _ => []
 keepX := fun b => match b with
  | 0 => [(4,false)]
  | _ => []
 keepXB := fun b => match b with
  | 0 => []
  | _ => []
theorem goodFZ3:∀ f ms F,EZ3.fn f = some (ms,F) → Sound Tryz.prog f ms F := fun f ms F h => by
 unfold EZ3 at h
 dsimp only at h
 split at h
 ·exact gF sZ61 h
 ·cases h
theorem goodZ3:Good Tryz.prog EZ3 := ⟨rfl,goodFZ3,fun f ms F h => by cases h⟩
noncomputable def OZ3_0:Orc := fun _ _ => none
noncomputable def msZ3:List PM := [.rd,.rd]
noncomputable def lsZ3:List (Nat×Code) := loopsAll 0 (Tryz.f152.body.getD .skip)
noncomputable def cZ3_0:Code := (loopOf 0 (Tryz.f152.body.getD .skip)).getD .skip
theorem lseqZ3:lsZ3 = [(0,cZ3_0)] := by kernel_rfl
theorem mZ3_0:∀ p,p ∈ lsZ3 → p.1 = 0 → p.2 = cZ3_0 := by
 intro p hp
 rw [lseqZ3] at hp
 simp only [List.mem_cons,List.not_mem_nil,or_false] at hp
 subst hp; simp
theorem kZ3_0:OrcOk EZ3 OZ3_0 lsZ3 0 := orcOk_none
noncomputable def hZ3_0 (y0:tL2) (y1:Int×(Int×((List ByteArray)×tL2))) (y2:Int) (y3:Int):List (Pl×LV) := [(.T 0,.t (.val false [.sl .any 155 (.pair .str (.pair .bool (.sl 3 (.int .i64)))) y0])),(.T 1,.t (.val false [.fn 163 [.sptr (.pair (.int .i64) (.pair (.int .i64) (.pair (.sl 9 .str) (.sl 155 (.pair .str (.pair .bool (.sl 3 (.int .i64)))))))) y1 0]])),(.T 7,.t (.val false [.int .i64 y2])),(.T 8,.t (.val false [.int .i64 y3]))]
noncomputable def g_SZ3_0 (y0:tL2) (y1:Int×(Int×((List ByteArray)×tL2))) (y2:Int):(Int) → RT (Int) ((Int) ⊕ (Unit))
 | y3 => .br (true) (.br (decide (y3 < y2)) (.br (decide (0 ≤ y3 ∧ y3 < (y0.length:Int))) (.br (g_AZ61 (at_ yT2 y0 (Int.toNat y3)).1 (at_ yT2 y0 (Int.toNat y3)).2.1 (at_ yT2 y0 (Int.toNat y3)).2.2 y1) (.br (g_VZ61_0 (at_ yT2 y0 (Int.toNat y3)).1 (at_ yT2 y0 (Int.toNat y3)).2.1 (at_ yT2 y0 (Int.toNat y3)).2.2 y1) (.out (.inl y3)) (.br (true) (.go (IntKind.i64.wrap (y3 + 1))) .bad)) .bad) .bad) (.out (.inr (())))) .bad
noncomputable def g_LZ3_0 (y0:tL2) (y1:Int×(Int×((List ByteArray)×tL2))) (y2:Int) (x:Int):Option ((Int) ⊕ (Unit)) := loopO (g_SZ3_0 y0 y1 y2) x
noncomputable def xZ3_0 (y0:tL2) (y1:Int×(Int×((List ByteArray)×tL2))) (y2:Int):((Int) ⊕ (Unit)) → Ex×List (Pl×LV) := fun
 | .inl r => (.ret,[(.T 4,.t (.val false [.int .i64 r]))])
 | .inr (r) => (.exit 0,[(.T 4,.t (.val false [.undef]))])
noncomputable def OZ3_1:Orc := fun b h => match b,h with
 | 0,[(.T 0,.t (.val false [.sl .any 155 (.pair .str (.pair .bool (.sl 3 (.int .i64)))) y0])),(.T 1,.t (.val false [.fn 163 [.sptr (.pair (.int .i64) (.pair (.int .i64) (.pair (.sl 9 .str) (.sl 155 (.pair .str (.pair .bool (.sl 3 (.int .i64)))))))) y1 0]])),(.T 7,.t (.val false [.int .i64 y2])),(.T 8,.t (.val false [.int .i64 y3]))] => some (okO (g_LZ3_0 y0 y1 y2 y3),(.br (isL (valO (g_LZ3_0 y0 y1 y2 y3))) (.leaf .ret [(.T 4,.t (.val false [.int .i64 (getL (valO (g_LZ3_0 y0 y1 y2 y3)))]))]) (.leaf (.exit 0) [(.T 4,.t (.val false [.undef]))])))
 | b,h => OZ3_0 b h
theorem bZ3_0 (y0:tL2) (y1:Int×(Int×((List ByteArray)×tL2))) (y2:Int) (y3:Int):Tr.bt EZ3 OZ3_0 (exec EZ3 0 cZ3_0 (St.of (hZ3_0 y0 y1 y2 y3)) (leafRd EZ3 0)) = (g_SZ3_0 y0 y1 y2 y3).bt (fun (y3:Int) => (hZ3_0 y0 y1 y2 y3)) (xZ3_0 y0 y1 y2) := by kernel_rfl
theorem kZ3_1:OrcOk EZ3 OZ3_1 lsZ3 1 := orc_add kZ3_0 (fun n p hp h ex h' ho => by
 obtain ⟨b,c⟩ := p
 obtain ⟨xt,h1,h2⟩ := ho
 have h1:OZ3_1 b h = some (true,xt) := h1
 unfold OZ3_1 at h1
 split at h1
 ·injection h1 with h1
  injection h1 with e1 e2
  subst e2
  have hc:c = cZ3_0 := mZ3_0 _ hp rfl
  subst hc
  right
  rename_i y0 y1 y2 y3
  have key := LT_step kZ3_0 hp (fun q hq => loopsAll_in _ _ _ _ hp hq) (fun (y3:Int) => (hZ3_0 y0 y1 y2 y3)) (xZ3_0 y0 y1 y2) (g_SZ3_0 y0 y1 y2) (fun x => by first | exact bZ3_0 y0 y1 y2 x) n (x := y3) (okO_some e1)
  have hx:∀ r,XT.sel (.br (isL r) (.leaf .ret [(.T 4,.t (.val false [.int .i64 (getL r)]))]) (.leaf (.exit 0) [(.T 4,.t (.val false [.undef]))])) = xZ3_0 y0 y1 y2 r := fun r => by first | rfl | rcases r with r | r <;> rfl | rcases r with r | r | r <;> rfl | rcases r with r | r | r | r <;> rfl
  have h3 := (hx (valO (g_LZ3_0 y0 y1 y2 y3))).symm.trans h2
  have e3 := congrArg Prod.fst h3
  have e4 := congrArg Prod.snd h3
  simp only at e3 e4
  rw [← e3,← e4]
  exact key
 ·exact .inl ⟨xt,h1,h2⟩)
noncomputable def g_AZ3 (a0:tL2) (c0:Int×(Int×((List ByteArray)×tL2))):Bool := okO (g_LZ3_0 a0 c0 (a0.length:Int) (0:Int))
noncomputable def g_VZ3_0 (a0:tL2) (c0:Int×(Int×((List ByteArray)×tL2))):Int := bif isL (valO (g_LZ3_0 a0 c0 (a0.length:Int) (0:Int))) then getL (valO (g_LZ3_0 a0 c0 (a0.length:Int) (0:Int))) else (-1:Int)
noncomputable def FZ3:FSem := fun ys => match ys with
 | [.val false [.sl .any 155 (.pair .str (.pair .bool (.sl 3 (.int .i64)))) a0],.val false [.fn 163 [.sptr (.pair (.int .i64) (.pair (.int .i64) (.pair (.sl 9 .str) (.sl 155 (.pair .str (.pair .bool (.sl 3 (.int .i64)))))))) c0 0]]] => some ((g_AZ3 a0 c0),.val false [.int .i64 (g_VZ3_0 a0 c0)],[])
 | _ => none
theorem vZ3 (a0:tL2) (c0:Int×(Int×((List ByteArray)×tL2))):collapseH .std EZ3 OZ3_1 (execFn EZ3 Tryz.f152 msZ3 [.val false [.sl .any 155 (.pair .str (.pair .bool (.sl 3 (.int .i64)))) a0],.val false [.fn 163 [.sptr (.pair (.int .i64) (.pair (.int .i64) (.pair (.sl 9 .str) (.sl 155 (.pair .str (.pair .bool (.sl 3 (.int .i64)))))))) c0 0]]]) = some ((g_AZ3 a0 c0),.val false [.int .i64 (g_VZ3_0 a0 c0)],[]) := by kernel_rfl
theorem sZ3:Sound Tryz.prog 152 msZ3 FZ3 := by
 refine fn_gen goodZ3 (by kernel_rfl) .std (fn := Tryz.f152) (c := (Tryz.f152.body.getD .skip)) (o := OZ3_1) (k := 1) (by kernel_rfl) (by kernel_rfl) (by kernel_rfl) (by kernel_rfl) (by decide) kZ3_1 ?_
 intro ys r outs h
 unfold FZ3 at h
 split at h
 ·exact (vZ3 _ _).trans h
 ·cases h
noncomputable def EZ0:Env where
 tt := mkTI Tryz.prog
 fn := fun f => match f with
  | 152 => some (msZ3,FSem.wk msZ3 FZ3)
  | 163 => some (msZ61,FSem.wk msZ61 FZ61)
  | _ => none
 bxf := fun _ => none
 mv := []
 keep := fun _ => []
 keepB := fun _ => []
 keepX := fun _ => []
 keepXB := fun _ => []
theorem goodFZ0:∀ f ms F,EZ0.fn f = some (ms,F) → Sound Tryz.prog f ms F := fun f ms F h => by
 unfold EZ0 at h
 dsimp only at h
 split at h
 ·exact gF sZ3 h
 ·exact gF sZ61 h
 ·cases h
theorem goodZ0:Good Tryz.prog EZ0 := ⟨rfl,goodFZ0,fun f ms F h => by cases h⟩
noncomputable def OZ0_0:Orc := fun _ _ => none
noncomputable def msZ0:List PM := [.rd,.rd]
noncomputable def lsZ0:List (Nat×Code) := loopsAll 0 (Tryz.f125.body.getD .skip)
theorem kZ0_0:OrcOk EZ0 OZ0_0 lsZ0 0 := orcOk_none
noncomputable def g_AZ0 (a0:tL2) (c0:Int×(Int×((List ByteArray)×tL2))):Bool := g_AZ3 a0 c0&&true
noncomputable def g_VZ0_0 (a0:tL2) (c0:Int×(Int×((List ByteArray)×tL2))):Bool := decide (g_VZ3_0 a0 c0 ≥ (0:Int))
noncomputable def FZ0:FSem := fun ys => match ys with
 | [.val false [.sl .any 155 (.pair .str (.pair .bool (.sl 3 (.int .i64)))) a0],.val false [.fn 163 [.sptr (.pair (.int .i64) (.pair (.int .i64) (.pair (.sl 9 .str) (.sl 155 (.pair .str (.pair .bool (.sl 3 (.int .i64)))))))) c0 0]]] => some ((g_AZ0 a0 c0),.val false [.bool (g_VZ0_0 a0 c0)],[])
 | _ => none
theorem vZ0 (a0:tL2) (c0:Int×(Int×((List ByteArray)×tL2))):collapseH .std EZ0 OZ0_0 (execFn EZ0 Tryz.f125 msZ0 [.val false [.sl .any 155 (.pair .str (.pair .bool (.sl 3 (.int .i64)))) a0],.val false [.fn 163 [.sptr (.pair (.int .i64) (.pair (.int .i64) (.pair (.sl 9 .str) (.sl 155 (.pair .str (.pair .bool (.sl 3 (.int .i64)))))))) c0 0]]]) = some ((g_AZ0 a0 c0),.val false [.bool (g_VZ0_0 a0 c0)],[]) := by kernel_rfl
theorem sZ0:Sound Tryz.prog 125 msZ0 FZ0 := by
 refine fn_gen goodZ0 (by kernel_rfl) .std (fn := Tryz.f125) (c := (Tryz.f125.body.getD .skip)) (o := OZ0_0) (k := 0) (by kernel_rfl) (by kernel_rfl) (by kernel_rfl) (by kernel_rfl) (by decide) kZ0_0 ?_
 intro ys r outs h
 unfold FZ0 at h
 split at h
 ·exact (vZ0 _ _).trans h
 ·cases h
noncomputable def EZ62:Env where
 tt := mkTI Tryz.prog
 fn := fun f => match f with
  | 162 => some (msi_keyOk,FSem.wk msi_keyOk Fi_keyOk)
  | _ => none
 bxf := fun _ => none
 mv := []
 keep := fun _ => []
 keepB := fun _ => []
 keepX := fun _ => []
 keepXB := fun _ => []
theorem goodFZ62:∀ f ms F,EZ62.fn f = some (ms,F) → Sound Tryz.prog f ms F := fun f ms F h => by
 unfold EZ62 at h
 dsimp only at h
 split at h
 ·exact gF si_keyOk h
 ·cases h
theorem goodZ62:Good Tryz.prog EZ62 := ⟨rfl,goodFZ62,fun f ms F h => by cases h⟩
noncomputable def OZ62_0:Orc := fun _ _ => none
noncomputable def msZ62:List PM := [.own]
noncomputable def lsZ62:List (Nat×Code) := loopsAll 0 (Tryz.f161.body.getD .skip)
theorem kZ62_0:OrcOk EZ62 OZ62_0 lsZ62 0 := orcOk_none
noncomputable def g_AZ62 (a0:ByteArray):Bool := g_Ai_keyOk a0
noncomputable def FZ62:FSem := fun ys => match ys with
 | [.val false [.str a0]] => some ((g_AZ62 a0),.val false [.bool (!g_Vi_keyOk_0 a0)],[])
 | _ => none
theorem vZ62 (a0:ByteArray):collapseH .std EZ62 OZ62_0 (execFn EZ62 Tryz.f161 msZ62 [.val false [.str a0]]) = some ((g_AZ62 a0),.val false [.bool (!g_Vi_keyOk_0 a0)],[]) := by kernel_rfl
theorem sZ62:Sound Tryz.prog 161 msZ62 FZ62 := by
 refine fn_gen goodZ62 (by kernel_rfl) .std (fn := Tryz.f161) (c := (Tryz.f161.body.getD .skip)) (o := OZ62_0) (k := 0) (by kernel_rfl) (by kernel_rfl) (by kernel_rfl) (by kernel_rfl) (by decide) kZ62_0 ?_
 intro ys r outs h
 unfold FZ62 at h
 split at h
 ·exact (vZ62 _).trans h
 ·cases h
noncomputable def EZ9:Env where
 tt := mkTI Tryz.prog
 fn := fun f => match f with
  | 161 => some (msZ62,FSem.wk msZ62 FZ62)
  | _ => none
 bxf := fun _ => none
 mv := []
 keep := fun b => match b with
  | 0 => [(0,false),(1,false),(7,false),(8,false)]
  | _ => []
 keepB := fun b => match b with
  | 0 => []
  | _ => []
 keepX := fun b => match b with
  | 0 => [(4,false)]
  | _ => []
 keepXB := fun b => match b with
  | 0 => []
  | _ => []
theorem goodFZ9:∀ f ms F,EZ9.fn f = some (ms,F) → Sound Tryz.prog f ms F := fun f ms F h => by
 unfold EZ9 at h
 dsimp only at h
 split at h
 ·exact gF sZ62 h
 ·cases h
theorem goodZ9:Good Tryz.prog EZ9 := ⟨rfl,goodFZ9,fun f ms F h => by cases h⟩
noncomputable def OZ9_0:Orc := fun _ _ => none
noncomputable def msZ9:List PM := [.rd,.rd]
noncomputable def lsZ9:List (Nat×Code) := loopsAll 0 (Tryz.f176.body.getD .skip)
noncomputable def cZ9_0:Code := (loopOf 0 (Tryz.f176.body.getD .skip)).getD .skip
theorem lseqZ9:lsZ9 = [(0,cZ9_0)] := by kernel_rfl
theorem mZ9_0:∀ p,p ∈ lsZ9 → p.1 = 0 → p.2 = cZ9_0 := by
 intro p hp
 rw [lseqZ9] at hp
 simp only [List.mem_cons,List.not_mem_nil,or_false] at hp
 subst hp; simp
theorem kZ9_0:OrcOk EZ9 OZ9_0 lsZ9 0 := orcOk_none
noncomputable def hZ9_0 (y0:List ByteArray) (y1:Int) (y2:Int):List (Pl×LV) := [(.T 0,.t (.val false [.sl .any 9 .str y0])),(.T 1,.t (.val false [.fn 161 []])),(.T 7,.t (.val false [.int .i64 y1])),(.T 8,.t (.val false [.int .i64 y2]))]
noncomputable def g_SZ9_0 (y0:List ByteArray) (y1:Int):(Int) → RT (Int) ((Int) ⊕ (Unit))
 | y2 => .br (true) (.br (decide (y2 < y1)) (.br (decide (0 ≤ y2 ∧ y2 < (y0.length:Int))) (.br (g_AZ62 (at_ Ty.str y0 (Int.toNat y2))) (.br (!g_Vi_keyOk_0 (at_ Ty.str y0 (Int.toNat y2))) (.out (.inl y2)) (.br (true) (.go (IntKind.i64.wrap (y2 + 1))) .bad)) .bad) .bad) (.out (.inr (())))) .bad
noncomputable def g_LZ9_0 (y0:List ByteArray) (y1:Int) (x:Int):Option ((Int) ⊕ (Unit)) := loopO (g_SZ9_0 y0 y1) x
noncomputable def xZ9_0 (y0:List ByteArray) (y1:Int):((Int) ⊕ (Unit)) → Ex×List (Pl×LV) := fun
 | .inl r => (.ret,[(.T 4,.t (.val false [.int .i64 r]))])
 | .inr (r) => (.exit 0,[(.T 4,.t (.val false [.undef]))])
noncomputable def OZ9_1:Orc := fun b h => match b,h with
 | 0,[(.T 0,.t (.val false [.sl .any 9 .str y0])),(.T 1,.t (.val false [.fn 161 []])),(.T 7,.t (.val false [.int .i64 y1])),(.T 8,.t (.val false [.int .i64 y2]))] => some (okO (g_LZ9_0 y0 y1 y2),(.br (isL (valO (g_LZ9_0 y0 y1 y2))) (.leaf .ret [(.T 4,.t (.val false [.int .i64 (getL (valO (g_LZ9_0 y0 y1 y2)))]))]) (.leaf (.exit 0) [(.T 4,.t (.val false [.undef]))])))
 | b,h => OZ9_0 b h
theorem bZ9_0 (y0:List ByteArray) (y1:Int) (y2:Int):Tr.bt EZ9 OZ9_0 (exec EZ9 0 cZ9_0 (St.of (hZ9_0 y0 y1 y2)) (leafRd EZ9 0)) = (g_SZ9_0 y0 y1 y2).bt (fun (y2:Int) => (hZ9_0 y0 y1 y2)) (xZ9_0 y0 y1) := by kernel_rfl
theorem kZ9_1:OrcOk EZ9 OZ9_1 lsZ9 1 := orc_add kZ9_0 (fun n p hp h ex h' ho => by
 obtain ⟨b,c⟩ := p
 obtain ⟨xt,h1,h2⟩ := ho
 have h1:OZ9_1 b h = some (true,xt) := h1
 unfold OZ9_1 at h1
 split at h1
 ·injection h1 with h1
  injection h1 with e1 e2
  subst e2
  have hc:c = cZ9_0 := mZ9_0 _ hp rfl
  subst hc
  right
  rename_i y0 y1 y2
  have key := LT_step kZ9_0 hp (fun q hq => loopsAll_in _ _ _ _ hp hq) (fun (y2:Int) => (hZ9_0 y0 y1 y2)) (xZ9_0 y0 y1) (g_SZ9_0 y0 y1) (fun x => by first | exact bZ9_0 y0 y1 x) n (x := y2) (okO_some e1)
  have hx:∀ r,XT.sel (.br (isL r) (.leaf .ret [(.T 4,.t (.val false [.int .i64 (getL r)]))]) (.leaf (.exit 0) [(.T 4,.t (.val false [.undef]))])) = xZ9_0 y0 y1 r := fun r => by first | rfl | rcases r with r | r <;> rfl | rcases r with r | r | r <;> rfl | rcases r with r | r | r | r <;> rfl
  have h3 := (hx (valO (g_LZ9_0 y0 y1 y2))).symm.trans h2
  have e3 := congrArg Prod.fst h3
  have e4 := congrArg Prod.snd h3
  simp only at e3 e4
  rw [← e3,← e4]
  exact key
 ·exact .inl ⟨xt,h1,h2⟩)
noncomputable def g_AZ9 (a0:List ByteArray):Bool := okO (g_LZ9_0 a0 (a0.length:Int) (0:Int))
noncomputable def g_VZ9_0 (a0:List ByteArray):Int := bif isL (valO (g_LZ9_0 a0 (a0.length:Int) (0:Int))) then getL (valO (g_LZ9_0 a0 (a0.length:Int) (0:Int))) else (-1:Int)
noncomputable def FZ9:FSem := fun ys => match ys with
 | [.val false [.sl .any 9 .str a0],.val false [.fn 161 []]] => some ((g_AZ9 a0),.val false [.int .i64 (g_VZ9_0 a0)],[])
 | _ => none
theorem vZ9 (a0:List ByteArray):collapseH .std EZ9 OZ9_1 (execFn EZ9 Tryz.f176 msZ9 [.val false [.sl .any 9 .str a0],.val false [.fn 161 []]]) = some ((g_AZ9 a0),.val false [.int .i64 (g_VZ9_0 a0)],[]) := by kernel_rfl
theorem sZ9:Sound Tryz.prog 176 msZ9 FZ9 := by
 refine fn_gen goodZ9 (by kernel_rfl) .std (fn := Tryz.f176) (c := (Tryz.f176.body.getD .skip)) (o := OZ9_1) (k := 1) (by kernel_rfl) (by kernel_rfl) (by kernel_rfl) (by kernel_rfl) (by decide) kZ9_1 ?_
 intro ys r outs h
 unfold FZ9 at h
 split at h
 ·exact (vZ9 _).trans h
 ·cases h
noncomputable def EZ8:Env where
 tt := mkTI Tryz.prog
 fn := fun f => match f with
  | 161 => some (msZ62,FSem.wk msZ62 FZ62)
  | 176 => some (msZ9,FSem.wk msZ9 FZ9)
  | _ => none
 bxf := fun _ => none
 mv := []
 keep := fun _ => []
 keepB := fun _ => []
 keepX := fun _ => []
 keepXB := fun _ => []
theorem goodFZ8:∀ f ms F,EZ8.fn f = some (ms,F) → Sound Tryz.prog f ms F := fun f ms F h => by
 unfold EZ8 at h
 dsimp only at h
 split at h
 ·exact gF sZ62 h
 ·exact gF sZ9 h
 ·cases h
theorem goodZ8:Good Tryz.prog EZ8 := ⟨rfl,goodFZ8,fun f ms F h => by cases h⟩
noncomputable def OZ8_0:Orc := fun _ _ => none
noncomputable def msZ8:List PM := [.rd,.rd]
noncomputable def lsZ8:List (Nat×Code) := loopsAll 0 (Tryz.f160.body.getD .skip)
theorem kZ8_0:OrcOk EZ8 OZ8_0 lsZ8 0 := orcOk_none
noncomputable def g_AZ8 (a0:List ByteArray):Bool := g_AZ9 a0&&true
noncomputable def g_VZ8_0 (a0:List ByteArray):Bool := decide (g_VZ9_0 a0 ≥ 0)
noncomputable def FZ8:FSem := fun ys => match ys with
 | [.val false [.sl .any 9 .str a0],.val false [.fn 161 []]] => some ((g_AZ8 a0),.val false [.bool (g_VZ8_0 a0)],[])
 | _ => none
theorem vZ8 (a0:List ByteArray):collapseH .std EZ8 OZ8_0 (execFn EZ8 Tryz.f160 msZ8 [.val false [.sl .any 9 .str a0],.val false [.fn 161 []]]) = some ((g_AZ8 a0),.val false [.bool (g_VZ8_0 a0)],[]) := by kernel_rfl
theorem sZ8:Sound Tryz.prog 160 msZ8 FZ8 := by
 refine fn_gen goodZ8 (by kernel_rfl) .std (fn := Tryz.f160) (c := (Tryz.f160.body.getD .skip)) (o := OZ8_0) (k := 0) (by kernel_rfl) (by kernel_rfl) (by kernel_rfl) (by kernel_rfl) (by decide) kZ8_0 ?_
 intro ys r outs h
 unfold FZ8 at h
 split at h
 ·exact (vZ8 _).trans h
 ·cases h
noncomputable def Ei_NoteOk:Env where
 tt := mkTI Tryz.prog
 fn := fun f => match f with
  | 59 => some (msi_isTx,FSem.wk msi_isTx Fi_isTx)
  | 75 => some (msi_in,FSem.wk msi_in Fi_in)
  | 125 => some (msZ0,FSem.wk msZ0 FZ0)
  | 160 => some (msZ8,FSem.wk msZ8 FZ8)
  | _ => none
 bxf := fun _ => none
 mv := []
 keep := fun _ => []
 keepB := fun _ => []
 keepX := fun _ => []
 keepXB := fun _ => []
theorem goodFi_NoteOk:∀ f ms F,Ei_NoteOk.fn f = some (ms,F) → Sound Tryz.prog f ms F := fun f ms F h => by
 unfold Ei_NoteOk at h
 dsimp only at h
 split at h
 ·exact gF si_isTx h
 ·exact gF si_in h
 ·exact gF sZ0 h
 ·exact gF sZ8 h
 ·cases h
theorem goodi_NoteOk:Good Tryz.prog Ei_NoteOk := ⟨rfl,goodFi_NoteOk,fun f ms F h => by cases h⟩
noncomputable def Oi_NoteOk_0:Orc := fun _ _ => none
noncomputable def msi_NoteOk:List PM := [.rd]
noncomputable def lsi_NoteOk:List (Nat×Code) := loopsAll 0 (Tryz.f138.body.getD .skip)
theorem ki_NoteOk_0:OrcOk Ei_NoteOk Oi_NoteOk_0 lsi_NoteOk 0 := orcOk_none
noncomputable def g_Ai_NoteOk (a0:Int) (a1:Int) (a2:List ByteArray) (a3:tL2):Bool := g_Ai_isTx a1&&(!g_Vi_isTx_0 a1 || g_Ai_in a0 (1:Int) (4:Int)&&(!g_Vi_in_0 a0 (1:Int) (4:Int) || bif a0 != 1 then !(a2.length:Int) == 0 || true else decide ((a2.length:Int) > 12) || (decide ((a3.length:Int) > 12) || g_AZ8 a2&&(g_VZ8_0 a2 || g_AZ0 a3 (a0,a1,a2,a3)))))
noncomputable def g_Vi_NoteOk_0 (a0:Int) (a1:Int) (a2:List ByteArray) (a3:tL2):Bool := bif !g_Vi_isTx_0 a1 then false else bif !g_Vi_in_0 a0 (1:Int) (4:Int) then false else bif a0 != 1 then bif (a2.length:Int) == 0 then (a3.length:Int) == 0 else false else bif decide ((a2.length:Int) > 12) then false else bif decide ((a3.length:Int) > 12) then false else bif g_VZ8_0 a2 then false else !g_VZ0_0 a3 (a0,a1,a2,a3)
noncomputable def Fi_NoteOk:FSem := fun ys => match ys with
 | [.val true [.int .i64 a0,.int .i64 a1,.sl .any 9 .str a2,.sl .any 155 (.pair .str (.pair .bool (.sl 3 (.int .i64)))) a3]] => some ((g_Ai_NoteOk a0 a1 a2 a3),.val false [.bool (g_Vi_NoteOk_0 a0 a1 a2 a3)],[])
 | _ => none
theorem vi_NoteOk (a0:Int) (a1:Int) (a2:List ByteArray) (a3:tL2):collapseH .std Ei_NoteOk Oi_NoteOk_0 (execFn Ei_NoteOk Tryz.f138 msi_NoteOk [.val true [.int .i64 a0,.int .i64 a1,.sl .any 9 .str a2,.sl .any 155 (.pair .str (.pair .bool (.sl 3 (.int .i64)))) a3]]) = some ((g_Ai_NoteOk a0 a1 a2 a3),.val false [.bool (g_Vi_NoteOk_0 a0 a1 a2 a3)],[]) := by kernel_rfl
theorem si_NoteOk:Sound Tryz.prog 138 msi_NoteOk Fi_NoteOk := by
 refine fn_gen goodi_NoteOk (by kernel_rfl) .std (fn := Tryz.f138) (c := (Tryz.f138.body.getD .skip)) (o := Oi_NoteOk_0) (k := 0) (by kernel_rfl) (by kernel_rfl) (by kernel_rfl) (by kernel_rfl) (by decide) ki_NoteOk_0 ?_
 intro ys r outs h
 unfold Fi_NoteOk at h
 split at h
 ·exact (vi_NoteOk _ _ _ _).trans h
 ·cases h
noncomputable def EZ63:Env where
 tt := mkTI Tryz.prog
 fn := fun f => match f with
  | 138 => some (msi_NoteOk,FSem.wk msi_NoteOk Fi_NoteOk)
  | _ => none
 bxf := fun _ => none
 mv := []
 keep := fun _ => []
 keepB := fun _ => []
 keepX := fun _ => []
 keepXB := fun _ => []
theorem goodFZ63:∀ f ms F,EZ63.fn f = some (ms,F) → Sound Tryz.prog f ms F := fun f ms F h => by
 unfold EZ63 at h
 dsimp only at h
 split at h
 ·exact gF si_NoteOk h
 ·cases h
theorem goodZ63:Good Tryz.prog EZ63 := ⟨rfl,goodFZ63,fun f ms F h => by cases h⟩
noncomputable def OZ63_0:Orc := fun _ _ => none
noncomputable def msZ63:List PM := [.rd]
noncomputable def lsZ63:List (Nat×Code) := loopsAll 0 (Tryz.f137.body.getD .skip)
theorem kZ63_0:OrcOk EZ63 OZ63_0 lsZ63 0 := orcOk_none
noncomputable def g_AZ63 (a0:Int) (a1:Int) (a2:List ByteArray) (a3:tL2):Bool := g_Ai_NoteOk a0 a1 a2 a3
noncomputable def FZ63:FSem := fun ys => match ys with
 | [.val true [.int .i64 a0,.int .i64 a1,.sl .any 9 .str a2,.sl .any 155 (.pair .str (.pair .bool (.sl 3 (.int .i64)))) a3]] => some ((g_AZ63 a0 a1 a2 a3),.val false [.bool (!g_Vi_NoteOk_0 a0 a1 a2 a3)],[])
 | _ => none
theorem vZ63 (a0:Int) (a1:Int) (a2:List ByteArray) (a3:tL2):collapseH .std EZ63 OZ63_0 (execFn EZ63 Tryz.f137 msZ63 [.val true [.int .i64 a0,.int .i64 a1,.sl .any 9 .str a2,.sl .any 155 (.pair .str (.pair .bool (.sl 3 (.int .i64)))) a3]]) = some ((g_AZ63 a0 a1 a2 a3),.val false [.bool (!g_Vi_NoteOk_0 a0 a1 a2 a3)],[]) := by kernel_rfl
theorem sZ63:Sound Tryz.prog 137 msZ63 FZ63 := by
 refine fn_gen goodZ63 (by kernel_rfl) .std (fn := Tryz.f137) (c := (Tryz.f137.body.getD .skip)) (o := OZ63_0) (k := 0) (by kernel_rfl) (by kernel_rfl) (by kernel_rfl) (by kernel_rfl) (by decide) kZ63_0 ?_
 intro ys r outs h
 unfold FZ63 at h
 split at h
 ·exact (vZ63 _ _ _ _).trans h
 ·cases h
noncomputable def EZ6:Env where
 tt := mkTI Tryz.prog
 fn := fun f => match f with
  | 137 => some (msZ63,FSem.wk msZ63 FZ63)
  | _ => none
 bxf := fun _ => none
 mv := []
 keep := fun b => match b with
  | 0 => [(0,false),(1,false),(7,false),(8,false)]
  | _ => []
 keepB := fun b => match b with
  | 0 => []
  | _ => []
 keepX := fun b => match b with
  | 0 => [(4,false)]
  | _ => []
 keepXB := fun b => match b with
  | 0 => []
  | _ => []
theorem goodFZ6:∀ f ms F,EZ6.fn f = some (ms,F) → Sound Tryz.prog f ms F := fun f ms F h => by
 unfold EZ6 at h
 dsimp only at h
 split at h
 ·exact gF sZ63 h
 ·cases h
theorem goodZ6:Good Tryz.prog EZ6 := ⟨rfl,goodFZ6,fun f ms F h => by cases h⟩
noncomputable def OZ6_0:Orc := fun _ _ => none
noncomputable def msZ6:List PM := [.rd,.rd]
noncomputable def lsZ6:List (Nat×Code) := loopsAll 0 (Tryz.f110.body.getD .skip)
noncomputable def cZ6_0:Code := (loopOf 0 (Tryz.f110.body.getD .skip)).getD .skip
theorem lseqZ6:lsZ6 = [(0,cZ6_0)] := by kernel_rfl
theorem mZ6_0:∀ p,p ∈ lsZ6 → p.1 = 0 → p.2 = cZ6_0 := by
 intro p hp
 rw [lseqZ6] at hp
 simp only [List.mem_cons,List.not_mem_nil,or_false] at hp
 subst hp; simp
theorem kZ6_0:OrcOk EZ6 OZ6_0 lsZ6 0 := orcOk_none
noncomputable def hZ6_0 (y0:tL0) (y1:Int) (y2:Int):List (Pl×LV) := [(.T 0,.t (.val false [.sl .any 92 (.pair (.int .i64) (.pair (.int .i64) (.pair (.sl 9 .str) (.sl 155 (.pair .str (.pair .bool (.sl 3 (.int .i64)))))))) y0])),(.T 1,.t (.val false [.fn 137 []])),(.T 7,.t (.val false [.int .i64 y1])),(.T 8,.t (.val false [.int .i64 y2]))]
noncomputable def g_SZ6_0 (y0:tL0) (y1:Int):(Int) → RT (Int) ((Int) ⊕ (Unit))
 | y2 => .br (true) (.br (decide (y2 < y1)) (.br (decide (0 ≤ y2 ∧ y2 < (y0.length:Int))) (.br (g_AZ63 (at_ yT1 y0 (Int.toNat y2)).1 (at_ yT1 y0 (Int.toNat y2)).2.1 (at_ yT1 y0 (Int.toNat y2)).2.2.1 (at_ yT1 y0 (Int.toNat y2)).2.2.2) (.br (!g_Vi_NoteOk_0 (at_ yT1 y0 (Int.toNat y2)).1 (at_ yT1 y0 (Int.toNat y2)).2.1 (at_ yT1 y0 (Int.toNat y2)).2.2.1 (at_ yT1 y0 (Int.toNat y2)).2.2.2) (.out (.inl y2)) (.br (true) (.go (IntKind.i64.wrap (y2 + 1))) .bad)) .bad) .bad) (.out (.inr (())))) .bad
noncomputable def g_LZ6_0 (y0:tL0) (y1:Int) (x:Int):Option ((Int) ⊕ (Unit)) := loopO (g_SZ6_0 y0 y1) x
noncomputable def xZ6_0 (y0:tL0) (y1:Int):((Int) ⊕ (Unit)) → Ex×List (Pl×LV) := fun
 | .inl r => (.ret,[(.T 4,.t (.val false [.int .i64 r]))])
 | .inr (r) => (.exit 0,[(.T 4,.t (.val false [.undef]))])
noncomputable def OZ6_1:Orc := fun b h => match b,h with
 | 0,[(.T 0,.t (.val false [.sl .any 92 (.pair (.int .i64) (.pair (.int .i64) (.pair (.sl 9 .str) (.sl 155 (.pair .str (.pair .bool (.sl 3 (.int .i64)))))))) y0])),(.T 1,.t (.val false [.fn 137 []])),(.T 7,.t (.val false [.int .i64 y1])),(.T 8,.t (.val false [.int .i64 y2]))] => some (okO (g_LZ6_0 y0 y1 y2),(.br (isL (valO (g_LZ6_0 y0 y1 y2))) (.leaf .ret [(.T 4,.t (.val false [.int .i64 (getL (valO (g_LZ6_0 y0 y1 y2)))]))]) (.leaf (.exit 0) [(.T 4,.t (.val false [.undef]))])))
 | b,h => OZ6_0 b h
theorem bZ6_0 (y0:tL0) (y1:Int) (y2:Int):Tr.bt EZ6 OZ6_0 (exec EZ6 0 cZ6_0 (St.of (hZ6_0 y0 y1 y2)) (leafRd EZ6 0)) = (g_SZ6_0 y0 y1 y2).bt (fun (y2:Int) => (hZ6_0 y0 y1 y2)) (xZ6_0 y0 y1) := by kernel_rfl
theorem kZ6_1:OrcOk EZ6 OZ6_1 lsZ6 1 := orc_add kZ6_0 (fun n p hp h ex h' ho => by
 obtain ⟨b,c⟩ := p
 obtain ⟨xt,h1,h2⟩ := ho
 have h1:OZ6_1 b h = some (true,xt) := h1
 unfold OZ6_1 at h1
 split at h1
 ·injection h1 with h1
  injection h1 with e1 e2
  subst e2
  have hc:c = cZ6_0 := mZ6_0 _ hp rfl
  subst hc
  right
  rename_i y0 y1 y2
  have key := LT_step kZ6_0 hp (fun q hq => loopsAll_in _ _ _ _ hp hq) (fun (y2:Int) => (hZ6_0 y0 y1 y2)) (xZ6_0 y0 y1) (g_SZ6_0 y0 y1) (fun x => by first | exact bZ6_0 y0 y1 x) n (x := y2) (okO_some e1)
  have hx:∀ r,XT.sel (.br (isL r) (.leaf .ret [(.T 4,.t (.val false [.int .i64 (getL r)]))]) (.leaf (.exit 0) [(.T 4,.t (.val false [.undef]))])) = xZ6_0 y0 y1 r := fun r => by first | rfl | rcases r with r | r <;> rfl | rcases r with r | r | r <;> rfl | rcases r with r | r | r | r <;> rfl
  have h3 := (hx (valO (g_LZ6_0 y0 y1 y2))).symm.trans h2
  have e3 := congrArg Prod.fst h3
  have e4 := congrArg Prod.snd h3
  simp only at e3 e4
  rw [← e3,← e4]
  exact key
 ·exact .inl ⟨xt,h1,h2⟩)
noncomputable def g_AZ6 (a0:tL0):Bool := okO (g_LZ6_0 a0 (a0.length:Int) (0:Int))
noncomputable def g_VZ6_0 (a0:tL0):Int := bif isL (valO (g_LZ6_0 a0 (a0.length:Int) (0:Int))) then getL (valO (g_LZ6_0 a0 (a0.length:Int) (0:Int))) else (-1:Int)
noncomputable def FZ6:FSem := fun ys => match ys with
 | [.val false [.sl .any 92 (.pair (.int .i64) (.pair (.int .i64) (.pair (.sl 9 .str) (.sl 155 (.pair .str (.pair .bool (.sl 3 (.int .i64)))))))) a0],.val false [.fn 137 []]] => some ((g_AZ6 a0),.val false [.int .i64 (g_VZ6_0 a0)],[])
 | _ => none
theorem vZ6 (a0:tL0):collapseH .std EZ6 OZ6_1 (execFn EZ6 Tryz.f110 msZ6 [.val false [.sl .any 92 (.pair (.int .i64) (.pair (.int .i64) (.pair (.sl 9 .str) (.sl 155 (.pair .str (.pair .bool (.sl 3 (.int .i64)))))))) a0],.val false [.fn 137 []]]) = some ((g_AZ6 a0),.val false [.int .i64 (g_VZ6_0 a0)],[]) := by kernel_rfl
theorem sZ6:Sound Tryz.prog 110 msZ6 FZ6 := by
 refine fn_gen goodZ6 (by kernel_rfl) .std (fn := Tryz.f110) (c := (Tryz.f110.body.getD .skip)) (o := OZ6_1) (k := 1) (by kernel_rfl) (by kernel_rfl) (by kernel_rfl) (by kernel_rfl) (by decide) kZ6_1 ?_
 intro ys r outs h
 unfold FZ6 at h
 split at h
 ·exact (vZ6 _).trans h
 ·cases h
noncomputable def EZ2:Env where
 tt := mkTI Tryz.prog
 fn := fun f => match f with
  | 110 => some (msZ6,FSem.wk msZ6 FZ6)
  | 137 => some (msZ63,FSem.wk msZ63 FZ63)
  | _ => none
 bxf := fun _ => none
 mv := []
 keep := fun _ => []
 keepB := fun _ => []
 keepX := fun _ => []
 keepXB := fun _ => []
theorem goodFZ2:∀ f ms F,EZ2.fn f = some (ms,F) → Sound Tryz.prog f ms F := fun f ms F h => by
 unfold EZ2 at h
 dsimp only at h
 split at h
 ·exact gF sZ6 h
 ·exact gF sZ63 h
 ·cases h
theorem goodZ2:Good Tryz.prog EZ2 := ⟨rfl,goodFZ2,fun f ms F h => by cases h⟩
noncomputable def OZ2_0:Orc := fun _ _ => none
noncomputable def msZ2:List PM := [.rd,.rd]
noncomputable def lsZ2:List (Nat×Code) := loopsAll 0 (Tryz.f50.body.getD .skip)
theorem kZ2_0:OrcOk EZ2 OZ2_0 lsZ2 0 := orcOk_none
noncomputable def g_AZ2 (a0:tL0):Bool := g_AZ6 a0&&true
noncomputable def g_VZ2_0 (a0:tL0):Bool := decide (g_VZ6_0 a0 ≥ 0)
noncomputable def FZ2:FSem := fun ys => match ys with
 | [.val false [.sl .any 92 (.pair (.int .i64) (.pair (.int .i64) (.pair (.sl 9 .str) (.sl 155 (.pair .str (.pair .bool (.sl 3 (.int .i64)))))))) a0],.val false [.fn 137 []]] => some ((g_AZ2 a0),.val false [.bool (g_VZ2_0 a0)],[])
 | _ => none
theorem vZ2 (a0:tL0):collapseH .std EZ2 OZ2_0 (execFn EZ2 Tryz.f50 msZ2 [.val false [.sl .any 92 (.pair (.int .i64) (.pair (.int .i64) (.pair (.sl 9 .str) (.sl 155 (.pair .str (.pair .bool (.sl 3 (.int .i64)))))))) a0],.val false [.fn 137 []]]) = some ((g_AZ2 a0),.val false [.bool (g_VZ2_0 a0)],[]) := by kernel_rfl
theorem sZ2:Sound Tryz.prog 50 msZ2 FZ2 := by
 refine fn_gen goodZ2 (by kernel_rfl) .std (fn := Tryz.f50) (c := (Tryz.f50.body.getD .skip)) (o := OZ2_0) (k := 0) (by kernel_rfl) (by kernel_rfl) (by kernel_rfl) (by kernel_rfl) (by decide) kZ2_0 ?_
 intro ys r outs h
 unfold FZ2 at h
 split at h
 ·exact (vZ2 _).trans h
 ·cases h
noncomputable def Ei_DiskOk:Env where
 tt := mkTI Tryz.prog
 fn := fun f => match f with
  | 50 => some (msZ2,FSem.wk msZ2 FZ2)
  | 75 => some (msi_in,FSem.wk msi_in Fi_in)
  | _ => none
 bxf := fun _ => none
 mv := []
 keep := fun _ => []
 keepB := fun _ => []
 keepX := fun _ => []
 keepXB := fun _ => []
theorem goodFi_DiskOk:∀ f ms F,Ei_DiskOk.fn f = some (ms,F) → Sound Tryz.prog f ms F := fun f ms F h => by
 unfold Ei_DiskOk at h
 dsimp only at h
 split at h
 ·exact gF sZ2 h
 ·exact gF si_in h
 ·cases h
theorem goodi_DiskOk:Good Tryz.prog Ei_DiskOk := ⟨rfl,goodFi_DiskOk,fun f ms F h => by cases h⟩
noncomputable def Oi_DiskOk_0:Orc := fun _ _ => none
noncomputable def msi_DiskOk:List PM := [.rd]
noncomputable def lsi_DiskOk:List (Nat×Code) := loopsAll 0 (Tryz.f96.body.getD .skip)
theorem ki_DiskOk_0:OrcOk Ei_DiskOk Oi_DiskOk_0 lsi_DiskOk 0 := orcOk_none
noncomputable def g_Ai_DiskOk (a0:tL0) (a1:Int):Bool := !decide ((a0.length:Int) ≤ 120) || g_AZ2 a0&&(!!g_VZ2_0 a0 || g_Ai_in a1 (0:Int) (a0.length:Int))
noncomputable def g_Vi_DiskOk_0 (a0:tL0) (a1:Int):Bool := bif decide ((a0.length:Int) ≤ 120) then bif !g_VZ2_0 a0 then g_Vi_in_0 a1 (0:Int) (a0.length:Int) else false else false
noncomputable def Fi_DiskOk:FSem := fun ys => match ys with
 | [.val true [.sl .any 92 (.pair (.int .i64) (.pair (.int .i64) (.pair (.sl 9 .str) (.sl 155 (.pair .str (.pair .bool (.sl 3 (.int .i64)))))))) a0,.int .i64 a1]] => some ((g_Ai_DiskOk a0 a1),.val false [.bool (g_Vi_DiskOk_0 a0 a1)],[])
 | _ => none
theorem vi_DiskOk (a0:tL0) (a1:Int):collapseH .std Ei_DiskOk Oi_DiskOk_0 (execFn Ei_DiskOk Tryz.f96 msi_DiskOk [.val true [.sl .any 92 (.pair (.int .i64) (.pair (.int .i64) (.pair (.sl 9 .str) (.sl 155 (.pair .str (.pair .bool (.sl 3 (.int .i64)))))))) a0,.int .i64 a1]]) = some ((g_Ai_DiskOk a0 a1),.val false [.bool (g_Vi_DiskOk_0 a0 a1)],[]) := by kernel_rfl
theorem si_DiskOk:Sound Tryz.prog 96 msi_DiskOk Fi_DiskOk := by
 refine fn_gen goodi_DiskOk (by kernel_rfl) .std (fn := Tryz.f96) (c := (Tryz.f96.body.getD .skip)) (o := Oi_DiskOk_0) (k := 0) (by kernel_rfl) (by kernel_rfl) (by kernel_rfl) (by kernel_rfl) (by decide) ki_DiskOk_0 ?_
 intro ys r outs h
 unfold Fi_DiskOk at h
 split at h
 ·exact (vi_DiskOk _ _).trans h
 ·cases h
noncomputable def EZ18:Env where
 tt := mkTI Tryz.prog
 fn := fun _ => none
 bxf := fun _ => none
 mv := []
 keep := fun _ => []
 keepB := fun _ => []
 keepX := fun _ => []
 keepXB := fun _ => []
theorem goodFZ18:∀ f ms F,EZ18.fn f = some (ms,F) → Sound Tryz.prog f ms F := fun f ms F h => by cases h
theorem goodZ18:Good Tryz.prog EZ18 := ⟨rfl,goodFZ18,fun f ms F h => by cases h⟩
noncomputable def OZ18_0:Orc := fun _ _ => none
noncomputable def msZ18:List PM := [.rd]
noncomputable def lsZ18:List (Nat×Code) := loopsAll 0 (Tryz.f99.body.getD .skip)
theorem kZ18_0:OrcOk EZ18 OZ18_0 lsZ18 0 := orcOk_none
noncomputable def g_VZ18_0:List Int := []
noncomputable def FZ18:FSem := fun ys => match ys with
 | [.val false [.nil 3 (.int .i64)]] => some (true,.val false [.own .any true 3 (.int .i64) g_VZ18_0],[])
 | _ => none
theorem vZ18:collapseH .std EZ18 OZ18_0 (execFn EZ18 Tryz.f99 msZ18 [.val false [.nil 3 (.int .i64)]]) = some (true,.val false [.own .any true 3 (.int .i64) g_VZ18_0],[]) := by kernel_rfl
theorem sZ18:Sound Tryz.prog 99 msZ18 FZ18 := by
 refine fn_gen goodZ18 (by kernel_rfl) .std (fn := Tryz.f99) (c := (Tryz.f99.body.getD .skip)) (o := OZ18_0) (k := 0) (by kernel_rfl) (by kernel_rfl) (by kernel_rfl) (by kernel_rfl) (by decide) kZ18_0 ?_
 intro ys r outs h
 unfold FZ18 at h
 split at h
 ·exact (vZ18).trans h
 ·cases h
noncomputable def EZ19:Env where
 tt := mkTI Tryz.prog
 fn := fun _ => none
 bxf := fun _ => none
 mv := []
 keep := fun _ => []
 keepB := fun _ => []
 keepX := fun _ => []
 keepXB := fun _ => []
theorem goodFZ19:∀ f ms F,EZ19.fn f = some (ms,F) → Sound Tryz.prog f ms F := fun f ms F h => by cases h
theorem goodZ19:Good Tryz.prog EZ19 := ⟨rfl,goodFZ19,fun f ms F h => by cases h⟩
noncomputable def OZ19_0:Orc := fun _ _ => none
noncomputable def msZ19:List PM := [.rd]
noncomputable def lsZ19:List (Nat×Code) := loopsAll 0 (Tryz.f99.body.getD .skip)
theorem kZ19_0:OrcOk EZ19 OZ19_0 lsZ19 0 := orcOk_none
noncomputable def g_AZ19 (a0:List Int):Bool := decide ((nat_lit 0 + List.length a0) * nat_lit 8 ≤ nat_lit 140737488355328 ∧ nat_lit 0 + List.length a0 ≤ nat_lit 9223372036854775807)
noncomputable def g_VZ19_0 (a0:List Int):List Int := [] ++ a0
noncomputable def FZ19:FSem := fun ys => match ys with
 | [.val false [.sl .non 3 (.int .i64) a0]] => some ((g_AZ19 a0),.val false [.own .any true 3 (.int .i64) (g_VZ19_0 a0)],[])
 | _ => none
theorem vZ19 (a0:List Int):collapseH .std EZ19 OZ19_0 (execFn EZ19 Tryz.f99 msZ19 [.val false [.sl .non 3 (.int .i64) a0]]) = some ((g_AZ19 a0),.val false [.own .any true 3 (.int .i64) (g_VZ19_0 a0)],[]) := by kernel_rfl
theorem sZ19:Sound Tryz.prog 99 msZ19 FZ19 := by
 refine fn_gen goodZ19 (by kernel_rfl) .std (fn := Tryz.f99) (c := (Tryz.f99.body.getD .skip)) (o := OZ19_0) (k := 0) (by kernel_rfl) (by kernel_rfl) (by kernel_rfl) (by kernel_rfl) (by decide) kZ19_0 ?_
 intro ys r outs h
 unfold FZ19 at h
 split at h
 ·exact (vZ19 _).trans h
 ·cases h
def msZ20:List PM := [.rd]
noncomputable def FZ20:FSem := fun ys => match ys with
 | [.val false [.sl .any 3 (.int .i64) a0]] => some ((g_AZ19 a0),.val false [.own .any true 3 (.int .i64) a0],[])
 | _ => none
theorem sZ20:Sound Tryz.prog 99 msZ20 FZ20 := by
 refine sound_cases (el := 3) (e := (.int .i64)) sZ18 sZ19 (fun ys r outs h => ?_)
 unfold FZ20 at h
 split at h
 ·rename_i a0
  simp only [Option.some.injEq,Prod.mk.injEq] at h
  obtain ⟨h1,rfl,rfl⟩ := h
  refine ⟨a0,rfl,fun e => ?_,?_⟩
  ·subst e
   rfl
  ·show some ((g_AZ19 a0),RV.val false [Cell.own .any true 3 (.int .i64) ([] ++ a0)],[]) = _
   rw [h1,List.nil_append]
 ·cases h
noncomputable def EZ64:Env where
 tt := mkTI Tryz.prog
 fn := fun f => match f with
  | 99 => some (msZ20,FSem.wk msZ20 FZ20)
  | _ => none
 bxf := fun _ => none
 mv := []
 keep := fun b => match b with
  | 0 => [(3,false),(6,false),(7,false),(8,false)]
  | _ => []
 keepB := fun b => match b with
  | 0 => []
  | _ => []
 keepX := fun b => match b with
  | 0 => [(3,false)]
  | _ => []
 keepXB := fun b => match b with
  | 0 => []
  | _ => []
theorem goodFZ64:∀ f ms F,EZ64.fn f = some (ms,F) → Sound Tryz.prog f ms F := fun f ms F h => by
 unfold EZ64 at h
 dsimp only at h
 split at h
 ·exact gF sZ20 h
 ·cases h
theorem goodZ64:Good Tryz.prog EZ64 := ⟨rfl,goodFZ64,fun f ms F h => by cases h⟩
noncomputable def OZ64_0:Orc := fun _ _ => none
noncomputable def msZ64:List PM := [.rd]
noncomputable def lsZ64:List (Nat×Code) := loopsAll 0 (Tryz.f170.body.getD .skip)
noncomputable def cZ64_0:Code := (loopOf 0 (Tryz.f170.body.getD .skip)).getD .skip
theorem lseqZ64:lsZ64 = [(0,cZ64_0)] := by kernel_rfl
theorem mZ64_0:∀ p,p ∈ lsZ64 → p.1 = 0 → p.2 = cZ64_0 := by
 intro p hp
 rw [lseqZ64] at hp
 simp only [List.mem_cons,List.not_mem_nil,or_false] at hp
 subst hp; simp
theorem kZ64_0:OrcOk EZ64 OZ64_0 lsZ64 0 := orcOk_none
noncomputable def hZ64_0 (y0:tL2) (y1:tL2) (y2:Int) (y3:Int):List (Pl×LV) := [(.T 3,.t (.val false [.row 3 0 0])),(.R 3 0,.r 0 (some ⟨false,.any,true,155,(.pair .str (.pair .bool (.sl 3 (.int .i64)))),y0⟩)),(.T 6,.t (.val false [.sl .any 155 (.pair .str (.pair .bool (.sl 3 (.int .i64)))) y1])),(.T 7,.t (.val false [.int .i64 y2])),(.T 8,.t (.val false [.int .i64 y3]))]
noncomputable def g_SZ64_0 (y1:tL2) (y2:Int):(tL2×Int) → RT (tL2×Int) ((tL2))
 | (y0,y3) => .br (true) (.br (decide (y3 < y2)) (.br (decide (0 ≤ y3 ∧ y3 < (y1.length:Int))) (.br (g_AZ19 (at_ yT2 y1 (Int.toNat y3)).2.2) (.br (decide ((List.length y0 + List.length [((at_ yT2 y1 (Int.toNat y3)).1,(at_ yT2 y1 (Int.toNat y3)).2.1,(at_ yT2 y1 (Int.toNat y3)).2.2)]) * nat_lit 48 ≤ nat_lit 140737488355328 ∧ List.length y0 + List.length [((at_ yT2 y1 (Int.toNat y3)).1,(at_ yT2 y1 (Int.toNat y3)).2.1,(at_ yT2 y1 (Int.toNat y3)).2.2)] ≤ nat_lit 9223372036854775807)) (.br (true) (.go ((y0 ++ [((at_ yT2 y1 (Int.toNat y3)).1,(at_ yT2 y1 (Int.toNat y3)).2.1,(at_ yT2 y1 (Int.toNat y3)).2.2)],IntKind.i64.wrap (y3 + 1)))) .bad) .bad) .bad) .bad) (.out (y0))) .bad
noncomputable def g_LZ64_0 (y1:tL2) (y2:Int) (x:tL2×Int):Option ((tL2)) := loopO (g_SZ64_0 y1 y2) x
noncomputable def xZ64_0 (y1:tL2) (y2:Int):((tL2)) → Ex×List (Pl×LV) := fun r => (.exit 0,[(.T 3,.t (.val false [.row 3 0 0])),(.R 3 0,.r 0 (some ⟨false,.any,true,155,(.pair .str (.pair .bool (.sl 3 (.int .i64)))),r⟩))])
noncomputable def OZ64_1:Orc := fun b h => match b,h with
 | 0,[(.T 3,.t (.val false [.row 3 0 0])),(.R 3 0,.r 0 (some ⟨false,.any,true,155,(.pair .str (.pair .bool (.sl 3 (.int .i64)))),y0⟩)),(.T 6,.t (.val false [.sl .any 155 (.pair .str (.pair .bool (.sl 3 (.int .i64)))) y1])),(.T 7,.t (.val false [.int .i64 y2])),(.T 8,.t (.val false [.int .i64 y3]))] => some (okO (g_LZ64_0 y1 y2 (y0,y3)),(.leaf (.exit 0) [(.T 3,.t (.val false [.row 3 0 0])),(.R 3 0,.r 0 (some ⟨false,.any,true,155,(.pair .str (.pair .bool (.sl 3 (.int .i64)))),(valO (g_LZ64_0 y1 y2 (y0,y3)))⟩))]))
 | b,h => OZ64_0 b h
theorem bZ64_0 (y0:tL2) (y1:tL2) (y2:Int) (y3:Int):Tr.bt EZ64 OZ64_0 (exec EZ64 0 cZ64_0 (St.of (hZ64_0 y0 y1 y2 y3)) (leafRd EZ64 0)) = (g_SZ64_0 y1 y2 (y0,y3)).bt (fun ((y0,y3):tL2×Int) => (hZ64_0 y0 y1 y2 y3)) (xZ64_0 y1 y2) := by kernel_rfl
theorem kZ64_1:OrcOk EZ64 OZ64_1 lsZ64 1 := orc_add kZ64_0 (fun n p hp h ex h' ho => by
 obtain ⟨b,c⟩ := p
 obtain ⟨xt,h1,h2⟩ := ho
 have h1:OZ64_1 b h = some (true,xt) := h1
 unfold OZ64_1 at h1
 split at h1
 ·injection h1 with h1
  injection h1 with e1 e2
  subst e2
  have hc:c = cZ64_0 := mZ64_0 _ hp rfl
  subst hc
  right
  rename_i y0 y1 y2 y3
  have key := LT_step kZ64_0 hp (fun q hq => loopsAll_in _ _ _ _ hp hq) (fun ((y0,y3):tL2×Int) => (hZ64_0 y0 y1 y2 y3)) (xZ64_0 y1 y2) (g_SZ64_0 y1 y2) (fun x => by first | exact bZ64_0 x.1 y1 y2 x.2) n (x := (y0,y3)) (okO_some e1)
  have hx:∀ r,XT.sel (.leaf (.exit 0) [(.T 3,.t (.val false [.row 3 0 0])),(.R 3 0,.r 0 (some ⟨false,.any,true,155,(.pair .str (.pair .bool (.sl 3 (.int .i64)))),r⟩))]) = xZ64_0 y1 y2 r := fun r => by first | rfl | rcases r with r | r <;> rfl | rcases r with r | r | r <;> rfl | rcases r with r | r | r | r <;> rfl
  have h3 := (hx (valO (g_LZ64_0 y1 y2 (y0,y3)))).symm.trans h2
  have e3 := congrArg Prod.fst h3
  have e4 := congrArg Prod.snd h3
  simp only at e3 e4
  rw [← e3,← e4]
  exact key
 ·exact .inl ⟨xt,h1,h2⟩)
noncomputable def g_AZ64 (a0:tL2):Bool := okO (g_LZ64_0 a0 (a0.length:Int) ([],(0:Int)))
noncomputable def g_VZ64_0 (a0:tL2):tL2 := valO (g_LZ64_0 a0 (a0.length:Int) ([],(0:Int)))
noncomputable def FZ64:FSem := fun ys => match ys with
 | [.val false [.sl .any 155 (.pair .str (.pair .bool (.sl 3 (.int .i64)))) a0]] => some ((g_AZ64 a0),.val false [.own .any true 155 (.pair .str (.pair .bool (.sl 3 (.int .i64)))) (g_VZ64_0 a0)],[])
 | _ => none
theorem vZ64 (a0:tL2):collapseH .std EZ64 OZ64_1 (execFn EZ64 Tryz.f170 msZ64 [.val false [.sl .any 155 (.pair .str (.pair .bool (.sl 3 (.int .i64)))) a0]]) = some ((g_AZ64 a0),.val false [.own .any true 155 (.pair .str (.pair .bool (.sl 3 (.int .i64)))) (g_VZ64_0 a0)],[]) := by kernel_rfl
theorem sZ64:Sound Tryz.prog 170 msZ64 FZ64 := by
 refine fn_gen goodZ64 (by kernel_rfl) .std (fn := Tryz.f170) (c := (Tryz.f170.body.getD .skip)) (o := OZ64_1) (k := 1) (by kernel_rfl) (by kernel_rfl) (by kernel_rfl) (by kernel_rfl) (by decide) kZ64_1 ?_
 intro ys r outs h
 unfold FZ64 at h
 split at h
 ·exact (vZ64 _).trans h
 ·cases h
noncomputable def EZ14:Env where
 tt := mkTI Tryz.prog
 fn := fun _ => none
 bxf := fun _ => none
 mv := []
 keep := fun _ => []
 keepB := fun _ => []
 keepX := fun _ => []
 keepXB := fun _ => []
theorem goodFZ14:∀ f ms F,EZ14.fn f = some (ms,F) → Sound Tryz.prog f ms F := fun f ms F h => by cases h
theorem goodZ14:Good Tryz.prog EZ14 := ⟨rfl,goodFZ14,fun f ms F h => by cases h⟩
noncomputable def OZ14_0:Orc := fun _ _ => none
noncomputable def msZ14:List PM := [.rd]
noncomputable def lsZ14:List (Nat×Code) := loopsAll 0 (Tryz.f169.body.getD .skip)
theorem kZ14_0:OrcOk EZ14 OZ14_0 lsZ14 0 := orcOk_none
noncomputable def g_VZ14_0:List ByteArray := []
noncomputable def FZ14:FSem := fun ys => match ys with
 | [.val false [.nil 9 .str]] => some (true,.val false [.own .any true 9 .str g_VZ14_0],[])
 | _ => none
theorem vZ14:collapseH .std EZ14 OZ14_0 (execFn EZ14 Tryz.f169 msZ14 [.val false [.nil 9 .str]]) = some (true,.val false [.own .any true 9 .str g_VZ14_0],[]) := by kernel_rfl
theorem sZ14:Sound Tryz.prog 169 msZ14 FZ14 := by
 refine fn_gen goodZ14 (by kernel_rfl) .std (fn := Tryz.f169) (c := (Tryz.f169.body.getD .skip)) (o := OZ14_0) (k := 0) (by kernel_rfl) (by kernel_rfl) (by kernel_rfl) (by kernel_rfl) (by decide) kZ14_0 ?_
 intro ys r outs h
 unfold FZ14 at h
 split at h
 ·exact (vZ14).trans h
 ·cases h
noncomputable def EZ15:Env where
 tt := mkTI Tryz.prog
 fn := fun _ => none
 bxf := fun _ => none
 mv := []
 keep := fun _ => []
 keepB := fun _ => []
 keepX := fun _ => []
 keepXB := fun _ => []
theorem goodFZ15:∀ f ms F,EZ15.fn f = some (ms,F) → Sound Tryz.prog f ms F := fun f ms F h => by cases h
theorem goodZ15:Good Tryz.prog EZ15 := ⟨rfl,goodFZ15,fun f ms F h => by cases h⟩
noncomputable def OZ15_0:Orc := fun _ _ => none
noncomputable def msZ15:List PM := [.rd]
noncomputable def lsZ15:List (Nat×Code) := loopsAll 0 (Tryz.f169.body.getD .skip)
theorem kZ15_0:OrcOk EZ15 OZ15_0 lsZ15 0 := orcOk_none
noncomputable def g_AZ15 (a0:List ByteArray):Bool := decide ((nat_lit 0 + List.length a0) * nat_lit 16 ≤ nat_lit 140737488355328 ∧ nat_lit 0 + List.length a0 ≤ nat_lit 9223372036854775807)
noncomputable def g_VZ15_0 (a0:List ByteArray):List ByteArray := [] ++ a0
noncomputable def FZ15:FSem := fun ys => match ys with
 | [.val false [.sl .non 9 .str a0]] => some ((g_AZ15 a0),.val false [.own .any true 9 .str (g_VZ15_0 a0)],[])
 | _ => none
theorem vZ15 (a0:List ByteArray):collapseH .std EZ15 OZ15_0 (execFn EZ15 Tryz.f169 msZ15 [.val false [.sl .non 9 .str a0]]) = some ((g_AZ15 a0),.val false [.own .any true 9 .str (g_VZ15_0 a0)],[]) := by kernel_rfl
theorem sZ15:Sound Tryz.prog 169 msZ15 FZ15 := by
 refine fn_gen goodZ15 (by kernel_rfl) .std (fn := Tryz.f169) (c := (Tryz.f169.body.getD .skip)) (o := OZ15_0) (k := 0) (by kernel_rfl) (by kernel_rfl) (by kernel_rfl) (by kernel_rfl) (by decide) kZ15_0 ?_
 intro ys r outs h
 unfold FZ15 at h
 split at h
 ·exact (vZ15 _).trans h
 ·cases h
def msZ17:List PM := [.rd]
noncomputable def FZ17:FSem := fun ys => match ys with
 | [.val false [.sl .any 9 .str a0]] => some ((g_AZ15 a0),.val false [.own .any true 9 .str a0],[])
 | _ => none
theorem sZ17:Sound Tryz.prog 169 msZ17 FZ17 := by
 refine sound_cases (el := 9) (e := .str) sZ14 sZ15 (fun ys r outs h => ?_)
 unfold FZ17 at h
 split at h
 ·rename_i a0
  simp only [Option.some.injEq,Prod.mk.injEq] at h
  obtain ⟨h1,rfl,rfl⟩ := h
  refine ⟨a0,rfl,fun e => ?_,?_⟩
  ·subst e
   rfl
  ·show some ((g_AZ15 a0),RV.val false [Cell.own .any true 9 .str ([] ++ a0)],[]) = _
   rw [h1,List.nil_append]
 ·cases h
noncomputable def EZ22:Env where
 tt := mkTI Tryz.prog
 fn := fun f => match f with
  | 169 => some (msZ17,FSem.wk msZ17 FZ17)
  | 170 => some (msZ64,FSem.wk msZ64 FZ64)
  | _ => none
 bxf := fun _ => none
 mv := []
 keep := fun _ => []
 keepB := fun _ => []
 keepX := fun _ => []
 keepXB := fun _ => []
theorem goodFZ22:∀ f ms F,EZ22.fn f = some (ms,F) → Sound Tryz.prog f ms F := fun f ms F h => by
 unfold EZ22 at h
 dsimp only at h
 split at h
 ·exact gF sZ17 h
 ·exact gF sZ64 h
 ·cases h
theorem goodZ22:Good Tryz.prog EZ22 := ⟨rfl,goodFZ22,fun f ms F h => by cases h⟩
noncomputable def OZ22_0:Orc := fun _ _ => none
noncomputable def msZ22:List PM := [.rd]
noncomputable def lsZ22:List (Nat×Code) := loopsAll 0 (Tryz.f146.body.getD .skip)
theorem kZ22_0:OrcOk EZ22 OZ22_0 lsZ22 0 := orcOk_none
noncomputable def g_AZ22 (a0:Int) (a1:Int) (a2:List ByteArray) (a3:tL2):Bool := g_AZ15 a2&&g_AZ64 a3
noncomputable def FZ22:FSem := fun ys => match ys with
 | [.val true [.int .i64 a0,.int .i64 a1,.sl .any 9 .str a2,.sl .any 155 (.pair .str (.pair .bool (.sl 3 (.int .i64)))) a3]] => some ((g_AZ22 a0 a1 a2 a3),.val true [.int .i64 a0,.int .i64 a1,.own .any true 9 .str a2,.own .any true 155 (.pair .str (.pair .bool (.sl 3 (.int .i64)))) (g_VZ64_0 a3)],[])
 | _ => none
theorem vZ22 (a0:Int) (a1:Int) (a2:List ByteArray) (a3:tL2):collapseH .std EZ22 OZ22_0 (execFn EZ22 Tryz.f146 msZ22 [.val true [.int .i64 a0,.int .i64 a1,.sl .any 9 .str a2,.sl .any 155 (.pair .str (.pair .bool (.sl 3 (.int .i64)))) a3]]) = some ((g_AZ22 a0 a1 a2 a3),.val true [.int .i64 a0,.int .i64 a1,.own .any true 9 .str a2,.own .any true 155 (.pair .str (.pair .bool (.sl 3 (.int .i64)))) (g_VZ64_0 a3)],[]) := by kernel_rfl
theorem sZ22:Sound Tryz.prog 146 msZ22 FZ22 := by
 refine fn_gen goodZ22 (by kernel_rfl) .std (fn := Tryz.f146) (c := (Tryz.f146.body.getD .skip)) (o := OZ22_0) (k := 0) (by kernel_rfl) (by kernel_rfl) (by kernel_rfl) (by kernel_rfl) (by decide) kZ22_0 ?_
 intro ys r outs h
 unfold FZ22 at h
 split at h
 ·exact (vZ22 _ _ _ _).trans h
 ·cases h
noncomputable def EZ23:Env where
 tt := mkTI Tryz.prog
 fn := fun f => match f with
  | 146 => some (msZ22,FSem.wk msZ22 FZ22)
  | _ => none
 bxf := fun _ => none
 mv := []
 keep := fun b => match b with
  | 0 => [(2,false),(3,false),(10,false),(11,false),(12,false)]
  | _ => []
 keepB := fun b => match b with
  | 0 => [(2,false),(3,false)]
  | _ => []
 keepX := fun b => match b with
  | 0 => [(2,false),(3,false)]
  | _ => []
 keepXB := fun b => match b with
  | 0 => [(2,false),(3,false)]
  | _ => []
theorem goodFZ23:∀ f ms F,EZ23.fn f = some (ms,F) → Sound Tryz.prog f ms F := fun f ms F h => by
 unfold EZ23 at h
 dsimp only at h
 split at h
 ·exact gF sZ22 h
 ·cases h
theorem goodZ23:Good Tryz.prog EZ23 := ⟨rfl,goodFZ23,fun f ms F h => by cases h⟩
noncomputable def OZ23_0:Orc := fun _ _ => none
noncomputable def msZ23:List PM := [.rd]
noncomputable def lsZ23:List (Nat×Code) := loopsAll 0 (Tryz.f108.body.getD .skip)
noncomputable def cZ23_0:Code := (loopOf 0 (Tryz.f108.body.getD .skip)).getD .skip
theorem lseqZ23:lsZ23 = [(0,cZ23_0)] := by kernel_rfl
theorem mZ23_0:∀ p,p ∈ lsZ23 → p.1 = 0 → p.2 = cZ23_0 := by
 intro p hp
 rw [lseqZ23] at hp
 simp only [List.mem_cons,List.not_mem_nil,or_false] at hp
 subst hp; simp
theorem kZ23_0:OrcOk EZ23 OZ23_0 lsZ23 0 := orcOk_none
noncomputable def hZ23_0 (y0:tL0) (y1:Int) (y2:Int) (y3:Int) (y4:tL0) (y5:Int) (y6:tL0):List (Pl×LV) := [(.T 2,.t (.val false [.ptr 2 0 0])),(.T 3,.t (.val false [.ptr 3 0 0])),(.T 10,.t (.val false [.sl .any 92 (.pair (.int .i64) (.pair (.int .i64) (.pair (.sl 9 .str) (.sl 155 (.pair .str (.pair .bool (.sl 3 (.int .i64)))))))) y0])),(.T 11,.t (.val false [.int .i64 y1])),(.T 12,.t (.val false [.int .i64 y2])),(.B 2,.b 0 false [.row 2 1 0,.int .i64 y3]),(.R 2 1,.r 0 (some ⟨false,.any,true,92,(.pair (.int .i64) (.pair (.int .i64) (.pair (.sl 9 .str) (.sl 155 (.pair .str (.pair .bool (.sl 3 (.int .i64)))))))),y4⟩)),(.B 3,.b 0 false [.row 3 1 0,.int .i64 y5]),(.R 3 1,.r 0 (some ⟨false,.any,true,92,(.pair (.int .i64) (.pair (.int .i64) (.pair (.sl 9 .str) (.sl 155 (.pair .str (.pair .bool (.sl 3 (.int .i64)))))))),y6⟩))]
noncomputable def g_SZ23_0 (y0:tL0) (y1:Int) (y3:Int) (y4:tL0) (y5:Int):(Int×tL0) → RT (Int×tL0) ((tL0))
 | (y2,y6) => .br (true) (.br (decide (y2 < y1)) (.br (decide (0 ≤ y2 ∧ y2 < (y0.length:Int))) (.br (g_AZ22 (at_ yT1 y0 (Int.toNat y2)).1 (at_ yT1 y0 (Int.toNat y2)).2.1 (at_ yT1 y0 (Int.toNat y2)).2.2.1 (at_ yT1 y0 (Int.toNat y2)).2.2.2) (.br (decide ((List.length y6 + List.length [((at_ yT1 y0 (Int.toNat y2)).1,(at_ yT1 y0 (Int.toNat y2)).2.1,(at_ yT1 y0 (Int.toNat y2)).2.2.1,g_VZ64_0 (at_ yT1 y0 (Int.toNat y2)).2.2.2)]) * nat_lit 64 ≤ nat_lit 140737488355328 ∧ List.length y6 + List.length [((at_ yT1 y0 (Int.toNat y2)).1,(at_ yT1 y0 (Int.toNat y2)).2.1,(at_ yT1 y0 (Int.toNat y2)).2.2.1,g_VZ64_0 (at_ yT1 y0 (Int.toNat y2)).2.2.2)] ≤ nat_lit 9223372036854775807)) (.br (true) (.go ((IntKind.i64.wrap (y2 + 1),y6 ++ [((at_ yT1 y0 (Int.toNat y2)).1,(at_ yT1 y0 (Int.toNat y2)).2.1,(at_ yT1 y0 (Int.toNat y2)).2.2.1,g_VZ64_0 (at_ yT1 y0 (Int.toNat y2)).2.2.2)]))) .bad) .bad) .bad) .bad) (.out (y6))) .bad
noncomputable def g_LZ23_0 (y0:tL0) (y1:Int) (y3:Int) (y4:tL0) (y5:Int) (x:Int×tL0):Option ((tL0)) := loopO (g_SZ23_0 y0 y1 y3 y4 y5) x
noncomputable def xZ23_0 (y0:tL0) (y1:Int) (y3:Int) (y4:tL0) (y5:Int):((tL0)) → Ex×List (Pl×LV) := fun r => (.exit 0,[(.T 2,.t (.val false [.ptr 2 0 0])),(.T 3,.t (.val false [.ptr 3 0 0])),(.B 2,.b 0 false [.row 2 1 0,.int .i64 y3]),(.R 2 1,.r 0 (some ⟨false,.any,true,92,(.pair (.int .i64) (.pair (.int .i64) (.pair (.sl 9 .str) (.sl 155 (.pair .str (.pair .bool (.sl 3 (.int .i64)))))))),y4⟩)),(.B 3,.b 0 false [.row 3 1 0,.int .i64 y5]),(.R 3 1,.r 0 (some ⟨false,.any,true,92,(.pair (.int .i64) (.pair (.int .i64) (.pair (.sl 9 .str) (.sl 155 (.pair .str (.pair .bool (.sl 3 (.int .i64)))))))),r⟩))])
noncomputable def OZ23_1:Orc := fun b h => match b,h with
 | 0,[(.T 2,.t (.val false [.ptr 2 0 0])),(.T 3,.t (.val false [.ptr 3 0 0])),(.T 10,.t (.val false [.sl .any 92 (.pair (.int .i64) (.pair (.int .i64) (.pair (.sl 9 .str) (.sl 155 (.pair .str (.pair .bool (.sl 3 (.int .i64)))))))) y0])),(.T 11,.t (.val false [.int .i64 y1])),(.T 12,.t (.val false [.int .i64 y2])),(.B 2,.b 0 false [.row 2 1 0,.int .i64 y3]),(.R 2 1,.r 0 (some ⟨false,.any,true,92,(.pair (.int .i64) (.pair (.int .i64) (.pair (.sl 9 .str) (.sl 155 (.pair .str (.pair .bool (.sl 3 (.int .i64)))))))),y4⟩)),(.B 3,.b 0 false [.row 3 1 0,.int .i64 y5]),(.R 3 1,.r 0 (some ⟨false,.any,true,92,(.pair (.int .i64) (.pair (.int .i64) (.pair (.sl 9 .str) (.sl 155 (.pair .str (.pair .bool (.sl 3 (.int .i64)))))))),y6⟩))] => some (okO (g_LZ23_0 y0 y1 y3 y4 y5 (y2,y6)),(.leaf (.exit 0) [(.T 2,.t (.val false [.ptr 2 0 0])),(.T 3,.t (.val false [.ptr 3 0 0])),(.B 2,.b 0 false [.row 2 1 0,.int .i64 y3]),(.R 2 1,.r 0 (some ⟨false,.any,true,92,(.pair (.int .i64) (.pair (.int .i64) (.pair (.sl 9 .str) (.sl 155 (.pair .str (.pair .bool (.sl 3 (.int .i64)))))))),y4⟩)),(.B 3,.b 0 false [.row 3 1 0,.int .i64 y5]),(.R 3 1,.r 0 (some ⟨false,.any,true,92,(.pair (.int .i64) (.pair (.int .i64) (.pair (.sl 9 .str) (.sl 155 (.pair .str (.pair .bool (.sl 3 (.int .i64)))))))),(valO (g_LZ23_0 y0 y1 y3 y4 y5 (y2,y6)))⟩))]))
 | b,h => OZ23_0 b h
theorem bZ23_0 (y0:tL0) (y1:Int) (y2:Int) (y3:Int) (y4:tL0) (y5:Int) (y6:tL0):Tr.bt EZ23 OZ23_0 (exec EZ23 0 cZ23_0 (St.of (hZ23_0 y0 y1 y2 y3 y4 y5 y6)) (leafRd EZ23 0)) = (g_SZ23_0 y0 y1 y3 y4 y5 (y2,y6)).bt (fun ((y2,y6):Int×tL0) => (hZ23_0 y0 y1 y2 y3 y4 y5 y6)) (xZ23_0 y0 y1 y3 y4 y5) := by kernel_rfl
theorem kZ23_1:OrcOk EZ23 OZ23_1 lsZ23 1 := orc_add kZ23_0 (fun n p hp h ex h' ho => by
 obtain ⟨b,c⟩ := p
 obtain ⟨xt,h1,h2⟩ := ho
 have h1:OZ23_1 b h = some (true,xt) := h1
 unfold OZ23_1 at h1
 split at h1
 ·injection h1 with h1
  injection h1 with e1 e2
  subst e2
  have hc:c = cZ23_0 := mZ23_0 _ hp rfl
  subst hc
  right
  rename_i y0 y1 y2 y3 y4 y5 y6
  have key := LT_step kZ23_0 hp (fun q hq => loopsAll_in _ _ _ _ hp hq) (fun ((y2,y6):Int×tL0) => (hZ23_0 y0 y1 y2 y3 y4 y5 y6)) (xZ23_0 y0 y1 y3 y4 y5) (g_SZ23_0 y0 y1 y3 y4 y5) (fun x => by first | exact bZ23_0 y0 y1 x.1 y3 y4 y5 x.2) n (x := (y2,y6)) (okO_some e1)
  have hx:∀ r,XT.sel (.leaf (.exit 0) [(.T 2,.t (.val false [.ptr 2 0 0])),(.T 3,.t (.val false [.ptr 3 0 0])),(.B 2,.b 0 false [.row 2 1 0,.int .i64 y3]),(.R 2 1,.r 0 (some ⟨false,.any,true,92,(.pair (.int .i64) (.pair (.int .i64) (.pair (.sl 9 .str) (.sl 155 (.pair .str (.pair .bool (.sl 3 (.int .i64)))))))),y4⟩)),(.B 3,.b 0 false [.row 3 1 0,.int .i64 y5]),(.R 3 1,.r 0 (some ⟨false,.any,true,92,(.pair (.int .i64) (.pair (.int .i64) (.pair (.sl 9 .str) (.sl 155 (.pair .str (.pair .bool (.sl 3 (.int .i64)))))))),r⟩))]) = xZ23_0 y0 y1 y3 y4 y5 r := fun r => by first | rfl | rcases r with r | r <;> rfl | rcases r with r | r | r <;> rfl | rcases r with r | r | r | r <;> rfl
  have h3 := (hx (valO (g_LZ23_0 y0 y1 y3 y4 y5 (y2,y6)))).symm.trans h2
  have e3 := congrArg Prod.fst h3
  have e4 := congrArg Prod.snd h3
  simp only at e3 e4
  rw [← e3,← e4]
  exact key
 ·exact .inl ⟨xt,h1,h2⟩)
noncomputable def g_AZ23 (a0:tL0) (a1:Int):Bool := okO (g_LZ23_0 a0 (a0.length:Int) (0:Int) [] a1 ((0:Int),[]))
noncomputable def g_VZ23_0 (a0:tL0) (a1:Int):tL0 := valO (g_LZ23_0 a0 (a0.length:Int) (0:Int) [] a1 ((0:Int),[]))
noncomputable def FZ23:FSem := fun ys => match ys with
 | [.val true [.sl .any 92 (.pair (.int .i64) (.pair (.int .i64) (.pair (.sl 9 .str) (.sl 155 (.pair .str (.pair .bool (.sl 3 (.int .i64)))))))) a0,.int .i64 a1]] => some ((g_AZ23 a0 a1),.val true [.own .any true 92 (.pair (.int .i64) (.pair (.int .i64) (.pair (.sl 9 .str) (.sl 155 (.pair .str (.pair .bool (.sl 3 (.int .i64)))))))) (g_VZ23_0 a0 a1),.int .i64 a1],[])
 | _ => none
theorem vZ23 (a0:tL0) (a1:Int):collapseH .std EZ23 OZ23_1 (execFn EZ23 Tryz.f108 msZ23 [.val true [.sl .any 92 (.pair (.int .i64) (.pair (.int .i64) (.pair (.sl 9 .str) (.sl 155 (.pair .str (.pair .bool (.sl 3 (.int .i64)))))))) a0,.int .i64 a1]]) = some ((g_AZ23 a0 a1),.val true [.own .any true 92 (.pair (.int .i64) (.pair (.int .i64) (.pair (.sl 9 .str) (.sl 155 (.pair .str (.pair .bool (.sl 3 (.int .i64)))))))) (g_VZ23_0 a0 a1),.int .i64 a1],[]) := by kernel_rfl
theorem sZ23:Sound Tryz.prog 108 msZ23 FZ23 := by
 refine fn_gen goodZ23 (by kernel_rfl) .std (fn := Tryz.f108) (c := (Tryz.f108.body.getD .skip)) (o := OZ23_1) (k := 1) (by kernel_rfl) (by kernel_rfl) (by kernel_rfl) (by kernel_rfl) (by decide) kZ23_1 ?_
 intro ys r outs h
 unfold FZ23 at h
 split at h
 ·exact (vZ23 _ _).trans h
 ·cases h
noncomputable def EZ12:Env where
 tt := mkTI Tryz.prog
 fn := fun _ => none
 bxf := fun _ => none
 mv := [8]
 keep := fun _ => []
 keepB := fun _ => []
 keepX := fun _ => []
 keepXB := fun _ => []
theorem goodFZ12:∀ f ms F,EZ12.fn f = some (ms,F) → Sound Tryz.prog f ms F := fun f ms F h => by cases h
theorem goodZ12:Good Tryz.prog EZ12 := ⟨rfl,goodFZ12,fun f ms F h => by cases h⟩
noncomputable def OZ12_0:Orc := fun _ _ => none
noncomputable def msZ12:List PM := [.own]
noncomputable def lsZ12:List (Nat×Code) := loopsAll 0 (Tryz.f109.body.getD .skip)
theorem kZ12_0:OrcOk EZ12 OZ12_0 lsZ12 0 := orcOk_none
noncomputable def g_AZ12 (a0:tL0):Bool := decide ((a0.length:Int) = (a0.length:Int))&&decide (0 ≤ (a0.length:Int) ∧ (a0.length:Int) ≤ (a0.length:Int))
noncomputable def g_VZ12_0 (a0:tL0):tL0 := List.take (Int.toNat (a0.length:Int)) a0
noncomputable def FZ12:FSem := fun ys => match ys with
 | [.val false [.own .any true 92 (.pair (.int .i64) (.pair (.int .i64) (.pair (.sl 9 .str) (.sl 155 (.pair .str (.pair .bool (.sl 3 (.int .i64)))))))) a0]] => some ((g_AZ12 a0),.val false [.own .any true 92 (.pair (.int .i64) (.pair (.int .i64) (.pair (.sl 9 .str) (.sl 155 (.pair .str (.pair .bool (.sl 3 (.int .i64)))))))) (g_VZ12_0 a0)],[])
 | _ => none
theorem vZ12 (a0:tL0):collapseH .std EZ12 OZ12_0 (execFn EZ12 Tryz.f109 msZ12 [.val false [.own .any true 92 (.pair (.int .i64) (.pair (.int .i64) (.pair (.sl 9 .str) (.sl 155 (.pair .str (.pair .bool (.sl 3 (.int .i64)))))))) a0]]) = some ((g_AZ12 a0),.val false [.own .any true 92 (.pair (.int .i64) (.pair (.int .i64) (.pair (.sl 9 .str) (.sl 155 (.pair .str (.pair .bool (.sl 3 (.int .i64)))))))) (g_VZ12_0 a0)],[]) := by kernel_rfl
theorem sZ12:Sound Tryz.prog 109 msZ12 FZ12 := by
 refine fn_gen goodZ12 (by kernel_rfl) .std (fn := Tryz.f109) (c := (Tryz.f109.body.getD .skip)) (o := OZ12_0) (k := 0) (by kernel_rfl) (by kernel_rfl) (by kernel_rfl) (by kernel_rfl) (by decide) kZ12_0 ?_
 intro ys r outs h
 unfold FZ12 at h
 split at h
 ·exact (vZ12 _).trans h
 ·cases h
noncomputable def EZ65:Env where
 tt := mkTI Tryz.prog
 fn := fun f => match f with
  | 96 => some (msi_DiskOk,FSem.wk msi_DiskOk Fi_DiskOk)
  | 108 => some (msZ23,FSem.wk msZ23 FZ23)
  | 109 => some (msZ12,FSem.wk msZ12 FZ12)
  | _ => none
 bxf := fun _ => none
 mv := [26]
 keep := fun _ => []
 keepB := fun _ => []
 keepX := fun _ => []
 keepXB := fun _ => []
theorem goodFZ65:∀ f ms F,EZ65.fn f = some (ms,F) → Sound Tryz.prog f ms F := fun f ms F h => by
 unfold EZ65 at h
 dsimp only at h
 split at h
 ·exact gF si_DiskOk h
 ·exact gF sZ23 h
 ·exact gF sZ12 h
 ·cases h
theorem goodZ65:Good Tryz.prog EZ65 := ⟨rfl,goodFZ65,fun f ms F h => by cases h⟩
noncomputable def OZ65_0:Orc := fun _ _ => none
noncomputable def msZ65:List PM := [.rd,.own]
noncomputable def lsZ65:List (Nat×Code) := loopsAll 0 (Tryz.f49.body.getD .skip)
theorem kZ65_0:OrcOk EZ65 OZ65_0 lsZ65 0 := orcOk_none
noncomputable def g_AZ65 (a0:tL0) (a1:Int) (a2:Int):Bool := g_Ai_DiskOk a0 a1&&(!g_Vi_DiskOk_0 a0 a1 || g_AZ23 a0 a1&&(decide (0 ≤ IntKind.i64.wrap (a1 + if (if IntKind.i64.wrap ((a0.length:Int) - a1) < a2 then IntKind.i64.wrap ((a0.length:Int) - a1) else a2) > 0 then if IntKind.i64.wrap ((a0.length:Int) - a1) < a2 then IntKind.i64.wrap ((a0.length:Int) - a1) else a2 else (0:Int)) ∧ IntKind.i64.wrap (a1 + if (if IntKind.i64.wrap ((a0.length:Int) - a1) < a2 then IntKind.i64.wrap ((a0.length:Int) - a1) else a2) > 0 then if IntKind.i64.wrap ((a0.length:Int) - a1) < a2 then IntKind.i64.wrap ((a0.length:Int) - a1) else a2 else (0:Int)) ≤ (↑(List.length (g_VZ23_0 a0 a1)):Int))&&g_AZ12 (List.take (Int.toNat (IntKind.i64.wrap (a1 + if (if IntKind.i64.wrap ((a0.length:Int) - a1) < a2 then IntKind.i64.wrap ((a0.length:Int) - a1) else a2) > 0 then if IntKind.i64.wrap ((a0.length:Int) - a1) < a2 then IntKind.i64.wrap ((a0.length:Int) - a1) else a2 else (0:Int)))) (g_VZ23_0 a0 a1))))
noncomputable def g_VZ65_0 (a0:tL0) (a1:Int) (a2:Int):tL0 := bif !g_Vi_DiskOk_0 a0 a1 then [] else g_VZ12_0 (List.take (Int.toNat (IntKind.i64.wrap (a1 + if (if IntKind.i64.wrap ((a0.length:Int) - a1) < a2 then IntKind.i64.wrap ((a0.length:Int) - a1) else a2) > 0 then if IntKind.i64.wrap ((a0.length:Int) - a1) < a2 then IntKind.i64.wrap ((a0.length:Int) - a1) else a2 else (0:Int)))) (g_VZ23_0 a0 a1))
noncomputable def g_VZ65_1 (a0:tL0) (a1:Int) (a2:Int):Int := bif !g_Vi_DiskOk_0 a0 a1 then (0:Int) else (↑(List.length (g_VZ12_0 (List.take (Int.toNat (IntKind.i64.wrap (a1 + if (if IntKind.i64.wrap ((a0.length:Int) - a1) < a2 then IntKind.i64.wrap ((a0.length:Int) - a1) else a2) > 0 then if IntKind.i64.wrap ((a0.length:Int) - a1) < a2 then IntKind.i64.wrap ((a0.length:Int) - a1) else a2 else (0:Int)))) (g_VZ23_0 a0 a1)))):Int)
noncomputable def FZ65:FSem := fun ys => match ys with
 | [.val true [.sl .any 92 (.pair (.int .i64) (.pair (.int .i64) (.pair (.sl 9 .str) (.sl 155 (.pair .str (.pair .bool (.sl 3 (.int .i64)))))))) a0,.int .i64 a1],.val false [.int .i64 a2]] => some ((g_AZ65 a0 a1 a2),.val true [.own .any true 92 (.pair (.int .i64) (.pair (.int .i64) (.pair (.sl 9 .str) (.sl 155 (.pair .str (.pair .bool (.sl 3 (.int .i64)))))))) (g_VZ65_0 a0 a1 a2),.int .i64 (g_VZ65_1 a0 a1 a2)],[])
 | _ => none
theorem vZ65 (a0:tL0) (a1:Int) (a2:Int):collapseH .std EZ65 OZ65_0 (execFn EZ65 Tryz.f49 msZ65 [.val true [.sl .any 92 (.pair (.int .i64) (.pair (.int .i64) (.pair (.sl 9 .str) (.sl 155 (.pair .str (.pair .bool (.sl 3 (.int .i64)))))))) a0,.int .i64 a1],.val false [.int .i64 a2]]) = some ((g_AZ65 a0 a1 a2),.val true [.own .any true 92 (.pair (.int .i64) (.pair (.int .i64) (.pair (.sl 9 .str) (.sl 155 (.pair .str (.pair .bool (.sl 3 (.int .i64)))))))) (g_VZ65_0 a0 a1 a2),.int .i64 (g_VZ65_1 a0 a1 a2)],[]) := by kernel_rfl
theorem sZ65:Sound Tryz.prog 49 msZ65 FZ65 := by
 refine fn_gen goodZ65 (by kernel_rfl) .std (fn := Tryz.f49) (c := (Tryz.f49.body.getD .skip)) (o := OZ65_0) (k := 0) (by kernel_rfl) (by kernel_rfl) (by kernel_rfl) (by kernel_rfl) (by decide) kZ65_0 ?_
 intro ys r outs h
 unfold FZ65 at h
 split at h
 ·exact (vZ65 _ _ _).trans h
 ·cases h
end Go.Proofs.YtedhpmhlmdcpbaaGreatDoor.E
section
namespace Go.Proofs.YtedhpmhlmdcpbaaGreatDoor.E
open Go Go.RowKit Go.Shelf
attribute [local go_sem] Oper.semAt_some
abbrev SV:Type := Option Addr×Nat×Nat
abbrev E4:Type := Int×Int×SV×SV
def cE (e:E4):List Value := [.int .i64 e.1,.int .i64 e.2.1,.slice e.2.2.1.1 e.2.2.1.2.1 e.2.2.1.2.2,.slice e.2.2.2.1 e.2.2.2.2.1 e.2.2.2.2.2]
abbrev e0:E4 := (0,0,(none,0,0),(none,0,0))
set_option maxRecDepth 100000 in
set_option maxHeartbeats 2000000 in
theorem bk1_in (F:Fence) (n:Nat) (h7:F.fn 147) (hro:F.round = none) (hn:1 ≤ n) (l Bs n₀ b off cap:Nat) (cs:List E4) (hreach:cs.length ≤ 1048576) (hb:b < n₀) (hBn:Bs < n₀) (J Jx:List (Nat×E4) → World → Prop)
  (hY:∀ pre x W,J pre W → pre.length < cs.length → YieldAt F (n - 1) Tryz.prog l #[.int .i64 (x.1:Int),Value.agg (cE x.2).toArray] W fun e W' =>
   (e = .returned (.bool true) ∧ J (pre ++ [x]) W' ∧ Below n₀ W W') ∨ (e = .returned (.bool false) ∧ Jx (pre ++ [x]) W'))
  (W:World) (hBs:W.cell? ⟨Bs,0,none⟩ = some (.slice (some ⟨b,off,none⟩) cs.length cap)) (hc:∀ j c,cs[j]? = some c → Has W b (off + j * 4) (cE c)) (h0:J [] W) :
  CallsIn F n Tryz.prog 147 #[.func (.yield l) #[] #[],.pointer (some ⟨Bs,0,none⟩)] W fun e W' => (∃ v,e = .returned v) ∧
   ((∃ ys,ys = (List.range cs.length).map (fun j => (cs.length - 1 - j,cs.getD (cs.length - 1 - j) e0)) ∧ J ys W') ∨ (∃ pre,(∃ k,k ≤ cs.length ∧ pre = (List.range k).map (fun j => (cs.length - 1 - j,cs.getD (cs.length - 1 - j) e0))) ∧ Jx pre W')) := by
 refine callsIn_of_wp Tryz.func147 rfl h7 ?_ hro
 simp only [Tryz.ntmps147,List.size_toArray,List.length_cons,List.length_nil,Nat.reduceAdd,Nat.reduceSub,Array.replicate_succ,Array.replicate_zero,List.push_toArray,List.append_toArray,List.nil_append,List.cons_append]
 gi_wp2
 gi_loopw [3] (fun i wr => ∃ k:Nat,k ≤ cs.length ∧ i = .int .i64 ((cs.length:Int) - 1 - k) ∧ J ((List.range k).map (fun j => (cs.length - 1 - j,cs.getD (cs.length - 1 - j) e0))) wr ∧ Below n₀ W wr)
  (fun i _ => (intOf i + 1).toNat)
 case atStart => exact ⟨0,Nat.zero_le _,by simp,h0,Below.refl _ _⟩
 case round =>
  obtain ⟨k,hk,rfl,hJs,hnx⟩ := hrel
  have hBs' := (hnx.cell (p := ⟨Bs,0,none⟩) hBn).trans hBs
  by_cases hlt:k < cs.length
  ·obtain ⟨c,hcc⟩:∃ c,cs[cs.length - 1 - k]? = some c := ⟨_,List.getElem?_eq_getElem (by omega)⟩
   have hcH := hc _ c hcc
   obtain ⟨z0,z1,v2,v3⟩ := c
   have hidx:((cs.length:Int) - 1 - k) = ((cs.length - 1 - k:Nat):Int) := by omega
   rw [hidx]
   obtain ⟨fn,tmps,assign,body,hy,hR⟩ := hY _ (cs.length - 1 - k,(z0,z1,v2,v3)) wr hJs (by simp; exact hlt)
   dsimp only [cE] at hy
   have hge:((cs.length - 1 - k:Nat):Int) ≥ 0 := by omega
   have c0 := (hnx.cell (p := ⟨b,off + (cs.length - 1 - k) * 4,none⟩) hb).trans (hcH 0 (.int .i64 z0) rfl)
   have c1 := (hnx.cell (p := ⟨b,off + (cs.length - 1 - k) * 4 + 1,none⟩) hb).trans (hcH 1 (.int .i64 z1) rfl)
   have c2 := (hnx.cell (p := ⟨b,off + (cs.length - 1 - k) * 4 + 2,none⟩) hb).trans (hcH 2 (.slice v2.1 v2.2.1 v2.2.2) rfl)
   have c3 := (hnx.cell (p := ⟨b,off + (cs.length - 1 - k) * 4 + 3,none⟩) hb).trans (hcH 3 (.slice v3.1 v3.2.1 v3.2.2) rfl)
   have hget:cs.getD (cs.length - 1 - k) e0 = (z0,z1,v2,v3) := by simp [List.getD,hcc]
   have hup:(List.range k).map (fun j => (cs.length - 1 - j,cs.getD (cs.length - 1 - j) e0)) ++ [(cs.length - 1 - k,(z0,z1,v2,v3))] = (List.range (k + 1)).map (fun j => (cs.length - 1 - j,cs.getD (cs.length - 1 - j) e0)) := by
    rw [List.range_succ,List.map_append,List.map_singleton,hget]
   rw [hup] at hR
   gi_wp2
   refine hR.mono ?_
   rintro e W3 (⟨rfl,hJ3,hk3⟩ | ⟨rfl,hJx3⟩)
   ·gi_wp2
    go_roundw
    case rel => exact ⟨k + 1,by omega,by (simp; omega),hJ3,hnx.trans hk3⟩
    case measure => first | (simp [intOf]; done) | (simp [intOf]; omega)
   ·gi_wp2
    refine bodyPost_ret (results_none rfl _ _ _) rfl ?_
    exact ⟨⟨_,rfl⟩,.inr ⟨_,⟨k + 1,by omega,rfl⟩,hJx3⟩⟩
  ·obtain rfl:k = cs.length := by omega
   gi_wp2
   go_end0
   exact ⟨⟨_,rfl⟩,.inl ⟨_,rfl,hJs⟩⟩
set_option maxRecDepth 100000 in
set_option maxHeartbeats 1000000 in
theorem bk1_nil_in (F:Fence) (n:Nat) (h7:F.fn 147) (hro:F.round = none) (l Bs:Nat) (J:List (Nat×E4) → World → Prop) (W:World) (a:Option Addr) (cap:Nat) (hBs:W.cell? ⟨Bs,0,none⟩ = some (.slice a 0 cap)) (h0:J [] W) :
  CallsIn F n Tryz.prog 147 #[.func (.yield l) #[] #[],.pointer (some ⟨Bs,0,none⟩)] W fun e W' => (∃ v,e = .returned v) ∧ J [] W' := by
 refine callsIn_of_wp Tryz.func147 rfl h7 ?_ hro
 simp only [Tryz.ntmps147,List.size_toArray,List.length_cons,List.length_nil,Nat.reduceAdd,Nat.reduceSub,Array.replicate_succ,Array.replicate_zero,List.push_toArray,List.append_toArray,List.nil_append,List.cons_append]
 gi_wp2
 gi_loopw [3] (fun i wr => i = .int .i64 (-1) ∧ J [] wr) (fun _ _ => 0)
 case atStart => exact ⟨rfl,h0⟩
 case round =>
  obtain ⟨rfl,hJs⟩ := hrel
  gi_wp2
  go_end0
  exact ⟨⟨_,rfl⟩,hJs⟩
def Lies4 (n₀:Nat) (W:World) (sv:Value) (cs:List E4):Prop :=
 ((∃ a cap,sv = .slice a 0 cap) ∧ cs = []) ∨ ∃ b off cap,sv = .slice (some ⟨b,off,none⟩) cs.length cap ∧ b < n₀ ∧ ∀ j c,cs[j]? = some c → Has W b (off + j * 4) (cE c)
theorem Lies4.below {n₀:Nat} {A B:World} (h:Below n₀ A B) {sv:Value} {cs:List E4} (hl:Lies4 n₀ A sv cs):Lies4 n₀ B sv cs := by
 rcases hl with hl | ⟨b,off,cap,e,hb,hc⟩
 ·exact .inl hl
 ·exact .inr ⟨b,off,cap,e,hb,fun j c hj i v hv => (h.cell (p := ⟨b,off + j * 4 + i,none⟩) hb).trans (hc j c hj i v hv)⟩
abbrev backF (cs:List E4) (j:Nat):Nat×E4 := (cs.length - 1 - j,cs.getD (cs.length - 1 - j) e0)
theorem bk_stops (F:Fence) (n:Nat) (h8:F.fn 147) (hro:F.round = none) (hn:1 ≤ n) (Bs n₀:Nat) (sv:Value) (cs:List E4) (hreach:cs.length ≤ 1048576) (w:World) (hBn:Bs < n₀) (hn₀:n₀ ≤ w.heap.size)
  (hc:w.cell? ⟨Bs,0,none⟩ = some sv) (hI:Lies4 n₀ w sv cs) :
  SeqStopsK F n Tryz.prog 147 #[.pointer (some ⟨Bs,0,none⟩)] (fun x:Nat×E4 => #[Value.int .i64 (x.1:Int),Value.agg (cE x.2).toArray]) (Below n₀) (fun ys => ys = (List.range cs.length).map (backF cs))
   (fun pre => ∃ k,k ≤ cs.length ∧ pre = (List.range k).map (backF cs)) cs.length w := fun l J Jx W hW _ _ hY h0 => by
 have hc' := (hW.cell (p := ⟨Bs,0,none⟩) (Nat.lt_of_lt_of_le hBn hn₀)).trans hc
 rcases hI.below (hW.mono hn₀) with ⟨⟨a,cap,rfl⟩,rfl⟩ | ⟨b,off,cap,rfl,hb,hcs⟩
 ·exact (bk1_nil_in F n h8 hro l Bs J W a cap hc' h0).mono fun e W' ⟨he,hj⟩ => ⟨he,.inl ⟨_,rfl,hj⟩⟩
 ·exact bk1_in F n h8 hro hn l Bs n₀ b off cap cs hreach hb hBn J Jx hY W hc' hcs h0
set_option maxHeartbeats 1000000 in
theorem bk_in (F:Fence) (n:Nat) (h6:F.fn 111) (hro:F.round = none) (a:Option Addr) (len cap:Nat) (w:World) :
  CallsIn F n Tryz.prog 111 #[.slice a len cap] w fun e w' => e = .returned (.func (.func 147) #[] #[.pointer (some ⟨w.heap.size,0,none⟩)]) ∧ w' = w.alloc (.cells #[.slice a len cap] 31) := by
 refine callsIn_of_wp Tryz.func111 rfl h6 ?_ hro
 simp only [Tryz.ntmps111,List.size_toArray,List.length_cons,List.length_nil,Nat.reduceAdd,Nat.reduceSub,Array.replicate_succ,Array.replicate_zero,List.push_toArray,List.append_toArray,List.nil_append,List.cons_append]
 gi_wp2
 go_ret
 exact ⟨rfl,rfl⟩
theorem cellA {W:World} {p:Addr} {v:Value} (o:Obj) (h:W.cell? p = some v):(W.alloc o).cell? p = some v := (World.grownBy_alloc W o none).cell h (by simp)
theorem frozenA {W:World} {p:Addr} {v:Value} (o:Obj) (h:W.cell? p = some v) (hf:W.frozen? p = false):(W.alloc o).frozen? p = false :=
 (World.frozen?_of_block ((World.grownBy_alloc W o none).block p.block (World.block_lt_of_cell? W p h) (by simp))).trans hf
theorem cellN {W:World} {cur:Array Value} {e:TypeId} {j:Nat} {v:Value} (h:cur[j]? = some v):(W.alloc (.cells cur e)).cell? ⟨W.heap.size,j,none⟩ = some v := by
 rw [cell_of_row _ _ j _ _ _ (World.alloc_heap_new W (.cells cur e))]
 exact h
abbrev NT_:Ty := .pair (.int .i64) (.pair (.int .i64) (.pair (.sl 9 .str) (.sl 155 (.pair .str (.pair .bool (.sl 3 (.int .i64)))))))
theorem notes_cells {w:World} {S:Nat → Prop} (hS:∀ g,S g → g < w.heap.size) {l:List NT_.den} {sv:Value} (h:ROc w S (.sl 92 NT_) l [sv]) :
  ∃ (A:Option Addr) (cap:Nat) (cs:List E4),sv = .slice A l.length cap ∧ cs.length = l.length ∧ Lies4 w.heap.size w sv cs ∧ ∀ (i:Nat) (x:NT_.den),l[i]? = some x → ∃ e:E4,cs[i]? = some e ∧ e.1 = x.1 ∧ e.2.1 = x.2.1 ∧ ROc w S (.sl 155 (.pair .str (.pair .bool (.sl 3 (.int .i64))))) x.2.2.2 [.slice e.2.2.2.1 e.2.2.2.2.1 e.2.2.2.2.2] := by
 obtain ⟨A,cap,e1,_,h3⟩ := h
 injection e1 with e1 _
 subst e1
 by_cases hl:l.length = 0
 ·refine ⟨A,cap,[],rfl,by simp [hl],.inl ⟨⟨A,cap,by rw [hl]⟩,rfl⟩,fun i x hx => ?_⟩
  have:i < l.length := (List.getElem?_eq_some_iff.1 hx).1
  omega
 ·obtain ⟨g,off,c0,e2,hg,_⟩ := h3 0 l[0] (List.getElem?_eq_getElem (by omega))
  have key:∀ i:Nat,∃ e:E4,∀ x:NT_.den,l[i]? = some x → Has w g (off + i * 4) (cE e) ∧ e.1 = x.1 ∧ e.2.1 = x.2.1 ∧ ROc w S (.sl 155 (.pair .str (.pair .bool (.sl 3 (.int .i64))))) x.2.2.2 [.slice e.2.2.2.1 e.2.2.2.2.1 e.2.2.2.2.2] := by
   intro i
   cases hi:l[i]? with
   | none => exact ⟨e0,fun x hx => by cases hx⟩
   | some x =>
    obtain ⟨g',off',c,f1,f2,f3,f4,f5⟩ := h3 i x hi
    rw [e2] at f1
    injection f1 with f1
    injection f1 with f1 f1'
    subst f1
    subst f1'
    obtain ⟨c1,c2,r1,_,r2,c3,c4,r3,_,r4,c5,c6,r5,r6,r7,r8⟩ := f5
    obtain ⟨A5,cap5,s1,_⟩ := r7
    have r8' := r8
    obtain ⟨A6,cap6,s2,_⟩ := r8
    subst r1 r3 r5 s1 s2
    rw [show c1 = _ from r2,show c3 = _ from r4] at f4
    exact ⟨(x.1,x.2.1,(A5,x.2.2.1.length,cap5),(A6,x.2.2.2.length,cap6)),fun y hy => by cases hy; exact ⟨f4,rfl,rfl,r8'⟩⟩
  have hf := Classical.choice (α := { f:Nat → E4 // ∀ (i:Nat) (x:NT_.den),l[i]? = some x → Has w g (off + i * 4) (cE (f i)) ∧ (f i).1 = x.1 ∧ (f i).2.1 = x.2.1 ∧ ROc w S (.sl 155 (.pair .str (.pair .bool (.sl 3 (.int .i64))))) x.2.2.2 [.slice (f i).2.2.2.1 (f i).2.2.2.2.1 (f i).2.2.2.2.2] }) ⟨⟨fun i => (key i).choose,fun i => (key i).choose_spec⟩⟩
  obtain ⟨f,hf⟩ := hf
  have hget:∀ i,i < l.length → ((List.range l.length).map f)[i]? = some (f i) := fun i hi => by simp [hi]
  refine ⟨A,cap,(List.range l.length).map f,rfl,by simp,.inr ⟨g,off,cap,by rw [e2]; simp,hS g hg,fun j c hj => ?_⟩,fun i x hx => ?_⟩
  ·have hjl:j < l.length := by
    have := (List.getElem?_eq_some_iff.1 hj).1
    simpa using this
   rw [hget j hjl] at hj
   injection hj with hj
   subst hj
   exact (hf j l[j] (List.getElem?_eq_getElem hjl)).1
  ·have hi := (List.getElem?_eq_some_iff.1 hx).1
   exact ⟨f i,hget i hi,(hf i x hx).2⟩
end Go.Proofs.YtedhpmhlmdcpbaaGreatDoor.E
end
section
namespace Go.Proofs.YtedhpmhlmdcpbaaGreatDoor.E
open Go Go.RowKit Go.Shelf
attribute [local go_sem] Oper.semAt_some
def isOf (tx:Int) (e:E4):Bool := decide (e.2.1 = tx)&&!decide (e.1 = 4)
set_option maxRecDepth 100000 in
set_option maxHeartbeats 4000000 in
theorem of_in (F:Fence) (n:Nat) (h4:F.fn 52) (h6:F.fn 111) (h8:F.fn 147) (hro:F.round = none) (hn:3 ≤ n) (a:Option Addr) (len cap:Nat) (safe tx:Int) (cs:List E4) (hreach:cs.length ≤ 1048576) (w:World) (hI:Lies4 w.heap.size w (.slice a len cap) cs) :
  CallsIn F n Tryz.prog 52 #[.agg #[.slice a len cap,.int .i64 safe],.int .i64 tx] w fun e W' =>
   (e = .returned (.int .i64 0) ∧ (∀ j,j < cs.length → isOf tx (cs.getD j e0) = false) ∨ ∃ k,k < cs.length ∧ e = .returned (.int .i64 (cs.getD k e0).1) ∧ isOf tx (cs.getD k e0) = true ∧ ∀ j,k < j → j < cs.length → isOf tx (cs.getD j e0) = false) ∧ Below w.heap.size w W' := by
 have h1:1 ≤ n := by omega
 refine callsIn_of_wp_marks Tryz.func52 rfl h4 ?_ hro
 simp only [Tryz.ntmps52,List.size_toArray,List.length_cons,List.length_nil,Nat.reduceAdd,Nat.reduceSub,Array.replicate_succ,Array.replicate_zero,List.push_toArray,List.append_toArray,List.nil_append,List.cons_append]
 gi_wp2_with (gi_at_call 111; refine (bk_in F (n - 1) h6 hro _ _ _ _).mono ?_; rintro e w' ⟨rfl,rfl⟩)
 have hB0:Below w.heap.size w ((((w.alloc (.cells #[.slice a len cap,.int .i64 safe] 33)).alloc (.cells #[.int .i64 tx] 3)).alloc (.cells #[.int .i64 0] 3)).alloc (.cells #[.slice a len cap] 31)) :=
  ((((Below.refl _ w).alloc (Nat.le_refl _) _).alloc (by simp) _).alloc (by simp; omega) _).alloc (by simp; omega) _
 have b3 := ((Boxed.new (w.alloc (.cells #[.slice a len cap,.int .i64 safe] 33)) 3 (.int .i64 tx)).alloc (.cells #[.int .i64 0] 3)).alloc (.cells #[.slice a len cap] 31)
 have b4 := (Boxed.new ((w.alloc (.cells #[.slice a len cap,.int .i64 safe] 33)).alloc (.cells #[.int .i64 tx] 3)) 3 (.int .i64 0)).alloc (.cells #[.slice a len cap] 31)
 have bs := Boxed.new (((w.alloc (.cells #[.slice a len cap,.int .i64 safe] 33)).alloc (.cells #[.int .i64 tx] 3)).alloc (.cells #[.int .i64 0] 3)) 31 (.slice a len cap)
 simp only [World.size_alloc] at b3 b4 bs
 have hsz:((((w.alloc (.cells #[.slice a len cap,.int .i64 safe] 33)).alloc (.cells #[.int .i64 tx] 3)).alloc (.cells #[.int .i64 0] 3)).alloc (.cells #[.slice a len cap] 31)).heap.size = w.heap.size + 1 + 1 + 1 + 1 := by simp only [World.size_alloc]
 generalize hW0:((((w.alloc (.cells #[.slice a len cap,.int .i64 safe] 33)).alloc (.cells #[.int .i64 tx] 3)).alloc (.cells #[.int .i64 0] 3)).alloc (.cells #[.slice a len cap] 31)) = W0 at hB0 b3 b4 bs hsz ⊢
 have hI0:Lies4 (w.heap.size + 1 + 1 + 1 + 1) W0 (.slice a len cap) cs := by
  rcases hI.below hB0 with h | ⟨b,off,cap',e,hb,hc⟩
  ·exact .inl h
  ·exact .inr ⟨b,off,cap',e,by omega,hc⟩
 refine wpIn_rangeFunc_ownH hro h1 (gf := 147) (lb := #[.pointer (some ⟨w.heap.size + 1 + 1 + 1,0,none⟩)]) rfl h8 (enters_of Tryz.func147 (by kernel_rfl) rfl)
  (bk_stops F (n - 1) h8 hro (by omega) (w.heap.size + 1 + 1 + 1) (w.heap.size + 1 + 1 + 1 + 1) (.slice a len cap) cs hreach W0 (by omega) (by omega) bs.cell hI0) belowK_t (belowK_b (by omega)) (Below.refl _ _) (fun _ => rfl)
  (fun pre W => ((∀ p ∈ pre,isOf tx p.2 = false) ∧ W.cell? ⟨w.heap.size + 1,0,none⟩ = some (.int .i64 tx) ∧ W.cell? ⟨w.heap.size + 1 + 1,0,none⟩ = some (.int .i64 0) ∧ W.frozen? ⟨w.heap.size + 1 + 1,0,none⟩ = false ∧ w.heap.size + 1 + 1 + 1 + 1 ≤ W.heap.size) ∧ Below w.heap.size w W)
  (fun c pre W => (c = .ret ∧ ∃ ini last,pre = ini ++ [last] ∧ (∀ p ∈ ini,isOf tx p.2 = false) ∧ isOf tx last.2 = true ∧ W.cell? ⟨w.heap.size + 1 + 1,0,none⟩ = some (.int .i64 last.2.1)) ∧ Below w.heap.size w W)
  (OwnFrom.and (Own.from (fun s A B row hs hg hr => ⟨hs.1,cell_kept hs.2.1 hg hr,cell_kept hs.2.2.1 hg hr,(frozen_kept hs.2.2.1 hg hr).trans hs.2.2.2.1,Nat.le_trans hs.2.2.2.2 hg.size⟩) _) (ownFrom_below (Nat.le_refl _) (by omega)))
  (fun c => OwnFrom.and (Own.from (fun s A B row hs hg hr => by obtain ⟨hc,ini,last,e1,e2,e3,e4⟩ := hs; exact ⟨hc,ini,last,e1,e2,e3,cell_kept e4 hg hr⟩) _) (ownFrom_below (Nat.le_refl _) (by omega)))
  ⟨⟨by simp,b3.cell,b4.cell,b4.frozen,by omega⟩,hB0⟩
  (fun x a' W => ∃ Bx,w.heap.size + 1 + 1 + 1 + 1 ≤ Bx ∧ W.cell? ⟨Bx,0,none⟩ = some (.int .i64 x.2.1) ∧ W.cell? ⟨Bx,1,none⟩ = some (.int .i64 x.2.2.1) ∧
   a' = { tmps := #[.agg #[.slice a len cap,.int .i64 safe],.int .i64 tx,.pointer (some ⟨w.heap.size,0,none⟩),.pointer (some ⟨w.heap.size + 1,0,none⟩),.pointer (some ⟨w.heap.size + 1 + 1,0,none⟩),undef,.pointer (some ⟨Bx,0,none⟩),.pointer (some ⟨w.heap.size,0,none⟩),.slice a len cap,.func (.func 147) #[] #[.pointer (some ⟨w.heap.size + 1 + 1 + 1,0,none⟩)],.int .i64 (x.1:Int),.agg (cE x.2).toArray,undef,undef,undef,undef,undef,undef,undef,undef,undef,undef,undef],defers := [] })
  (fun x a' => Own.from (fun s A B row hs hg hr => by obtain ⟨Bx,e1,e2,e3,e4⟩ := hs; exact ⟨Bx,e1,cell_kept e2 hg hr,cell_kept e3 hg hr,e4⟩) _) ?assign ?body ?done ?stop
 case assign =>
  rintro l pre x W K ⟨⟨hp,h3,h4',h5,h9⟩,hB⟩ hK
  obtain ⟨i,z0,z1,v2,v3⟩ := x
  simp only [cE]
  gi_wp2
  exact hK _ _ ((KeepsOthers.alloc _ _).from _) ((Below.refl _ W).alloc h9 _) ⟨⟨hp,cellA _ h3,cellA _ h4',frozenA _ h4' h5,by simp; omega⟩,hB.alloc (by omega) _⟩
   ⟨W.heap.size,h9,cellN rfl,cellN rfl,rfl⟩
 case body =>
  rintro l pre x a' W hl hr ⟨⟨hp,h3,h4',h5,h9⟩,hB⟩ ⟨Bx,hBx,x0,x1,rfl⟩ hlt
  gi_wp2
  ·have e1:x.2.2.1 = tx := by assumption
   have e2:(x.2.1 != 4) = true := by assumption
   have e2:x.2.1 ≠ 4 := by simpa using e2
   exact ⟨(KeepsOthers.setCell _ _ _).from _,⟨rfl,pre,x,rfl,hp,by simp [isOf,e1,e2],World.cell?_setCell_same' _ _ _ (by rw [h4']; rfl)⟩,hB.setCell (p := ⟨w.heap.size + 1 + 1,0,none⟩) (by show _ ≤ w.heap.size + 1 + 1; omega) _⟩
  ·have e2:(x.2.1 != 4) = false := by assumption
   have e2:x.2.1 = 4 := by simpa using e2
   exact ⟨KeepsFrom.refl _ _,Below.refl _ _,⟨fun p hp' => (List.mem_append.1 hp').elim (hp p) (fun e => by simp at e; subst e; simp [isOf,e2]),h3,h4',h5,h9⟩,hB⟩
  ·have e1:¬ x.2.2.1 = tx := by assumption
   exact ⟨KeepsFrom.refl _ _,Below.refl _ _,⟨fun p hp' => (List.mem_append.1 hp').elim (hp p) (fun e => by simp at e; subst e; simp [isOf,e1]),h3,h4',h5,h9⟩,hB⟩
 case done =>
  rintro D ys W hD rfl ⟨⟨hne,h3,hcr,hfr,h9⟩,hB⟩ hK
  gi_wp2
  have hK' := (KeepsOthers.setCell W ⟨w.heap.size + 1 + 1,0,none⟩ (.int .i64 0)).same D _ hK rfl
  refine ⟨by simp,.inl ⟨_,_,rfl,run_takeDeferred hK',?_⟩⟩
  have hc5 := cell_kept (World.cell?_setCell_same' W ⟨w.heap.size + 1 + 1,0,none⟩ (.int .i64 0) (by rw [hcr]; rfl)) (grownBy_putObj' _ D (.deferred none)) (fun r e => by cases e; exact ⟨_,hK',rfl⟩)
  refine ⟨.int .i64 0,?_,.inl ⟨rfl,fun j hj => ?_⟩,(hB.setCell (p := ⟨w.heap.size + 1 + 1,0,none⟩) (by show _ ≤ w.heap.size + 1 + 1; omega) _).trans (belowK_b (w := w) (Nat.le_refl _) _ D _ _ (by omega) hK' rfl rfl)⟩
  ·simp [results,Tryz.f52,go_sem,hc5]
  ·have := hne (backF cs (cs.length - 1 - j)) (List.mem_map.2 ⟨_,List.mem_range.2 (by omega),rfl⟩)
   simp only [backF] at this
   rwa [show cs.length - 1 - (cs.length - 1 - j) = j by omega] at this
 case stop =>
  rintro D c pre W hD ⟨k,hk,rfl⟩ ⟨⟨rfl,ini,last,e1,e2,e3,hcr⟩,hB⟩ hK
  gi_wp2
  refine ⟨by simp,.inl ⟨_,_,rfl,run_takeDeferred hK,?_⟩⟩
  have hc5 := cell_kept hcr (grownBy_putObj' _ D (.deferred none)) (fun r e => by cases e; exact ⟨_,hK,rfl⟩)
  obtain ⟨k',rfl⟩:∃ k',k = k' + 1 := by
   cases k with
   | zero => simp at e1
   | succ k' => exact ⟨k',rfl⟩
  rw [List.range_succ,List.map_append] at e1
  obtain ⟨rfl,e5⟩ := List.append_inj' e1 rfl
  obtain rfl:backF cs k' = last := by simpa using e5
  refine ⟨.int .i64 (cs.getD (cs.length - 1 - k') e0).1,?_,.inr ⟨cs.length - 1 - k',by omega,rfl,e3,fun j hj hj2 => ?_⟩,hB.trans (belowK_b (w := w) (Nat.le_refl _) W D _ _ (by omega) hK rfl rfl)⟩
  ·simp [results,Tryz.f52,go_sem,hc5]
  ·have := e2 (backF cs (cs.length - 1 - j)) (List.mem_map.2 ⟨_,List.mem_range.2 (by omega),rfl⟩)
   simp only [backF] at this
   rwa [show cs.length - 1 - (cs.length - 1 - j) = j by omega] at this
end Go.Proofs.YtedhpmhlmdcpbaaGreatDoor.E
namespace Go.Proofs.YtedhpmhlmdcpbaaGreatDoor.E
open Go Go.RowKit
def msZ37:List PM := [.rd,.own]
def g_VZ37_0 (l:List (Int×Int×List ByteArray×List (ByteArray×Bool×List Int))) (tx:Int):Int := ((l.reverse.find? fun n => decide (n.2.1 = tx)&&!decide (n.1 = 4)).map (·.1)).getD 0
def g_AZ37 (l:List (Int×Int×List ByteArray×List (ByteArray×Bool×List Int))):Bool := decide (l.length ≤ 1048576)
def FZ37:FSem := fun ys => match ys with
 | [.val true [.sl .any 92 (.pair (.int .i64) (.pair (.int .i64) (.pair (.sl 9 .str) (.sl 155 (.pair .str (.pair .bool (.sl 3 (.int .i64)))))))) a0,.int .i64 a1],.val false [.int .i64 a2]] => some (g_AZ37 a0,.val false [.int .i64 (g_VZ37_0 a0 a2)],[])
 | _ => none
theorem sZ37:Sound Tryz.prog 52 msZ37 FZ37 := by
 refine ⟨⟨_,Tryz.func52,by kernel_rfl,by kernel_rfl⟩,fun w S ψ ys vs r outs hF hh hg => ?_⟩
 unfold FZ37 at hF
 split at hF
 ·rename_i l safe tx
  simp only [Option.some.injEq,Prod.mk.injEq,g_AZ37,decide_eq_true_eq] at hF
  obtain ⟨hlen,rfl,rfl⟩ := hF
  match vs,hg with
  | [v0,v1],hg =>
  obtain ⟨⟨us,⟨_,hb⟩,rfl,_⟩,⟨us1,⟨_,hb1⟩,rfl,_⟩,_⟩ := hg
  match us,hb,us1,hb1 with
  | [sv,iv],⟨⟨_,h1⟩,h2,_⟩,[tv],⟨h3,_⟩ =>
  have h2:iv = .int .i64 safe := h2
  have h3:tv = .int .i64 tx := h3
  subst h2 h3
  obtain ⟨A,cap,cs,rfl,hcl,hlies,hcs⟩ := notes_cells hh.lt h1
  have hof:∀ (j:Nat) (x:NT_.den),l[j]? = some x → isOf tx (cs.getD j e0) = (decide (x.2.1 = tx)&&!decide (x.1 = 4)) ∧ (cs.getD j e0).1 = x.1 := by
   intro j x hx
   obtain ⟨e,a1,a2,a3,_⟩ := hcs j x hx
   rw [List.getD,a1]
   simp only [Option.getD_some,isOf,a2,a3,and_self]
  refine Calls.mono ((callsIn_wide (n := 3)).1 (of_in Fence.wide 3 trivial trivial trivial rfl (by omega) A l.length cap safe tx cs (by omega) w hlies)) ?_
  rintro e w' ⟨he,hbl⟩
  have hval:e = .returned (.int .i64 (g_VZ37_0 l tx)) := by
   unfold g_VZ37_0
   rcases he with ⟨rfl,hno⟩ | ⟨k,hk,rfl,hk1,hk2⟩
   ·rw [List.find?_eq_none.2]
    ·rfl
    ·intro x hx
     obtain ⟨i,hi,rfl⟩ := List.getElem_of_mem (List.mem_reverse.1 hx)
     have := hno i (by omega)
     rw [(hof i _ (List.getElem?_eq_getElem hi)).1] at this
     simpa using this
   ·have hk':k < l.length := by omega
    have hx := List.getElem?_eq_getElem hk'
    rw [(hof k _ hx).1] at hk1
    rw [(hof k _ hx).2]
    have:l.reverse.find? (fun n => decide (n.2.1 = tx)&&!decide (n.1 = 4)) = some l[k] := by
     rw [List.find?_eq_some_iff_getElem]
     refine ⟨hk1,l.length - 1 - k,by simp; omega,?_,fun j hj => ?_⟩
     ·rw [List.getElem_reverse]
      congr 1
      omega
     ·rw [List.getElem_reverse]
      have := hk2 (l.length - 1 - j) (by omega) (by omega)
      rw [(hof _ _ (List.getElem?_eq_getElem (by omega))).1] at this
      simp only [this,Bool.not_false]
    rw [this]
    rfl
  subst hval
  refine ⟨S,fun _ _ _ => False,⟨hbl.os,hbl.tape,hbl.output,hbl.size,fun g hg' _ => ⟨hbl.block g hg',Iff.rfl,fun ⟨_,_,h⟩ => h⟩,⟨fun g hg' => Nat.lt_of_lt_of_le (hh.lt g hg') hbl.size,fun _ _ _ h => h.elim,fun _ _ _ _ _ h => h.elim⟩⟩,⟨[_],⟨rfl,rfl,trivial⟩,rfl,fun _ => rfl⟩,rfl⟩
 ·cases hF
end Go.Proofs.YtedhpmhlmdcpbaaGreatDoor.E
end
namespace Go.Proofs.YtedhpmhlmdcpbaaGreatDoor.E
open Go
set_option maxRecDepth 100000
set_option maxHeartbeats 0
noncomputable def Ei_OpOk_1:Env where
 tt := mkTI Tryz.prog
 fn := fun f => match f with
  | 75 => some (msi_in,FSem.wk msi_in Fi_in)
  | _ => none
 bxf := fun _ => none
 mv := []
 keep := fun _ => []
 keepB := fun _ => []
 keepX := fun _ => []
 keepXB := fun _ => []
theorem goodFi_OpOk_1:∀ f ms F,Ei_OpOk_1.fn f = some (ms,F) → Sound Tryz.prog f ms F := fun f ms F h => by
 unfold Ei_OpOk_1 at h
 dsimp only at h
 split at h
 ·exact gF si_in h
 ·cases h
theorem goodi_OpOk_1:Good Tryz.prog Ei_OpOk_1 := ⟨rfl,goodFi_OpOk_1,fun f ms F h => by cases h⟩
noncomputable def Oi_OpOk_1_0:Orc := fun _ _ => none
noncomputable def msi_OpOk_1:List PM := [.own]
noncomputable def lsi_OpOk_1:List (Nat×Code) := loopsAll 0 (Tryz.f115.body.getD .skip)
theorem ki_OpOk_1_0:OrcOk Ei_OpOk_1 Oi_OpOk_1_0 lsi_OpOk_1 0 := orcOk_none
noncomputable def g_Ai_OpOk_1 (a0:Int):Bool := g_Ai_in a0 (0:Int) (9:Int)
noncomputable def g_Vi_OpOk_1_0 (a0:Int):Bool := g_Vi_in_0 a0 (0:Int) (9:Int)
noncomputable def Fi_OpOk_1:FSem := fun ys => match ys with
 | [.val false [.int .i64 a0]] => some ((g_Ai_OpOk_1 a0),.val false [.bool (g_Vi_OpOk_1_0 a0)],[])
 | _ => none
theorem vi_OpOk_1 (a0:Int):collapseH .std Ei_OpOk_1 Oi_OpOk_1_0 (execFn Ei_OpOk_1 Tryz.f115 msi_OpOk_1 [.val false [.int .i64 a0]]) = some ((g_Ai_OpOk_1 a0),.val false [.bool (g_Vi_OpOk_1_0 a0)],[]) := by kernel_rfl
theorem si_OpOk_1:Sound Tryz.prog 115 msi_OpOk_1 Fi_OpOk_1 := by
 refine fn_gen goodi_OpOk_1 (by kernel_rfl) .std (fn := Tryz.f115) (c := (Tryz.f115.body.getD .skip)) (o := Oi_OpOk_1_0) (k := 0) (by kernel_rfl) (by kernel_rfl) (by kernel_rfl) (by kernel_rfl) (by decide) ki_OpOk_1_0 ?_
 intro ys r outs h
 unfold Fi_OpOk_1 at h
 split at h
 ·exact (vi_OpOk_1 _).trans h
 ·cases h
noncomputable def Ei_OpOk_2:Env where
 tt := mkTI Tryz.prog
 fn := fun f => match f with
  | 75 => some (msi_in,FSem.wk msi_in Fi_in)
  | _ => none
 bxf := fun _ => none
 mv := []
 keep := fun _ => []
 keepB := fun _ => []
 keepX := fun _ => []
 keepXB := fun _ => []
theorem goodFi_OpOk_2:∀ f ms F,Ei_OpOk_2.fn f = some (ms,F) → Sound Tryz.prog f ms F := fun f ms F h => by
 unfold Ei_OpOk_2 at h
 dsimp only at h
 split at h
 ·exact gF si_in h
 ·cases h
theorem goodi_OpOk_2:Good Tryz.prog Ei_OpOk_2 := ⟨rfl,goodFi_OpOk_2,fun f ms F h => by cases h⟩
noncomputable def Oi_OpOk_2_0:Orc := fun _ _ => none
noncomputable def msi_OpOk_2:List PM := [.own]
noncomputable def lsi_OpOk_2:List (Nat×Code) := loopsAll 0 (Tryz.f116.body.getD .skip)
theorem ki_OpOk_2_0:OrcOk Ei_OpOk_2 Oi_OpOk_2_0 lsi_OpOk_2 0 := orcOk_none
noncomputable def g_Ai_OpOk_2 (a0:Int):Bool := g_Ai_in a0 (0:Int) (99:Int)
noncomputable def g_Vi_OpOk_2_0 (a0:Int):Bool := g_Vi_in_0 a0 (0:Int) (99:Int)
noncomputable def Fi_OpOk_2:FSem := fun ys => match ys with
 | [.val false [.int .i64 a0]] => some ((g_Ai_OpOk_2 a0),.val false [.bool (g_Vi_OpOk_2_0 a0)],[])
 | _ => none
theorem vi_OpOk_2 (a0:Int):collapseH .std Ei_OpOk_2 Oi_OpOk_2_0 (execFn Ei_OpOk_2 Tryz.f116 msi_OpOk_2 [.val false [.int .i64 a0]]) = some ((g_Ai_OpOk_2 a0),.val false [.bool (g_Vi_OpOk_2_0 a0)],[]) := by kernel_rfl
theorem si_OpOk_2:Sound Tryz.prog 116 msi_OpOk_2 Fi_OpOk_2 := by
 refine fn_gen goodi_OpOk_2 (by kernel_rfl) .std (fn := Tryz.f116) (c := (Tryz.f116.body.getD .skip)) (o := Oi_OpOk_2_0) (k := 0) (by kernel_rfl) (by kernel_rfl) (by kernel_rfl) (by kernel_rfl) (by decide) ki_OpOk_2_0 ?_
 intro ys r outs h
 unfold Fi_OpOk_2 at h
 split at h
 ·exact (vi_OpOk_2 _).trans h
 ·cases h
noncomputable def Ei_OpOk:Env where
 tt := mkTI Tryz.prog
 fn := fun f => match f with
  | 115 => some (msi_OpOk_1,FSem.wk msi_OpOk_1 Fi_OpOk_1)
  | 116 => some (msi_OpOk_2,FSem.wk msi_OpOk_2 Fi_OpOk_2)
  | _ => none
 bxf := fun _ => none
 mv := []
 keep := fun _ => []
 keepB := fun _ => []
 keepX := fun _ => []
 keepXB := fun _ => []
theorem goodFi_OpOk:∀ f ms F,Ei_OpOk.fn f = some (ms,F) → Sound Tryz.prog f ms F := fun f ms F h => by
 unfold Ei_OpOk at h
 dsimp only at h
 split at h
 ·exact gF si_OpOk_1 h
 ·exact gF si_OpOk_2 h
 ·cases h
theorem goodi_OpOk:Good Tryz.prog Ei_OpOk := ⟨rfl,goodFi_OpOk,fun f ms F h => by cases h⟩
noncomputable def Oi_OpOk_0:Orc := fun _ _ => none
noncomputable def msi_OpOk:List PM := [.own]
noncomputable def lsi_OpOk:List (Nat×Code) := loopsAll 0 (Tryz.f58.body.getD .skip)
theorem ki_OpOk_0:OrcOk Ei_OpOk Oi_OpOk_0 lsi_OpOk 0 := orcOk_none
noncomputable def g_Ai_OpOk (a0:Int) (a1:Int) (a2:Int) (a3:Int) (a4:Int) (a5:Int) (a6:Int):Bool := g_Ai_OpOk_1 a1&&(!g_Vi_OpOk_1_0 a1 || g_Ai_OpOk_1 a2&&(!g_Vi_OpOk_1_0 a2 || g_Ai_OpOk_1 a3&&(!g_Vi_OpOk_1_0 a3 || g_Ai_OpOk_1 a5&&(!g_Vi_OpOk_1_0 a5 || g_Ai_OpOk_2 a4&&(!g_Vi_OpOk_2_0 a4 || g_Ai_OpOk_2 a6&&(!g_Vi_OpOk_2_0 a6 || bif a0 == 1 then a0 == 1 || (a0 == 2 || (a0 == 3 || true)) else a0 == 5 || (a0 == 2 || (a0 == 3 || true))))))))
noncomputable def g_Vi_OpOk_0 (a0:Int) (a1:Int) (a2:Int) (a3:Int) (a4:Int) (a5:Int) (a6:Int):Bool := bif !g_Vi_OpOk_1_0 a1 then false else bif !g_Vi_OpOk_1_0 a2 then false else bif !g_Vi_OpOk_1_0 a3 then false else bif !g_Vi_OpOk_1_0 a5 then false else bif !g_Vi_OpOk_2_0 a4 then false else bif !g_Vi_OpOk_2_0 a6 then false else bif a0 == 1 then bif a0 == 1 then a0 == a0&&(a1 == a1&&(a2 == a2&&(a3 == 0&&(a4 == 0&&(a5 == 0&&(a6 == 0&&true)))))) else bif a0 == 2 then a0 == a0&&(a1 == a1&&(a2 == a2&&(a3 == a3&&(a4 == a4&&(a5 == 0&&(a6 == 0&&true)))))) else bif a0 == 3 then a0 == a0&&(a1 == 0&&(a2 == 0&&(a3 == a3&&(a4 == a4&&(a5 == a5&&(a6 == 0&&true)))))) else bif a0 == 4 then a0 == a0&&(a1 == 0&&(a2 == 0&&(a3 == 0&&(a4 == 0&&(a5 == a5&&(a6 == a6&&true)))))) else false else bif a0 == 5 then a0 == a0&&(a1 == a1&&(a2 == a2&&(a3 == 0&&(a4 == 0&&(a5 == 0&&(a6 == 0&&true)))))) else bif a0 == 2 then a0 == a0&&(a1 == a1&&(a2 == a2&&(a3 == a3&&(a4 == a4&&(a5 == 0&&(a6 == 0&&true)))))) else bif a0 == 3 then a0 == a0&&(a1 == 0&&(a2 == 0&&(a3 == a3&&(a4 == a4&&(a5 == a5&&(a6 == 0&&true)))))) else bif a0 == 4 then a0 == a0&&(a1 == 0&&(a2 == 0&&(a3 == 0&&(a4 == 0&&(a5 == a5&&(a6 == a6&&true)))))) else false
noncomputable def Fi_OpOk:FSem := fun ys => match ys with
 | [.val true [.int .i64 a0,.int .i64 a1,.int .i64 a2,.int .i64 a3,.int .i64 a4,.int .i64 a5,.int .i64 a6]] => some ((g_Ai_OpOk a0 a1 a2 a3 a4 a5 a6),.val false [.bool (g_Vi_OpOk_0 a0 a1 a2 a3 a4 a5 a6)],[])
 | _ => none
theorem vi_OpOk (a0:Int) (a1:Int) (a2:Int) (a3:Int) (a4:Int) (a5:Int) (a6:Int):collapseH .std Ei_OpOk Oi_OpOk_0 (execFn Ei_OpOk Tryz.f58 msi_OpOk [.val true [.int .i64 a0,.int .i64 a1,.int .i64 a2,.int .i64 a3,.int .i64 a4,.int .i64 a5,.int .i64 a6]]) = some ((g_Ai_OpOk a0 a1 a2 a3 a4 a5 a6),.val false [.bool (g_Vi_OpOk_0 a0 a1 a2 a3 a4 a5 a6)],[]) := by kernel_rfl
theorem si_OpOk:Sound Tryz.prog 58 msi_OpOk Fi_OpOk := by
 refine fn_gen goodi_OpOk (by kernel_rfl) .std (fn := Tryz.f58) (c := (Tryz.f58.body.getD .skip)) (o := Oi_OpOk_0) (k := 0) (by kernel_rfl) (by kernel_rfl) (by kernel_rfl) (by kernel_rfl) (by decide) ki_OpOk_0 ?_
 intro ys r outs h
 unfold Fi_OpOk at h
 split at h
 ·exact (vi_OpOk _ _ _ _ _ _ _).trans h
 ·cases h
noncomputable def EZ50:Env where
 tt := mkTI Tryz.prog
 fn := fun f => match f with
  | 75 => some (msi_in,FSem.wk msi_in Fi_in)
  | _ => none
 bxf := fun _ => none
 mv := []
 keep := fun _ => []
 keepB := fun _ => []
 keepX := fun _ => []
 keepXB := fun _ => []
theorem goodFZ50:∀ f ms F,EZ50.fn f = some (ms,F) → Sound Tryz.prog f ms F := fun f ms F h => by
 unfold EZ50 at h
 dsimp only at h
 split at h
 ·exact gF si_in h
 ·cases h
theorem goodZ50:Good Tryz.prog EZ50 := ⟨rfl,goodFZ50,fun f ms F h => by cases h⟩
noncomputable def OZ50_0:Orc := fun _ _ => none
noncomputable def msZ50:List PM := [.own]
noncomputable def lsZ50:List (Nat×Code) := loopsAll 0 (Tryz.f126.body.getD .skip)
theorem kZ50_0:OrcOk EZ50 OZ50_0 lsZ50 0 := orcOk_none
noncomputable def g_AZ50 (a0:Int):Bool := g_Ai_in a0 (1:Int) (3:Int)
noncomputable def g_VZ50_0 (a0:Int):Bool := g_Vi_in_0 a0 (1:Int) (3:Int)
noncomputable def FZ50:FSem := fun ys => match ys with
 | [.val false [.int .i64 a0]] => some ((g_AZ50 a0),.val false [.bool (g_VZ50_0 a0)],[])
 | _ => none
theorem vZ50 (a0:Int):collapseH .std EZ50 OZ50_0 (execFn EZ50 Tryz.f126 msZ50 [.val false [.int .i64 a0]]) = some ((g_AZ50 a0),.val false [.bool (g_VZ50_0 a0)],[]) := by kernel_rfl
theorem sZ50:Sound Tryz.prog 126 msZ50 FZ50 := by
 refine fn_gen goodZ50 (by kernel_rfl) .std (fn := Tryz.f126) (c := (Tryz.f126.body.getD .skip)) (o := OZ50_0) (k := 0) (by kernel_rfl) (by kernel_rfl) (by kernel_rfl) (by kernel_rfl) (by decide) kZ50_0 ?_
 intro ys r outs h
 unfold FZ50 at h
 split at h
 ·exact (vZ50 _).trans h
 ·cases h
noncomputable def EZ38:Env where
 tt := mkTI Tryz.prog
 fn := fun f => match f with
  | 126 => some (msZ50,FSem.wk msZ50 FZ50)
  | _ => none
 bxf := fun _ => none
 mv := []
 keep := fun b => match b with
  | 0 => [(0,false),(5,false),(6,false),(7,false)]
  | _ => []
 keepB := fun b => match b with
  | 0 => []
  | _ => []
 keepX := fun b => match b with
  | 0 => [(2,false)]
  | _ => []
 keepXB := fun b => match b with
  | 0 => []
  | _ => []
theorem goodFZ38:∀ f ms F,EZ38.fn f = some (ms,F) → Sound Tryz.prog f ms F := fun f ms F h => by
 unfold EZ38 at h
 dsimp only at h
 split at h
 ·exact gF sZ50 h
 ·cases h
theorem goodZ38:Good Tryz.prog EZ38 := ⟨rfl,goodFZ38,fun f ms F h => by cases h⟩
noncomputable def OZ38_0:Orc := fun _ _ => none
noncomputable def msZ38:List PM := [.rd]
noncomputable def lsZ38:List (Nat×Code) := loopsAll 0 (Tryz.f97.body.getD .skip)
noncomputable def cZ38_0:Code := (loopOf 0 (Tryz.f97.body.getD .skip)).getD .skip
theorem lseqZ38:lsZ38 = [(0,cZ38_0)] := by kernel_rfl
theorem mZ38_0:∀ p,p ∈ lsZ38 → p.1 = 0 → p.2 = cZ38_0 := by
 intro p hp
 rw [lseqZ38] at hp
 simp only [List.mem_cons,List.not_mem_nil,or_false] at hp
 subst hp; simp
theorem kZ38_0:OrcOk EZ38 OZ38_0 lsZ38 0 := orcOk_none
noncomputable def hZ38_0 (y0:List Int) (y1:List Int) (y2:Int) (y3:Int):List (Pl×LV) := [(.T 0,.t (.val false [.sl .any 3 (.int .i64) y0])),(.T 5,.t (.val false [.sl .any 3 (.int .i64) y1])),(.T 6,.t (.val false [.int .i64 y2])),(.T 7,.t (.val false [.int .i64 y3]))]
noncomputable def g_SZ38_0 (y0:List Int) (y1:List Int) (y2:Int):(Int) → RT (Int) ((Bool) ⊕ (Unit))
 | y3 => .br (true) (.br (decide (y3 < y2)) (.br (decide (0 ≤ y3 ∧ y3 < (y1.length:Int))) (.br (g_AZ50 (at_ (.int .i64) y1 (Int.toNat y3))) (.br (!g_VZ50_0 (at_ (.int .i64) y1 (Int.toNat y3))) (.out (.inl false)) (.br (true) (.br (decide (y3 > 0)) (.br (true) (.br (decide (0 ≤ IntKind.i64.wrap (y3 - 1) ∧ IntKind.i64.wrap (y3 - 1) < (y0.length:Int))) (.br (true) (.br (decide (at_ (.int .i64) y1 (Int.toNat y3) ≤ at_ (.int .i64) y0 (Int.toNat (IntKind.i64.wrap (y3 - 1))))) (.out (.inl false)) (.br (true) (.go (IntKind.i64.wrap (y3 + 1))) .bad)) .bad) .bad) .bad) (.br (true) (.go (IntKind.i64.wrap (y3 + 1))) .bad)) .bad)) .bad) .bad) (.out (.inr (())))) .bad
noncomputable def g_LZ38_0 (y0:List Int) (y1:List Int) (y2:Int) (x:Int):Option ((Bool) ⊕ (Unit)) := loopO (g_SZ38_0 y0 y1 y2) x
noncomputable def xZ38_0 (y0:List Int) (y1:List Int) (y2:Int):((Bool) ⊕ (Unit)) → Ex×List (Pl×LV) := fun
 | .inl r => (.ret,[(.T 2,.t (.val false [.bool r]))])
 | .inr (r) => (.exit 0,[(.T 2,.t (.val false [.undef]))])
noncomputable def OZ38_1:Orc := fun b h => match b,h with
 | 0,[(.T 0,.t (.val false [.sl .any 3 (.int .i64) y0])),(.T 5,.t (.val false [.sl .any 3 (.int .i64) y1])),(.T 6,.t (.val false [.int .i64 y2])),(.T 7,.t (.val false [.int .i64 y3]))] => some (okO (g_LZ38_0 y0 y1 y2 y3),(.br (isL (valO (g_LZ38_0 y0 y1 y2 y3))) (.leaf .ret [(.T 2,.t (.val false [.bool (getL (valO (g_LZ38_0 y0 y1 y2 y3)))]))]) (.leaf (.exit 0) [(.T 2,.t (.val false [.undef]))])))
 | b,h => OZ38_0 b h
theorem bZ38_0 (y0:List Int) (y1:List Int) (y2:Int) (y3:Int):Tr.bt EZ38 OZ38_0 (exec EZ38 0 cZ38_0 (St.of (hZ38_0 y0 y1 y2 y3)) (leafRd EZ38 0)) = (g_SZ38_0 y0 y1 y2 y3).bt (fun (y3:Int) => (hZ38_0 y0 y1 y2 y3)) (xZ38_0 y0 y1 y2) := by kernel_rfl
theorem kZ38_1:OrcOk EZ38 OZ38_1 lsZ38 1 := orc_add kZ38_0 (fun n p hp h ex h' ho => by
 obtain ⟨b,c⟩ := p
 obtain ⟨xt,h1,h2⟩ := ho
 have h1:OZ38_1 b h = some (true,xt) := h1
 unfold OZ38_1 at h1
 split at h1
 ·injection h1 with h1
  injection h1 with e1 e2
  subst e2
  have hc:c = cZ38_0 := mZ38_0 _ hp rfl
  subst hc
  right
  rename_i y0 y1 y2 y3
  have key := LT_step kZ38_0 hp (fun q hq => loopsAll_in _ _ _ _ hp hq) (fun (y3:Int) => (hZ38_0 y0 y1 y2 y3)) (xZ38_0 y0 y1 y2) (g_SZ38_0 y0 y1 y2) (fun x => by first | exact bZ38_0 y0 y1 y2 x) n (x := y3) (okO_some e1)
  have hx:∀ r,XT.sel (.br (isL r) (.leaf .ret [(.T 2,.t (.val false [.bool (getL r)]))]) (.leaf (.exit 0) [(.T 2,.t (.val false [.undef]))])) = xZ38_0 y0 y1 y2 r := fun r => by first | rfl | rcases r with r | r <;> rfl | rcases r with r | r | r <;> rfl | rcases r with r | r | r | r <;> rfl
  have h3 := (hx (valO (g_LZ38_0 y0 y1 y2 y3))).symm.trans h2
  have e3 := congrArg Prod.fst h3
  have e4 := congrArg Prod.snd h3
  simp only at e3 e4
  rw [← e3,← e4]
  exact key
 ·exact .inl ⟨xt,h1,h2⟩)
noncomputable def g_AZ38 (a0:List Int):Bool := okO (g_LZ38_0 a0 a0 (a0.length:Int) (0:Int))
noncomputable def g_VZ38_0 (a0:List Int):Bool := bif isL (valO (g_LZ38_0 a0 a0 (a0.length:Int) (0:Int))) then getL (valO (g_LZ38_0 a0 a0 (a0.length:Int) (0:Int))) else true
noncomputable def FZ38:FSem := fun ys => match ys with
 | [.val false [.sl .any 3 (.int .i64) a0]] => some ((g_AZ38 a0),.val false [.bool (g_VZ38_0 a0)],[])
 | _ => none
theorem vZ38 (a0:List Int):collapseH .std EZ38 OZ38_1 (execFn EZ38 Tryz.f97 msZ38 [.val false [.sl .any 3 (.int .i64) a0]]) = some ((g_AZ38 a0),.val false [.bool (g_VZ38_0 a0)],[]) := by kernel_rfl
theorem sZ38:Sound Tryz.prog 97 msZ38 FZ38 := by
 refine fn_gen goodZ38 (by kernel_rfl) .std (fn := Tryz.f97) (c := (Tryz.f97.body.getD .skip)) (o := OZ38_1) (k := 1) (by kernel_rfl) (by kernel_rfl) (by kernel_rfl) (by kernel_rfl) (by decide) kZ38_1 ?_
 intro ys r outs h
 unfold FZ38 at h
 split at h
 ·exact (vZ38 _).trans h
 ·cases h
noncomputable def Ei_FroOk_1:Env where
 tt := mkTI Tryz.prog
 fn := fun _ => none
 bxf := fun _ => none
 mv := []
 keep := fun _ => []
 keepB := fun _ => []
 keepX := fun _ => []
 keepXB := fun _ => []
theorem goodFi_FroOk_1:∀ f ms F,Ei_FroOk_1.fn f = some (ms,F) → Sound Tryz.prog f ms F := fun f ms F h => by cases h
theorem goodi_FroOk_1:Good Tryz.prog Ei_FroOk_1 := ⟨rfl,goodFi_FroOk_1,fun f ms F h => by cases h⟩
noncomputable def Oi_FroOk_1_0:Orc := fun _ _ => none
noncomputable def msi_FroOk_1:List PM := [.rd]
noncomputable def lsi_FroOk_1:List (Nat×Code) := loopsAll 0 (Tryz.f95.body.getD .skip)
theorem ki_FroOk_1_0:OrcOk Ei_FroOk_1 Oi_FroOk_1_0 lsi_FroOk_1 0 := orcOk_none
noncomputable def g_Ai_FroOk_1 (a0:Int) (a1:Int) (a2:List ByteArray) (a3:tL2):Bool := !a0 != 2 || true
noncomputable def g_Vi_FroOk_1_0 (a0:Int) (a1:Int) (a2:List ByteArray) (a3:tL2):Bool := bif a0 != 2 then a0 != 4 else false
noncomputable def Fi_FroOk_1:FSem := fun ys => match ys with
 | [.val true [.int .i64 a0,.int .i64 a1,.sl .any 9 .str a2,.sl .any 155 (.pair .str (.pair .bool (.sl 3 (.int .i64)))) a3]] => some ((g_Ai_FroOk_1 a0 a1 a2 a3),.val false [.bool (g_Vi_FroOk_1_0 a0 a1 a2 a3)],[])
 | _ => none
theorem vi_FroOk_1 (a0:Int) (a1:Int) (a2:List ByteArray) (a3:tL2):collapseH .std Ei_FroOk_1 Oi_FroOk_1_0 (execFn Ei_FroOk_1 Tryz.f95 msi_FroOk_1 [.val true [.int .i64 a0,.int .i64 a1,.sl .any 9 .str a2,.sl .any 155 (.pair .str (.pair .bool (.sl 3 (.int .i64)))) a3]]) = some ((g_Ai_FroOk_1 a0 a1 a2 a3),.val false [.bool (g_Vi_FroOk_1_0 a0 a1 a2 a3)],[]) := by kernel_rfl
theorem si_FroOk_1:Sound Tryz.prog 95 msi_FroOk_1 Fi_FroOk_1 := by
 refine fn_gen goodi_FroOk_1 (by kernel_rfl) .std (fn := Tryz.f95) (c := (Tryz.f95.body.getD .skip)) (o := Oi_FroOk_1_0) (k := 0) (by kernel_rfl) (by kernel_rfl) (by kernel_rfl) (by kernel_rfl) (by decide) ki_FroOk_1_0 ?_
 intro ys r outs h
 unfold Fi_FroOk_1 at h
 split at h
 ·exact (vi_FroOk_1 _ _ _ _).trans h
 ·cases h
noncomputable def EZ7:Env where
 tt := mkTI Tryz.prog
 fn := fun f => match f with
  | 95 => some (msi_FroOk_1,FSem.wk msi_FroOk_1 Fi_FroOk_1)
  | _ => none
 bxf := fun _ => none
 mv := []
 keep := fun b => match b with
  | 0 => [(0,false),(1,false),(7,false),(8,false)]
  | _ => []
 keepB := fun b => match b with
  | 0 => []
  | _ => []
 keepX := fun b => match b with
  | 0 => [(4,false)]
  | _ => []
 keepXB := fun b => match b with
  | 0 => []
  | _ => []
theorem goodFZ7:∀ f ms F,EZ7.fn f = some (ms,F) → Sound Tryz.prog f ms F := fun f ms F h => by
 unfold EZ7 at h
 dsimp only at h
 split at h
 ·exact gF si_FroOk_1 h
 ·cases h
theorem goodZ7:Good Tryz.prog EZ7 := ⟨rfl,goodFZ7,fun f ms F h => by cases h⟩
noncomputable def OZ7_0:Orc := fun _ _ => none
noncomputable def msZ7:List PM := [.rd,.rd]
noncomputable def lsZ7:List (Nat×Code) := loopsAll 0 (Tryz.f110.body.getD .skip)
noncomputable def cZ7_0:Code := (loopOf 0 (Tryz.f110.body.getD .skip)).getD .skip
theorem lseqZ7:lsZ7 = [(0,cZ7_0)] := by kernel_rfl
theorem mZ7_0:∀ p,p ∈ lsZ7 → p.1 = 0 → p.2 = cZ7_0 := by
 intro p hp
 rw [lseqZ7] at hp
 simp only [List.mem_cons,List.not_mem_nil,or_false] at hp
 subst hp; simp
theorem kZ7_0:OrcOk EZ7 OZ7_0 lsZ7 0 := orcOk_none
noncomputable def hZ7_0 (y0:tL0) (y1:Int) (y2:Int):List (Pl×LV) := [(.T 0,.t (.val false [.sl .any 92 (.pair (.int .i64) (.pair (.int .i64) (.pair (.sl 9 .str) (.sl 155 (.pair .str (.pair .bool (.sl 3 (.int .i64)))))))) y0])),(.T 1,.t (.val false [.fn 95 []])),(.T 7,.t (.val false [.int .i64 y1])),(.T 8,.t (.val false [.int .i64 y2]))]
noncomputable def g_SZ7_0 (y0:tL0) (y1:Int):(Int) → RT (Int) ((Int) ⊕ (Unit))
 | y2 => .br (true) (.br (decide (y2 < y1)) (.br (decide (0 ≤ y2 ∧ y2 < (y0.length:Int))) (.br (g_Ai_FroOk_1 (at_ yT1 y0 (Int.toNat y2)).1 (at_ yT1 y0 (Int.toNat y2)).2.1 (at_ yT1 y0 (Int.toNat y2)).2.2.1 (at_ yT1 y0 (Int.toNat y2)).2.2.2) (.br (g_Vi_FroOk_1_0 (at_ yT1 y0 (Int.toNat y2)).1 (at_ yT1 y0 (Int.toNat y2)).2.1 (at_ yT1 y0 (Int.toNat y2)).2.2.1 (at_ yT1 y0 (Int.toNat y2)).2.2.2) (.out (.inl y2)) (.br (true) (.go (IntKind.i64.wrap (y2 + 1))) .bad)) .bad) .bad) (.out (.inr (())))) .bad
noncomputable def g_LZ7_0 (y0:tL0) (y1:Int) (x:Int):Option ((Int) ⊕ (Unit)) := loopO (g_SZ7_0 y0 y1) x
noncomputable def xZ7_0 (y0:tL0) (y1:Int):((Int) ⊕ (Unit)) → Ex×List (Pl×LV) := fun
 | .inl r => (.ret,[(.T 4,.t (.val false [.int .i64 r]))])
 | .inr (r) => (.exit 0,[(.T 4,.t (.val false [.undef]))])
noncomputable def OZ7_1:Orc := fun b h => match b,h with
 | 0,[(.T 0,.t (.val false [.sl .any 92 (.pair (.int .i64) (.pair (.int .i64) (.pair (.sl 9 .str) (.sl 155 (.pair .str (.pair .bool (.sl 3 (.int .i64)))))))) y0])),(.T 1,.t (.val false [.fn 95 []])),(.T 7,.t (.val false [.int .i64 y1])),(.T 8,.t (.val false [.int .i64 y2]))] => some (okO (g_LZ7_0 y0 y1 y2),(.br (isL (valO (g_LZ7_0 y0 y1 y2))) (.leaf .ret [(.T 4,.t (.val false [.int .i64 (getL (valO (g_LZ7_0 y0 y1 y2)))]))]) (.leaf (.exit 0) [(.T 4,.t (.val false [.undef]))])))
 | b,h => OZ7_0 b h
theorem bZ7_0 (y0:tL0) (y1:Int) (y2:Int):Tr.bt EZ7 OZ7_0 (exec EZ7 0 cZ7_0 (St.of (hZ7_0 y0 y1 y2)) (leafRd EZ7 0)) = (g_SZ7_0 y0 y1 y2).bt (fun (y2:Int) => (hZ7_0 y0 y1 y2)) (xZ7_0 y0 y1) := by kernel_rfl
theorem kZ7_1:OrcOk EZ7 OZ7_1 lsZ7 1 := orc_add kZ7_0 (fun n p hp h ex h' ho => by
 obtain ⟨b,c⟩ := p
 obtain ⟨xt,h1,h2⟩ := ho
 have h1:OZ7_1 b h = some (true,xt) := h1
 unfold OZ7_1 at h1
 split at h1
 ·injection h1 with h1
  injection h1 with e1 e2
  subst e2
  have hc:c = cZ7_0 := mZ7_0 _ hp rfl
  subst hc
  right
  rename_i y0 y1 y2
  have key := LT_step kZ7_0 hp (fun q hq => loopsAll_in _ _ _ _ hp hq) (fun (y2:Int) => (hZ7_0 y0 y1 y2)) (xZ7_0 y0 y1) (g_SZ7_0 y0 y1) (fun x => by first | exact bZ7_0 y0 y1 x) n (x := y2) (okO_some e1)
  have hx:∀ r,XT.sel (.br (isL r) (.leaf .ret [(.T 4,.t (.val false [.int .i64 (getL r)]))]) (.leaf (.exit 0) [(.T 4,.t (.val false [.undef]))])) = xZ7_0 y0 y1 r := fun r => by first | rfl | rcases r with r | r <;> rfl | rcases r with r | r | r <;> rfl | rcases r with r | r | r | r <;> rfl
  have h3 := (hx (valO (g_LZ7_0 y0 y1 y2))).symm.trans h2
  have e3 := congrArg Prod.fst h3
  have e4 := congrArg Prod.snd h3
  simp only at e3 e4
  rw [← e3,← e4]
  exact key
 ·exact .inl ⟨xt,h1,h2⟩)
noncomputable def g_AZ7 (a0:tL0):Bool := okO (g_LZ7_0 a0 (a0.length:Int) (0:Int))
noncomputable def g_VZ7_0 (a0:tL0):Int := bif isL (valO (g_LZ7_0 a0 (a0.length:Int) (0:Int))) then getL (valO (g_LZ7_0 a0 (a0.length:Int) (0:Int))) else (-1:Int)
noncomputable def FZ7:FSem := fun ys => match ys with
 | [.val false [.sl .any 92 (.pair (.int .i64) (.pair (.int .i64) (.pair (.sl 9 .str) (.sl 155 (.pair .str (.pair .bool (.sl 3 (.int .i64)))))))) a0],.val false [.fn 95 []]] => some ((g_AZ7 a0),.val false [.int .i64 (g_VZ7_0 a0)],[])
 | _ => none
theorem vZ7 (a0:tL0):collapseH .std EZ7 OZ7_1 (execFn EZ7 Tryz.f110 msZ7 [.val false [.sl .any 92 (.pair (.int .i64) (.pair (.int .i64) (.pair (.sl 9 .str) (.sl 155 (.pair .str (.pair .bool (.sl 3 (.int .i64)))))))) a0],.val false [.fn 95 []]]) = some ((g_AZ7 a0),.val false [.int .i64 (g_VZ7_0 a0)],[]) := by kernel_rfl
theorem sZ7:Sound Tryz.prog 110 msZ7 FZ7 := by
 refine fn_gen goodZ7 (by kernel_rfl) .std (fn := Tryz.f110) (c := (Tryz.f110.body.getD .skip)) (o := OZ7_1) (k := 1) (by kernel_rfl) (by kernel_rfl) (by kernel_rfl) (by kernel_rfl) (by decide) kZ7_1 ?_
 intro ys r outs h
 unfold FZ7 at h
 split at h
 ·exact (vZ7 _).trans h
 ·cases h
noncomputable def EZ4:Env where
 tt := mkTI Tryz.prog
 fn := fun f => match f with
  | 95 => some (msi_FroOk_1,FSem.wk msi_FroOk_1 Fi_FroOk_1)
  | 110 => some (msZ7,FSem.wk msZ7 FZ7)
  | _ => none
 bxf := fun _ => none
 mv := []
 keep := fun _ => []
 keepB := fun _ => []
 keepX := fun _ => []
 keepXB := fun _ => []
theorem goodFZ4:∀ f ms F,EZ4.fn f = some (ms,F) → Sound Tryz.prog f ms F := fun f ms F h => by
 unfold EZ4 at h
 dsimp only at h
 split at h
 ·exact gF si_FroOk_1 h
 ·exact gF sZ7 h
 ·cases h
theorem goodZ4:Good Tryz.prog EZ4 := ⟨rfl,goodFZ4,fun f ms F h => by cases h⟩
noncomputable def OZ4_0:Orc := fun _ _ => none
noncomputable def msZ4:List PM := [.rd,.rd]
noncomputable def lsZ4:List (Nat×Code) := loopsAll 0 (Tryz.f50.body.getD .skip)
theorem kZ4_0:OrcOk EZ4 OZ4_0 lsZ4 0 := orcOk_none
noncomputable def g_AZ4 (a0:tL0):Bool := g_AZ7 a0&&true
noncomputable def g_VZ4_0 (a0:tL0):Bool := decide (g_VZ7_0 a0 ≥ 0)
noncomputable def FZ4:FSem := fun ys => match ys with
 | [.val false [.sl .any 92 (.pair (.int .i64) (.pair (.int .i64) (.pair (.sl 9 .str) (.sl 155 (.pair .str (.pair .bool (.sl 3 (.int .i64)))))))) a0],.val false [.fn 95 []]] => some ((g_AZ4 a0),.val false [.bool (g_VZ4_0 a0)],[])
 | _ => none
theorem vZ4 (a0:tL0):collapseH .std EZ4 OZ4_0 (execFn EZ4 Tryz.f50 msZ4 [.val false [.sl .any 92 (.pair (.int .i64) (.pair (.int .i64) (.pair (.sl 9 .str) (.sl 155 (.pair .str (.pair .bool (.sl 3 (.int .i64)))))))) a0],.val false [.fn 95 []]]) = some ((g_AZ4 a0),.val false [.bool (g_VZ4_0 a0)],[]) := by kernel_rfl
theorem sZ4:Sound Tryz.prog 50 msZ4 FZ4 := by
 refine fn_gen goodZ4 (by kernel_rfl) .std (fn := Tryz.f50) (c := (Tryz.f50.body.getD .skip)) (o := OZ4_0) (k := 0) (by kernel_rfl) (by kernel_rfl) (by kernel_rfl) (by kernel_rfl) (by decide) kZ4_0 ?_
 intro ys r outs h
 unfold FZ4 at h
 split at h
 ·exact (vZ4 _).trans h
 ·cases h
noncomputable def Ei_FroOk:Env where
 tt := mkTI Tryz.prog
 fn := fun f => match f with
  | 50 => some (msZ4,FSem.wk msZ4 FZ4)
  | 52 => some (msZ37,FSem.wk msZ37 FZ37)
  | 58 => some (msi_OpOk,FSem.wk msi_OpOk Fi_OpOk)
  | 59 => some (msi_isTx,FSem.wk msi_isTx Fi_isTx)
  | 96 => some (msi_DiskOk,FSem.wk msi_DiskOk Fi_DiskOk)
  | 97 => some (msZ38,FSem.wk msZ38 FZ38)
  | _ => none
 bxf := fun _ => none
 mv := []
 keep := fun b => match b with
  | 0 => [(1,false),(24,false),(25,false),(26,false)]
  | _ => []
 keepB := fun b => match b with
  | 0 => [(1,false)]
  | _ => []
 keepX := fun b => match b with
  | 0 => [(2,false)]
  | _ => []
 keepXB := fun b => match b with
  | 0 => []
  | _ => []
theorem goodFi_FroOk:∀ f ms F,Ei_FroOk.fn f = some (ms,F) → Sound Tryz.prog f ms F := fun f ms F h => by
 unfold Ei_FroOk at h
 dsimp only at h
 split at h
 ·exact gF sZ4 h
 ·exact gF sZ37 h
 ·exact gF si_OpOk h
 ·exact gF si_isTx h
 ·exact gF si_DiskOk h
 ·exact gF sZ38 h
 ·cases h
theorem goodi_FroOk:Good Tryz.prog Ei_FroOk := ⟨rfl,goodFi_FroOk,fun f ms F h => by cases h⟩
noncomputable def Oi_FroOk_0:Orc := fun _ _ => none
noncomputable def msi_FroOk:List PM := [.rd]
noncomputable def lsi_FroOk:List (Nat×Code) := loopsAll 0 (Tryz.f36.body.getD .skip)
noncomputable def ci_FroOk_0:Code := (loopOf 0 (Tryz.f36.body.getD .skip)).getD .skip
theorem lseqi_FroOk:lsi_FroOk = [(0,ci_FroOk_0)] := by kernel_rfl
theorem mi_FroOk_0:∀ p,p ∈ lsi_FroOk → p.1 = 0 → p.2 = ci_FroOk_0 := by
 intro p hp
 rw [lseqi_FroOk] at hp
 simp only [List.mem_cons,List.not_mem_nil,or_false] at hp
 subst hp; simp
theorem ki_FroOk_0:OrcOk Ei_FroOk Oi_FroOk_0 lsi_FroOk 0 := orcOk_none
noncomputable def hi_FroOk_0 (y0:tL1) (y1:Int) (y2:Int) (y3:tL0) (y4:Int) (y5:tL1):List (Pl×LV) := [(.T 1,.t (.val false [.ptr 1 0 0])),(.T 24,.t (.val false [.sl .any 73 (.pair (.int .i64) (.pair (.pair (.int .i64) (.pair (.int .i64) (.pair (.int .i64) (.pair (.int .i64) (.pair (.int .i64) (.pair (.int .i64) (.int .i64))))))) (.pair .bool (.pair (.sl 3 (.int .i64)) (.sl 3 (.int .i64)))))) y0])),(.T 25,.t (.val false [.int .i64 y1])),(.T 26,.t (.val false [.int .i64 y2])),(.B 1,.b 0 false [.sl .any 92 (.pair (.int .i64) (.pair (.int .i64) (.pair (.sl 9 .str) (.sl 155 (.pair .str (.pair .bool (.sl 3 (.int .i64)))))))) y3,.int .i64 y4,.sl .any 73 (.pair (.int .i64) (.pair (.pair (.int .i64) (.pair (.int .i64) (.pair (.int .i64) (.pair (.int .i64) (.pair (.int .i64) (.pair (.int .i64) (.int .i64))))))) (.pair .bool (.pair (.sl 3 (.int .i64)) (.sl 3 (.int .i64)))))) y5])]
noncomputable def g_Si_FroOk_0 (y0:tL1) (y1:Int) (y3:tL0) (y4:Int) (y5:tL1):(Int) → RT (Int) ((Bool) ⊕ (Unit))
 | y2 => .br (true) (.br (decide (y2 < y1)) (.br (decide (0 ≤ y2 ∧ y2 < (y0.length:Int))) (.br (g_Ai_isTx (at_ yT0 y0 (Int.toNat y2)).1) (.br (!g_Vi_isTx_0 (at_ yT0 y0 (Int.toNat y2)).1) (.out (.inl false)) (.br (true) (.br (decide (y2 > 0)) (.br (true) (.br (decide (0 ≤ IntKind.i64.wrap (y2 - 1) ∧ IntKind.i64.wrap (y2 - 1) < (y5.length:Int))) (.br (true) (.br (decide ((at_ yT0 y0 (Int.toNat y2)).1 ≤ (at_ yT0 y5 (Int.toNat (IntKind.i64.wrap (y2 - 1)))).1)) (.out (.inl false)) (.br (g_AZ38 (at_ yT0 y0 (Int.toNat y2)).2.2.2.1) (.br (!g_VZ38_0 (at_ yT0 y0 (Int.toNat y2)).2.2.2.1) (.out (.inl false)) (.br (g_AZ38 (at_ yT0 y0 (Int.toNat y2)).2.2.2.2) (.br (!g_VZ38_0 (at_ yT0 y0 (Int.toNat y2)).2.2.2.2) (.out (.inl false)) (.br (g_AZ37 y3) (.br (true) (.br (!(at_ yT0 y0 (Int.toNat y2)).2.2.1 == (g_VZ37_0 y3 (at_ yT0 y0 (Int.toNat y2)).1 == 2)) (.out (.inl false)) (.br (!(at_ yT0 y0 (Int.toNat y2)).2.2.1) (.br (g_Ai_OpOk (at_ yT0 y0 (Int.toNat y2)).2.1.1 (at_ yT0 y0 (Int.toNat y2)).2.1.2.1 (at_ yT0 y0 (Int.toNat y2)).2.1.2.2.1 (at_ yT0 y0 (Int.toNat y2)).2.1.2.2.2.1 (at_ yT0 y0 (Int.toNat y2)).2.1.2.2.2.2.1 (at_ yT0 y0 (Int.toNat y2)).2.1.2.2.2.2.2.1 (at_ yT0 y0 (Int.toNat y2)).2.1.2.2.2.2.2.2) (.br (!g_Vi_OpOk_0 (at_ yT0 y0 (Int.toNat y2)).2.1.1 (at_ yT0 y0 (Int.toNat y2)).2.1.2.1 (at_ yT0 y0 (Int.toNat y2)).2.1.2.2.1 (at_ yT0 y0 (Int.toNat y2)).2.1.2.2.2.1 (at_ yT0 y0 (Int.toNat y2)).2.1.2.2.2.2.1 (at_ yT0 y0 (Int.toNat y2)).2.1.2.2.2.2.2.1 (at_ yT0 y0 (Int.toNat y2)).2.1.2.2.2.2.2.2) (.out (.inl false)) (.br (true) (.br (decide ((↑(List.length (at_ yT0 y0 (Int.toNat y2)).2.2.2.2):Int) > 0)) (.out (.inl false)) (.br (true) (.go (IntKind.i64.wrap (y2 + 1))) .bad)) .bad)) .bad) (.br (true) (.go (IntKind.i64.wrap (y2 + 1))) .bad))) .bad) .bad)) .bad)) .bad)) .bad) .bad) .bad) (.br (g_AZ38 (at_ yT0 y0 (Int.toNat y2)).2.2.2.1) (.br (!g_VZ38_0 (at_ yT0 y0 (Int.toNat y2)).2.2.2.1) (.out (.inl false)) (.br (g_AZ38 (at_ yT0 y0 (Int.toNat y2)).2.2.2.2) (.br (!g_VZ38_0 (at_ yT0 y0 (Int.toNat y2)).2.2.2.2) (.out (.inl false)) (.br (g_AZ37 y3) (.br (true) (.br (!(at_ yT0 y0 (Int.toNat y2)).2.2.1 == (g_VZ37_0 y3 (at_ yT0 y0 (Int.toNat y2)).1 == 2)) (.out (.inl false)) (.br (!(at_ yT0 y0 (Int.toNat y2)).2.2.1) (.br (g_Ai_OpOk (at_ yT0 y0 (Int.toNat y2)).2.1.1 (at_ yT0 y0 (Int.toNat y2)).2.1.2.1 (at_ yT0 y0 (Int.toNat y2)).2.1.2.2.1 (at_ yT0 y0 (Int.toNat y2)).2.1.2.2.2.1 (at_ yT0 y0 (Int.toNat y2)).2.1.2.2.2.2.1 (at_ yT0 y0 (Int.toNat y2)).2.1.2.2.2.2.2.1 (at_ yT0 y0 (Int.toNat y2)).2.1.2.2.2.2.2.2) (.br (!g_Vi_OpOk_0 (at_ yT0 y0 (Int.toNat y2)).2.1.1 (at_ yT0 y0 (Int.toNat y2)).2.1.2.1 (at_ yT0 y0 (Int.toNat y2)).2.1.2.2.1 (at_ yT0 y0 (Int.toNat y2)).2.1.2.2.2.1 (at_ yT0 y0 (Int.toNat y2)).2.1.2.2.2.2.1 (at_ yT0 y0 (Int.toNat y2)).2.1.2.2.2.2.2.1 (at_ yT0 y0 (Int.toNat y2)).2.1.2.2.2.2.2.2) (.out (.inl false)) (.br (true) (.br (decide ((↑(List.length (at_ yT0 y0 (Int.toNat y2)).2.2.2.2):Int) > 0)) (.out (.inl false)) (.br (true) (.go (IntKind.i64.wrap (y2 + 1))) .bad)) .bad)) .bad) (.br (true) (.go (IntKind.i64.wrap (y2 + 1))) .bad))) .bad) .bad)) .bad)) .bad)) .bad)) .bad) .bad) (.out (.inr (())))) .bad
noncomputable def g_Li_FroOk_0 (y0:tL1) (y1:Int) (y3:tL0) (y4:Int) (y5:tL1) (x:Int):Option ((Bool) ⊕ (Unit)) := loopO (g_Si_FroOk_0 y0 y1 y3 y4 y5) x
noncomputable def xi_FroOk_0 (y0:tL1) (y1:Int) (y3:tL0) (y4:Int) (y5:tL1):((Bool) ⊕ (Unit)) → Ex×List (Pl×LV) := fun
 | .inl r => (.ret,[(.T 2,.t (.val false [.bool r]))])
 | .inr (r) => (.exit 0,[(.T 2,.t (.val false [.undef]))])
noncomputable def Oi_FroOk_1:Orc := fun b h => match b,h with
 | 0,[(.T 1,.t (.val false [.ptr 1 0 0])),(.T 24,.t (.val false [.sl .any 73 (.pair (.int .i64) (.pair (.pair (.int .i64) (.pair (.int .i64) (.pair (.int .i64) (.pair (.int .i64) (.pair (.int .i64) (.pair (.int .i64) (.int .i64))))))) (.pair .bool (.pair (.sl 3 (.int .i64)) (.sl 3 (.int .i64)))))) y0])),(.T 25,.t (.val false [.int .i64 y1])),(.T 26,.t (.val false [.int .i64 y2])),(.B 1,.b 0 false [.sl .any 92 (.pair (.int .i64) (.pair (.int .i64) (.pair (.sl 9 .str) (.sl 155 (.pair .str (.pair .bool (.sl 3 (.int .i64)))))))) y3,.int .i64 y4,.sl .any 73 (.pair (.int .i64) (.pair (.pair (.int .i64) (.pair (.int .i64) (.pair (.int .i64) (.pair (.int .i64) (.pair (.int .i64) (.pair (.int .i64) (.int .i64))))))) (.pair .bool (.pair (.sl 3 (.int .i64)) (.sl 3 (.int .i64)))))) y5])] => some (okO (g_Li_FroOk_0 y0 y1 y3 y4 y5 y2),(.br (isL (valO (g_Li_FroOk_0 y0 y1 y3 y4 y5 y2))) (.leaf .ret [(.T 2,.t (.val false [.bool (getL (valO (g_Li_FroOk_0 y0 y1 y3 y4 y5 y2)))]))]) (.leaf (.exit 0) [(.T 2,.t (.val false [.undef]))])))
 | b,h => Oi_FroOk_0 b h
theorem bi_FroOk_0 (y0:tL1) (y1:Int) (y2:Int) (y3:tL0) (y4:Int) (y5:tL1):Tr.bt Ei_FroOk Oi_FroOk_0 (exec Ei_FroOk 0 ci_FroOk_0 (St.of (hi_FroOk_0 y0 y1 y2 y3 y4 y5)) (leafRd Ei_FroOk 0)) = (g_Si_FroOk_0 y0 y1 y3 y4 y5 y2).bt (fun (y2:Int) => (hi_FroOk_0 y0 y1 y2 y3 y4 y5)) (xi_FroOk_0 y0 y1 y3 y4 y5) := by kernel_rfl
theorem ki_FroOk_1:OrcOk Ei_FroOk Oi_FroOk_1 lsi_FroOk 1 := orc_add ki_FroOk_0 (fun n p hp h ex h' ho => by
 obtain ⟨b,c⟩ := p
 obtain ⟨xt,h1,h2⟩ := ho
 have h1:Oi_FroOk_1 b h = some (true,xt) := h1
 unfold Oi_FroOk_1 at h1
 split at h1
 ·injection h1 with h1
  injection h1 with e1 e2
  subst e2
  have hc:c = ci_FroOk_0 := mi_FroOk_0 _ hp rfl
  subst hc
  right
  rename_i y0 y1 y2 y3 y4 y5
  have key := LT_step ki_FroOk_0 hp (fun q hq => loopsAll_in _ _ _ _ hp hq) (fun (y2:Int) => (hi_FroOk_0 y0 y1 y2 y3 y4 y5)) (xi_FroOk_0 y0 y1 y3 y4 y5) (g_Si_FroOk_0 y0 y1 y3 y4 y5) (fun x => by first | exact bi_FroOk_0 y0 y1 x y3 y4 y5) n (x := y2) (okO_some e1)
  have hx:∀ r,XT.sel (.br (isL r) (.leaf .ret [(.T 2,.t (.val false [.bool (getL r)]))]) (.leaf (.exit 0) [(.T 2,.t (.val false [.undef]))])) = xi_FroOk_0 y0 y1 y3 y4 y5 r := fun r => by first | rfl | rcases r with r | r <;> rfl | rcases r with r | r | r <;> rfl | rcases r with r | r | r | r <;> rfl
  have h3 := (hx (valO (g_Li_FroOk_0 y0 y1 y3 y4 y5 y2))).symm.trans h2
  have e3 := congrArg Prod.fst h3
  have e4 := congrArg Prod.snd h3
  simp only at e3 e4
  rw [← e3,← e4]
  exact key
 ·exact .inl ⟨xt,h1,h2⟩)
noncomputable def g_Ai_FroOk (a0:tL0) (a1:Int) (a2:tL1):Bool := g_Ai_DiskOk a0 a1&&(!g_Vi_DiskOk_0 a0 a1 || g_AZ4 a0&&(g_VZ4_0 a0 || (decide ((a2.length:Int) > 30) || okO (g_Li_FroOk_0 a2 (a2.length:Int) a0 a1 a2 (0:Int)))))
noncomputable def g_Vi_FroOk_0 (a0:tL0) (a1:Int) (a2:tL1):Bool := bif !g_Vi_DiskOk_0 a0 a1 then false else bif g_VZ4_0 a0 then false else bif decide ((a2.length:Int) > 30) then false else bif isL (valO (g_Li_FroOk_0 a2 (a2.length:Int) a0 a1 a2 (0:Int))) then getL (valO (g_Li_FroOk_0 a2 (a2.length:Int) a0 a1 a2 (0:Int))) else true
noncomputable def Fi_FroOk:FSem := fun ys => match ys with
 | [.val true [.sl .any 92 (.pair (.int .i64) (.pair (.int .i64) (.pair (.sl 9 .str) (.sl 155 (.pair .str (.pair .bool (.sl 3 (.int .i64)))))))) a0,.int .i64 a1,.sl .any 73 (.pair (.int .i64) (.pair (.pair (.int .i64) (.pair (.int .i64) (.pair (.int .i64) (.pair (.int .i64) (.pair (.int .i64) (.pair (.int .i64) (.int .i64))))))) (.pair .bool (.pair (.sl 3 (.int .i64)) (.sl 3 (.int .i64)))))) a2]] => some ((g_Ai_FroOk a0 a1 a2),.val false [.bool (g_Vi_FroOk_0 a0 a1 a2)],[])
 | _ => none
theorem vi_FroOk (a0:tL0) (a1:Int) (a2:tL1):collapseH .std Ei_FroOk Oi_FroOk_1 (execFn Ei_FroOk Tryz.f36 msi_FroOk [.val true [.sl .any 92 (.pair (.int .i64) (.pair (.int .i64) (.pair (.sl 9 .str) (.sl 155 (.pair .str (.pair .bool (.sl 3 (.int .i64)))))))) a0,.int .i64 a1,.sl .any 73 (.pair (.int .i64) (.pair (.pair (.int .i64) (.pair (.int .i64) (.pair (.int .i64) (.pair (.int .i64) (.pair (.int .i64) (.pair (.int .i64) (.int .i64))))))) (.pair .bool (.pair (.sl 3 (.int .i64)) (.sl 3 (.int .i64)))))) a2]]) = some ((g_Ai_FroOk a0 a1 a2),.val false [.bool (g_Vi_FroOk_0 a0 a1 a2)],[]) := by kernel_rfl
theorem si_FroOk:Sound Tryz.prog 36 msi_FroOk Fi_FroOk := by
 refine fn_gen goodi_FroOk (by kernel_rfl) .std (fn := Tryz.f36) (c := (Tryz.f36.body.getD .skip)) (o := Oi_FroOk_1) (k := 1) (by kernel_rfl) (by kernel_rfl) (by kernel_rfl) (by kernel_rfl) (by decide) ki_FroOk_1 ?_
 intro ys r outs h
 unfold Fi_FroOk at h
 split at h
 ·exact (vi_FroOk _ _ _).trans h
 ·cases h
noncomputable def EZ51:Env where
 tt := mkTI Tryz.prog
 fn := fun _ => none
 bxf := fun _ => none
 mv := []
 keep := fun _ => []
 keepB := fun _ => []
 keepX := fun _ => []
 keepXB := fun _ => []
theorem goodFZ51:∀ f ms F,EZ51.fn f = some (ms,F) → Sound Tryz.prog f ms F := fun f ms F h => by cases h
theorem goodZ51:Good Tryz.prog EZ51 := ⟨rfl,goodFZ51,fun f ms F h => by cases h⟩
noncomputable def OZ51_0:Orc := fun _ _ => none
noncomputable def msZ51:List PM := [.rd,.rd]
noncomputable def lsZ51:List (Nat×Code) := loopsAll 0 (Tryz.f51.body.getD .skip)
theorem kZ51_0:OrcOk EZ51 OZ51_0 lsZ51 0 := orcOk_none
noncomputable def g_AZ51 (a0:Int) (a1:Int) (a2:List ByteArray) (a3:tL2) (c0:Int):Bool := !a1 == c0 || true
noncomputable def g_VZ51_0 (a0:Int) (a1:Int) (a2:List ByteArray) (a3:tL2) (c0:Int):Bool := bif a1 == c0 then a0 == 4 else false
noncomputable def FZ51:FSem := fun ys => match ys with
 | [.val true [.int .i64 a0,.int .i64 a1,.sl .any 9 .str a2,.sl .any 155 (.pair .str (.pair .bool (.sl 3 (.int .i64)))) a3],.val false [.sptr (.int .i64) c0 0]] => some ((g_AZ51 a0 a1 a2 a3 c0),.val false [.bool (g_VZ51_0 a0 a1 a2 a3 c0)],[])
 | _ => none
theorem vZ51 (a0:Int) (a1:Int) (a2:List ByteArray) (a3:tL2) (c0:Int):collapseH .std EZ51 OZ51_0 (execFn EZ51 Tryz.f51 msZ51 [.val true [.int .i64 a0,.int .i64 a1,.sl .any 9 .str a2,.sl .any 155 (.pair .str (.pair .bool (.sl 3 (.int .i64)))) a3],.val false [.sptr (.int .i64) c0 0]]) = some ((g_AZ51 a0 a1 a2 a3 c0),.val false [.bool (g_VZ51_0 a0 a1 a2 a3 c0)],[]) := by kernel_rfl
theorem sZ51:Sound Tryz.prog 51 msZ51 FZ51 := by
 refine fn_gen goodZ51 (by kernel_rfl) .std (fn := Tryz.f51) (c := (Tryz.f51.body.getD .skip)) (o := OZ51_0) (k := 0) (by kernel_rfl) (by kernel_rfl) (by kernel_rfl) (by kernel_rfl) (by decide) kZ51_0 ?_
 intro ys r outs h
 unfold FZ51 at h
 split at h
 ·exact (vZ51 _ _ _ _ _).trans h
 ·cases h
noncomputable def EZ5:Env where
 tt := mkTI Tryz.prog
 fn := fun f => match f with
  | 51 => some (msZ51,FSem.wk msZ51 FZ51)
  | _ => none
 bxf := fun _ => none
 mv := []
 keep := fun b => match b with
  | 0 => [(0,false),(1,false),(7,false),(8,false)]
  | _ => []
 keepB := fun b => match b with
  | 0 => []
  | _ => []
 keepX := fun b => match b with
  | 0 => [(4,false)]
  | _ => []
 keepXB := fun b => match b with
  | 0 => []
  | _ => []
theorem goodFZ5:∀ f ms F,EZ5.fn f = some (ms,F) → Sound Tryz.prog f ms F := fun f ms F h => by
 unfold EZ5 at h
 dsimp only at h
 split at h
 ·exact gF sZ51 h
 ·cases h
theorem goodZ5:Good Tryz.prog EZ5 := ⟨rfl,goodFZ5,fun f ms F h => by cases h⟩
noncomputable def OZ5_0:Orc := fun _ _ => none
noncomputable def msZ5:List PM := [.rd,.rd]
noncomputable def lsZ5:List (Nat×Code) := loopsAll 0 (Tryz.f110.body.getD .skip)
noncomputable def cZ5_0:Code := (loopOf 0 (Tryz.f110.body.getD .skip)).getD .skip
theorem lseqZ5:lsZ5 = [(0,cZ5_0)] := by kernel_rfl
theorem mZ5_0:∀ p,p ∈ lsZ5 → p.1 = 0 → p.2 = cZ5_0 := by
 intro p hp
 rw [lseqZ5] at hp
 simp only [List.mem_cons,List.not_mem_nil,or_false] at hp
 subst hp; simp
theorem kZ5_0:OrcOk EZ5 OZ5_0 lsZ5 0 := orcOk_none
noncomputable def hZ5_0 (y0:tL0) (y1:Int) (y2:Int) (y3:Int):List (Pl×LV) := [(.T 0,.t (.val false [.sl .any 92 (.pair (.int .i64) (.pair (.int .i64) (.pair (.sl 9 .str) (.sl 155 (.pair .str (.pair .bool (.sl 3 (.int .i64)))))))) y0])),(.T 1,.t (.val false [.fn 51 [.sptr (.int .i64) y1 0]])),(.T 7,.t (.val false [.int .i64 y2])),(.T 8,.t (.val false [.int .i64 y3]))]
noncomputable def g_SZ5_0 (y0:tL0) (y1:Int) (y2:Int):(Int) → RT (Int) ((Int) ⊕ (Unit))
 | y3 => .br (true) (.br (decide (y3 < y2)) (.br (decide (0 ≤ y3 ∧ y3 < (y0.length:Int))) (.br (g_AZ51 (at_ yT1 y0 (Int.toNat y3)).1 (at_ yT1 y0 (Int.toNat y3)).2.1 (at_ yT1 y0 (Int.toNat y3)).2.2.1 (at_ yT1 y0 (Int.toNat y3)).2.2.2 y1) (.br (g_VZ51_0 (at_ yT1 y0 (Int.toNat y3)).1 (at_ yT1 y0 (Int.toNat y3)).2.1 (at_ yT1 y0 (Int.toNat y3)).2.2.1 (at_ yT1 y0 (Int.toNat y3)).2.2.2 y1) (.out (.inl y3)) (.br (true) (.go (IntKind.i64.wrap (y3 + 1))) .bad)) .bad) .bad) (.out (.inr (())))) .bad
noncomputable def g_LZ5_0 (y0:tL0) (y1:Int) (y2:Int) (x:Int):Option ((Int) ⊕ (Unit)) := loopO (g_SZ5_0 y0 y1 y2) x
noncomputable def xZ5_0 (y0:tL0) (y1:Int) (y2:Int):((Int) ⊕ (Unit)) → Ex×List (Pl×LV) := fun
 | .inl r => (.ret,[(.T 4,.t (.val false [.int .i64 r]))])
 | .inr (r) => (.exit 0,[(.T 4,.t (.val false [.undef]))])
noncomputable def OZ5_1:Orc := fun b h => match b,h with
 | 0,[(.T 0,.t (.val false [.sl .any 92 (.pair (.int .i64) (.pair (.int .i64) (.pair (.sl 9 .str) (.sl 155 (.pair .str (.pair .bool (.sl 3 (.int .i64)))))))) y0])),(.T 1,.t (.val false [.fn 51 [.sptr (.int .i64) y1 0]])),(.T 7,.t (.val false [.int .i64 y2])),(.T 8,.t (.val false [.int .i64 y3]))] => some (okO (g_LZ5_0 y0 y1 y2 y3),(.br (isL (valO (g_LZ5_0 y0 y1 y2 y3))) (.leaf .ret [(.T 4,.t (.val false [.int .i64 (getL (valO (g_LZ5_0 y0 y1 y2 y3)))]))]) (.leaf (.exit 0) [(.T 4,.t (.val false [.undef]))])))
 | b,h => OZ5_0 b h
theorem bZ5_0 (y0:tL0) (y1:Int) (y2:Int) (y3:Int):Tr.bt EZ5 OZ5_0 (exec EZ5 0 cZ5_0 (St.of (hZ5_0 y0 y1 y2 y3)) (leafRd EZ5 0)) = (g_SZ5_0 y0 y1 y2 y3).bt (fun (y3:Int) => (hZ5_0 y0 y1 y2 y3)) (xZ5_0 y0 y1 y2) := by kernel_rfl
theorem kZ5_1:OrcOk EZ5 OZ5_1 lsZ5 1 := orc_add kZ5_0 (fun n p hp h ex h' ho => by
 obtain ⟨b,c⟩ := p
 obtain ⟨xt,h1,h2⟩ := ho
 have h1:OZ5_1 b h = some (true,xt) := h1
 unfold OZ5_1 at h1
 split at h1
 ·injection h1 with h1
  injection h1 with e1 e2
  subst e2
  have hc:c = cZ5_0 := mZ5_0 _ hp rfl
  subst hc
  right
  rename_i y0 y1 y2 y3
  have key := LT_step kZ5_0 hp (fun q hq => loopsAll_in _ _ _ _ hp hq) (fun (y3:Int) => (hZ5_0 y0 y1 y2 y3)) (xZ5_0 y0 y1 y2) (g_SZ5_0 y0 y1 y2) (fun x => by first | exact bZ5_0 y0 y1 y2 x) n (x := y3) (okO_some e1)
  have hx:∀ r,XT.sel (.br (isL r) (.leaf .ret [(.T 4,.t (.val false [.int .i64 (getL r)]))]) (.leaf (.exit 0) [(.T 4,.t (.val false [.undef]))])) = xZ5_0 y0 y1 y2 r := fun r => by first | rfl | rcases r with r | r <;> rfl | rcases r with r | r | r <;> rfl | rcases r with r | r | r | r <;> rfl
  have h3 := (hx (valO (g_LZ5_0 y0 y1 y2 y3))).symm.trans h2
  have e3 := congrArg Prod.fst h3
  have e4 := congrArg Prod.snd h3
  simp only at e3 e4
  rw [← e3,← e4]
  exact key
 ·exact .inl ⟨xt,h1,h2⟩)
noncomputable def g_AZ5 (a0:tL0) (c0:Int):Bool := okO (g_LZ5_0 a0 c0 (a0.length:Int) (0:Int))
noncomputable def g_VZ5_0 (a0:tL0) (c0:Int):Int := bif isL (valO (g_LZ5_0 a0 c0 (a0.length:Int) (0:Int))) then getL (valO (g_LZ5_0 a0 c0 (a0.length:Int) (0:Int))) else (-1:Int)
noncomputable def FZ5:FSem := fun ys => match ys with
 | [.val false [.sl .any 92 (.pair (.int .i64) (.pair (.int .i64) (.pair (.sl 9 .str) (.sl 155 (.pair .str (.pair .bool (.sl 3 (.int .i64)))))))) a0],.val false [.fn 51 [.sptr (.int .i64) c0 0]]] => some ((g_AZ5 a0 c0),.val false [.int .i64 (g_VZ5_0 a0 c0)],[])
 | _ => none
theorem vZ5 (a0:tL0) (c0:Int):collapseH .std EZ5 OZ5_1 (execFn EZ5 Tryz.f110 msZ5 [.val false [.sl .any 92 (.pair (.int .i64) (.pair (.int .i64) (.pair (.sl 9 .str) (.sl 155 (.pair .str (.pair .bool (.sl 3 (.int .i64)))))))) a0],.val false [.fn 51 [.sptr (.int .i64) c0 0]]]) = some ((g_AZ5 a0 c0),.val false [.int .i64 (g_VZ5_0 a0 c0)],[]) := by kernel_rfl
theorem sZ5:Sound Tryz.prog 110 msZ5 FZ5 := by
 refine fn_gen goodZ5 (by kernel_rfl) .std (fn := Tryz.f110) (c := (Tryz.f110.body.getD .skip)) (o := OZ5_1) (k := 1) (by kernel_rfl) (by kernel_rfl) (by kernel_rfl) (by kernel_rfl) (by decide) kZ5_1 ?_
 intro ys r outs h
 unfold FZ5 at h
 split at h
 ·exact (vZ5 _ _).trans h
 ·cases h
noncomputable def EZ1:Env where
 tt := mkTI Tryz.prog
 fn := fun f => match f with
  | 51 => some (msZ51,FSem.wk msZ51 FZ51)
  | 110 => some (msZ5,FSem.wk msZ5 FZ5)
  | _ => none
 bxf := fun _ => none
 mv := []
 keep := fun _ => []
 keepB := fun _ => []
 keepX := fun _ => []
 keepXB := fun _ => []
theorem goodFZ1:∀ f ms F,EZ1.fn f = some (ms,F) → Sound Tryz.prog f ms F := fun f ms F h => by
 unfold EZ1 at h
 dsimp only at h
 split at h
 ·exact gF sZ51 h
 ·exact gF sZ5 h
 ·cases h
theorem goodZ1:Good Tryz.prog EZ1 := ⟨rfl,goodFZ1,fun f ms F h => by cases h⟩
noncomputable def OZ1_0:Orc := fun _ _ => none
noncomputable def msZ1:List PM := [.rd,.rd]
noncomputable def lsZ1:List (Nat×Code) := loopsAll 0 (Tryz.f50.body.getD .skip)
theorem kZ1_0:OrcOk EZ1 OZ1_0 lsZ1 0 := orcOk_none
noncomputable def g_AZ1 (a0:tL0) (c0:Int):Bool := g_AZ5 a0 c0&&true
noncomputable def g_VZ1_0 (a0:tL0) (c0:Int):Bool := decide (g_VZ5_0 a0 c0 ≥ (0:Int))
noncomputable def FZ1:FSem := fun ys => match ys with
 | [.val false [.sl .any 92 (.pair (.int .i64) (.pair (.int .i64) (.pair (.sl 9 .str) (.sl 155 (.pair .str (.pair .bool (.sl 3 (.int .i64)))))))) a0],.val false [.fn 51 [.sptr (.int .i64) c0 0]]] => some ((g_AZ1 a0 c0),.val false [.bool (g_VZ1_0 a0 c0)],[])
 | _ => none
theorem vZ1 (a0:tL0) (c0:Int):collapseH .std EZ1 OZ1_0 (execFn EZ1 Tryz.f50 msZ1 [.val false [.sl .any 92 (.pair (.int .i64) (.pair (.int .i64) (.pair (.sl 9 .str) (.sl 155 (.pair .str (.pair .bool (.sl 3 (.int .i64)))))))) a0],.val false [.fn 51 [.sptr (.int .i64) c0 0]]]) = some ((g_AZ1 a0 c0),.val false [.bool (g_VZ1_0 a0 c0)],[]) := by kernel_rfl
theorem sZ1:Sound Tryz.prog 50 msZ1 FZ1 := by
 refine fn_gen goodZ1 (by kernel_rfl) .std (fn := Tryz.f50) (c := (Tryz.f50.body.getD .skip)) (o := OZ1_0) (k := 0) (by kernel_rfl) (by kernel_rfl) (by kernel_rfl) (by kernel_rfl) (by decide) kZ1_0 ?_
 intro ys r outs h
 unfold FZ1 at h
 split at h
 ·exact (vZ1 _ _).trans h
 ·cases h
noncomputable def Ei_FroFall:Env where
 tt := mkTI Tryz.prog
 fn := fun f => match f with
  | 36 => some (msi_FroOk,FSem.wk msi_FroOk Fi_FroOk)
  | 49 => some (msZ65,FSem.wk msZ65 FZ65)
  | 50 => some (msZ1,FSem.wk msZ1 FZ1)
  | 52 => some (msZ37,FSem.wk msZ37 FZ37)
  | _ => none
 bxf := fun _ => none
 mv := []
 keep := fun b => match b with
  | 0 => [(4,false),(5,false),(17,false)]
  | _ => []
 keepB := fun b => match b with
  | 0 => [(4,false),(5,false)]
  | _ => []
 keepX := fun b => match b with
  | 0 => [(4,false),(5,false)]
  | _ => []
 keepXB := fun b => match b with
  | 0 => [(4,false),(5,false)]
  | _ => []
theorem goodFi_FroFall:∀ f ms F,Ei_FroFall.fn f = some (ms,F) → Sound Tryz.prog f ms F := fun f ms F h => by
 unfold Ei_FroFall at h
 dsimp only at h
 split at h
 ·exact gF si_FroOk h
 ·exact gF sZ65 h
 ·exact gF sZ1 h
 ·exact gF sZ37 h
 ·cases h
theorem goodi_FroFall:Good Tryz.prog Ei_FroFall := ⟨rfl,goodFi_FroFall,fun f ms F h => by cases h⟩
noncomputable def Oi_FroFall_0:Orc := fun _ _ => none
noncomputable def msi_FroFall:List PM := [.rd,.own]
noncomputable def lsi_FroFall:List (Nat×Code) := loopsAll 0 (Tryz.f17.body.getD .skip)
noncomputable def ci_FroFall_0:Code := (loopOf 0 (Tryz.f17.body.getD .skip)).getD .skip
theorem lseqi_FroFall:lsi_FroFall = [(0,ci_FroFall_0)] := by kernel_rfl
theorem mi_FroFall_0:∀ p,p ∈ lsi_FroFall → p.1 = 0 → p.2 = ci_FroFall_0 := by
 intro p hp
 rw [lseqi_FroFall] at hp
 simp only [List.mem_cons,List.not_mem_nil,or_false] at hp
 subst hp; simp
theorem ki_FroFall_0:OrcOk Ei_FroFall Oi_FroFall_0 lsi_FroFall 0 := orcOk_none
noncomputable def hi_FroFall_0 (y0:Int) (y1:Int) (y2:tL0) (y3:tL1) (y4:Int) (y5:tL0) (y6:tL1):List (Pl×LV) := [(.T 4,.t (.val false [.ptr 4 0 0])),(.T 5,.t (.val false [.ptr 5 0 0])),(.T 17,.t (.val false [.int .i64 y0])),(.B 4,.b 0 false [.row 4 1 0,.int .i64 y1,.row 4 5 0]),(.R 4 1,.r 0 (some ⟨false,.any,true,92,(.pair (.int .i64) (.pair (.int .i64) (.pair (.sl 9 .str) (.sl 155 (.pair .str (.pair .bool (.sl 3 (.int .i64)))))))),y2⟩)),(.R 4 5,.r 0 (some ⟨false,.any,true,73,(.pair (.int .i64) (.pair (.pair (.int .i64) (.pair (.int .i64) (.pair (.int .i64) (.pair (.int .i64) (.pair (.int .i64) (.pair (.int .i64) (.int .i64))))))) (.pair .bool (.pair (.sl 3 (.int .i64)) (.sl 3 (.int .i64)))))),y3⟩)),(.B 5,.b 0 false [.row 5 1 0,.int .i64 y4,.row 5 5 0]),(.R 5 1,.r 0 (some ⟨false,.any,true,92,(.pair (.int .i64) (.pair (.int .i64) (.pair (.sl 9 .str) (.sl 155 (.pair .str (.pair .bool (.sl 3 (.int .i64)))))))),y5⟩)),(.R 5 5,.r 0 (some ⟨false,.any,true,73,(.pair (.int .i64) (.pair (.pair (.int .i64) (.pair (.int .i64) (.pair (.int .i64) (.pair (.int .i64) (.pair (.int .i64) (.pair (.int .i64) (.int .i64))))))) (.pair .bool (.pair (.sl 3 (.int .i64)) (.sl 3 (.int .i64)))))),y6⟩))]
noncomputable def g_Si_FroFall_0 (y1:Int) (y2:tL0) (y3:tL1) (y4:Int) (y5:tL0):(Int×tL1) → RT (Int×tL1) ((tL1))
 | (y0,y6) => .br (true) (.br (decide (y0 < 30)) (.br (g_AZ1 y5 y0) (.br (!g_VZ1_0 y5 y0) (.br (g_AZ37 y5) (.br (true) (.br (g_VZ37_0 y5 y0 == 2) (.br (decide ((List.length y6 + List.length [(y0,((0:Int),(0:Int),(0:Int),(0:Int),(0:Int),(0:Int),(0:Int)),true,([]:List Int),([]:List Int))]) * nat_lit 120 ≤ nat_lit 140737488355328 ∧ List.length y6 + List.length [(y0,((0:Int),(0:Int),(0:Int),(0:Int),(0:Int),(0:Int),(0:Int)),true,([]:List Int),([]:List Int))] ≤ nat_lit 9223372036854775807)) (.br (true) (.go ((IntKind.i64.wrap (y0 + 1),y6 ++ [(y0,((0:Int),(0:Int),(0:Int),(0:Int),(0:Int),(0:Int),(0:Int)),true,([]:List Int),([]:List Int))]))) .bad) .bad) (.br (true) (.go ((IntKind.i64.wrap (y0 + 1),y6))) .bad)) .bad) .bad) (.br (true) (.go ((IntKind.i64.wrap (y0 + 1),y6))) .bad)) .bad) (.out (y6))) .bad
noncomputable def g_Li_FroFall_0 (y1:Int) (y2:tL0) (y3:tL1) (y4:Int) (y5:tL0) (x:Int×tL1):Option ((tL1)) := loopO (g_Si_FroFall_0 y1 y2 y3 y4 y5) x
noncomputable def xi_FroFall_0 (y1:Int) (y2:tL0) (y3:tL1) (y4:Int) (y5:tL0):((tL1)) → Ex×List (Pl×LV) := fun r => (.exit 0,[(.T 4,.t (.val false [.ptr 4 0 0])),(.T 5,.t (.val false [.ptr 5 0 0])),(.B 4,.b 0 false [.row 4 1 0,.int .i64 y1,.row 4 5 0]),(.R 4 1,.r 0 (some ⟨false,.any,true,92,(.pair (.int .i64) (.pair (.int .i64) (.pair (.sl 9 .str) (.sl 155 (.pair .str (.pair .bool (.sl 3 (.int .i64)))))))),y2⟩)),(.R 4 5,.r 0 (some ⟨false,.any,true,73,(.pair (.int .i64) (.pair (.pair (.int .i64) (.pair (.int .i64) (.pair (.int .i64) (.pair (.int .i64) (.pair (.int .i64) (.pair (.int .i64) (.int .i64))))))) (.pair .bool (.pair (.sl 3 (.int .i64)) (.sl 3 (.int .i64)))))),y3⟩)),(.B 5,.b 0 false [.row 5 1 0,.int .i64 y4,.row 5 5 0]),(.R 5 1,.r 0 (some ⟨false,.any,true,92,(.pair (.int .i64) (.pair (.int .i64) (.pair (.sl 9 .str) (.sl 155 (.pair .str (.pair .bool (.sl 3 (.int .i64)))))))),y5⟩)),(.R 5 5,.r 0 (some ⟨false,.any,true,73,(.pair (.int .i64) (.pair (.pair (.int .i64) (.pair (.int .i64) (.pair (.int .i64) (.pair (.int .i64) (.pair (.int .i64) (.pair (.int .i64) (.int .i64))))))) (.pair .bool (.pair (.sl 3 (.int .i64)) (.sl 3 (.int .i64)))))),r⟩))])
noncomputable def OZ51:Orc := fun b h => match b,h with
 | 0,[(.T 4,.t (.val false [.ptr 4 0 0])),(.T 5,.t (.val false [.ptr 5 0 0])),(.T 17,.t (.val false [.int .i64 y0])),(.B 4,.b 0 false [.row 4 1 0,.int .i64 y1,.row 4 5 0]),(.R 4 1,.r 0 (some ⟨false,.any,true,92,(.pair (.int .i64) (.pair (.int .i64) (.pair (.sl 9 .str) (.sl 155 (.pair .str (.pair .bool (.sl 3 (.int .i64)))))))),y2⟩)),(.R 4 5,.r 0 (some ⟨false,.any,true,73,(.pair (.int .i64) (.pair (.pair (.int .i64) (.pair (.int .i64) (.pair (.int .i64) (.pair (.int .i64) (.pair (.int .i64) (.pair (.int .i64) (.int .i64))))))) (.pair .bool (.pair (.sl 3 (.int .i64)) (.sl 3 (.int .i64)))))),y3⟩)),(.B 5,.b 0 false [.row 5 1 0,.int .i64 y4,.row 5 5 0]),(.R 5 1,.r 0 (some ⟨false,.any,true,92,(.pair (.int .i64) (.pair (.int .i64) (.pair (.sl 9 .str) (.sl 155 (.pair .str (.pair .bool (.sl 3 (.int .i64)))))))),y5⟩)),(.R 5 5,.r 0 (some ⟨false,.any,true,73,(.pair (.int .i64) (.pair (.pair (.int .i64) (.pair (.int .i64) (.pair (.int .i64) (.pair (.int .i64) (.pair (.int .i64) (.pair (.int .i64) (.int .i64))))))) (.pair .bool (.pair (.sl 3 (.int .i64)) (.sl 3 (.int .i64)))))),y6⟩))] => some (okO (g_Li_FroFall_0 y1 y2 y3 y4 y5 (y0,y6)),(.leaf (.exit 0) [(.T 4,.t (.val false [.ptr 4 0 0])),(.T 5,.t (.val false [.ptr 5 0 0])),(.B 4,.b 0 false [.row 4 1 0,.int .i64 y1,.row 4 5 0]),(.R 4 1,.r 0 (some ⟨false,.any,true,92,(.pair (.int .i64) (.pair (.int .i64) (.pair (.sl 9 .str) (.sl 155 (.pair .str (.pair .bool (.sl 3 (.int .i64)))))))),y2⟩)),(.R 4 5,.r 0 (some ⟨false,.any,true,73,(.pair (.int .i64) (.pair (.pair (.int .i64) (.pair (.int .i64) (.pair (.int .i64) (.pair (.int .i64) (.pair (.int .i64) (.pair (.int .i64) (.int .i64))))))) (.pair .bool (.pair (.sl 3 (.int .i64)) (.sl 3 (.int .i64)))))),y3⟩)),(.B 5,.b 0 false [.row 5 1 0,.int .i64 y4,.row 5 5 0]),(.R 5 1,.r 0 (some ⟨false,.any,true,92,(.pair (.int .i64) (.pair (.int .i64) (.pair (.sl 9 .str) (.sl 155 (.pair .str (.pair .bool (.sl 3 (.int .i64)))))))),y5⟩)),(.R 5 5,.r 0 (some ⟨false,.any,true,73,(.pair (.int .i64) (.pair (.pair (.int .i64) (.pair (.int .i64) (.pair (.int .i64) (.pair (.int .i64) (.pair (.int .i64) (.pair (.int .i64) (.int .i64))))))) (.pair .bool (.pair (.sl 3 (.int .i64)) (.sl 3 (.int .i64)))))),(valO (g_Li_FroFall_0 y1 y2 y3 y4 y5 (y0,y6)))⟩))]))
 | b,h => Oi_FroFall_0 b h
theorem bi_FroFall_0 (y0:Int) (y1:Int) (y2:tL0) (y3:tL1) (y4:Int) (y5:tL0) (y6:tL1):Tr.bt Ei_FroFall Oi_FroFall_0 (exec Ei_FroFall 0 ci_FroFall_0 (St.of (hi_FroFall_0 y0 y1 y2 y3 y4 y5 y6)) (leafRd Ei_FroFall 0)) = (g_Si_FroFall_0 y1 y2 y3 y4 y5 (y0,y6)).bt (fun ((y0,y6):Int×tL1) => (hi_FroFall_0 y0 y1 y2 y3 y4 y5 y6)) (xi_FroFall_0 y1 y2 y3 y4 y5) := by kernel_rfl
theorem kZ51:OrcOk Ei_FroFall OZ51 lsi_FroFall 1 := orc_add ki_FroFall_0 (fun n p hp h ex h' ho => by
 obtain ⟨b,c⟩ := p
 obtain ⟨xt,h1,h2⟩ := ho
 have h1:OZ51 b h = some (true,xt) := h1
 unfold OZ51 at h1
 split at h1
 ·injection h1 with h1
  injection h1 with e1 e2
  subst e2
  have hc:c = ci_FroFall_0 := mi_FroFall_0 _ hp rfl
  subst hc
  right
  rename_i y0 y1 y2 y3 y4 y5 y6
  have key := LT_step ki_FroFall_0 hp (fun q hq => loopsAll_in _ _ _ _ hp hq) (fun ((y0,y6):Int×tL1) => (hi_FroFall_0 y0 y1 y2 y3 y4 y5 y6)) (xi_FroFall_0 y1 y2 y3 y4 y5) (g_Si_FroFall_0 y1 y2 y3 y4 y5) (fun x => by first | exact bi_FroFall_0 x.1 y1 y2 y3 y4 y5 x.2) n (x := (y0,y6)) (okO_some e1)
  have hx:∀ r,XT.sel (.leaf (.exit 0) [(.T 4,.t (.val false [.ptr 4 0 0])),(.T 5,.t (.val false [.ptr 5 0 0])),(.B 4,.b 0 false [.row 4 1 0,.int .i64 y1,.row 4 5 0]),(.R 4 1,.r 0 (some ⟨false,.any,true,92,(.pair (.int .i64) (.pair (.int .i64) (.pair (.sl 9 .str) (.sl 155 (.pair .str (.pair .bool (.sl 3 (.int .i64)))))))),y2⟩)),(.R 4 5,.r 0 (some ⟨false,.any,true,73,(.pair (.int .i64) (.pair (.pair (.int .i64) (.pair (.int .i64) (.pair (.int .i64) (.pair (.int .i64) (.pair (.int .i64) (.pair (.int .i64) (.int .i64))))))) (.pair .bool (.pair (.sl 3 (.int .i64)) (.sl 3 (.int .i64)))))),y3⟩)),(.B 5,.b 0 false [.row 5 1 0,.int .i64 y4,.row 5 5 0]),(.R 5 1,.r 0 (some ⟨false,.any,true,92,(.pair (.int .i64) (.pair (.int .i64) (.pair (.sl 9 .str) (.sl 155 (.pair .str (.pair .bool (.sl 3 (.int .i64)))))))),y5⟩)),(.R 5 5,.r 0 (some ⟨false,.any,true,73,(.pair (.int .i64) (.pair (.pair (.int .i64) (.pair (.int .i64) (.pair (.int .i64) (.pair (.int .i64) (.pair (.int .i64) (.pair (.int .i64) (.int .i64))))))) (.pair .bool (.pair (.sl 3 (.int .i64)) (.sl 3 (.int .i64)))))),r⟩))]) = xi_FroFall_0 y1 y2 y3 y4 y5 r := fun r => by first | rfl | rcases r with r | r <;> rfl | rcases r with r | r | r <;> rfl | rcases r with r | r | r | r <;> rfl
  have h3 := (hx (valO (g_Li_FroFall_0 y1 y2 y3 y4 y5 (y0,y6)))).symm.trans h2
  have e3 := congrArg Prod.fst h3
  have e4 := congrArg Prod.snd h3
  simp only at e3 e4
  rw [← e3,← e4]
  exact key
 ·exact .inl ⟨xt,h1,h2⟩)
noncomputable def g_Ai_FroFall (a0:tL0) (a1:Int) (a2:tL1) (a3:Int):Bool := g_Ai_FroOk a0 a1 a2&&(!g_Vi_FroOk_0 a0 a1 a2 || g_AZ65 a0 a1 a3&&okO (g_Li_FroFall_0 (0:Int) [] [] (g_VZ65_1 a0 a1 a3) (g_VZ65_0 a0 a1 a3) ((0:Int),[])))
noncomputable def g_Vi_FroFall_0 (a0:tL0) (a1:Int) (a2:tL1) (a3:Int):tL0 := bif !g_Vi_FroOk_0 a0 a1 a2 then [] else g_VZ65_0 a0 a1 a3
noncomputable def g_VZ51 (a0:tL0) (a1:Int) (a2:tL1) (a3:Int):Int := bif !g_Vi_FroOk_0 a0 a1 a2 then (0:Int) else g_VZ65_1 a0 a1 a3
noncomputable def g_Vi_FroFall_2 (a0:tL0) (a1:Int) (a2:tL1) (a3:Int):tL1 := bif !g_Vi_FroOk_0 a0 a1 a2 then [] else valO (g_Li_FroFall_0 (0:Int) [] [] (g_VZ65_1 a0 a1 a3) (g_VZ65_0 a0 a1 a3) ((0:Int),[]))
noncomputable def Fi_FroFall:FSem := fun ys => match ys with
 | [.val true [.sl .any 92 (.pair (.int .i64) (.pair (.int .i64) (.pair (.sl 9 .str) (.sl 155 (.pair .str (.pair .bool (.sl 3 (.int .i64)))))))) a0,.int .i64 a1,.sl .any 73 (.pair (.int .i64) (.pair (.pair (.int .i64) (.pair (.int .i64) (.pair (.int .i64) (.pair (.int .i64) (.pair (.int .i64) (.pair (.int .i64) (.int .i64))))))) (.pair .bool (.pair (.sl 3 (.int .i64)) (.sl 3 (.int .i64)))))) a2],.val false [.int .i64 a3]] => some ((g_Ai_FroFall a0 a1 a2 a3),.val true [.own .any true 92 (.pair (.int .i64) (.pair (.int .i64) (.pair (.sl 9 .str) (.sl 155 (.pair .str (.pair .bool (.sl 3 (.int .i64)))))))) (g_Vi_FroFall_0 a0 a1 a2 a3),.int .i64 (g_VZ51 a0 a1 a2 a3),.own .any true 73 (.pair (.int .i64) (.pair (.pair (.int .i64) (.pair (.int .i64) (.pair (.int .i64) (.pair (.int .i64) (.pair (.int .i64) (.pair (.int .i64) (.int .i64))))))) (.pair .bool (.pair (.sl 3 (.int .i64)) (.sl 3 (.int .i64)))))) (g_Vi_FroFall_2 a0 a1 a2 a3)],[])
 | _ => none
theorem vi_FroFall (a0:tL0) (a1:Int) (a2:tL1) (a3:Int):collapseH .std Ei_FroFall OZ51 (execFn Ei_FroFall Tryz.f17 msi_FroFall [.val true [.sl .any 92 (.pair (.int .i64) (.pair (.int .i64) (.pair (.sl 9 .str) (.sl 155 (.pair .str (.pair .bool (.sl 3 (.int .i64)))))))) a0,.int .i64 a1,.sl .any 73 (.pair (.int .i64) (.pair (.pair (.int .i64) (.pair (.int .i64) (.pair (.int .i64) (.pair (.int .i64) (.pair (.int .i64) (.pair (.int .i64) (.int .i64))))))) (.pair .bool (.pair (.sl 3 (.int .i64)) (.sl 3 (.int .i64)))))) a2],.val false [.int .i64 a3]]) = some ((g_Ai_FroFall a0 a1 a2 a3),.val true [.own .any true 92 (.pair (.int .i64) (.pair (.int .i64) (.pair (.sl 9 .str) (.sl 155 (.pair .str (.pair .bool (.sl 3 (.int .i64)))))))) (g_Vi_FroFall_0 a0 a1 a2 a3),.int .i64 (g_VZ51 a0 a1 a2 a3),.own .any true 73 (.pair (.int .i64) (.pair (.pair (.int .i64) (.pair (.int .i64) (.pair (.int .i64) (.pair (.int .i64) (.pair (.int .i64) (.pair (.int .i64) (.int .i64))))))) (.pair .bool (.pair (.sl 3 (.int .i64)) (.sl 3 (.int .i64)))))) (g_Vi_FroFall_2 a0 a1 a2 a3)],[]) := by kernel_rfl
theorem si_FroFall:Sound Tryz.prog 17 msi_FroFall Fi_FroFall := by
 refine fn_gen goodi_FroFall (by kernel_rfl) .std (fn := Tryz.f17) (c := (Tryz.f17.body.getD .skip)) (o := OZ51) (k := 1) (by kernel_rfl) (by kernel_rfl) (by kernel_rfl) (by kernel_rfl) (by decide) kZ51 ?_
 intro ys r outs h
 unfold Fi_FroFall at h
 split at h
 ·exact (vi_FroFall _ _ _ _).trans h
 ·cases h
noncomputable def Es_l1In:Env where
 tt := mkTI Tryz.prog
 fn := fun _ => none
 bxf := fun _ => none
 mv := []
 keep := fun _ => []
 keepB := fun _ => []
 keepX := fun _ => []
 keepXB := fun _ => []
theorem goodFs_l1In:∀ f ms F,Es_l1In.fn f = some (ms,F) → Sound Tryz.prog f ms F := fun f ms F h => by cases h
theorem goods_l1In:Good Tryz.prog Es_l1In := ⟨rfl,goodFs_l1In,fun f ms F h => by cases h⟩
noncomputable def Os_l1In_0:Orc := fun _ _ => none
noncomputable def mss_l1In:List PM := [.own,.own,.own]
noncomputable def lss_l1In:List (Nat×Code) := loopsAll 0 (Tryz.f55.body.getD .skip)
theorem ks_l1In_0:OrcOk Es_l1In Os_l1In_0 lss_l1In 0 := orcOk_none
noncomputable def g_As_l1In (a0:Int) (a1:Int) (a2:Int):Bool := !decide (a0 ≥ a1) || true
noncomputable def g_Vs_l1In_0 (a0:Int) (a1:Int) (a2:Int):Bool := bif decide (a0 ≥ a1) then decide (a0 ≤ a2) else false
noncomputable def Fs_l1In:FSem := fun ys => match ys with
 | [.val false [.int .i64 a0],.val false [.int .i64 a1],.val false [.int .i64 a2]] => some ((g_As_l1In a0 a1 a2),.val false [.bool (g_Vs_l1In_0 a0 a1 a2)],[])
 | _ => none
theorem vs_l1In (a0:Int) (a1:Int) (a2:Int):collapseH .std Es_l1In Os_l1In_0 (execFn Es_l1In Tryz.f55 mss_l1In [.val false [.int .i64 a0],.val false [.int .i64 a1],.val false [.int .i64 a2]]) = some ((g_As_l1In a0 a1 a2),.val false [.bool (g_Vs_l1In_0 a0 a1 a2)],[]) := by kernel_rfl
theorem ss_l1In:Sound Tryz.prog 55 mss_l1In Fs_l1In := by
 refine fn_gen goods_l1In (by kernel_rfl) .std (fn := Tryz.f55) (c := (Tryz.f55.body.getD .skip)) (o := Os_l1In_0) (k := 0) (by kernel_rfl) (by kernel_rfl) (by kernel_rfl) (by kernel_rfl) (by decide) ks_l1In_0 ?_
 intro ys r outs h
 unfold Fs_l1In at h
 split at h
 ·exact (vs_l1In _ _ _).trans h
 ·cases h
noncomputable def Es_l1Key:Env where
 tt := mkTI Tryz.prog
 fn := fun f => match f with
  | 55 => some (mss_l1In,FSem.wk mss_l1In Fs_l1In)
  | _ => none
 bxf := fun _ => none
 mv := []
 keep := fun b => match b with
  | 0 => [(0,false),(3,false)]
  | _ => []
 keepB := fun b => match b with
  | 0 => []
  | _ => []
 keepX := fun b => match b with
  | 0 => [(2,false)]
  | _ => []
 keepXB := fun b => match b with
  | 0 => []
  | _ => []
theorem goodFs_l1Key:∀ f ms F,Es_l1Key.fn f = some (ms,F) → Sound Tryz.prog f ms F := fun f ms F h => by
 unfold Es_l1Key at h
 dsimp only at h
 split at h
 ·exact gF ss_l1In h
 ·cases h
theorem goods_l1Key:Good Tryz.prog Es_l1Key := ⟨rfl,goodFs_l1Key,fun f ms F h => by cases h⟩
noncomputable def Os_l1Key_0:Orc := fun _ _ => none
noncomputable def mss_l1Key:List PM := [.own]
noncomputable def lss_l1Key:List (Nat×Code) := loopsAll 0 (Tryz.f155.body.getD .skip)
noncomputable def cs_l1Key_0:Code := (loopOf 0 (Tryz.f155.body.getD .skip)).getD .skip
theorem lseqs_l1Key:lss_l1Key = [(0,cs_l1Key_0)] := by kernel_rfl
theorem ms_l1Key_0:∀ p,p ∈ lss_l1Key → p.1 = 0 → p.2 = cs_l1Key_0 := by
 intro p hp
 rw [lseqs_l1Key] at hp
 simp only [List.mem_cons,List.not_mem_nil,or_false] at hp
 subst hp; simp
theorem ks_l1Key_0:OrcOk Es_l1Key Os_l1Key_0 lss_l1Key 0 := orcOk_none
noncomputable def hs_l1Key_0 (y0:ByteArray) (y1:Int):List (Pl×LV) := [(.T 0,.t (.val false [.str y0])),(.T 3,.t (.val false [.int .i64 y1]))]
noncomputable def g_Ss_l1Key_0 (y0:ByteArray):(Int) → RT (Int) ((Bool) ⊕ (Unit))
 | y1 => .br (true) (.br (decide (y1 < (↑(ByteArray.size y0):Int))) (.br (decide (0 ≤ y1 ∧ y1 < (↑(ByteArray.size y0):Int))) (.br (true) (.br (decide (byteAt y0 (Int.toNat y1) < 48)) (.out (.inl false)) (.br (decide (0 ≤ y1 ∧ y1 < (↑(ByteArray.size y0):Int))) (.br (true) (.br (decide (byteAt y0 (Int.toNat y1) > 57)) (.out (.inl false)) (.br (true) (.go (IntKind.i64.wrap (y1 + 1))) .bad)) .bad) .bad)) .bad) .bad) (.out (.inr (())))) .bad
noncomputable def g_Ls_l1Key_0 (y0:ByteArray) (x:Int):Option ((Bool) ⊕ (Unit)) := loopO (g_Ss_l1Key_0 y0) x
noncomputable def xs_l1Key_0 (y0:ByteArray):((Bool) ⊕ (Unit)) → Ex×List (Pl×LV) := fun
 | .inl r => (.ret,[(.T 2,.t (.val false [.bool r]))])
 | .inr (r) => (.exit 0,[(.T 2,.t (.val false [.undef]))])
noncomputable def Os_l1Key_1:Orc := fun b h => match b,h with
 | 0,[(.T 0,.t (.val false [.str y0])),(.T 3,.t (.val false [.int .i64 y1]))] => some (okO (g_Ls_l1Key_0 y0 y1),(.br (isL (valO (g_Ls_l1Key_0 y0 y1))) (.leaf .ret [(.T 2,.t (.val false [.bool (getL (valO (g_Ls_l1Key_0 y0 y1)))]))]) (.leaf (.exit 0) [(.T 2,.t (.val false [.undef]))])))
 | b,h => Os_l1Key_0 b h
theorem bs_l1Key_0 (y0:ByteArray) (y1:Int):Tr.bt Es_l1Key Os_l1Key_0 (exec Es_l1Key 0 cs_l1Key_0 (St.of (hs_l1Key_0 y0 y1)) (leafRd Es_l1Key 0)) = (g_Ss_l1Key_0 y0 y1).bt (fun (y1:Int) => (hs_l1Key_0 y0 y1)) (xs_l1Key_0 y0) := by kernel_rfl
theorem ks_l1Key_1:OrcOk Es_l1Key Os_l1Key_1 lss_l1Key 1 := orc_add ks_l1Key_0 (fun n p hp h ex h' ho => by
 obtain ⟨b,c⟩ := p
 obtain ⟨xt,h1,h2⟩ := ho
 have h1:Os_l1Key_1 b h = some (true,xt) := h1
 unfold Os_l1Key_1 at h1
 split at h1
 ·injection h1 with h1
  injection h1 with e1 e2
  subst e2
  have hc:c = cs_l1Key_0 := ms_l1Key_0 _ hp rfl
  subst hc
  right
  rename_i y0 y1
  have key := LT_step ks_l1Key_0 hp (fun q hq => loopsAll_in _ _ _ _ hp hq) (fun (y1:Int) => (hs_l1Key_0 y0 y1)) (xs_l1Key_0 y0) (g_Ss_l1Key_0 y0) (fun x => by first | exact bs_l1Key_0 y0 x) n (x := y1) (okO_some e1)
  have hx:∀ r,XT.sel (.br (isL r) (.leaf .ret [(.T 2,.t (.val false [.bool (getL r)]))]) (.leaf (.exit 0) [(.T 2,.t (.val false [.undef]))])) = xs_l1Key_0 y0 r := fun r => by first | rfl | rcases r with r | r <;> rfl | rcases r with r | r | r <;> rfl | rcases r with r | r | r | r <;> rfl
  have h3 := (hx (valO (g_Ls_l1Key_0 y0 y1))).symm.trans h2
  have e3 := congrArg Prod.fst h3
  have e4 := congrArg Prod.snd h3
  simp only at e3 e4
  rw [← e3,← e4]
  exact key
 ·exact .inl ⟨xt,h1,h2⟩)
noncomputable def g_As_l1Key (a0:ByteArray):Bool := g_As_l1In (↑(ByteArray.size a0):Int) (2:Int) (3:Int)&&(!g_Vs_l1In_0 (↑(ByteArray.size a0):Int) (2:Int) (3:Int) || decide ((0:Int) ≤ (0:Int) ∧ 0 < (↑(ByteArray.size a0):Int))&&(decide (byteAt a0 (nat_lit 0) < 97) || decide ((0:Int) ≤ (0:Int) ∧ 0 < (↑(ByteArray.size a0):Int))&&(decide (byteAt a0 (nat_lit 0) > 122) || okO (g_Ls_l1Key_0 a0 (1:Int)))))
noncomputable def g_Vs_l1Key_0 (a0:ByteArray):Bool := bif !g_Vs_l1In_0 (↑(ByteArray.size a0):Int) (2:Int) (3:Int) then false else bif decide (byteAt a0 (nat_lit 0) < 97) then false else bif decide (byteAt a0 (nat_lit 0) > 122) then false else bif isL (valO (g_Ls_l1Key_0 a0 (1:Int))) then getL (valO (g_Ls_l1Key_0 a0 (1:Int))) else true
noncomputable def Fs_l1Key:FSem := fun ys => match ys with
 | [.val false [.str a0]] => some ((g_As_l1Key a0),.val false [.bool (g_Vs_l1Key_0 a0)],[])
 | _ => none
theorem vs_l1Key (a0:ByteArray):collapseH .std Es_l1Key Os_l1Key_1 (execFn Es_l1Key Tryz.f155 mss_l1Key [.val false [.str a0]]) = some ((g_As_l1Key a0),.val false [.bool (g_Vs_l1Key_0 a0)],[]) := by kernel_rfl
theorem ss_l1Key:Sound Tryz.prog 155 mss_l1Key Fs_l1Key := by
 refine fn_gen goods_l1Key (by kernel_rfl) .std (fn := Tryz.f155) (c := (Tryz.f155.body.getD .skip)) (o := Os_l1Key_1) (k := 1) (by kernel_rfl) (by kernel_rfl) (by kernel_rfl) (by kernel_rfl) (by decide) ks_l1Key_1 ?_
 intro ys r outs h
 unfold Fs_l1Key at h
 split at h
 ·exact (vs_l1Key _).trans h
 ·cases h
noncomputable def Es_l1Val:Env where
 tt := mkTI Tryz.prog
 fn := fun f => match f with
  | 55 => some (mss_l1In,FSem.wk mss_l1In Fs_l1In)
  | _ => none
 bxf := fun _ => none
 mv := []
 keep := fun b => match b with
  | 0 => [(0,false),(3,false)]
  | _ => []
 keepB := fun b => match b with
  | 0 => []
  | _ => []
 keepX := fun b => match b with
  | 0 => [(0,false),(2,false)]
  | _ => []
 keepXB := fun b => match b with
  | 0 => []
  | _ => []
theorem goodFs_l1Val:∀ f ms F,Es_l1Val.fn f = some (ms,F) → Sound Tryz.prog f ms F := fun f ms F h => by
 unfold Es_l1Val at h
 dsimp only at h
 split at h
 ·exact gF ss_l1In h
 ·cases h
theorem goods_l1Val:Good Tryz.prog Es_l1Val := ⟨rfl,goodFs_l1Val,fun f ms F h => by cases h⟩
noncomputable def Os_l1Val_0:Orc := fun _ _ => none
noncomputable def mss_l1Val:List PM := [.rd]
noncomputable def lss_l1Val:List (Nat×Code) := loopsAll 0 (Tryz.f174.body.getD .skip)
noncomputable def cs_l1Val_0:Code := (loopOf 0 (Tryz.f174.body.getD .skip)).getD .skip
theorem lseqs_l1Val:lss_l1Val = [(0,cs_l1Val_0)] := by kernel_rfl
theorem ms_l1Val_0:∀ p,p ∈ lss_l1Val → p.1 = 0 → p.2 = cs_l1Val_0 := by
 intro p hp
 rw [lseqs_l1Val] at hp
 simp only [List.mem_cons,List.not_mem_nil,or_false] at hp
 subst hp; simp
theorem ks_l1Val_0:OrcOk Es_l1Val Os_l1Val_0 lss_l1Val 0 := orcOk_none
noncomputable def hs_l1Val_0 (y0:List Int) (y1:Int):List (Pl×LV) := [(.T 0,.t (.val false [.sl .any 3 (.int .i64) y0])),(.T 3,.t (.val false [.int .i64 y1]))]
noncomputable def g_Ss_l1Val_0 (y0:List Int):(Int) → RT (Int) ((Bool) ⊕ (Unit))
 | y1 => .br (true) (.br (decide (y1 < (y0.length:Int))) (.br (decide (0 ≤ y1 ∧ y1 < (y0.length:Int))) (.br (g_As_l1In (at_ (.int .i64) y0 (Int.toNat y1)) (0:Int) (9999:Int)) (.br (!g_Vs_l1In_0 (at_ (.int .i64) y0 (Int.toNat y1)) (0:Int) (9999:Int)) (.out (.inl false)) (.br (true) (.go (IntKind.i64.wrap (y1 + 1))) .bad)) .bad) .bad) (.out (.inr (())))) .bad
noncomputable def g_Ls_l1Val_0 (y0:List Int) (x:Int):Option ((Bool) ⊕ (Unit)) := loopO (g_Ss_l1Val_0 y0) x
noncomputable def xs_l1Val_0 (y0:List Int):((Bool) ⊕ (Unit)) → Ex×List (Pl×LV) := fun
 | .inl r => (.ret,[(.T 0,.t (.val false [.sl .any 3 (.int .i64) y0])),(.T 2,.t (.val false [.bool r]))])
 | .inr (r) => (.exit 0,[(.T 0,.t (.val false [.sl .any 3 (.int .i64) y0])),(.T 2,.t (.val false [.undef]))])
noncomputable def Os_l1Val_1:Orc := fun b h => match b,h with
 | 0,[(.T 0,.t (.val false [.sl .any 3 (.int .i64) y0])),(.T 3,.t (.val false [.int .i64 y1]))] => some (okO (g_Ls_l1Val_0 y0 y1),(.br (isL (valO (g_Ls_l1Val_0 y0 y1))) (.leaf .ret [(.T 0,.t (.val false [.sl .any 3 (.int .i64) y0])),(.T 2,.t (.val false [.bool (getL (valO (g_Ls_l1Val_0 y0 y1)))]))]) (.leaf (.exit 0) [(.T 0,.t (.val false [.sl .any 3 (.int .i64) y0])),(.T 2,.t (.val false [.undef]))])))
 | b,h => Os_l1Val_0 b h
theorem bs_l1Val_0 (y0:List Int) (y1:Int):Tr.bt Es_l1Val Os_l1Val_0 (exec Es_l1Val 0 cs_l1Val_0 (St.of (hs_l1Val_0 y0 y1)) (leafRd Es_l1Val 0)) = (g_Ss_l1Val_0 y0 y1).bt (fun (y1:Int) => (hs_l1Val_0 y0 y1)) (xs_l1Val_0 y0) := by kernel_rfl
theorem ks_l1Val_1:OrcOk Es_l1Val Os_l1Val_1 lss_l1Val 1 := orc_add ks_l1Val_0 (fun n p hp h ex h' ho => by
 obtain ⟨b,c⟩ := p
 obtain ⟨xt,h1,h2⟩ := ho
 have h1:Os_l1Val_1 b h = some (true,xt) := h1
 unfold Os_l1Val_1 at h1
 split at h1
 ·injection h1 with h1
  injection h1 with e1 e2
  subst e2
  have hc:c = cs_l1Val_0 := ms_l1Val_0 _ hp rfl
  subst hc
  right
  rename_i y0 y1
  have key := LT_step ks_l1Val_0 hp (fun q hq => loopsAll_in _ _ _ _ hp hq) (fun (y1:Int) => (hs_l1Val_0 y0 y1)) (xs_l1Val_0 y0) (g_Ss_l1Val_0 y0) (fun x => by first | exact bs_l1Val_0 y0 x) n (x := y1) (okO_some e1)
  have hx:∀ r,XT.sel (.br (isL r) (.leaf .ret [(.T 0,.t (.val false [.sl .any 3 (.int .i64) y0])),(.T 2,.t (.val false [.bool (getL r)]))]) (.leaf (.exit 0) [(.T 0,.t (.val false [.sl .any 3 (.int .i64) y0])),(.T 2,.t (.val false [.undef]))])) = xs_l1Val_0 y0 r := fun r => by first | rfl | rcases r with r | r <;> rfl | rcases r with r | r | r <;> rfl | rcases r with r | r | r | r <;> rfl
  have h3 := (hx (valO (g_Ls_l1Val_0 y0 y1))).symm.trans h2
  have e3 := congrArg Prod.fst h3
  have e4 := congrArg Prod.snd h3
  simp only at e3 e4
  rw [← e3,← e4]
  exact key
 ·exact .inl ⟨xt,h1,h2⟩)
noncomputable def g_As_l1Val (a0:List Int):Bool := okO (g_Ls_l1Val_0 a0 (0:Int))&&(isL (valO (g_Ls_l1Val_0 a0 (0:Int))) || g_As_l1In (a0.length:Int) (1:Int) (3:Int))
noncomputable def g_Vs_l1Val_0 (a0:List Int):Bool := bif isL (valO (g_Ls_l1Val_0 a0 (0:Int))) then getL (valO (g_Ls_l1Val_0 a0 (0:Int))) else g_Vs_l1In_0 (a0.length:Int) (1:Int) (3:Int)
noncomputable def Fs_l1Val:FSem := fun ys => match ys with
 | [.val false [.sl .any 3 (.int .i64) a0]] => some ((g_As_l1Val a0),.val false [.bool (g_Vs_l1Val_0 a0)],[])
 | _ => none
theorem vs_l1Val (a0:List Int):collapseH .std Es_l1Val Os_l1Val_1 (execFn Es_l1Val Tryz.f174 mss_l1Val [.val false [.sl .any 3 (.int .i64) a0]]) = some ((g_As_l1Val a0),.val false [.bool (g_Vs_l1Val_0 a0)],[]) := by kernel_rfl
theorem ss_l1Val:Sound Tryz.prog 174 mss_l1Val Fs_l1Val := by
 refine fn_gen goods_l1Val (by kernel_rfl) .std (fn := Tryz.f174) (c := (Tryz.f174.body.getD .skip)) (o := Os_l1Val_1) (k := 1) (by kernel_rfl) (by kernel_rfl) (by kernel_rfl) (by kernel_rfl) (by decide) ks_l1Val_1 ?_
 intro ys r outs h
 unfold Fs_l1Val at h
 split at h
 ·exact (vs_l1Val _).trans h
 ·cases h
noncomputable def Es_WrtOk:Env where
 tt := mkTI Tryz.prog
 fn := fun f => match f with
  | 155 => some (mss_l1Key,FSem.wk mss_l1Key Fs_l1Key)
  | 174 => some (mss_l1Val,FSem.wk mss_l1Val Fs_l1Val)
  | _ => none
 bxf := fun _ => none
 mv := []
 keep := fun _ => []
 keepB := fun _ => []
 keepX := fun _ => []
 keepXB := fun _ => []
theorem goodFs_WrtOk:∀ f ms F,Es_WrtOk.fn f = some (ms,F) → Sound Tryz.prog f ms F := fun f ms F h => by
 unfold Es_WrtOk at h
 dsimp only at h
 split at h
 ·exact gF ss_l1Key h
 ·exact gF ss_l1Val h
 ·cases h
theorem goods_WrtOk:Good Tryz.prog Es_WrtOk := ⟨rfl,goodFs_WrtOk,fun f ms F h => by cases h⟩
noncomputable def Os_WrtOk_0:Orc := fun _ _ => none
noncomputable def mss_WrtOk:List PM := [.rd]
noncomputable def lss_WrtOk:List (Nat×Code) := loopsAll 0 (Tryz.f156.body.getD .skip)
theorem ks_WrtOk_0:OrcOk Es_WrtOk Os_WrtOk_0 lss_WrtOk 0 := orcOk_none
noncomputable def g_As_WrtOk (a0:ByteArray) (a1:Bool) (a2:List Int):Bool := bif a1 then g_As_l1Key a0&&(!g_Vs_l1Key_0 a0 || true) else g_As_l1Key a0&&(!g_Vs_l1Key_0 a0 || g_As_l1Val a2)
noncomputable def g_Vs_WrtOk_0 (a0:ByteArray) (a1:Bool) (a2:List Int):Bool := bif a1 then bif g_Vs_l1Key_0 a0 then (a2.length:Int) == 0 else false else bif g_Vs_l1Key_0 a0 then g_Vs_l1Val_0 a2 else false
noncomputable def Fs_WrtOk:FSem := fun ys => match ys with
 | [.val true [.str a0,.bool a1,.sl .any 3 (.int .i64) a2]] => some ((g_As_WrtOk a0 a1 a2),.val false [.bool (g_Vs_WrtOk_0 a0 a1 a2)],[])
 | _ => none
theorem vs_WrtOk (a0:ByteArray) (a1:Bool) (a2:List Int):collapseH .std Es_WrtOk Os_WrtOk_0 (execFn Es_WrtOk Tryz.f156 mss_WrtOk [.val true [.str a0,.bool a1,.sl .any 3 (.int .i64) a2]]) = some ((g_As_WrtOk a0 a1 a2),.val false [.bool (g_Vs_WrtOk_0 a0 a1 a2)],[]) := by kernel_rfl
theorem ss_WrtOk:Sound Tryz.prog 156 mss_WrtOk Fs_WrtOk := by
 refine fn_gen goods_WrtOk (by kernel_rfl) .std (fn := Tryz.f156) (c := (Tryz.f156.body.getD .skip)) (o := Os_WrtOk_0) (k := 0) (by kernel_rfl) (by kernel_rfl) (by kernel_rfl) (by kernel_rfl) (by decide) ks_WrtOk_0 ?_
 intro ys r outs h
 unfold Fs_WrtOk at h
 split at h
 ·exact (vs_WrtOk _ _ _).trans h
 ·cases h
noncomputable def Es_l2Has:Env where
 tt := mkTI Tryz.prog
 fn := fun _ => none
 bxf := fun _ => none
 mv := []
 keep := fun b => match b with
  | 0 => [(0,false),(1,false),(5,false)]
  | _ => []
 keepB := fun b => match b with
  | 0 => []
  | _ => []
 keepX := fun b => match b with
  | 0 => [(4,false)]
  | _ => []
 keepXB := fun b => match b with
  | 0 => []
  | _ => []
theorem goodFs_l2Has:∀ f ms F,Es_l2Has.fn f = some (ms,F) → Sound Tryz.prog f ms F := fun f ms F h => by cases h
theorem goods_l2Has:Good Tryz.prog Es_l2Has := ⟨rfl,goodFs_l2Has,fun f ms F h => by cases h⟩
noncomputable def Os_l2Has_0:Orc := fun _ _ => none
noncomputable def mss_l2Has:List PM := [.rd,.own]
noncomputable def lss_l2Has:List (Nat×Code) := loopsAll 0 (Tryz.f157.body.getD .skip)
noncomputable def cs_l2Has_0:Code := (loopOf 0 (Tryz.f157.body.getD .skip)).getD .skip
theorem lseqs_l2Has:lss_l2Has = [(0,cs_l2Has_0)] := by kernel_rfl
theorem ms_l2Has_0:∀ p,p ∈ lss_l2Has → p.1 = 0 → p.2 = cs_l2Has_0 := by
 intro p hp
 rw [lseqs_l2Has] at hp
 simp only [List.mem_cons,List.not_mem_nil,or_false] at hp
 subst hp; simp
theorem ks_l2Has_0:OrcOk Es_l2Has Os_l2Has_0 lss_l2Has 0 := orcOk_none
noncomputable def hs_l2Has_0 (y0:List ByteArray) (y1:ByteArray) (y2:Int):List (Pl×LV) := [(.T 0,.t (.val false [.sl .any 9 .str y0])),(.T 1,.t (.val false [.str y1])),(.T 5,.t (.val false [.int .i64 y2]))]
noncomputable def g_Ss_l2Has_0 (y0:List ByteArray) (y1:ByteArray):(Int) → RT (Int) ((Bool) ⊕ (Unit))
 | y2 => .br (true) (.br (decide (y2 < (y0.length:Int))) (.br (decide (0 ≤ y2 ∧ y2 < (y0.length:Int))) (.br (true) (.br (ByteArray.toList (at_ Ty.str y0 (Int.toNat y2)) == ByteArray.toList y1) (.out (.inl true)) (.br (true) (.go (IntKind.i64.wrap (y2 + 1))) .bad)) .bad) .bad) (.out (.inr (())))) .bad
noncomputable def g_Ls_l2Has_0 (y0:List ByteArray) (y1:ByteArray) (x:Int):Option ((Bool) ⊕ (Unit)) := loopO (g_Ss_l2Has_0 y0 y1) x
noncomputable def xs_l2Has_0 (y0:List ByteArray) (y1:ByteArray):((Bool) ⊕ (Unit)) → Ex×List (Pl×LV) := fun
 | .inl r => (.ret,[(.T 4,.t (.val false [.bool r]))])
 | .inr (r) => (.exit 0,[(.T 4,.t (.val false [.undef]))])
noncomputable def Os_l2Has_1:Orc := fun b h => match b,h with
 | 0,[(.T 0,.t (.val false [.sl .any 9 .str y0])),(.T 1,.t (.val false [.str y1])),(.T 5,.t (.val false [.int .i64 y2]))] => some (okO (g_Ls_l2Has_0 y0 y1 y2),(.br (isL (valO (g_Ls_l2Has_0 y0 y1 y2))) (.leaf .ret [(.T 4,.t (.val false [.bool (getL (valO (g_Ls_l2Has_0 y0 y1 y2)))]))]) (.leaf (.exit 0) [(.T 4,.t (.val false [.undef]))])))
 | b,h => Os_l2Has_0 b h
theorem bs_l2Has_0 (y0:List ByteArray) (y1:ByteArray) (y2:Int):Tr.bt Es_l2Has Os_l2Has_0 (exec Es_l2Has 0 cs_l2Has_0 (St.of (hs_l2Has_0 y0 y1 y2)) (leafRd Es_l2Has 0)) = (g_Ss_l2Has_0 y0 y1 y2).bt (fun (y2:Int) => (hs_l2Has_0 y0 y1 y2)) (xs_l2Has_0 y0 y1) := by kernel_rfl
theorem ks_l2Has_1:OrcOk Es_l2Has Os_l2Has_1 lss_l2Has 1 := orc_add ks_l2Has_0 (fun n p hp h ex h' ho => by
 obtain ⟨b,c⟩ := p
 obtain ⟨xt,h1,h2⟩ := ho
 have h1:Os_l2Has_1 b h = some (true,xt) := h1
 unfold Os_l2Has_1 at h1
 split at h1
 ·injection h1 with h1
  injection h1 with e1 e2
  subst e2
  have hc:c = cs_l2Has_0 := ms_l2Has_0 _ hp rfl
  subst hc
  right
  rename_i y0 y1 y2
  have key := LT_step ks_l2Has_0 hp (fun q hq => loopsAll_in _ _ _ _ hp hq) (fun (y2:Int) => (hs_l2Has_0 y0 y1 y2)) (xs_l2Has_0 y0 y1) (g_Ss_l2Has_0 y0 y1) (fun x => by first | exact bs_l2Has_0 y0 y1 x) n (x := y2) (okO_some e1)
  have hx:∀ r,XT.sel (.br (isL r) (.leaf .ret [(.T 4,.t (.val false [.bool (getL r)]))]) (.leaf (.exit 0) [(.T 4,.t (.val false [.undef]))])) = xs_l2Has_0 y0 y1 r := fun r => by first | rfl | rcases r with r | r <;> rfl | rcases r with r | r | r <;> rfl | rcases r with r | r | r | r <;> rfl
  have h3 := (hx (valO (g_Ls_l2Has_0 y0 y1 y2))).symm.trans h2
  have e3 := congrArg Prod.fst h3
  have e4 := congrArg Prod.snd h3
  simp only at e3 e4
  rw [← e3,← e4]
  exact key
 ·exact .inl ⟨xt,h1,h2⟩)
noncomputable def g_As_l2Has (a0:List ByteArray) (a1:ByteArray):Bool := okO (g_Ls_l2Has_0 a0 a1 (0:Int))
noncomputable def g_Vs_l2Has_0 (a0:List ByteArray) (a1:ByteArray):Bool := bif isL (valO (g_Ls_l2Has_0 a0 a1 (0:Int))) then getL (valO (g_Ls_l2Has_0 a0 a1 (0:Int))) else false
noncomputable def Fs_l2Has:FSem := fun ys => match ys with
 | [.val false [.sl .any 9 .str a0],.val false [.str a1]] => some ((g_As_l2Has a0 a1),.val false [.bool (g_Vs_l2Has_0 a0 a1)],[])
 | _ => none
theorem vs_l2Has (a0:List ByteArray) (a1:ByteArray):collapseH .std Es_l2Has Os_l2Has_1 (execFn Es_l2Has Tryz.f157 mss_l2Has [.val false [.sl .any 9 .str a0],.val false [.str a1]]) = some ((g_As_l2Has a0 a1),.val false [.bool (g_Vs_l2Has_0 a0 a1)],[]) := by kernel_rfl
theorem ss_l2Has:Sound Tryz.prog 157 mss_l2Has Fs_l2Has := by
 refine fn_gen goods_l2Has (by kernel_rfl) .std (fn := Tryz.f157) (c := (Tryz.f157.body.getD .skip)) (o := Os_l2Has_1) (k := 1) (by kernel_rfl) (by kernel_rfl) (by kernel_rfl) (by kernel_rfl) (by decide) ks_l2Has_1 ?_
 intro ys r outs h
 unfold Fs_l2Has at h
 split at h
 ·exact (vs_l2Has _ _).trans h
 ·cases h
noncomputable def Es_NoteOk:Env where
 tt := mkTI Tryz.prog
 fn := fun f => match f with
  | 55 => some (mss_l1In,FSem.wk mss_l1In Fs_l1In)
  | 155 => some (mss_l1Key,FSem.wk mss_l1Key Fs_l1Key)
  | 156 => some (mss_WrtOk,FSem.wk mss_WrtOk Fs_WrtOk)
  | 157 => some (mss_l2Has,FSem.wk mss_l2Has Fs_l2Has)
  | _ => none
 bxf := fun _ => none
 mv := []
 keep := fun b => match b with
  | 0 => [(1,false),(3,false)]
  | 2 => [(1,false),(4,false)]
  | _ => []
 keepB := fun b => match b with
  | 0 => [(1,false)]
  | 2 => [(1,false)]
  | _ => []
 keepX := fun b => match b with
  | 0 => [(1,false),(2,false)]
  | 2 => [(1,false),(2,false)]
  | _ => []
 keepXB := fun b => match b with
  | 0 => [(1,false)]
  | 2 => [(1,false)]
  | _ => []
theorem goodFs_NoteOk:∀ f ms F,Es_NoteOk.fn f = some (ms,F) → Sound Tryz.prog f ms F := fun f ms F h => by
 unfold Es_NoteOk at h
 dsimp only at h
 split at h
 ·exact gF ss_l1In h
 ·exact gF ss_l1Key h
 ·exact gF ss_WrtOk h
 ·exact gF ss_l2Has h
 ·cases h
theorem goods_NoteOk:Good Tryz.prog Es_NoteOk := ⟨rfl,goodFs_NoteOk,fun f ms F h => by cases h⟩
noncomputable def Os_NoteOk_0:Orc := fun _ _ => none
noncomputable def mss_NoteOk:List PM := [.rd]
noncomputable def lss_NoteOk:List (Nat×Code) := loopsAll 0 (Tryz.f134.body.getD .skip)
noncomputable def cs_NoteOk_0:Code := (loopOf 0 (Tryz.f134.body.getD .skip)).getD .skip
noncomputable def cs_NoteOk_2:Code := (loopOf 2 (Tryz.f134.body.getD .skip)).getD .skip
theorem lseqs_NoteOk:lss_NoteOk = [(0,cs_NoteOk_0),(2,cs_NoteOk_2)] := by kernel_rfl
theorem ms_NoteOk_0:∀ p,p ∈ lss_NoteOk → p.1 = 0 → p.2 = cs_NoteOk_0 := by
 intro p hp
 rw [lseqs_NoteOk] at hp
 simp only [List.mem_cons,List.not_mem_nil,or_false] at hp
 rcases hp with rfl | rfl <;> simp
theorem ms_NoteOk_2:∀ p,p ∈ lss_NoteOk → p.1 = 2 → p.2 = cs_NoteOk_2 := by
 intro p hp
 rw [lseqs_NoteOk] at hp
 simp only [List.mem_cons,List.not_mem_nil,or_false] at hp
 rcases hp with rfl | rfl <;> simp
theorem ks_NoteOk_0:OrcOk Es_NoteOk Os_NoteOk_0 lss_NoteOk 0 := orcOk_none
noncomputable def hs_NoteOk_0 (y0:Int) (y1:Int) (y2:Int) (y3:List ByteArray) (y4:tL2):List (Pl×LV) := [(.T 1,.t (.val false [.ptr 1 0 0])),(.T 3,.t (.val false [.int .i64 y0])),(.B 1,.b 0 false [.int .i64 y1,.int .i64 y2,.sl .any 9 .str y3,.sl .any 155 (.pair .str (.pair .bool (.sl 3 (.int .i64)))) y4])]
noncomputable def g_Ss_NoteOk_0 (y1:Int) (y2:Int) (y3:List ByteArray) (y4:tL2):(Int) → RT (Int) ((Bool) ⊕ (Unit))
 | y0 => .br (true) (.br (decide (y0 < (y3.length:Int))) (.br (decide (0 ≤ y0 ∧ y0 < (y3.length:Int))) (.br (g_As_l1Key (at_ Ty.str y3 (Int.toNat y0))) (.br (!g_Vs_l1Key_0 (at_ Ty.str y3 (Int.toNat y0))) (.out (.inl false)) (.br (true) (.go (IntKind.i64.wrap (y0 + 1))) .bad)) .bad) .bad) (.out (.inr (())))) .bad
noncomputable def g_Ls_NoteOk_0 (y1:Int) (y2:Int) (y3:List ByteArray) (y4:tL2) (x:Int):Option ((Bool) ⊕ (Unit)) := loopO (g_Ss_NoteOk_0 y1 y2 y3 y4) x
noncomputable def xs_NoteOk_0 (y1:Int) (y2:Int) (y3:List ByteArray) (y4:tL2):((Bool) ⊕ (Unit)) → Ex×List (Pl×LV) := fun
 | .inl r => (.ret,[(.T 1,.t (.val false [.ptr 1 0 0])),(.T 2,.t (.val false [.bool r])),(.B 1,.b 0 false [.int .i64 y1,.int .i64 y2,.sl .any 9 .str y3,.sl .any 155 (.pair .str (.pair .bool (.sl 3 (.int .i64)))) y4])])
 | .inr (r) => (.exit 0,[(.T 1,.t (.val false [.ptr 1 0 0])),(.T 2,.t (.val false [.undef])),(.B 1,.b 0 false [.int .i64 y1,.int .i64 y2,.sl .any 9 .str y3,.sl .any 155 (.pair .str (.pair .bool (.sl 3 (.int .i64)))) y4])])
noncomputable def Os_NoteOk_1:Orc := fun b h => match b,h with
 | 0,[(.T 1,.t (.val false [.ptr 1 0 0])),(.T 3,.t (.val false [.int .i64 y0])),(.B 1,.b 0 false [.int .i64 y1,.int .i64 y2,.sl .any 9 .str y3,.sl .any 155 (.pair .str (.pair .bool (.sl 3 (.int .i64)))) y4])] => some (okO (g_Ls_NoteOk_0 y1 y2 y3 y4 y0),(.br (isL (valO (g_Ls_NoteOk_0 y1 y2 y3 y4 y0))) (.leaf .ret [(.T 1,.t (.val false [.ptr 1 0 0])),(.T 2,.t (.val false [.bool (getL (valO (g_Ls_NoteOk_0 y1 y2 y3 y4 y0)))])),(.B 1,.b 0 false [.int .i64 y1,.int .i64 y2,.sl .any 9 .str y3,.sl .any 155 (.pair .str (.pair .bool (.sl 3 (.int .i64)))) y4])]) (.leaf (.exit 0) [(.T 1,.t (.val false [.ptr 1 0 0])),(.T 2,.t (.val false [.undef])),(.B 1,.b 0 false [.int .i64 y1,.int .i64 y2,.sl .any 9 .str y3,.sl .any 155 (.pair .str (.pair .bool (.sl 3 (.int .i64)))) y4])])))
 | b,h => Os_NoteOk_0 b h
theorem bs_NoteOk_0 (y0:Int) (y1:Int) (y2:Int) (y3:List ByteArray) (y4:tL2):Tr.bt Es_NoteOk Os_NoteOk_0 (exec Es_NoteOk 0 cs_NoteOk_0 (St.of (hs_NoteOk_0 y0 y1 y2 y3 y4)) (leafRd Es_NoteOk 0)) = (g_Ss_NoteOk_0 y1 y2 y3 y4 y0).bt (fun (y0:Int) => (hs_NoteOk_0 y0 y1 y2 y3 y4)) (xs_NoteOk_0 y1 y2 y3 y4) := by kernel_rfl
theorem ks_NoteOk_1:OrcOk Es_NoteOk Os_NoteOk_1 lss_NoteOk 1 := orc_add ks_NoteOk_0 (fun n p hp h ex h' ho => by
 obtain ⟨b,c⟩ := p
 obtain ⟨xt,h1,h2⟩ := ho
 have h1:Os_NoteOk_1 b h = some (true,xt) := h1
 unfold Os_NoteOk_1 at h1
 split at h1
 ·injection h1 with h1
  injection h1 with e1 e2
  subst e2
  have hc:c = cs_NoteOk_0 := ms_NoteOk_0 _ hp rfl
  subst hc
  right
  rename_i y0 y1 y2 y3 y4
  have key := LT_step ks_NoteOk_0 hp (fun q hq => loopsAll_in _ _ _ _ hp hq) (fun (y0:Int) => (hs_NoteOk_0 y0 y1 y2 y3 y4)) (xs_NoteOk_0 y1 y2 y3 y4) (g_Ss_NoteOk_0 y1 y2 y3 y4) (fun x => by first | exact bs_NoteOk_0 x y1 y2 y3 y4) n (x := y0) (okO_some e1)
  have hx:∀ r,XT.sel (.br (isL r) (.leaf .ret [(.T 1,.t (.val false [.ptr 1 0 0])),(.T 2,.t (.val false [.bool (getL r)])),(.B 1,.b 0 false [.int .i64 y1,.int .i64 y2,.sl .any 9 .str y3,.sl .any 155 (.pair .str (.pair .bool (.sl 3 (.int .i64)))) y4])]) (.leaf (.exit 0) [(.T 1,.t (.val false [.ptr 1 0 0])),(.T 2,.t (.val false [.undef])),(.B 1,.b 0 false [.int .i64 y1,.int .i64 y2,.sl .any 9 .str y3,.sl .any 155 (.pair .str (.pair .bool (.sl 3 (.int .i64)))) y4])])) = xs_NoteOk_0 y1 y2 y3 y4 r := fun r => by first | rfl | rcases r with r | r <;> rfl | rcases r with r | r | r <;> rfl | rcases r with r | r | r | r <;> rfl
  have h3 := (hx (valO (g_Ls_NoteOk_0 y1 y2 y3 y4 y0))).symm.trans h2
  have e3 := congrArg Prod.fst h3
  have e4 := congrArg Prod.snd h3
  simp only at e3 e4
  rw [← e3,← e4]
  exact key
 ·exact .inl ⟨xt,h1,h2⟩)
noncomputable def hs_NoteOk_2 (y0:Int) (y1:Int) (y2:Int) (y3:List ByteArray) (y4:tL2):List (Pl×LV) := [(.T 1,.t (.val false [.ptr 1 0 0])),(.T 4,.t (.val false [.int .i64 y0])),(.B 1,.b 0 false [.int .i64 y1,.int .i64 y2,.sl .any 9 .str y3,.sl .any 155 (.pair .str (.pair .bool (.sl 3 (.int .i64)))) y4])]
noncomputable def g_Ss_NoteOk_2 (y1:Int) (y2:Int) (y3:List ByteArray) (y4:tL2):(Int) → RT (Int) ((Bool) ⊕ (Unit))
 | y0 => .br (true) (.br (decide (y0 < (y4.length:Int))) (.br (decide (0 ≤ y0 ∧ y0 < (y4.length:Int))) (.br (g_As_WrtOk (at_ yT2 y4 (Int.toNat y0)).1 (at_ yT2 y4 (Int.toNat y0)).2.1 (at_ yT2 y4 (Int.toNat y0)).2.2) (.br (!g_Vs_WrtOk_0 (at_ yT2 y4 (Int.toNat y0)).1 (at_ yT2 y4 (Int.toNat y0)).2.1 (at_ yT2 y4 (Int.toNat y0)).2.2) (.out (.inl false)) (.br (decide (0 ≤ y0 ∧ y0 < (y4.length:Int))) (.br (g_As_l2Has y3 (at_ yT2 y4 (Int.toNat y0)).1) (.br (!g_Vs_l2Has_0 y3 (at_ yT2 y4 (Int.toNat y0)).1) (.out (.inl false)) (.br (true) (.go (IntKind.i64.wrap (y0 + 1))) .bad)) .bad) .bad)) .bad) .bad) (.out (.inr (())))) .bad
noncomputable def g_Ls_NoteOk_2 (y1:Int) (y2:Int) (y3:List ByteArray) (y4:tL2) (x:Int):Option ((Bool) ⊕ (Unit)) := loopO (g_Ss_NoteOk_2 y1 y2 y3 y4) x
noncomputable def xs_NoteOk_2 (y1:Int) (y2:Int) (y3:List ByteArray) (y4:tL2):((Bool) ⊕ (Unit)) → Ex×List (Pl×LV) := fun
 | .inl r => (.ret,[(.T 1,.t (.val false [.ptr 1 0 0])),(.T 2,.t (.val false [.bool r])),(.B 1,.b 0 false [.int .i64 y1,.int .i64 y2,.sl .any 9 .str y3,.sl .any 155 (.pair .str (.pair .bool (.sl 3 (.int .i64)))) y4])])
 | .inr (r) => (.exit 2,[(.T 1,.t (.val false [.ptr 1 0 0])),(.T 2,.t (.val false [.undef])),(.B 1,.b 0 false [.int .i64 y1,.int .i64 y2,.sl .any 9 .str y3,.sl .any 155 (.pair .str (.pair .bool (.sl 3 (.int .i64)))) y4])])
noncomputable def Os_NoteOk_2:Orc := fun b h => match b,h with
 | 2,[(.T 1,.t (.val false [.ptr 1 0 0])),(.T 4,.t (.val false [.int .i64 y0])),(.B 1,.b 0 false [.int .i64 y1,.int .i64 y2,.sl .any 9 .str y3,.sl .any 155 (.pair .str (.pair .bool (.sl 3 (.int .i64)))) y4])] => some (okO (g_Ls_NoteOk_2 y1 y2 y3 y4 y0),(.br (isL (valO (g_Ls_NoteOk_2 y1 y2 y3 y4 y0))) (.leaf .ret [(.T 1,.t (.val false [.ptr 1 0 0])),(.T 2,.t (.val false [.bool (getL (valO (g_Ls_NoteOk_2 y1 y2 y3 y4 y0)))])),(.B 1,.b 0 false [.int .i64 y1,.int .i64 y2,.sl .any 9 .str y3,.sl .any 155 (.pair .str (.pair .bool (.sl 3 (.int .i64)))) y4])]) (.leaf (.exit 2) [(.T 1,.t (.val false [.ptr 1 0 0])),(.T 2,.t (.val false [.undef])),(.B 1,.b 0 false [.int .i64 y1,.int .i64 y2,.sl .any 9 .str y3,.sl .any 155 (.pair .str (.pair .bool (.sl 3 (.int .i64)))) y4])])))
 | b,h => Os_NoteOk_1 b h
theorem bs_NoteOk_2 (y0:Int) (y1:Int) (y2:Int) (y3:List ByteArray) (y4:tL2):Tr.bt Es_NoteOk Os_NoteOk_1 (exec Es_NoteOk 2 cs_NoteOk_2 (St.of (hs_NoteOk_2 y0 y1 y2 y3 y4)) (leafRd Es_NoteOk 2)) = (g_Ss_NoteOk_2 y1 y2 y3 y4 y0).bt (fun (y0:Int) => (hs_NoteOk_2 y0 y1 y2 y3 y4)) (xs_NoteOk_2 y1 y2 y3 y4) := by kernel_rfl
theorem ks_NoteOk_2:OrcOk Es_NoteOk Os_NoteOk_2 lss_NoteOk 2 := orc_add ks_NoteOk_1 (fun n p hp h ex h' ho => by
 obtain ⟨b,c⟩ := p
 obtain ⟨xt,h1,h2⟩ := ho
 have h1:Os_NoteOk_2 b h = some (true,xt) := h1
 unfold Os_NoteOk_2 at h1
 split at h1
 ·injection h1 with h1
  injection h1 with e1 e2
  subst e2
  have hc:c = cs_NoteOk_2 := ms_NoteOk_2 _ hp rfl
  subst hc
  right
  rename_i y0 y1 y2 y3 y4
  have key := LT_step ks_NoteOk_1 hp (fun q hq => loopsAll_in _ _ _ _ hp hq) (fun (y0:Int) => (hs_NoteOk_2 y0 y1 y2 y3 y4)) (xs_NoteOk_2 y1 y2 y3 y4) (g_Ss_NoteOk_2 y1 y2 y3 y4) (fun x => by first | exact bs_NoteOk_2 x y1 y2 y3 y4) n (x := y0) (okO_some e1)
  have hx:∀ r,XT.sel (.br (isL r) (.leaf .ret [(.T 1,.t (.val false [.ptr 1 0 0])),(.T 2,.t (.val false [.bool (getL r)])),(.B 1,.b 0 false [.int .i64 y1,.int .i64 y2,.sl .any 9 .str y3,.sl .any 155 (.pair .str (.pair .bool (.sl 3 (.int .i64)))) y4])]) (.leaf (.exit 2) [(.T 1,.t (.val false [.ptr 1 0 0])),(.T 2,.t (.val false [.undef])),(.B 1,.b 0 false [.int .i64 y1,.int .i64 y2,.sl .any 9 .str y3,.sl .any 155 (.pair .str (.pair .bool (.sl 3 (.int .i64)))) y4])])) = xs_NoteOk_2 y1 y2 y3 y4 r := fun r => by first | rfl | rcases r with r | r <;> rfl | rcases r with r | r | r <;> rfl | rcases r with r | r | r | r <;> rfl
  have h3 := (hx (valO (g_Ls_NoteOk_2 y1 y2 y3 y4 y0))).symm.trans h2
  have e3 := congrArg Prod.fst h3
  have e4 := congrArg Prod.snd h3
  simp only at e3 e4
  rw [← e3,← e4]
  exact key
 ·exact .inl ⟨xt,h1,h2⟩)
noncomputable def g_As_NoteOk (a0:Int) (a1:Int) (a2:List ByteArray) (a3:tL2):Bool := g_As_l1In a0 (1:Int) (4:Int)&&(!g_Vs_l1In_0 a0 (1:Int) (4:Int) || g_As_l1In a1 (0:Int) (29:Int)&&(!g_Vs_l1In_0 a1 (0:Int) (29:Int) || (decide ((a2.length:Int) > 12) || (decide ((a3.length:Int) > 12) || okO (g_Ls_NoteOk_0 a0 a1 a2 a3 (0:Int))&&(isL (valO (g_Ls_NoteOk_0 a0 a1 a2 a3 (0:Int))) || okO (g_Ls_NoteOk_2 a0 a1 a2 a3 (0:Int))&&(isL (valO (g_Ls_NoteOk_2 a0 a1 a2 a3 (0:Int))) || (a0 == 1 || true)))))))
noncomputable def g_Vs_NoteOk_0 (a0:Int) (a1:Int) (a2:List ByteArray) (a3:tL2):Bool := bif !g_Vs_l1In_0 a0 (1:Int) (4:Int) then false else bif !g_Vs_l1In_0 a1 (0:Int) (29:Int) then false else bif decide ((a2.length:Int) > 12) then false else bif decide ((a3.length:Int) > 12) then false else bif isL (valO (g_Ls_NoteOk_0 a0 a1 a2 a3 (0:Int))) then getL (valO (g_Ls_NoteOk_0 a0 a1 a2 a3 (0:Int))) else bif isL (valO (g_Ls_NoteOk_2 a0 a1 a2 a3 (0:Int))) then getL (valO (g_Ls_NoteOk_2 a0 a1 a2 a3 (0:Int))) else bif a0 == 1 then true else IntKind.i64.wrap ((a2.length:Int) + (a3.length:Int)) == 0
noncomputable def Fs_NoteOk:FSem := fun ys => match ys with
 | [.val true [.int .i64 a0,.int .i64 a1,.sl .any 9 .str a2,.sl .any 155 (.pair .str (.pair .bool (.sl 3 (.int .i64)))) a3]] => some ((g_As_NoteOk a0 a1 a2 a3),.val false [.bool (g_Vs_NoteOk_0 a0 a1 a2 a3)],[])
 | _ => none
theorem vs_NoteOk (a0:Int) (a1:Int) (a2:List ByteArray) (a3:tL2):collapseH .std Es_NoteOk Os_NoteOk_2 (execFn Es_NoteOk Tryz.f134 mss_NoteOk [.val true [.int .i64 a0,.int .i64 a1,.sl .any 9 .str a2,.sl .any 155 (.pair .str (.pair .bool (.sl 3 (.int .i64)))) a3]]) = some ((g_As_NoteOk a0 a1 a2 a3),.val false [.bool (g_Vs_NoteOk_0 a0 a1 a2 a3)],[]) := by kernel_rfl
theorem ss_NoteOk:Sound Tryz.prog 134 mss_NoteOk Fs_NoteOk := by
 refine fn_gen goods_NoteOk (by kernel_rfl) .std (fn := Tryz.f134) (c := (Tryz.f134.body.getD .skip)) (o := Os_NoteOk_2) (k := 2) (by kernel_rfl) (by kernel_rfl) (by kernel_rfl) (by kernel_rfl) (by decide) ks_NoteOk_2 ?_
 intro ys r outs h
 unfold Fs_NoteOk at h
 split at h
 ·exact (vs_NoteOk _ _ _ _).trans h
 ·cases h
noncomputable def Es_DiskOk:Env where
 tt := mkTI Tryz.prog
 fn := fun f => match f with
  | 55 => some (mss_l1In,FSem.wk mss_l1In Fs_l1In)
  | 134 => some (mss_NoteOk,FSem.wk mss_NoteOk Fs_NoteOk)
  | _ => none
 bxf := fun _ => none
 mv := []
 keep := fun b => match b with
  | 0 => [(1,false),(3,false)]
  | _ => []
 keepB := fun b => match b with
  | 0 => [(1,false)]
  | _ => []
 keepX := fun b => match b with
  | 0 => [(2,false)]
  | _ => []
 keepXB := fun b => match b with
  | 0 => []
  | _ => []
theorem goodFs_DiskOk:∀ f ms F,Es_DiskOk.fn f = some (ms,F) → Sound Tryz.prog f ms F := fun f ms F h => by
 unfold Es_DiskOk at h
 dsimp only at h
 split at h
 ·exact gF ss_l1In h
 ·exact gF ss_NoteOk h
 ·cases h
theorem goods_DiskOk:Good Tryz.prog Es_DiskOk := ⟨rfl,goodFs_DiskOk,fun f ms F h => by cases h⟩
noncomputable def Os_DiskOk_0:Orc := fun _ _ => none
noncomputable def mss_DiskOk:List PM := [.rd]
noncomputable def lss_DiskOk:List (Nat×Code) := loopsAll 0 (Tryz.f90.body.getD .skip)
noncomputable def cs_DiskOk_0:Code := (loopOf 0 (Tryz.f90.body.getD .skip)).getD .skip
theorem lseqs_DiskOk:lss_DiskOk = [(0,cs_DiskOk_0)] := by kernel_rfl
theorem ms_DiskOk_0:∀ p,p ∈ lss_DiskOk → p.1 = 0 → p.2 = cs_DiskOk_0 := by
 intro p hp
 rw [lseqs_DiskOk] at hp
 simp only [List.mem_cons,List.not_mem_nil,or_false] at hp
 subst hp; simp
theorem ks_DiskOk_0:OrcOk Es_DiskOk Os_DiskOk_0 lss_DiskOk 0 := orcOk_none
noncomputable def hs_DiskOk_0 (y0:Int) (y1:tL0) (y2:Int):List (Pl×LV) := [(.T 1,.t (.val false [.ptr 1 0 0])),(.T 3,.t (.val false [.int .i64 y0])),(.B 1,.b 0 false [.sl .any 92 (.pair (.int .i64) (.pair (.int .i64) (.pair (.sl 9 .str) (.sl 155 (.pair .str (.pair .bool (.sl 3 (.int .i64)))))))) y1,.int .i64 y2])]
noncomputable def g_Ss_DiskOk_0 (y1:tL0) (y2:Int):(Int) → RT (Int) ((Bool) ⊕ (Unit))
 | y0 => .br (true) (.br (decide (y0 < (y1.length:Int))) (.br (decide (0 ≤ y0 ∧ y0 < (y1.length:Int))) (.br (g_As_NoteOk (at_ yT1 y1 (Int.toNat y0)).1 (at_ yT1 y1 (Int.toNat y0)).2.1 (at_ yT1 y1 (Int.toNat y0)).2.2.1 (at_ yT1 y1 (Int.toNat y0)).2.2.2) (.br (!g_Vs_NoteOk_0 (at_ yT1 y1 (Int.toNat y0)).1 (at_ yT1 y1 (Int.toNat y0)).2.1 (at_ yT1 y1 (Int.toNat y0)).2.2.1 (at_ yT1 y1 (Int.toNat y0)).2.2.2) (.out (.inl false)) (.br (true) (.go (IntKind.i64.wrap (y0 + 1))) .bad)) .bad) .bad) (.out (.inr (())))) .bad
noncomputable def g_Ls_DiskOk_0 (y1:tL0) (y2:Int) (x:Int):Option ((Bool) ⊕ (Unit)) := loopO (g_Ss_DiskOk_0 y1 y2) x
noncomputable def xs_DiskOk_0 (y1:tL0) (y2:Int):((Bool) ⊕ (Unit)) → Ex×List (Pl×LV) := fun
 | .inl r => (.ret,[(.T 2,.t (.val false [.bool r]))])
 | .inr (r) => (.exit 0,[(.T 2,.t (.val false [.undef]))])
noncomputable def Os_DiskOk_1:Orc := fun b h => match b,h with
 | 0,[(.T 1,.t (.val false [.ptr 1 0 0])),(.T 3,.t (.val false [.int .i64 y0])),(.B 1,.b 0 false [.sl .any 92 (.pair (.int .i64) (.pair (.int .i64) (.pair (.sl 9 .str) (.sl 155 (.pair .str (.pair .bool (.sl 3 (.int .i64)))))))) y1,.int .i64 y2])] => some (okO (g_Ls_DiskOk_0 y1 y2 y0),(.br (isL (valO (g_Ls_DiskOk_0 y1 y2 y0))) (.leaf .ret [(.T 2,.t (.val false [.bool (getL (valO (g_Ls_DiskOk_0 y1 y2 y0)))]))]) (.leaf (.exit 0) [(.T 2,.t (.val false [.undef]))])))
 | b,h => Os_DiskOk_0 b h
theorem bs_DiskOk_0 (y0:Int) (y1:tL0) (y2:Int):Tr.bt Es_DiskOk Os_DiskOk_0 (exec Es_DiskOk 0 cs_DiskOk_0 (St.of (hs_DiskOk_0 y0 y1 y2)) (leafRd Es_DiskOk 0)) = (g_Ss_DiskOk_0 y1 y2 y0).bt (fun (y0:Int) => (hs_DiskOk_0 y0 y1 y2)) (xs_DiskOk_0 y1 y2) := by kernel_rfl
theorem ks_DiskOk_1:OrcOk Es_DiskOk Os_DiskOk_1 lss_DiskOk 1 := orc_add ks_DiskOk_0 (fun n p hp h ex h' ho => by
 obtain ⟨b,c⟩ := p
 obtain ⟨xt,h1,h2⟩ := ho
 have h1:Os_DiskOk_1 b h = some (true,xt) := h1
 unfold Os_DiskOk_1 at h1
 split at h1
 ·injection h1 with h1
  injection h1 with e1 e2
  subst e2
  have hc:c = cs_DiskOk_0 := ms_DiskOk_0 _ hp rfl
  subst hc
  right
  rename_i y0 y1 y2
  have key := LT_step ks_DiskOk_0 hp (fun q hq => loopsAll_in _ _ _ _ hp hq) (fun (y0:Int) => (hs_DiskOk_0 y0 y1 y2)) (xs_DiskOk_0 y1 y2) (g_Ss_DiskOk_0 y1 y2) (fun x => by first | exact bs_DiskOk_0 x y1 y2) n (x := y0) (okO_some e1)
  have hx:∀ r,XT.sel (.br (isL r) (.leaf .ret [(.T 2,.t (.val false [.bool (getL r)]))]) (.leaf (.exit 0) [(.T 2,.t (.val false [.undef]))])) = xs_DiskOk_0 y1 y2 r := fun r => by first | rfl | rcases r with r | r <;> rfl | rcases r with r | r | r <;> rfl | rcases r with r | r | r | r <;> rfl
  have h3 := (hx (valO (g_Ls_DiskOk_0 y1 y2 y0))).symm.trans h2
  have e3 := congrArg Prod.fst h3
  have e4 := congrArg Prod.snd h3
  simp only at e3 e4
  rw [← e3,← e4]
  exact key
 ·exact .inl ⟨xt,h1,h2⟩)
noncomputable def g_As_DiskOk (a0:tL0) (a1:Int):Bool := decide ((a0.length:Int) > 120) || g_As_l1In a1 (0:Int) (a0.length:Int)&&(!g_Vs_l1In_0 a1 (0:Int) (a0.length:Int) || okO (g_Ls_DiskOk_0 a0 a1 (0:Int)))
noncomputable def g_Vs_DiskOk_0 (a0:tL0) (a1:Int):Bool := bif decide ((a0.length:Int) > 120) then false else bif !g_Vs_l1In_0 a1 (0:Int) (a0.length:Int) then false else bif isL (valO (g_Ls_DiskOk_0 a0 a1 (0:Int))) then getL (valO (g_Ls_DiskOk_0 a0 a1 (0:Int))) else true
noncomputable def Fs_DiskOk:FSem := fun ys => match ys with
 | [.val true [.sl .any 92 (.pair (.int .i64) (.pair (.int .i64) (.pair (.sl 9 .str) (.sl 155 (.pair .str (.pair .bool (.sl 3 (.int .i64)))))))) a0,.int .i64 a1]] => some ((g_As_DiskOk a0 a1),.val false [.bool (g_Vs_DiskOk_0 a0 a1)],[])
 | _ => none
theorem vs_DiskOk (a0:tL0) (a1:Int):collapseH .std Es_DiskOk Os_DiskOk_1 (execFn Es_DiskOk Tryz.f90 mss_DiskOk [.val true [.sl .any 92 (.pair (.int .i64) (.pair (.int .i64) (.pair (.sl 9 .str) (.sl 155 (.pair .str (.pair .bool (.sl 3 (.int .i64)))))))) a0,.int .i64 a1]]) = some ((g_As_DiskOk a0 a1),.val false [.bool (g_Vs_DiskOk_0 a0 a1)],[]) := by kernel_rfl
theorem ss_DiskOk:Sound Tryz.prog 90 mss_DiskOk Fs_DiskOk := by
 refine fn_gen goods_DiskOk (by kernel_rfl) .std (fn := Tryz.f90) (c := (Tryz.f90.body.getD .skip)) (o := Os_DiskOk_1) (k := 1) (by kernel_rfl) (by kernel_rfl) (by kernel_rfl) (by kernel_rfl) (by decide) ks_DiskOk_1 ?_
 intro ys r outs h
 unfold Fs_DiskOk at h
 split at h
 ·exact (vs_DiskOk _ _).trans h
 ·cases h
noncomputable def Es_l2Note:Env where
 tt := mkTI Tryz.prog
 fn := fun _ => none
 bxf := fun _ => none
 mv := []
 keep := fun b => match b with
  | 0 => [(1,false),(2,false),(3,false),(4,false)]
  | _ => []
 keepB := fun b => match b with
  | 0 => [(1,false),(2,false),(3,false)]
  | _ => []
 keepX := fun b => match b with
  | 0 => [(2,false),(3,false)]
  | _ => []
 keepXB := fun b => match b with
  | 0 => [(2,false),(3,false)]
  | _ => []
theorem goodFs_l2Note:∀ f ms F,Es_l2Note.fn f = some (ms,F) → Sound Tryz.prog f ms F := fun f ms F h => by cases h
theorem goods_l2Note:Good Tryz.prog Es_l2Note := ⟨rfl,goodFs_l2Note,fun f ms F h => by cases h⟩
noncomputable def Os_l2Note_0:Orc := fun _ _ => none
noncomputable def mss_l2Note:List PM := [.rd]
noncomputable def lss_l2Note:List (Nat×Code) := loopsAll 0 (Tryz.f145.body.getD .skip)
noncomputable def cs_l2Note_0:Code := (loopOf 0 (Tryz.f145.body.getD .skip)).getD .skip
theorem lseqs_l2Note:lss_l2Note = [(0,cs_l2Note_0)] := by kernel_rfl
theorem ms_l2Note_0:∀ p,p ∈ lss_l2Note → p.1 = 0 → p.2 = cs_l2Note_0 := by
 intro p hp
 rw [lseqs_l2Note] at hp
 simp only [List.mem_cons,List.not_mem_nil,or_false] at hp
 subst hp; simp
theorem ks_l2Note_0:OrcOk Es_l2Note Os_l2Note_0 lss_l2Note 0 := orcOk_none
noncomputable def hs_l2Note_0 (y0:Int) (y1:Int) (y2:Int) (y3:List ByteArray) (y4:tL2) (y5:Int) (y6:Int) (y7:List ByteArray) (y8:tL2) (y9:Int) (y10:Int) (y11:List ByteArray) (y12:tL2):List (Pl×LV) := [(.T 1,.t (.val false [.ptr 1 0 0])),(.T 2,.t (.val false [.ptr 2 0 0])),(.T 3,.t (.val false [.ptr 3 0 0])),(.T 4,.t (.val false [.int .i64 y0])),(.B 1,.b 0 false [.int .i64 y1,.int .i64 y2,.sl .any 9 .str y3,.sl .any 155 (.pair .str (.pair .bool (.sl 3 (.int .i64)))) y4]),(.B 2,.b 0 false [.int .i64 y5,.int .i64 y6,.row 2 5 0,.row 2 7 0]),(.R 2 5,.r 0 (some ⟨false,.any,true,9,.str,y7⟩)),(.R 2 7,.r 0 (some ⟨false,.any,true,155,(.pair .str (.pair .bool (.sl 3 (.int .i64)))),y8⟩)),(.B 3,.b 0 false [.int .i64 y9,.int .i64 y10,.row 3 5 0,.row 3 7 0]),(.R 3 5,.r 0 (some ⟨false,.non,true,9,.str,y11⟩)),(.R 3 7,.r 0 (some ⟨false,.any,true,155,(.pair .str (.pair .bool (.sl 3 (.int .i64)))),y12⟩))]
noncomputable def g_Ss_l2Note_0 (y1:Int) (y2:Int) (y3:List ByteArray) (y4:tL2) (y5:Int) (y6:Int) (y7:List ByteArray) (y8:tL2) (y9:Int) (y10:Int) (y11:List ByteArray):(Int×tL2) → RT (Int×tL2) ((tL2))
 | (y0,y12) => .br (true) (.br (decide (y0 < (y4.length:Int))) (.br (decide (0 ≤ y0 ∧ y0 < (y4.length:Int))) (.br (decide ((nat_lit 0 + List.length (at_ yT2 y4 (Int.toNat y0)).2.2) * nat_lit 8 ≤ nat_lit 140737488355328 ∧ nat_lit 0 + List.length (at_ yT2 y4 (Int.toNat y0)).2.2 ≤ nat_lit 9223372036854775807)) (.br (decide ((List.length y12 + List.length [((at_ yT2 y4 (Int.toNat y0)).1,(at_ yT2 y4 (Int.toNat y0)).2.1,[] ++ (at_ yT2 y4 (Int.toNat y0)).2.2)]) * nat_lit 48 ≤ nat_lit 140737488355328 ∧ List.length y12 + List.length [((at_ yT2 y4 (Int.toNat y0)).1,(at_ yT2 y4 (Int.toNat y0)).2.1,[] ++ (at_ yT2 y4 (Int.toNat y0)).2.2)] ≤ nat_lit 9223372036854775807)) (.br (true) (.go ((IntKind.i64.wrap (y0 + 1),y12 ++ [((at_ yT2 y4 (Int.toNat y0)).1,(at_ yT2 y4 (Int.toNat y0)).2.1,[] ++ (at_ yT2 y4 (Int.toNat y0)).2.2)]))) .bad) .bad) .bad) .bad) (.out (y12))) .bad
noncomputable def g_Ls_l2Note_0 (y1:Int) (y2:Int) (y3:List ByteArray) (y4:tL2) (y5:Int) (y6:Int) (y7:List ByteArray) (y8:tL2) (y9:Int) (y10:Int) (y11:List ByteArray) (x:Int×tL2):Option ((tL2)) := loopO (g_Ss_l2Note_0 y1 y2 y3 y4 y5 y6 y7 y8 y9 y10 y11) x
noncomputable def xs_l2Note_0 (y1:Int) (y2:Int) (y3:List ByteArray) (y4:tL2) (y5:Int) (y6:Int) (y7:List ByteArray) (y8:tL2) (y9:Int) (y10:Int) (y11:List ByteArray):((tL2)) → Ex×List (Pl×LV) := fun r => (.exit 0,[(.T 2,.t (.val false [.ptr 2 0 0])),(.T 3,.t (.val false [.ptr 3 0 0])),(.B 2,.b 0 false [.int .i64 y5,.int .i64 y6,.row 2 5 0,.row 2 7 0]),(.R 2 5,.r 0 (some ⟨false,.any,true,9,.str,y7⟩)),(.R 2 7,.r 0 (some ⟨false,.any,true,155,(.pair .str (.pair .bool (.sl 3 (.int .i64)))),y8⟩)),(.B 3,.b 0 false [.int .i64 y9,.int .i64 y10,.row 3 5 0,.row 3 7 0]),(.R 3 5,.r 0 (some ⟨false,.non,true,9,.str,y11⟩)),(.R 3 7,.r 0 (some ⟨false,.any,true,155,(.pair .str (.pair .bool (.sl 3 (.int .i64)))),r⟩))])
noncomputable def Os_l2Note_1:Orc := fun b h => match b,h with
 | 0,[(.T 1,.t (.val false [.ptr 1 0 0])),(.T 2,.t (.val false [.ptr 2 0 0])),(.T 3,.t (.val false [.ptr 3 0 0])),(.T 4,.t (.val false [.int .i64 y0])),(.B 1,.b 0 false [.int .i64 y1,.int .i64 y2,.sl .any 9 .str y3,.sl .any 155 (.pair .str (.pair .bool (.sl 3 (.int .i64)))) y4]),(.B 2,.b 0 false [.int .i64 y5,.int .i64 y6,.row 2 5 0,.row 2 7 0]),(.R 2 5,.r 0 (some ⟨false,.any,true,9,.str,y7⟩)),(.R 2 7,.r 0 (some ⟨false,.any,true,155,(.pair .str (.pair .bool (.sl 3 (.int .i64)))),y8⟩)),(.B 3,.b 0 false [.int .i64 y9,.int .i64 y10,.row 3 5 0,.row 3 7 0]),(.R 3 5,.r 0 (some ⟨false,.non,true,9,.str,y11⟩)),(.R 3 7,.r 0 (some ⟨false,.any,true,155,(.pair .str (.pair .bool (.sl 3 (.int .i64)))),y12⟩))] => some (okO (g_Ls_l2Note_0 y1 y2 y3 y4 y5 y6 y7 y8 y9 y10 y11 (y0,y12)),(.leaf (.exit 0) [(.T 2,.t (.val false [.ptr 2 0 0])),(.T 3,.t (.val false [.ptr 3 0 0])),(.B 2,.b 0 false [.int .i64 y5,.int .i64 y6,.row 2 5 0,.row 2 7 0]),(.R 2 5,.r 0 (some ⟨false,.any,true,9,.str,y7⟩)),(.R 2 7,.r 0 (some ⟨false,.any,true,155,(.pair .str (.pair .bool (.sl 3 (.int .i64)))),y8⟩)),(.B 3,.b 0 false [.int .i64 y9,.int .i64 y10,.row 3 5 0,.row 3 7 0]),(.R 3 5,.r 0 (some ⟨false,.non,true,9,.str,y11⟩)),(.R 3 7,.r 0 (some ⟨false,.any,true,155,(.pair .str (.pair .bool (.sl 3 (.int .i64)))),(valO (g_Ls_l2Note_0 y1 y2 y3 y4 y5 y6 y7 y8 y9 y10 y11 (y0,y12)))⟩))]))
 | b,h => Os_l2Note_0 b h
theorem bs_l2Note_0 (y0:Int) (y1:Int) (y2:Int) (y3:List ByteArray) (y4:tL2) (y5:Int) (y6:Int) (y7:List ByteArray) (y8:tL2) (y9:Int) (y10:Int) (y11:List ByteArray) (y12:tL2):Tr.bt Es_l2Note Os_l2Note_0 (exec Es_l2Note 0 cs_l2Note_0 (St.of (hs_l2Note_0 y0 y1 y2 y3 y4 y5 y6 y7 y8 y9 y10 y11 y12)) (leafRd Es_l2Note 0)) = (g_Ss_l2Note_0 y1 y2 y3 y4 y5 y6 y7 y8 y9 y10 y11 (y0,y12)).bt (fun ((y0,y12):Int×tL2) => (hs_l2Note_0 y0 y1 y2 y3 y4 y5 y6 y7 y8 y9 y10 y11 y12)) (xs_l2Note_0 y1 y2 y3 y4 y5 y6 y7 y8 y9 y10 y11) := by kernel_rfl
theorem ks_l2Note_1:OrcOk Es_l2Note Os_l2Note_1 lss_l2Note 1 := orc_add ks_l2Note_0 (fun n p hp h ex h' ho => by
 obtain ⟨b,c⟩ := p
 obtain ⟨xt,h1,h2⟩ := ho
 have h1:Os_l2Note_1 b h = some (true,xt) := h1
 unfold Os_l2Note_1 at h1
 split at h1
 ·injection h1 with h1
  injection h1 with e1 e2
  subst e2
  have hc:c = cs_l2Note_0 := ms_l2Note_0 _ hp rfl
  subst hc
  right
  rename_i y0 y1 y2 y3 y4 y5 y6 y7 y8 y9 y10 y11 y12
  have key := LT_step ks_l2Note_0 hp (fun q hq => loopsAll_in _ _ _ _ hp hq) (fun ((y0,y12):Int×tL2) => (hs_l2Note_0 y0 y1 y2 y3 y4 y5 y6 y7 y8 y9 y10 y11 y12)) (xs_l2Note_0 y1 y2 y3 y4 y5 y6 y7 y8 y9 y10 y11) (g_Ss_l2Note_0 y1 y2 y3 y4 y5 y6 y7 y8 y9 y10 y11) (fun x => by first | exact bs_l2Note_0 x.1 y1 y2 y3 y4 y5 y6 y7 y8 y9 y10 y11 x.2) n (x := (y0,y12)) (okO_some e1)
  have hx:∀ r,XT.sel (.leaf (.exit 0) [(.T 2,.t (.val false [.ptr 2 0 0])),(.T 3,.t (.val false [.ptr 3 0 0])),(.B 2,.b 0 false [.int .i64 y5,.int .i64 y6,.row 2 5 0,.row 2 7 0]),(.R 2 5,.r 0 (some ⟨false,.any,true,9,.str,y7⟩)),(.R 2 7,.r 0 (some ⟨false,.any,true,155,(.pair .str (.pair .bool (.sl 3 (.int .i64)))),y8⟩)),(.B 3,.b 0 false [.int .i64 y9,.int .i64 y10,.row 3 5 0,.row 3 7 0]),(.R 3 5,.r 0 (some ⟨false,.non,true,9,.str,y11⟩)),(.R 3 7,.r 0 (some ⟨false,.any,true,155,(.pair .str (.pair .bool (.sl 3 (.int .i64)))),r⟩))]) = xs_l2Note_0 y1 y2 y3 y4 y5 y6 y7 y8 y9 y10 y11 r := fun r => by first | rfl | rcases r with r | r <;> rfl | rcases r with r | r | r <;> rfl | rcases r with r | r | r | r <;> rfl
  have h3 := (hx (valO (g_Ls_l2Note_0 y1 y2 y3 y4 y5 y6 y7 y8 y9 y10 y11 (y0,y12)))).symm.trans h2
  have e3 := congrArg Prod.fst h3
  have e4 := congrArg Prod.snd h3
  simp only at e3 e4
  rw [← e3,← e4]
  exact key
 ·exact .inl ⟨xt,h1,h2⟩)
noncomputable def g_As_l2Note (a0:Int) (a1:Int) (a2:List ByteArray) (a3:tL2):Bool := decide ((nat_lit 0 + List.length a2) * nat_lit 16 ≤ nat_lit 140737488355328 ∧ nat_lit 0 + List.length a2 ≤ nat_lit 9223372036854775807)&&okO (g_Ls_l2Note_0 a0 a1 a2 a3 (0:Int) (0:Int) [] [] a0 a1 ([] ++ a2) ((0:Int),[]))
noncomputable def g_Vs_l2Note_0 (a0:Int) (a1:Int) (a2:List ByteArray) (a3:tL2):List ByteArray := [] ++ a2
noncomputable def g_Vs_l2Note_1 (a0:Int) (a1:Int) (a2:List ByteArray) (a3:tL2):tL2 := valO (g_Ls_l2Note_0 a0 a1 a2 a3 (0:Int) (0:Int) [] [] a0 a1 ([] ++ a2) ((0:Int),[]))
noncomputable def Fs_l2Note:FSem := fun ys => match ys with
 | [.val true [.int .i64 a0,.int .i64 a1,.sl .any 9 .str a2,.sl .any 155 (.pair .str (.pair .bool (.sl 3 (.int .i64)))) a3]] => some ((g_As_l2Note a0 a1 a2 a3),.val true [.int .i64 a0,.int .i64 a1,.own .any true 9 .str (g_Vs_l2Note_0 a0 a1 a2 a3),.own .any true 155 (.pair .str (.pair .bool (.sl 3 (.int .i64)))) (g_Vs_l2Note_1 a0 a1 a2 a3)],[])
 | _ => none
theorem vs_l2Note (a0:Int) (a1:Int) (a2:List ByteArray) (a3:tL2):collapseH .std Es_l2Note Os_l2Note_1 (execFn Es_l2Note Tryz.f145 mss_l2Note [.val true [.int .i64 a0,.int .i64 a1,.sl .any 9 .str a2,.sl .any 155 (.pair .str (.pair .bool (.sl 3 (.int .i64)))) a3]]) = some ((g_As_l2Note a0 a1 a2 a3),.val true [.int .i64 a0,.int .i64 a1,.own .any true 9 .str (g_Vs_l2Note_0 a0 a1 a2 a3),.own .any true 155 (.pair .str (.pair .bool (.sl 3 (.int .i64)))) (g_Vs_l2Note_1 a0 a1 a2 a3)],[]) := by kernel_rfl
theorem ss_l2Note:Sound Tryz.prog 145 mss_l2Note Fs_l2Note := by
 refine fn_gen goods_l2Note (by kernel_rfl) .std (fn := Tryz.f145) (c := (Tryz.f145.body.getD .skip)) (o := Os_l2Note_1) (k := 1) (by kernel_rfl) (by kernel_rfl) (by kernel_rfl) (by kernel_rfl) (by decide) ks_l2Note_1 ?_
 intro ys r outs h
 unfold Fs_l2Note at h
 split at h
 ·exact (vs_l2Note _ _ _ _).trans h
 ·cases h
noncomputable def Es_l2Copy:Env where
 tt := mkTI Tryz.prog
 fn := fun f => match f with
  | 145 => some (mss_l2Note,FSem.wk mss_l2Note Fs_l2Note)
  | _ => none
 bxf := fun _ => none
 mv := []
 keep := fun b => match b with
  | 0 => [(1,false),(2,false),(3,false),(4,false)]
  | _ => []
 keepB := fun b => match b with
  | 0 => [(1,false),(2,false),(3,false)]
  | _ => []
 keepX := fun b => match b with
  | 0 => [(2,false),(3,false)]
  | _ => []
 keepXB := fun b => match b with
  | 0 => [(2,false),(3,false)]
  | _ => []
theorem goodFs_l2Copy:∀ f ms F,Es_l2Copy.fn f = some (ms,F) → Sound Tryz.prog f ms F := fun f ms F h => by
 unfold Es_l2Copy at h
 dsimp only at h
 split at h
 ·exact gF ss_l2Note h
 ·cases h
theorem goods_l2Copy:Good Tryz.prog Es_l2Copy := ⟨rfl,goodFs_l2Copy,fun f ms F h => by cases h⟩
noncomputable def Os_l2Copy_0:Orc := fun _ _ => none
noncomputable def mss_l2Copy:List PM := [.rd]
noncomputable def lss_l2Copy:List (Nat×Code) := loopsAll 0 (Tryz.f107.body.getD .skip)
noncomputable def cs_l2Copy_0:Code := (loopOf 0 (Tryz.f107.body.getD .skip)).getD .skip
theorem lseqs_l2Copy:lss_l2Copy = [(0,cs_l2Copy_0)] := by kernel_rfl
theorem ms_l2Copy_0:∀ p,p ∈ lss_l2Copy → p.1 = 0 → p.2 = cs_l2Copy_0 := by
 intro p hp
 rw [lseqs_l2Copy] at hp
 simp only [List.mem_cons,List.not_mem_nil,or_false] at hp
 subst hp; simp
theorem ks_l2Copy_0:OrcOk Es_l2Copy Os_l2Copy_0 lss_l2Copy 0 := orcOk_none
noncomputable def hs_l2Copy_0 (y0:Int) (y1:tL0) (y2:Int) (y3:Int) (y4:tL0) (y5:Int) (y6:tL0):List (Pl×LV) := [(.T 1,.t (.val false [.ptr 1 0 0])),(.T 2,.t (.val false [.ptr 2 0 0])),(.T 3,.t (.val false [.ptr 3 0 0])),(.T 4,.t (.val false [.int .i64 y0])),(.B 1,.b 0 false [.sl .any 92 (.pair (.int .i64) (.pair (.int .i64) (.pair (.sl 9 .str) (.sl 155 (.pair .str (.pair .bool (.sl 3 (.int .i64)))))))) y1,.int .i64 y2]),(.B 2,.b 0 false [.row 2 1 0,.int .i64 y3]),(.R 2 1,.r 0 (some ⟨false,.any,true,92,(.pair (.int .i64) (.pair (.int .i64) (.pair (.sl 9 .str) (.sl 155 (.pair .str (.pair .bool (.sl 3 (.int .i64)))))))),y4⟩)),(.B 3,.b 0 false [.row 3 1 0,.int .i64 y5]),(.R 3 1,.r 0 (some ⟨false,.any,true,92,(.pair (.int .i64) (.pair (.int .i64) (.pair (.sl 9 .str) (.sl 155 (.pair .str (.pair .bool (.sl 3 (.int .i64)))))))),y6⟩))]
noncomputable def g_Ss_l2Copy_0 (y1:tL0) (y2:Int) (y3:Int) (y4:tL0) (y5:Int):(Int×tL0) → RT (Int×tL0) ((tL0))
 | (y0,y6) => .br (true) (.br (decide (y0 < (y1.length:Int))) (.br (decide (0 ≤ y0 ∧ y0 < (y1.length:Int))) (.br (g_As_l2Note (at_ yT1 y1 (Int.toNat y0)).1 (at_ yT1 y1 (Int.toNat y0)).2.1 (at_ yT1 y1 (Int.toNat y0)).2.2.1 (at_ yT1 y1 (Int.toNat y0)).2.2.2) (.br (decide ((List.length y6 + List.length [((at_ yT1 y1 (Int.toNat y0)).1,(at_ yT1 y1 (Int.toNat y0)).2.1,g_Vs_l2Note_0 (at_ yT1 y1 (Int.toNat y0)).1 (at_ yT1 y1 (Int.toNat y0)).2.1 (at_ yT1 y1 (Int.toNat y0)).2.2.1 (at_ yT1 y1 (Int.toNat y0)).2.2.2,g_Vs_l2Note_1 (at_ yT1 y1 (Int.toNat y0)).1 (at_ yT1 y1 (Int.toNat y0)).2.1 (at_ yT1 y1 (Int.toNat y0)).2.2.1 (at_ yT1 y1 (Int.toNat y0)).2.2.2)]) * nat_lit 64 ≤ nat_lit 140737488355328 ∧ List.length y6 + List.length [((at_ yT1 y1 (Int.toNat y0)).1,(at_ yT1 y1 (Int.toNat y0)).2.1,g_Vs_l2Note_0 (at_ yT1 y1 (Int.toNat y0)).1 (at_ yT1 y1 (Int.toNat y0)).2.1 (at_ yT1 y1 (Int.toNat y0)).2.2.1 (at_ yT1 y1 (Int.toNat y0)).2.2.2,g_Vs_l2Note_1 (at_ yT1 y1 (Int.toNat y0)).1 (at_ yT1 y1 (Int.toNat y0)).2.1 (at_ yT1 y1 (Int.toNat y0)).2.2.1 (at_ yT1 y1 (Int.toNat y0)).2.2.2)] ≤ nat_lit 9223372036854775807)) (.br (true) (.go ((IntKind.i64.wrap (y0 + 1),y6 ++ [((at_ yT1 y1 (Int.toNat y0)).1,(at_ yT1 y1 (Int.toNat y0)).2.1,g_Vs_l2Note_0 (at_ yT1 y1 (Int.toNat y0)).1 (at_ yT1 y1 (Int.toNat y0)).2.1 (at_ yT1 y1 (Int.toNat y0)).2.2.1 (at_ yT1 y1 (Int.toNat y0)).2.2.2,g_Vs_l2Note_1 (at_ yT1 y1 (Int.toNat y0)).1 (at_ yT1 y1 (Int.toNat y0)).2.1 (at_ yT1 y1 (Int.toNat y0)).2.2.1 (at_ yT1 y1 (Int.toNat y0)).2.2.2)]))) .bad) .bad) .bad) .bad) (.out (y6))) .bad
noncomputable def g_Ls_l2Copy_0 (y1:tL0) (y2:Int) (y3:Int) (y4:tL0) (y5:Int) (x:Int×tL0):Option ((tL0)) := loopO (g_Ss_l2Copy_0 y1 y2 y3 y4 y5) x
noncomputable def xs_l2Copy_0 (y1:tL0) (y2:Int) (y3:Int) (y4:tL0) (y5:Int):((tL0)) → Ex×List (Pl×LV) := fun r => (.exit 0,[(.T 2,.t (.val false [.ptr 2 0 0])),(.T 3,.t (.val false [.ptr 3 0 0])),(.B 2,.b 0 false [.row 2 1 0,.int .i64 y3]),(.R 2 1,.r 0 (some ⟨false,.any,true,92,(.pair (.int .i64) (.pair (.int .i64) (.pair (.sl 9 .str) (.sl 155 (.pair .str (.pair .bool (.sl 3 (.int .i64)))))))),y4⟩)),(.B 3,.b 0 false [.row 3 1 0,.int .i64 y5]),(.R 3 1,.r 0 (some ⟨false,.any,true,92,(.pair (.int .i64) (.pair (.int .i64) (.pair (.sl 9 .str) (.sl 155 (.pair .str (.pair .bool (.sl 3 (.int .i64)))))))),r⟩))])
noncomputable def Os_l2Copy_1:Orc := fun b h => match b,h with
 | 0,[(.T 1,.t (.val false [.ptr 1 0 0])),(.T 2,.t (.val false [.ptr 2 0 0])),(.T 3,.t (.val false [.ptr 3 0 0])),(.T 4,.t (.val false [.int .i64 y0])),(.B 1,.b 0 false [.sl .any 92 (.pair (.int .i64) (.pair (.int .i64) (.pair (.sl 9 .str) (.sl 155 (.pair .str (.pair .bool (.sl 3 (.int .i64)))))))) y1,.int .i64 y2]),(.B 2,.b 0 false [.row 2 1 0,.int .i64 y3]),(.R 2 1,.r 0 (some ⟨false,.any,true,92,(.pair (.int .i64) (.pair (.int .i64) (.pair (.sl 9 .str) (.sl 155 (.pair .str (.pair .bool (.sl 3 (.int .i64)))))))),y4⟩)),(.B 3,.b 0 false [.row 3 1 0,.int .i64 y5]),(.R 3 1,.r 0 (some ⟨false,.any,true,92,(.pair (.int .i64) (.pair (.int .i64) (.pair (.sl 9 .str) (.sl 155 (.pair .str (.pair .bool (.sl 3 (.int .i64)))))))),y6⟩))] => some (okO (g_Ls_l2Copy_0 y1 y2 y3 y4 y5 (y0,y6)),(.leaf (.exit 0) [(.T 2,.t (.val false [.ptr 2 0 0])),(.T 3,.t (.val false [.ptr 3 0 0])),(.B 2,.b 0 false [.row 2 1 0,.int .i64 y3]),(.R 2 1,.r 0 (some ⟨false,.any,true,92,(.pair (.int .i64) (.pair (.int .i64) (.pair (.sl 9 .str) (.sl 155 (.pair .str (.pair .bool (.sl 3 (.int .i64)))))))),y4⟩)),(.B 3,.b 0 false [.row 3 1 0,.int .i64 y5]),(.R 3 1,.r 0 (some ⟨false,.any,true,92,(.pair (.int .i64) (.pair (.int .i64) (.pair (.sl 9 .str) (.sl 155 (.pair .str (.pair .bool (.sl 3 (.int .i64)))))))),(valO (g_Ls_l2Copy_0 y1 y2 y3 y4 y5 (y0,y6)))⟩))]))
 | b,h => Os_l2Copy_0 b h
theorem bs_l2Copy_0 (y0:Int) (y1:tL0) (y2:Int) (y3:Int) (y4:tL0) (y5:Int) (y6:tL0):Tr.bt Es_l2Copy Os_l2Copy_0 (exec Es_l2Copy 0 cs_l2Copy_0 (St.of (hs_l2Copy_0 y0 y1 y2 y3 y4 y5 y6)) (leafRd Es_l2Copy 0)) = (g_Ss_l2Copy_0 y1 y2 y3 y4 y5 (y0,y6)).bt (fun ((y0,y6):Int×tL0) => (hs_l2Copy_0 y0 y1 y2 y3 y4 y5 y6)) (xs_l2Copy_0 y1 y2 y3 y4 y5) := by kernel_rfl
theorem ks_l2Copy_1:OrcOk Es_l2Copy Os_l2Copy_1 lss_l2Copy 1 := orc_add ks_l2Copy_0 (fun n p hp h ex h' ho => by
 obtain ⟨b,c⟩ := p
 obtain ⟨xt,h1,h2⟩ := ho
 have h1:Os_l2Copy_1 b h = some (true,xt) := h1
 unfold Os_l2Copy_1 at h1
 split at h1
 ·injection h1 with h1
  injection h1 with e1 e2
  subst e2
  have hc:c = cs_l2Copy_0 := ms_l2Copy_0 _ hp rfl
  subst hc
  right
  rename_i y0 y1 y2 y3 y4 y5 y6
  have key := LT_step ks_l2Copy_0 hp (fun q hq => loopsAll_in _ _ _ _ hp hq) (fun ((y0,y6):Int×tL0) => (hs_l2Copy_0 y0 y1 y2 y3 y4 y5 y6)) (xs_l2Copy_0 y1 y2 y3 y4 y5) (g_Ss_l2Copy_0 y1 y2 y3 y4 y5) (fun x => by first | exact bs_l2Copy_0 x.1 y1 y2 y3 y4 y5 x.2) n (x := (y0,y6)) (okO_some e1)
  have hx:∀ r,XT.sel (.leaf (.exit 0) [(.T 2,.t (.val false [.ptr 2 0 0])),(.T 3,.t (.val false [.ptr 3 0 0])),(.B 2,.b 0 false [.row 2 1 0,.int .i64 y3]),(.R 2 1,.r 0 (some ⟨false,.any,true,92,(.pair (.int .i64) (.pair (.int .i64) (.pair (.sl 9 .str) (.sl 155 (.pair .str (.pair .bool (.sl 3 (.int .i64)))))))),y4⟩)),(.B 3,.b 0 false [.row 3 1 0,.int .i64 y5]),(.R 3 1,.r 0 (some ⟨false,.any,true,92,(.pair (.int .i64) (.pair (.int .i64) (.pair (.sl 9 .str) (.sl 155 (.pair .str (.pair .bool (.sl 3 (.int .i64)))))))),r⟩))]) = xs_l2Copy_0 y1 y2 y3 y4 y5 r := fun r => by first | rfl | rcases r with r | r <;> rfl | rcases r with r | r | r <;> rfl | rcases r with r | r | r | r <;> rfl
  have h3 := (hx (valO (g_Ls_l2Copy_0 y1 y2 y3 y4 y5 (y0,y6)))).symm.trans h2
  have e3 := congrArg Prod.fst h3
  have e4 := congrArg Prod.snd h3
  simp only at e3 e4
  rw [← e3,← e4]
  exact key
 ·exact .inl ⟨xt,h1,h2⟩)
noncomputable def g_As_l2Copy (a0:tL0) (a1:Int):Bool := okO (g_Ls_l2Copy_0 a0 a1 (0:Int) [] a1 ((0:Int),[]))
noncomputable def g_Vs_l2Copy_0 (a0:tL0) (a1:Int):tL0 := valO (g_Ls_l2Copy_0 a0 a1 (0:Int) [] a1 ((0:Int),[]))
noncomputable def Fs_l2Copy:FSem := fun ys => match ys with
 | [.val true [.sl .any 92 (.pair (.int .i64) (.pair (.int .i64) (.pair (.sl 9 .str) (.sl 155 (.pair .str (.pair .bool (.sl 3 (.int .i64)))))))) a0,.int .i64 a1]] => some ((g_As_l2Copy a0 a1),.val true [.own .any true 92 (.pair (.int .i64) (.pair (.int .i64) (.pair (.sl 9 .str) (.sl 155 (.pair .str (.pair .bool (.sl 3 (.int .i64)))))))) (g_Vs_l2Copy_0 a0 a1),.int .i64 a1],[])
 | _ => none
theorem vs_l2Copy (a0:tL0) (a1:Int):collapseH .std Es_l2Copy Os_l2Copy_1 (execFn Es_l2Copy Tryz.f107 mss_l2Copy [.val true [.sl .any 92 (.pair (.int .i64) (.pair (.int .i64) (.pair (.sl 9 .str) (.sl 155 (.pair .str (.pair .bool (.sl 3 (.int .i64)))))))) a0,.int .i64 a1]]) = some ((g_As_l2Copy a0 a1),.val true [.own .any true 92 (.pair (.int .i64) (.pair (.int .i64) (.pair (.sl 9 .str) (.sl 155 (.pair .str (.pair .bool (.sl 3 (.int .i64)))))))) (g_Vs_l2Copy_0 a0 a1),.int .i64 a1],[]) := by kernel_rfl
theorem ss_l2Copy:Sound Tryz.prog 107 mss_l2Copy Fs_l2Copy := by
 refine fn_gen goods_l2Copy (by kernel_rfl) .std (fn := Tryz.f107) (c := (Tryz.f107.body.getD .skip)) (o := Os_l2Copy_1) (k := 1) (by kernel_rfl) (by kernel_rfl) (by kernel_rfl) (by kernel_rfl) (by decide) ks_l2Copy_1 ?_
 intro ys r outs h
 unfold Fs_l2Copy at h
 split at h
 ·exact (vs_l2Copy _ _).trans h
 ·cases h
noncomputable def EZ66:Env where
 tt := mkTI Tryz.prog
 fn := fun f => match f with
  | 90 => some (mss_DiskOk,FSem.wk mss_DiskOk Fs_DiskOk)
  | 107 => some (mss_l2Copy,FSem.wk mss_l2Copy Fs_l2Copy)
  | _ => none
 bxf := fun _ => none
 mv := []
 keep := fun _ => []
 keepB := fun _ => []
 keepX := fun _ => []
 keepXB := fun _ => []
theorem goodFZ66:∀ f ms F,EZ66.fn f = some (ms,F) → Sound Tryz.prog f ms F := fun f ms F h => by
 unfold EZ66 at h
 dsimp only at h
 split at h
 ·exact gF ss_DiskOk h
 ·exact gF ss_l2Copy h
 ·cases h
theorem goodZ66:Good Tryz.prog EZ66 := ⟨rfl,goodFZ66,fun f ms F h => by cases h⟩
noncomputable def OZ66_0:Orc := fun _ _ => none
noncomputable def msZ66:List PM := [.rd,.own]
noncomputable def lsZ66:List (Nat×Code) := loopsAll 0 (Tryz.f46.body.getD .skip)
theorem kZ66_0:OrcOk EZ66 OZ66_0 lsZ66 0 := orcOk_none
noncomputable def g_AZ66 (a0:tL0) (a1:Int) (a2:Int):Bool := g_As_DiskOk a0 a1&&(!g_Vs_DiskOk_0 a0 a1 || decide (0 ≤ IntKind.i64.wrap (a1 + if (if IntKind.i64.wrap ((a0.length:Int) - a1) < a2 then IntKind.i64.wrap ((a0.length:Int) - a1) else a2) > 0 then if IntKind.i64.wrap ((a0.length:Int) - a1) < a2 then IntKind.i64.wrap ((a0.length:Int) - a1) else a2 else (0:Int)) ∧ IntKind.i64.wrap (a1 + if (if IntKind.i64.wrap ((a0.length:Int) - a1) < a2 then IntKind.i64.wrap ((a0.length:Int) - a1) else a2) > 0 then if IntKind.i64.wrap ((a0.length:Int) - a1) < a2 then IntKind.i64.wrap ((a0.length:Int) - a1) else a2 else (0:Int)) ≤ (a0.length:Int))&&g_As_l2Copy (List.drop (nat_lit 0) (List.take (Int.toNat (IntKind.i64.wrap (a1 + if (if IntKind.i64.wrap ((a0.length:Int) - a1) < a2 then IntKind.i64.wrap ((a0.length:Int) - a1) else a2) > 0 then if IntKind.i64.wrap ((a0.length:Int) - a1) < a2 then IntKind.i64.wrap ((a0.length:Int) - a1) else a2 else (0:Int)))) a0)) (0:Int))
noncomputable def g_VZ66_0 (a0:tL0) (a1:Int) (a2:Int):tL0 := bif !g_Vs_DiskOk_0 a0 a1 then [] else g_Vs_l2Copy_0 (List.drop (nat_lit 0) (List.take (Int.toNat (IntKind.i64.wrap (a1 + if (if IntKind.i64.wrap ((a0.length:Int) - a1) < a2 then IntKind.i64.wrap ((a0.length:Int) - a1) else a2) > 0 then if IntKind.i64.wrap ((a0.length:Int) - a1) < a2 then IntKind.i64.wrap ((a0.length:Int) - a1) else a2 else (0:Int)))) a0)) (0:Int)
noncomputable def g_VZ66_1 (a0:tL0) (a1:Int) (a2:Int):Int := bif !g_Vs_DiskOk_0 a0 a1 then (0:Int) else IntKind.i64.wrap (a1 + if (if IntKind.i64.wrap ((a0.length:Int) - a1) < a2 then IntKind.i64.wrap ((a0.length:Int) - a1) else a2) > 0 then if IntKind.i64.wrap ((a0.length:Int) - a1) < a2 then IntKind.i64.wrap ((a0.length:Int) - a1) else a2 else (0:Int))
noncomputable def FZ66:FSem := fun ys => match ys with
 | [.val true [.sl .any 92 (.pair (.int .i64) (.pair (.int .i64) (.pair (.sl 9 .str) (.sl 155 (.pair .str (.pair .bool (.sl 3 (.int .i64)))))))) a0,.int .i64 a1],.val false [.int .i64 a2]] => some ((g_AZ66 a0 a1 a2),.val true [.own .any true 92 (.pair (.int .i64) (.pair (.int .i64) (.pair (.sl 9 .str) (.sl 155 (.pair .str (.pair .bool (.sl 3 (.int .i64)))))))) (g_VZ66_0 a0 a1 a2),.int .i64 (g_VZ66_1 a0 a1 a2)],[])
 | _ => none
theorem vZ66 (a0:tL0) (a1:Int) (a2:Int):collapseH .std EZ66 OZ66_0 (execFn EZ66 Tryz.f46 msZ66 [.val true [.sl .any 92 (.pair (.int .i64) (.pair (.int .i64) (.pair (.sl 9 .str) (.sl 155 (.pair .str (.pair .bool (.sl 3 (.int .i64)))))))) a0,.int .i64 a1],.val false [.int .i64 a2]]) = some ((g_AZ66 a0 a1 a2),.val true [.own .any true 92 (.pair (.int .i64) (.pair (.int .i64) (.pair (.sl 9 .str) (.sl 155 (.pair .str (.pair .bool (.sl 3 (.int .i64)))))))) (g_VZ66_0 a0 a1 a2),.int .i64 (g_VZ66_1 a0 a1 a2)],[]) := by kernel_rfl
theorem sZ66:Sound Tryz.prog 46 msZ66 FZ66 := by
 refine fn_gen goodZ66 (by kernel_rfl) .std (fn := Tryz.f46) (c := (Tryz.f46.body.getD .skip)) (o := OZ66_0) (k := 0) (by kernel_rfl) (by kernel_rfl) (by kernel_rfl) (by kernel_rfl) (by decide) kZ66_0 ?_
 intro ys r outs h
 unfold FZ66 at h
 split at h
 ·exact (vZ66 _ _ _).trans h
 ·cases h
noncomputable def Es_OpOk:Env where
 tt := mkTI Tryz.prog
 fn := fun f => match f with
  | 55 => some (mss_l1In,FSem.wk mss_l1In Fs_l1In)
  | _ => none
 bxf := fun _ => none
 mv := []
 keep := fun _ => []
 keepB := fun _ => []
 keepX := fun _ => []
 keepXB := fun _ => []
theorem goodFs_OpOk:∀ f ms F,Es_OpOk.fn f = some (ms,F) → Sound Tryz.prog f ms F := fun f ms F h => by
 unfold Es_OpOk at h
 dsimp only at h
 split at h
 ·exact gF ss_l1In h
 ·cases h
theorem goods_OpOk:Good Tryz.prog Es_OpOk := ⟨rfl,goodFs_OpOk,fun f ms F h => by cases h⟩
noncomputable def Os_OpOk_0:Orc := fun _ _ => none
noncomputable def mss_OpOk:List PM := [.own]
noncomputable def lss_OpOk:List (Nat×Code) := loopsAll 0 (Tryz.f56.body.getD .skip)
theorem ks_OpOk_0:OrcOk Es_OpOk Os_OpOk_0 lss_OpOk 0 := orcOk_none
noncomputable def g_As_OpOk (a0:Int) (a1:Int) (a2:Int) (a3:Int) (a4:Int) (a5:Int) (a6:Int):Bool := g_As_l1In a1 (0:Int) (9:Int)&&(!g_Vs_l1In_0 a1 (0:Int) (9:Int) || g_As_l1In a2 (0:Int) (9:Int)&&(!g_Vs_l1In_0 a2 (0:Int) (9:Int) || g_As_l1In a3 (0:Int) (9:Int)&&(!g_Vs_l1In_0 a3 (0:Int) (9:Int) || g_As_l1In a4 (0:Int) (99:Int)&&(!g_Vs_l1In_0 a4 (0:Int) (99:Int) || g_As_l1In a5 (0:Int) (9:Int)&&(!g_Vs_l1In_0 a5 (0:Int) (9:Int) || g_As_l1In a6 (0:Int) (99:Int)&&(!g_Vs_l1In_0 a6 (0:Int) (99:Int) || bif a0 == 1 then bif a0 == 1 then !a3 == 0 || (!a4 == 0 || (!a5 == 0 || true)) else bif a0 == 2 then !a5 == 0 || true else bif a0 == 3 then !a1 == 0 || (!a2 == 0 || true) else !a0 == 4 || (!a1 == 0 || (!a2 == 0 || (!a3 == 0 || true))) else bif a0 == 5 then !a3 == 0 || (!a4 == 0 || (!a5 == 0 || true)) else bif a0 == 2 then !a5 == 0 || true else bif a0 == 3 then !a1 == 0 || (!a2 == 0 || true) else !a0 == 4 || (!a1 == 0 || (!a2 == 0 || (!a3 == 0 || true)))))))))
noncomputable def g_Vs_OpOk_0 (a0:Int) (a1:Int) (a2:Int) (a3:Int) (a4:Int) (a5:Int) (a6:Int):Bool := bif !g_Vs_l1In_0 a1 (0:Int) (9:Int) then false else bif !g_Vs_l1In_0 a2 (0:Int) (9:Int) then false else bif !g_Vs_l1In_0 a3 (0:Int) (9:Int) then false else bif !g_Vs_l1In_0 a4 (0:Int) (99:Int) then false else bif !g_Vs_l1In_0 a5 (0:Int) (9:Int) then false else bif !g_Vs_l1In_0 a6 (0:Int) (99:Int) then false else bif a0 == 1 then bif a0 == 1 then bif a3 == 0 then bif a4 == 0 then bif a5 == 0 then a6 == 0 else false else false else false else bif a0 == 2 then bif a5 == 0 then a6 == 0 else false else bif a0 == 3 then bif a1 == 0 then bif a2 == 0 then a6 == 0 else false else false else bif a0 == 4 then bif a1 == 0 then bif a2 == 0 then bif a3 == 0 then a4 == 0 else false else false else false else false else bif a0 == 5 then bif a3 == 0 then bif a4 == 0 then bif a5 == 0 then a6 == 0 else false else false else false else bif a0 == 2 then bif a5 == 0 then a6 == 0 else false else bif a0 == 3 then bif a1 == 0 then bif a2 == 0 then a6 == 0 else false else false else bif a0 == 4 then bif a1 == 0 then bif a2 == 0 then bif a3 == 0 then a4 == 0 else false else false else false else false
noncomputable def Fs_OpOk:FSem := fun ys => match ys with
 | [.val true [.int .i64 a0,.int .i64 a1,.int .i64 a2,.int .i64 a3,.int .i64 a4,.int .i64 a5,.int .i64 a6]] => some ((g_As_OpOk a0 a1 a2 a3 a4 a5 a6),.val false [.bool (g_Vs_OpOk_0 a0 a1 a2 a3 a4 a5 a6)],[])
 | _ => none
theorem vs_OpOk (a0:Int) (a1:Int) (a2:Int) (a3:Int) (a4:Int) (a5:Int) (a6:Int):collapseH .std Es_OpOk Os_OpOk_0 (execFn Es_OpOk Tryz.f56 mss_OpOk [.val true [.int .i64 a0,.int .i64 a1,.int .i64 a2,.int .i64 a3,.int .i64 a4,.int .i64 a5,.int .i64 a6]]) = some ((g_As_OpOk a0 a1 a2 a3 a4 a5 a6),.val false [.bool (g_Vs_OpOk_0 a0 a1 a2 a3 a4 a5 a6)],[]) := by kernel_rfl
theorem ss_OpOk:Sound Tryz.prog 56 mss_OpOk Fs_OpOk := by
 refine fn_gen goods_OpOk (by kernel_rfl) .std (fn := Tryz.f56) (c := (Tryz.f56.body.getD .skip)) (o := Os_OpOk_0) (k := 0) (by kernel_rfl) (by kernel_rfl) (by kernel_rfl) (by kernel_rfl) (by decide) ks_OpOk_0 ?_
 intro ys r outs h
 unfold Fs_OpOk at h
 split at h
 ·exact (vs_OpOk _ _ _ _ _ _ _).trans h
 ·cases h
noncomputable def Es_l2Of:Env where
 tt := mkTI Tryz.prog
 fn := fun _ => none
 bxf := fun _ => none
 mv := []
 keep := fun b => match b with
  | 0 => [(0,false),(1,false),(5,false),(6,false)]
  | _ => []
 keepB := fun b => match b with
  | 0 => []
  | _ => []
 keepX := fun b => match b with
  | 0 => [(5,false)]
  | _ => []
 keepXB := fun b => match b with
  | 0 => []
  | _ => []
theorem goodFs_l2Of:∀ f ms F,Es_l2Of.fn f = some (ms,F) → Sound Tryz.prog f ms F := fun f ms F h => by cases h
theorem goods_l2Of:Good Tryz.prog Es_l2Of := ⟨rfl,goodFs_l2Of,fun f ms F h => by cases h⟩
noncomputable def Os_l2Of_0:Orc := fun _ _ => none
noncomputable def mss_l2Of:List PM := [.rd,.own]
noncomputable def lss_l2Of:List (Nat×Code) := loopsAll 0 (Tryz.f47.body.getD .skip)
noncomputable def cs_l2Of_0:Code := (loopOf 0 (Tryz.f47.body.getD .skip)).getD .skip
theorem lseqs_l2Of:lss_l2Of = [(0,cs_l2Of_0)] := by kernel_rfl
theorem ms_l2Of_0:∀ p,p ∈ lss_l2Of → p.1 = 0 → p.2 = cs_l2Of_0 := by
 intro p hp
 rw [lseqs_l2Of] at hp
 simp only [List.mem_cons,List.not_mem_nil,or_false] at hp
 subst hp; simp
theorem ks_l2Of_0:OrcOk Es_l2Of Os_l2Of_0 lss_l2Of 0 := orcOk_none
noncomputable def hs_l2Of_0 (y0:tL0) (y1:Int) (y2:Int) (y3:Int):List (Pl×LV) := [(.T 0,.t (.val false [.sl .any 92 (.pair (.int .i64) (.pair (.int .i64) (.pair (.sl 9 .str) (.sl 155 (.pair .str (.pair .bool (.sl 3 (.int .i64)))))))) y0])),(.T 1,.t (.val false [.int .i64 y1])),(.T 5,.t (.val false [.int .i64 y2])),(.T 6,.t (.val false [.int .i64 y3]))]
noncomputable def g_Ss_l2Of_0 (y0:tL0) (y1:Int):(Int×Int) → RT (Int×Int) ((Int))
 | (y2,y3) => .br (true) (.br (decide (y3 < (y0.length:Int))) (.br (decide (0 ≤ y3 ∧ y3 < (y0.length:Int))) (.br (true) (.br ((at_ yT1 y0 (Int.toNat y3)).2.1 == y1) (.br (decide (0 ≤ y3 ∧ y3 < (y0.length:Int))) (.br (true) (.br ((at_ yT1 y0 (Int.toNat y3)).1 != 4) (.br (decide (0 ≤ y3 ∧ y3 < (y0.length:Int))) (.br (true) (.go (((at_ yT1 y0 (Int.toNat y3)).1,IntKind.i64.wrap (y3 + 1)))) .bad) .bad) (.br (true) (.go ((y2,IntKind.i64.wrap (y3 + 1)))) .bad)) .bad) .bad) (.br (true) (.go ((y2,IntKind.i64.wrap (y3 + 1)))) .bad)) .bad) .bad) (.out (y2))) .bad
noncomputable def g_Ls_l2Of_0 (y0:tL0) (y1:Int) (x:Int×Int):Option ((Int)) := loopO (g_Ss_l2Of_0 y0 y1) x
noncomputable def xs_l2Of_0 (y0:tL0) (y1:Int):((Int)) → Ex×List (Pl×LV) := fun r => (.exit 0,[(.T 5,.t (.val false [.int .i64 r]))])
noncomputable def Os_l2Of_1:Orc := fun b h => match b,h with
 | 0,[(.T 0,.t (.val false [.sl .any 92 (.pair (.int .i64) (.pair (.int .i64) (.pair (.sl 9 .str) (.sl 155 (.pair .str (.pair .bool (.sl 3 (.int .i64)))))))) y0])),(.T 1,.t (.val false [.int .i64 y1])),(.T 5,.t (.val false [.int .i64 y2])),(.T 6,.t (.val false [.int .i64 y3]))] => some (okO (g_Ls_l2Of_0 y0 y1 (y2,y3)),(.leaf (.exit 0) [(.T 5,.t (.val false [.int .i64 (valO (g_Ls_l2Of_0 y0 y1 (y2,y3)))]))]))
 | b,h => Os_l2Of_0 b h
theorem bs_l2Of_0 (y0:tL0) (y1:Int) (y2:Int) (y3:Int):Tr.bt Es_l2Of Os_l2Of_0 (exec Es_l2Of 0 cs_l2Of_0 (St.of (hs_l2Of_0 y0 y1 y2 y3)) (leafRd Es_l2Of 0)) = (g_Ss_l2Of_0 y0 y1 (y2,y3)).bt (fun ((y2,y3):Int×Int) => (hs_l2Of_0 y0 y1 y2 y3)) (xs_l2Of_0 y0 y1) := by kernel_rfl
theorem ks_l2Of_1:OrcOk Es_l2Of Os_l2Of_1 lss_l2Of 1 := orc_add ks_l2Of_0 (fun n p hp h ex h' ho => by
 obtain ⟨b,c⟩ := p
 obtain ⟨xt,h1,h2⟩ := ho
 have h1:Os_l2Of_1 b h = some (true,xt) := h1
 unfold Os_l2Of_1 at h1
 split at h1
 ·injection h1 with h1
  injection h1 with e1 e2
  subst e2
  have hc:c = cs_l2Of_0 := ms_l2Of_0 _ hp rfl
  subst hc
  right
  rename_i y0 y1 y2 y3
  have key := LT_step ks_l2Of_0 hp (fun q hq => loopsAll_in _ _ _ _ hp hq) (fun ((y2,y3):Int×Int) => (hs_l2Of_0 y0 y1 y2 y3)) (xs_l2Of_0 y0 y1) (g_Ss_l2Of_0 y0 y1) (fun x => by first | exact bs_l2Of_0 y0 y1 x.1 x.2) n (x := (y2,y3)) (okO_some e1)
  have hx:∀ r,XT.sel (.leaf (.exit 0) [(.T 5,.t (.val false [.int .i64 r]))]) = xs_l2Of_0 y0 y1 r := fun r => by first | rfl | rcases r with r | r <;> rfl | rcases r with r | r | r <;> rfl | rcases r with r | r | r | r <;> rfl
  have h3 := (hx (valO (g_Ls_l2Of_0 y0 y1 (y2,y3)))).symm.trans h2
  have e3 := congrArg Prod.fst h3
  have e4 := congrArg Prod.snd h3
  simp only at e3 e4
  rw [← e3,← e4]
  exact key
 ·exact .inl ⟨xt,h1,h2⟩)
noncomputable def g_As_l2Of (a0:tL0) (a1:Int):Bool := okO (g_Ls_l2Of_0 a0 a1 ((0:Int),(0:Int)))
noncomputable def g_Vs_l2Of_0 (a0:tL0) (a1:Int):Int := valO (g_Ls_l2Of_0 a0 a1 ((0:Int),(0:Int)))
noncomputable def Fs_l2Of:FSem := fun ys => match ys with
 | [.val false [.sl .any 92 (.pair (.int .i64) (.pair (.int .i64) (.pair (.sl 9 .str) (.sl 155 (.pair .str (.pair .bool (.sl 3 (.int .i64)))))))) a0],.val false [.int .i64 a1]] => some ((g_As_l2Of a0 a1),.val false [.int .i64 (g_Vs_l2Of_0 a0 a1)],[])
 | _ => none
theorem vs_l2Of (a0:tL0) (a1:Int):collapseH .std Es_l2Of Os_l2Of_1 (execFn Es_l2Of Tryz.f47 mss_l2Of [.val false [.sl .any 92 (.pair (.int .i64) (.pair (.int .i64) (.pair (.sl 9 .str) (.sl 155 (.pair .str (.pair .bool (.sl 3 (.int .i64)))))))) a0],.val false [.int .i64 a1]]) = some ((g_As_l2Of a0 a1),.val false [.int .i64 (g_Vs_l2Of_0 a0 a1)],[]) := by kernel_rfl
theorem ss_l2Of:Sound Tryz.prog 47 mss_l2Of Fs_l2Of := by
 refine fn_gen goods_l2Of (by kernel_rfl) .std (fn := Tryz.f47) (c := (Tryz.f47.body.getD .skip)) (o := Os_l2Of_1) (k := 1) (by kernel_rfl) (by kernel_rfl) (by kernel_rfl) (by kernel_rfl) (by decide) ks_l2Of_1 ?_
 intro ys r outs h
 unfold Fs_l2Of at h
 split at h
 ·exact (vs_l2Of _ _).trans h
 ·cases h
noncomputable def EZ67:Env where
 tt := mkTI Tryz.prog
 fn := fun f => match f with
  | 55 => some (mss_l1In,FSem.wk mss_l1In Fs_l1In)
  | _ => none
 bxf := fun _ => none
 mv := []
 keep := fun b => match b with
  | 0 => [(0,false),(3,false)]
  | _ => []
 keepB := fun b => match b with
  | 0 => []
  | _ => []
 keepX := fun b => match b with
  | 0 => [(2,false)]
  | _ => []
 keepXB := fun b => match b with
  | 0 => []
  | _ => []
theorem goodFZ67:∀ f ms F,EZ67.fn f = some (ms,F) → Sound Tryz.prog f ms F := fun f ms F h => by
 unfold EZ67 at h
 dsimp only at h
 split at h
 ·exact gF ss_l1In h
 ·cases h
theorem goodZ67:Good Tryz.prog EZ67 := ⟨rfl,goodFZ67,fun f ms F h => by cases h⟩
noncomputable def OZ67_0:Orc := fun _ _ => none
noncomputable def msZ67:List PM := [.rd]
noncomputable def lsZ67:List (Nat×Code) := loopsAll 0 (Tryz.f91.body.getD .skip)
noncomputable def cZ67_0:Code := (loopOf 0 (Tryz.f91.body.getD .skip)).getD .skip
theorem lseqZ67:lsZ67 = [(0,cZ67_0)] := by kernel_rfl
theorem mZ67_0:∀ p,p ∈ lsZ67 → p.1 = 0 → p.2 = cZ67_0 := by
 intro p hp
 rw [lseqZ67] at hp
 simp only [List.mem_cons,List.not_mem_nil,or_false] at hp
 subst hp; simp
theorem kZ67_0:OrcOk EZ67 OZ67_0 lsZ67 0 := orcOk_none
noncomputable def hZ67_0 (y0:List Int) (y1:Int):List (Pl×LV) := [(.T 0,.t (.val false [.sl .any 3 (.int .i64) y0])),(.T 3,.t (.val false [.int .i64 y1]))]
noncomputable def g_SZ67_0 (y0:List Int):(Int) → RT (Int) ((Bool) ⊕ (Unit))
 | y1 => .br (true) (.br (decide (y1 < (y0.length:Int))) (.br (decide (0 ≤ y1 ∧ y1 < (y0.length:Int))) (.br (g_As_l1In (at_ (.int .i64) y0 (Int.toNat y1)) (1:Int) (3:Int)) (.br (!g_Vs_l1In_0 (at_ (.int .i64) y0 (Int.toNat y1)) (1:Int) (3:Int)) (.out (.inl false)) (.br (true) (.br (decide (y1 > 0)) (.br (true) (.br (decide (0 ≤ IntKind.i64.wrap (y1 - 1) ∧ IntKind.i64.wrap (y1 - 1) < (y0.length:Int))) (.br (decide (0 ≤ y1 ∧ y1 < (y0.length:Int))) (.br (true) (.br (decide (at_ (.int .i64) y0 (Int.toNat (IntKind.i64.wrap (y1 - 1))) ≥ at_ (.int .i64) y0 (Int.toNat y1))) (.out (.inl false)) (.br (true) (.go (IntKind.i64.wrap (y1 + 1))) .bad)) .bad) .bad) .bad) .bad) (.br (true) (.go (IntKind.i64.wrap (y1 + 1))) .bad)) .bad)) .bad) .bad) (.out (.inr (())))) .bad
noncomputable def g_LZ67_0 (y0:List Int) (x:Int):Option ((Bool) ⊕ (Unit)) := loopO (g_SZ67_0 y0) x
noncomputable def xZ67_0 (y0:List Int):((Bool) ⊕ (Unit)) → Ex×List (Pl×LV) := fun
 | .inl r => (.ret,[(.T 2,.t (.val false [.bool r]))])
 | .inr (r) => (.exit 0,[(.T 2,.t (.val false [.undef]))])
noncomputable def OZ67_1:Orc := fun b h => match b,h with
 | 0,[(.T 0,.t (.val false [.sl .any 3 (.int .i64) y0])),(.T 3,.t (.val false [.int .i64 y1]))] => some (okO (g_LZ67_0 y0 y1),(.br (isL (valO (g_LZ67_0 y0 y1))) (.leaf .ret [(.T 2,.t (.val false [.bool (getL (valO (g_LZ67_0 y0 y1)))]))]) (.leaf (.exit 0) [(.T 2,.t (.val false [.undef]))])))
 | b,h => OZ67_0 b h
theorem bZ67_0 (y0:List Int) (y1:Int):Tr.bt EZ67 OZ67_0 (exec EZ67 0 cZ67_0 (St.of (hZ67_0 y0 y1)) (leafRd EZ67 0)) = (g_SZ67_0 y0 y1).bt (fun (y1:Int) => (hZ67_0 y0 y1)) (xZ67_0 y0) := by kernel_rfl
theorem kZ67_1:OrcOk EZ67 OZ67_1 lsZ67 1 := orc_add kZ67_0 (fun n p hp h ex h' ho => by
 obtain ⟨b,c⟩ := p
 obtain ⟨xt,h1,h2⟩ := ho
 have h1:OZ67_1 b h = some (true,xt) := h1
 unfold OZ67_1 at h1
 split at h1
 ·injection h1 with h1
  injection h1 with e1 e2
  subst e2
  have hc:c = cZ67_0 := mZ67_0 _ hp rfl
  subst hc
  right
  rename_i y0 y1
  have key := LT_step kZ67_0 hp (fun q hq => loopsAll_in _ _ _ _ hp hq) (fun (y1:Int) => (hZ67_0 y0 y1)) (xZ67_0 y0) (g_SZ67_0 y0) (fun x => by first | exact bZ67_0 y0 x) n (x := y1) (okO_some e1)
  have hx:∀ r,XT.sel (.br (isL r) (.leaf .ret [(.T 2,.t (.val false [.bool (getL r)]))]) (.leaf (.exit 0) [(.T 2,.t (.val false [.undef]))])) = xZ67_0 y0 r := fun r => by first | rfl | rcases r with r | r <;> rfl | rcases r with r | r | r <;> rfl | rcases r with r | r | r | r <;> rfl
  have h3 := (hx (valO (g_LZ67_0 y0 y1))).symm.trans h2
  have e3 := congrArg Prod.fst h3
  have e4 := congrArg Prod.snd h3
  simp only at e3 e4
  rw [← e3,← e4]
  exact key
 ·exact .inl ⟨xt,h1,h2⟩)
noncomputable def g_AZ67 (a0:List Int):Bool := okO (g_LZ67_0 a0 (0:Int))
noncomputable def g_VZ67_0 (a0:List Int):Bool := bif isL (valO (g_LZ67_0 a0 (0:Int))) then getL (valO (g_LZ67_0 a0 (0:Int))) else true
noncomputable def FZ67:FSem := fun ys => match ys with
 | [.val false [.sl .any 3 (.int .i64) a0]] => some ((g_AZ67 a0),.val false [.bool (g_VZ67_0 a0)],[])
 | _ => none
theorem vZ67 (a0:List Int):collapseH .std EZ67 OZ67_1 (execFn EZ67 Tryz.f91 msZ67 [.val false [.sl .any 3 (.int .i64) a0]]) = some ((g_AZ67 a0),.val false [.bool (g_VZ67_0 a0)],[]) := by kernel_rfl
theorem sZ67:Sound Tryz.prog 91 msZ67 FZ67 := by
 refine fn_gen goodZ67 (by kernel_rfl) .std (fn := Tryz.f91) (c := (Tryz.f91.body.getD .skip)) (o := OZ67_1) (k := 1) (by kernel_rfl) (by kernel_rfl) (by kernel_rfl) (by kernel_rfl) (by decide) kZ67_1 ?_
 intro ys r outs h
 unfold FZ67 at h
 split at h
 ·exact (vZ67 _).trans h
 ·cases h
noncomputable def Es_FroOk:Env where
 tt := mkTI Tryz.prog
 fn := fun f => match f with
  | 47 => some (mss_l2Of,FSem.wk mss_l2Of Fs_l2Of)
  | 55 => some (mss_l1In,FSem.wk mss_l1In Fs_l1In)
  | 56 => some (mss_OpOk,FSem.wk mss_OpOk Fs_OpOk)
  | 90 => some (mss_DiskOk,FSem.wk mss_DiskOk Fs_DiskOk)
  | 91 => some (msZ67,FSem.wk msZ67 FZ67)
  | _ => none
 bxf := fun _ => none
 mv := []
 keep := fun b => match b with
  | 0 => [(1,false),(3,false)]
  | 2 => [(1,false),(4,false)]
  | _ => []
 keepB := fun b => match b with
  | 0 => [(1,false)]
  | 2 => [(1,false)]
  | _ => []
 keepX := fun b => match b with
  | 0 => [(1,false),(2,false)]
  | 2 => [(2,false)]
  | _ => []
 keepXB := fun b => match b with
  | 0 => [(1,false)]
  | 2 => []
  | _ => []
theorem goodFs_FroOk:∀ f ms F,Es_FroOk.fn f = some (ms,F) → Sound Tryz.prog f ms F := fun f ms F h => by
 unfold Es_FroOk at h
 dsimp only at h
 split at h
 ·exact gF ss_l2Of h
 ·exact gF ss_l1In h
 ·exact gF ss_OpOk h
 ·exact gF ss_DiskOk h
 ·exact gF sZ67 h
 ·cases h
theorem goods_FroOk:Good Tryz.prog Es_FroOk := ⟨rfl,goodFs_FroOk,fun f ms F h => by cases h⟩
noncomputable def Os_FroOk_0:Orc := fun _ _ => none
noncomputable def mss_FroOk:List PM := [.rd]
noncomputable def lss_FroOk:List (Nat×Code) := loopsAll 0 (Tryz.f29.body.getD .skip)
noncomputable def cs_FroOk_0:Code := (loopOf 0 (Tryz.f29.body.getD .skip)).getD .skip
noncomputable def cs_FroOk_2:Code := (loopOf 2 (Tryz.f29.body.getD .skip)).getD .skip
theorem lseqs_FroOk:lss_FroOk = [(0,cs_FroOk_0),(2,cs_FroOk_2)] := by kernel_rfl
theorem ms_FroOk_0:∀ p,p ∈ lss_FroOk → p.1 = 0 → p.2 = cs_FroOk_0 := by
 intro p hp
 rw [lseqs_FroOk] at hp
 simp only [List.mem_cons,List.not_mem_nil,or_false] at hp
 rcases hp with rfl | rfl <;> simp
theorem ms_FroOk_2:∀ p,p ∈ lss_FroOk → p.1 = 2 → p.2 = cs_FroOk_2 := by
 intro p hp
 rw [lseqs_FroOk] at hp
 simp only [List.mem_cons,List.not_mem_nil,or_false] at hp
 rcases hp with rfl | rfl <;> simp
theorem ks_FroOk_0:OrcOk Es_FroOk Os_FroOk_0 lss_FroOk 0 := orcOk_none
noncomputable def hs_FroOk_0 (y0:Int) (y1:tL0) (y2:Int) (y3:tL1):List (Pl×LV) := [(.T 1,.t (.val false [.ptr 1 0 0])),(.T 3,.t (.val false [.int .i64 y0])),(.B 1,.b 0 false [.sl .any 92 (.pair (.int .i64) (.pair (.int .i64) (.pair (.sl 9 .str) (.sl 155 (.pair .str (.pair .bool (.sl 3 (.int .i64)))))))) y1,.int .i64 y2,.sl .any 73 (.pair (.int .i64) (.pair (.pair (.int .i64) (.pair (.int .i64) (.pair (.int .i64) (.pair (.int .i64) (.pair (.int .i64) (.pair (.int .i64) (.int .i64))))))) (.pair .bool (.pair (.sl 3 (.int .i64)) (.sl 3 (.int .i64)))))) y3])]
noncomputable def g_Ss_FroOk_0 (y1:tL0) (y2:Int) (y3:tL1):(Int) → RT (Int) ((Bool) ⊕ (Unit))
 | y0 => .br (true) (.br (decide (y0 < (y1.length:Int))) (.br (decide (0 ≤ y0 ∧ y0 < (y1.length:Int))) (.br (true) (.br ((at_ yT1 y1 (Int.toNat y0)).1 != 2) (.br (decide (0 ≤ y0 ∧ y0 < (y1.length:Int))) (.br (true) (.br ((at_ yT1 y1 (Int.toNat y0)).1 != 4) (.out (.inl false)) (.br (true) (.go (IntKind.i64.wrap (y0 + 1))) .bad)) .bad) .bad) (.br (true) (.go (IntKind.i64.wrap (y0 + 1))) .bad)) .bad) .bad) (.out (.inr (())))) .bad
noncomputable def g_Ls_FroOk_0 (y1:tL0) (y2:Int) (y3:tL1) (x:Int):Option ((Bool) ⊕ (Unit)) := loopO (g_Ss_FroOk_0 y1 y2 y3) x
noncomputable def xs_FroOk_0 (y1:tL0) (y2:Int) (y3:tL1):((Bool) ⊕ (Unit)) → Ex×List (Pl×LV) := fun
 | .inl r => (.ret,[(.T 1,.t (.val false [.ptr 1 0 0])),(.T 2,.t (.val false [.bool r])),(.B 1,.b 0 false [.sl .any 92 (.pair (.int .i64) (.pair (.int .i64) (.pair (.sl 9 .str) (.sl 155 (.pair .str (.pair .bool (.sl 3 (.int .i64)))))))) y1,.int .i64 y2,.sl .any 73 (.pair (.int .i64) (.pair (.pair (.int .i64) (.pair (.int .i64) (.pair (.int .i64) (.pair (.int .i64) (.pair (.int .i64) (.pair (.int .i64) (.int .i64))))))) (.pair .bool (.pair (.sl 3 (.int .i64)) (.sl 3 (.int .i64)))))) y3])])
 | .inr (r) => (.exit 0,[(.T 1,.t (.val false [.ptr 1 0 0])),(.T 2,.t (.val false [.undef])),(.B 1,.b 0 false [.sl .any 92 (.pair (.int .i64) (.pair (.int .i64) (.pair (.sl 9 .str) (.sl 155 (.pair .str (.pair .bool (.sl 3 (.int .i64)))))))) y1,.int .i64 y2,.sl .any 73 (.pair (.int .i64) (.pair (.pair (.int .i64) (.pair (.int .i64) (.pair (.int .i64) (.pair (.int .i64) (.pair (.int .i64) (.pair (.int .i64) (.int .i64))))))) (.pair .bool (.pair (.sl 3 (.int .i64)) (.sl 3 (.int .i64)))))) y3])])
noncomputable def Os_FroOk_1:Orc := fun b h => match b,h with
 | 0,[(.T 1,.t (.val false [.ptr 1 0 0])),(.T 3,.t (.val false [.int .i64 y0])),(.B 1,.b 0 false [.sl .any 92 (.pair (.int .i64) (.pair (.int .i64) (.pair (.sl 9 .str) (.sl 155 (.pair .str (.pair .bool (.sl 3 (.int .i64)))))))) y1,.int .i64 y2,.sl .any 73 (.pair (.int .i64) (.pair (.pair (.int .i64) (.pair (.int .i64) (.pair (.int .i64) (.pair (.int .i64) (.pair (.int .i64) (.pair (.int .i64) (.int .i64))))))) (.pair .bool (.pair (.sl 3 (.int .i64)) (.sl 3 (.int .i64)))))) y3])] => some (okO (g_Ls_FroOk_0 y1 y2 y3 y0),(.br (isL (valO (g_Ls_FroOk_0 y1 y2 y3 y0))) (.leaf .ret [(.T 1,.t (.val false [.ptr 1 0 0])),(.T 2,.t (.val false [.bool (getL (valO (g_Ls_FroOk_0 y1 y2 y3 y0)))])),(.B 1,.b 0 false [.sl .any 92 (.pair (.int .i64) (.pair (.int .i64) (.pair (.sl 9 .str) (.sl 155 (.pair .str (.pair .bool (.sl 3 (.int .i64)))))))) y1,.int .i64 y2,.sl .any 73 (.pair (.int .i64) (.pair (.pair (.int .i64) (.pair (.int .i64) (.pair (.int .i64) (.pair (.int .i64) (.pair (.int .i64) (.pair (.int .i64) (.int .i64))))))) (.pair .bool (.pair (.sl 3 (.int .i64)) (.sl 3 (.int .i64)))))) y3])]) (.leaf (.exit 0) [(.T 1,.t (.val false [.ptr 1 0 0])),(.T 2,.t (.val false [.undef])),(.B 1,.b 0 false [.sl .any 92 (.pair (.int .i64) (.pair (.int .i64) (.pair (.sl 9 .str) (.sl 155 (.pair .str (.pair .bool (.sl 3 (.int .i64)))))))) y1,.int .i64 y2,.sl .any 73 (.pair (.int .i64) (.pair (.pair (.int .i64) (.pair (.int .i64) (.pair (.int .i64) (.pair (.int .i64) (.pair (.int .i64) (.pair (.int .i64) (.int .i64))))))) (.pair .bool (.pair (.sl 3 (.int .i64)) (.sl 3 (.int .i64)))))) y3])])))
 | b,h => Os_FroOk_0 b h
theorem bs_FroOk_0 (y0:Int) (y1:tL0) (y2:Int) (y3:tL1):Tr.bt Es_FroOk Os_FroOk_0 (exec Es_FroOk 0 cs_FroOk_0 (St.of (hs_FroOk_0 y0 y1 y2 y3)) (leafRd Es_FroOk 0)) = (g_Ss_FroOk_0 y1 y2 y3 y0).bt (fun (y0:Int) => (hs_FroOk_0 y0 y1 y2 y3)) (xs_FroOk_0 y1 y2 y3) := by kernel_rfl
theorem ks_FroOk_1:OrcOk Es_FroOk Os_FroOk_1 lss_FroOk 1 := orc_add ks_FroOk_0 (fun n p hp h ex h' ho => by
 obtain ⟨b,c⟩ := p
 obtain ⟨xt,h1,h2⟩ := ho
 have h1:Os_FroOk_1 b h = some (true,xt) := h1
 unfold Os_FroOk_1 at h1
 split at h1
 ·injection h1 with h1
  injection h1 with e1 e2
  subst e2
  have hc:c = cs_FroOk_0 := ms_FroOk_0 _ hp rfl
  subst hc
  right
  rename_i y0 y1 y2 y3
  have key := LT_step ks_FroOk_0 hp (fun q hq => loopsAll_in _ _ _ _ hp hq) (fun (y0:Int) => (hs_FroOk_0 y0 y1 y2 y3)) (xs_FroOk_0 y1 y2 y3) (g_Ss_FroOk_0 y1 y2 y3) (fun x => by first | exact bs_FroOk_0 x y1 y2 y3) n (x := y0) (okO_some e1)
  have hx:∀ r,XT.sel (.br (isL r) (.leaf .ret [(.T 1,.t (.val false [.ptr 1 0 0])),(.T 2,.t (.val false [.bool (getL r)])),(.B 1,.b 0 false [.sl .any 92 (.pair (.int .i64) (.pair (.int .i64) (.pair (.sl 9 .str) (.sl 155 (.pair .str (.pair .bool (.sl 3 (.int .i64)))))))) y1,.int .i64 y2,.sl .any 73 (.pair (.int .i64) (.pair (.pair (.int .i64) (.pair (.int .i64) (.pair (.int .i64) (.pair (.int .i64) (.pair (.int .i64) (.pair (.int .i64) (.int .i64))))))) (.pair .bool (.pair (.sl 3 (.int .i64)) (.sl 3 (.int .i64)))))) y3])]) (.leaf (.exit 0) [(.T 1,.t (.val false [.ptr 1 0 0])),(.T 2,.t (.val false [.undef])),(.B 1,.b 0 false [.sl .any 92 (.pair (.int .i64) (.pair (.int .i64) (.pair (.sl 9 .str) (.sl 155 (.pair .str (.pair .bool (.sl 3 (.int .i64)))))))) y1,.int .i64 y2,.sl .any 73 (.pair (.int .i64) (.pair (.pair (.int .i64) (.pair (.int .i64) (.pair (.int .i64) (.pair (.int .i64) (.pair (.int .i64) (.pair (.int .i64) (.int .i64))))))) (.pair .bool (.pair (.sl 3 (.int .i64)) (.sl 3 (.int .i64)))))) y3])])) = xs_FroOk_0 y1 y2 y3 r := fun r => by first | rfl | rcases r with r | r <;> rfl | rcases r with r | r | r <;> rfl | rcases r with r | r | r | r <;> rfl
  have h3 := (hx (valO (g_Ls_FroOk_0 y1 y2 y3 y0))).symm.trans h2
  have e3 := congrArg Prod.fst h3
  have e4 := congrArg Prod.snd h3
  simp only at e3 e4
  rw [← e3,← e4]
  exact key
 ·exact .inl ⟨xt,h1,h2⟩)
noncomputable def hs_FroOk_2 (y0:Int) (y1:tL0) (y2:Int) (y3:tL1):List (Pl×LV) := [(.T 1,.t (.val false [.ptr 1 0 0])),(.T 4,.t (.val false [.int .i64 y0])),(.B 1,.b 0 false [.sl .any 92 (.pair (.int .i64) (.pair (.int .i64) (.pair (.sl 9 .str) (.sl 155 (.pair .str (.pair .bool (.sl 3 (.int .i64)))))))) y1,.int .i64 y2,.sl .any 73 (.pair (.int .i64) (.pair (.pair (.int .i64) (.pair (.int .i64) (.pair (.int .i64) (.pair (.int .i64) (.pair (.int .i64) (.pair (.int .i64) (.int .i64))))))) (.pair .bool (.pair (.sl 3 (.int .i64)) (.sl 3 (.int .i64)))))) y3])]
noncomputable def g_Ss_FroOk_2 (y1:tL0) (y2:Int) (y3:tL1):(Int) → RT (Int) ((Bool) ⊕ (Unit))
 | y0 => .br (true) (.br (decide (y0 < (y3.length:Int))) (.br (decide (0 ≤ y0 ∧ y0 < (y3.length:Int))) (.br (g_As_l1In (at_ yT0 y3 (Int.toNat y0)).1 (0:Int) (29:Int)) (.br (!g_Vs_l1In_0 (at_ yT0 y3 (Int.toNat y0)).1 (0:Int) (29:Int)) (.out (.inl false)) (.br (true) (.br (decide (y0 > 0)) (.br (true) (.br (decide (0 ≤ IntKind.i64.wrap (y0 - 1) ∧ IntKind.i64.wrap (y0 - 1) < (y3.length:Int))) (.br (true) (.br (decide ((at_ yT0 y3 (Int.toNat (IntKind.i64.wrap (y0 - 1)))).1 ≥ (at_ yT0 y3 (Int.toNat y0)).1)) (.out (.inl false)) (.br (g_AZ67 (at_ yT0 y3 (Int.toNat y0)).2.2.2.1) (.br (!g_VZ67_0 (at_ yT0 y3 (Int.toNat y0)).2.2.2.1) (.out (.inl false)) (.br (g_AZ67 (at_ yT0 y3 (Int.toNat y0)).2.2.2.2) (.br (!g_VZ67_0 (at_ yT0 y3 (Int.toNat y0)).2.2.2.2) (.out (.inl false)) (.br (g_As_l2Of y1 (at_ yT0 y3 (Int.toNat y0)).1) (.br (true) (.br (!(at_ yT0 y3 (Int.toNat y0)).2.2.1 == (g_Vs_l2Of_0 y1 (at_ yT0 y3 (Int.toNat y0)).1 == 2)) (.out (.inl false)) (.br (!(at_ yT0 y3 (Int.toNat y0)).2.2.1) (.br (g_As_OpOk (at_ yT0 y3 (Int.toNat y0)).2.1.1 (at_ yT0 y3 (Int.toNat y0)).2.1.2.1 (at_ yT0 y3 (Int.toNat y0)).2.1.2.2.1 (at_ yT0 y3 (Int.toNat y0)).2.1.2.2.2.1 (at_ yT0 y3 (Int.toNat y0)).2.1.2.2.2.2.1 (at_ yT0 y3 (Int.toNat y0)).2.1.2.2.2.2.2.1 (at_ yT0 y3 (Int.toNat y0)).2.1.2.2.2.2.2.2) (.br (!g_Vs_OpOk_0 (at_ yT0 y3 (Int.toNat y0)).2.1.1 (at_ yT0 y3 (Int.toNat y0)).2.1.2.1 (at_ yT0 y3 (Int.toNat y0)).2.1.2.2.1 (at_ yT0 y3 (Int.toNat y0)).2.1.2.2.2.1 (at_ yT0 y3 (Int.toNat y0)).2.1.2.2.2.2.1 (at_ yT0 y3 (Int.toNat y0)).2.1.2.2.2.2.2.1 (at_ yT0 y3 (Int.toNat y0)).2.1.2.2.2.2.2.2) (.out (.inl false)) (.br (true) (.br (decide ((↑(List.length (at_ yT0 y3 (Int.toNat y0)).2.2.2.2):Int) > 0)) (.out (.inl false)) (.br (true) (.go (IntKind.i64.wrap (y0 + 1))) .bad)) .bad)) .bad) (.br (true) (.go (IntKind.i64.wrap (y0 + 1))) .bad))) .bad) .bad)) .bad)) .bad)) .bad) .bad) .bad) (.br (g_AZ67 (at_ yT0 y3 (Int.toNat y0)).2.2.2.1) (.br (!g_VZ67_0 (at_ yT0 y3 (Int.toNat y0)).2.2.2.1) (.out (.inl false)) (.br (g_AZ67 (at_ yT0 y3 (Int.toNat y0)).2.2.2.2) (.br (!g_VZ67_0 (at_ yT0 y3 (Int.toNat y0)).2.2.2.2) (.out (.inl false)) (.br (g_As_l2Of y1 (at_ yT0 y3 (Int.toNat y0)).1) (.br (true) (.br (!(at_ yT0 y3 (Int.toNat y0)).2.2.1 == (g_Vs_l2Of_0 y1 (at_ yT0 y3 (Int.toNat y0)).1 == 2)) (.out (.inl false)) (.br (!(at_ yT0 y3 (Int.toNat y0)).2.2.1) (.br (g_As_OpOk (at_ yT0 y3 (Int.toNat y0)).2.1.1 (at_ yT0 y3 (Int.toNat y0)).2.1.2.1 (at_ yT0 y3 (Int.toNat y0)).2.1.2.2.1 (at_ yT0 y3 (Int.toNat y0)).2.1.2.2.2.1 (at_ yT0 y3 (Int.toNat y0)).2.1.2.2.2.2.1 (at_ yT0 y3 (Int.toNat y0)).2.1.2.2.2.2.2.1 (at_ yT0 y3 (Int.toNat y0)).2.1.2.2.2.2.2.2) (.br (!g_Vs_OpOk_0 (at_ yT0 y3 (Int.toNat y0)).2.1.1 (at_ yT0 y3 (Int.toNat y0)).2.1.2.1 (at_ yT0 y3 (Int.toNat y0)).2.1.2.2.1 (at_ yT0 y3 (Int.toNat y0)).2.1.2.2.2.1 (at_ yT0 y3 (Int.toNat y0)).2.1.2.2.2.2.1 (at_ yT0 y3 (Int.toNat y0)).2.1.2.2.2.2.2.1 (at_ yT0 y3 (Int.toNat y0)).2.1.2.2.2.2.2.2) (.out (.inl false)) (.br (true) (.br (decide ((↑(List.length (at_ yT0 y3 (Int.toNat y0)).2.2.2.2):Int) > 0)) (.out (.inl false)) (.br (true) (.go (IntKind.i64.wrap (y0 + 1))) .bad)) .bad)) .bad) (.br (true) (.go (IntKind.i64.wrap (y0 + 1))) .bad))) .bad) .bad)) .bad)) .bad)) .bad)) .bad) .bad) (.out (.inr (())))) .bad
noncomputable def g_Ls_FroOk_2 (y1:tL0) (y2:Int) (y3:tL1) (x:Int):Option ((Bool) ⊕ (Unit)) := loopO (g_Ss_FroOk_2 y1 y2 y3) x
noncomputable def xs_FroOk_2 (y1:tL0) (y2:Int) (y3:tL1):((Bool) ⊕ (Unit)) → Ex×List (Pl×LV) := fun
 | .inl r => (.ret,[(.T 2,.t (.val false [.bool r]))])
 | .inr (r) => (.exit 2,[(.T 2,.t (.val false [.undef]))])
noncomputable def Os_FroOk_2:Orc := fun b h => match b,h with
 | 2,[(.T 1,.t (.val false [.ptr 1 0 0])),(.T 4,.t (.val false [.int .i64 y0])),(.B 1,.b 0 false [.sl .any 92 (.pair (.int .i64) (.pair (.int .i64) (.pair (.sl 9 .str) (.sl 155 (.pair .str (.pair .bool (.sl 3 (.int .i64)))))))) y1,.int .i64 y2,.sl .any 73 (.pair (.int .i64) (.pair (.pair (.int .i64) (.pair (.int .i64) (.pair (.int .i64) (.pair (.int .i64) (.pair (.int .i64) (.pair (.int .i64) (.int .i64))))))) (.pair .bool (.pair (.sl 3 (.int .i64)) (.sl 3 (.int .i64)))))) y3])] => some (okO (g_Ls_FroOk_2 y1 y2 y3 y0),(.br (isL (valO (g_Ls_FroOk_2 y1 y2 y3 y0))) (.leaf .ret [(.T 2,.t (.val false [.bool (getL (valO (g_Ls_FroOk_2 y1 y2 y3 y0)))]))]) (.leaf (.exit 2) [(.T 2,.t (.val false [.undef]))])))
 | b,h => Os_FroOk_1 b h
theorem bs_FroOk_2 (y0:Int) (y1:tL0) (y2:Int) (y3:tL1):Tr.bt Es_FroOk Os_FroOk_1 (exec Es_FroOk 2 cs_FroOk_2 (St.of (hs_FroOk_2 y0 y1 y2 y3)) (leafRd Es_FroOk 2)) = (g_Ss_FroOk_2 y1 y2 y3 y0).bt (fun (y0:Int) => (hs_FroOk_2 y0 y1 y2 y3)) (xs_FroOk_2 y1 y2 y3) := by kernel_rfl
theorem ks_FroOk_2:OrcOk Es_FroOk Os_FroOk_2 lss_FroOk 2 := orc_add ks_FroOk_1 (fun n p hp h ex h' ho => by
 obtain ⟨b,c⟩ := p
 obtain ⟨xt,h1,h2⟩ := ho
 have h1:Os_FroOk_2 b h = some (true,xt) := h1
 unfold Os_FroOk_2 at h1
 split at h1
 ·injection h1 with h1
  injection h1 with e1 e2
  subst e2
  have hc:c = cs_FroOk_2 := ms_FroOk_2 _ hp rfl
  subst hc
  right
  rename_i y0 y1 y2 y3
  have key := LT_step ks_FroOk_1 hp (fun q hq => loopsAll_in _ _ _ _ hp hq) (fun (y0:Int) => (hs_FroOk_2 y0 y1 y2 y3)) (xs_FroOk_2 y1 y2 y3) (g_Ss_FroOk_2 y1 y2 y3) (fun x => by first | exact bs_FroOk_2 x y1 y2 y3) n (x := y0) (okO_some e1)
  have hx:∀ r,XT.sel (.br (isL r) (.leaf .ret [(.T 2,.t (.val false [.bool (getL r)]))]) (.leaf (.exit 2) [(.T 2,.t (.val false [.undef]))])) = xs_FroOk_2 y1 y2 y3 r := fun r => by first | rfl | rcases r with r | r <;> rfl | rcases r with r | r | r <;> rfl | rcases r with r | r | r | r <;> rfl
  have h3 := (hx (valO (g_Ls_FroOk_2 y1 y2 y3 y0))).symm.trans h2
  have e3 := congrArg Prod.fst h3
  have e4 := congrArg Prod.snd h3
  simp only at e3 e4
  rw [← e3,← e4]
  exact key
 ·exact .inl ⟨xt,h1,h2⟩)
noncomputable def g_As_FroOk (a0:tL0) (a1:Int) (a2:tL1):Bool := g_As_DiskOk a0 a1&&(!g_Vs_DiskOk_0 a0 a1 || (decide ((a2.length:Int) > 30) || okO (g_Ls_FroOk_0 a0 a1 a2 (0:Int))&&(isL (valO (g_Ls_FroOk_0 a0 a1 a2 (0:Int))) || okO (g_Ls_FroOk_2 a0 a1 a2 (0:Int)))))
noncomputable def g_Vs_FroOk_0 (a0:tL0) (a1:Int) (a2:tL1):Bool := bif !g_Vs_DiskOk_0 a0 a1 then false else bif decide ((a2.length:Int) > 30) then false else bif isL (valO (g_Ls_FroOk_0 a0 a1 a2 (0:Int))) then getL (valO (g_Ls_FroOk_0 a0 a1 a2 (0:Int))) else bif isL (valO (g_Ls_FroOk_2 a0 a1 a2 (0:Int))) then getL (valO (g_Ls_FroOk_2 a0 a1 a2 (0:Int))) else true
noncomputable def Fs_FroOk:FSem := fun ys => match ys with
 | [.val true [.sl .any 92 (.pair (.int .i64) (.pair (.int .i64) (.pair (.sl 9 .str) (.sl 155 (.pair .str (.pair .bool (.sl 3 (.int .i64)))))))) a0,.int .i64 a1,.sl .any 73 (.pair (.int .i64) (.pair (.pair (.int .i64) (.pair (.int .i64) (.pair (.int .i64) (.pair (.int .i64) (.pair (.int .i64) (.pair (.int .i64) (.int .i64))))))) (.pair .bool (.pair (.sl 3 (.int .i64)) (.sl 3 (.int .i64)))))) a2]] => some ((g_As_FroOk a0 a1 a2),.val false [.bool (g_Vs_FroOk_0 a0 a1 a2)],[])
 | _ => none
theorem vs_FroOk (a0:tL0) (a1:Int) (a2:tL1):collapseH .std Es_FroOk Os_FroOk_2 (execFn Es_FroOk Tryz.f29 mss_FroOk [.val true [.sl .any 92 (.pair (.int .i64) (.pair (.int .i64) (.pair (.sl 9 .str) (.sl 155 (.pair .str (.pair .bool (.sl 3 (.int .i64)))))))) a0,.int .i64 a1,.sl .any 73 (.pair (.int .i64) (.pair (.pair (.int .i64) (.pair (.int .i64) (.pair (.int .i64) (.pair (.int .i64) (.pair (.int .i64) (.pair (.int .i64) (.int .i64))))))) (.pair .bool (.pair (.sl 3 (.int .i64)) (.sl 3 (.int .i64)))))) a2]]) = some ((g_As_FroOk a0 a1 a2),.val false [.bool (g_Vs_FroOk_0 a0 a1 a2)],[]) := by kernel_rfl
theorem ss_FroOk:Sound Tryz.prog 29 mss_FroOk Fs_FroOk := by
 refine fn_gen goods_FroOk (by kernel_rfl) .std (fn := Tryz.f29) (c := (Tryz.f29.body.getD .skip)) (o := Os_FroOk_2) (k := 2) (by kernel_rfl) (by kernel_rfl) (by kernel_rfl) (by kernel_rfl) (by decide) ks_FroOk_2 ?_
 intro ys r outs h
 unfold Fs_FroOk at h
 split at h
 ·exact (vs_FroOk _ _ _).trans h
 ·cases h
end Go.Proofs.YtedhpmhlmdcpbaaGreatDoor.E
