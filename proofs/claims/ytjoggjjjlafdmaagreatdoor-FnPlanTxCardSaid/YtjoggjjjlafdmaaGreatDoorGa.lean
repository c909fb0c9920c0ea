/- What the functions that are reached do, by the engine: for the proof (laws.FnPlanTx): part 1. No conditions. -/
import Derived.Test.YtjoggjjjlafdmaaGreatDoorEc
import Derived.Test.YtjoggjjjlafdmaaGreatDoorProg
import Derived.Test.YtjoggjjjlafdmaaGreatDoorShelf
set_option linter.all false
namespace Go.Proofs.YtjoggjjjlafdmaaGreatDoor.E
open Go
set_option maxRecDepth 100000
set_option maxHeartbeats 0
noncomputable def Ei_in:Env where
 tt := mkTI Tryz.prog
 fn := fun _ => none
 bxf := fun _ => none
 mv := []
 keep := fun _ => []
 keepB := fun _ => []
 keepX := fun _ => []
 keepXB := fun _ => []
theorem goodFi_in:∀ f ms F,Ei_in.fn f = some (ms,F) → Sound Tryz.prog f ms F := fun f ms F h => by cases h
theorem goodBi_in:∀ f ms F,Ei_in.bxf f = some (ms,F) → SoundB Tryz.prog f ms F := fun f ms F h => by cases h
theorem goodi_in:Good Tryz.prog Ei_in := ⟨rfl,goodFi_in,goodBi_in⟩
noncomputable def Oi_in_0:Orc := fun _ _ => none
noncomputable def msi_in:List PM := [.own,.own,.own]
noncomputable def lsi_in:List (Nat×Code) := loopsAll 0 (Tryz.f64.body.getD .skip)
theorem ki_in_0:OrcOk Ei_in Oi_in_0 lsi_in 0 := orcOk_none
noncomputable def g_Ai_in (a0:Int) (a1:Int) (a2:Int):Bool := !decide (a0 ≥ a1) || true
noncomputable def g_Vi_in_0 (a0:Int) (a1:Int) (a2:Int):Bool := bif decide (a0 ≥ a1) then decide (a0 ≤ a2) else false
noncomputable def Fi_in:FSem := fun ys => match ys with
 | [.val false [.int .i64 a0],.val false [.int .i64 a1],.val false [.int .i64 a2]] => some ((g_Ai_in a0 a1 a2),.val false [.bool (g_Vi_in_0 a0 a1 a2)],[])
 | _ => none
theorem vi_in (a0:Int) (a1:Int) (a2:Int):collapseH .std Ei_in Oi_in_0 (execFn Ei_in Tryz.f64 msi_in [.val false [.int .i64 a0],.val false [.int .i64 a1],.val false [.int .i64 a2]]) = some ((g_Ai_in a0 a1 a2),.val false [.bool (g_Vi_in_0 a0 a1 a2)],[]) := by kernel_rfl
theorem si_in:Sound Tryz.prog 64 msi_in Fi_in := by
 refine fn_gen goodi_in (by kernel_rfl) .std (fn := Tryz.f64) (c := (Tryz.f64.body.getD .skip)) (o := Oi_in_0) (k := 0) (by kernel_rfl) (by kernel_rfl) (by kernel_rfl) (by kernel_rfl) (by decide) ki_in_0 ?_
 intro ys r outs h
 unfold Fi_in at h
 split at h
 ·exact (vi_in _ _ _).trans h
 ·cases h
noncomputable def Ei_OpOk_1:Env where
 tt := mkTI Tryz.prog
 fn := fun f => match f with
  | 64 => some (msi_in,FSem.wk msi_in Fi_in)
  | _ => none
 bxf := fun _ => none
 mv := []
 keep := fun _ => []
 keepB := fun _ => []
 keepX := fun _ => []
 keepXB := fun _ => []
theorem goodFi_OpOk_1:∀ f ms F,Ei_OpOk_1.fn f = some (ms,F) → Sound Tryz.prog f ms F := fun f ms F h => by
 unfold Ei_OpOk_1 at h
 dsimp only at h
 split at h
 ·injection h with h; injection h with e1 e2; subst e1 e2; exact Sound.wk si_in
 ·cases h
theorem goodBi_OpOk_1:∀ f ms F,Ei_OpOk_1.bxf f = some (ms,F) → SoundB Tryz.prog f ms F := fun f ms F h => by cases h
theorem goodi_OpOk_1:Good Tryz.prog Ei_OpOk_1 := ⟨rfl,goodFi_OpOk_1,goodBi_OpOk_1⟩
noncomputable def Oi_OpOk_1_0:Orc := fun _ _ => none
noncomputable def msi_OpOk_1:List PM := [.own]
noncomputable def lsi_OpOk_1:List (Nat×Code) := loopsAll 0 (Tryz.f138.body.getD .skip)
theorem ki_OpOk_1_0:OrcOk Ei_OpOk_1 Oi_OpOk_1_0 lsi_OpOk_1 0 := orcOk_none
noncomputable def g_Ai_OpOk_1 (a0:Int):Bool := g_Ai_in a0 (0:Int) (9:Int)
noncomputable def g_Vi_OpOk_1_0 (a0:Int):Bool := g_Vi_in_0 a0 (0:Int) (9:Int)
noncomputable def Fi_OpOk_1:FSem := fun ys => match ys with
 | [.val false [.int .i64 a0]] => some ((g_Ai_OpOk_1 a0),.val false [.bool (g_Vi_OpOk_1_0 a0)],[])
 | _ => none
theorem vi_OpOk_1 (a0:Int):collapseH .std Ei_OpOk_1 Oi_OpOk_1_0 (execFn Ei_OpOk_1 Tryz.f138 msi_OpOk_1 [.val false [.int .i64 a0]]) = some ((g_Ai_OpOk_1 a0),.val false [.bool (g_Vi_OpOk_1_0 a0)],[]) := by kernel_rfl
theorem si_OpOk_1:Sound Tryz.prog 138 msi_OpOk_1 Fi_OpOk_1 := by
 refine fn_gen goodi_OpOk_1 (by kernel_rfl) .std (fn := Tryz.f138) (c := (Tryz.f138.body.getD .skip)) (o := Oi_OpOk_1_0) (k := 0) (by kernel_rfl) (by kernel_rfl) (by kernel_rfl) (by kernel_rfl) (by decide) ki_OpOk_1_0 ?_
 intro ys r outs h
 unfold Fi_OpOk_1 at h
 split at h
 ·exact (vi_OpOk_1 _).trans h
 ·cases h
noncomputable def Ei_OpOk_2:Env where
 tt := mkTI Tryz.prog
 fn := fun f => match f with
  | 64 => some (msi_in,FSem.wk msi_in Fi_in)
  | _ => none
 bxf := fun _ => none
 mv := []
 keep := fun _ => []
 keepB := fun _ => []
 keepX := fun _ => []
 keepXB := fun _ => []
theorem goodFi_OpOk_2:∀ f ms F,Ei_OpOk_2.fn f = some (ms,F) → Sound Tryz.prog f ms F := fun f ms F h => by
 unfold Ei_OpOk_2 at h
 dsimp only at h
 split at h
 ·injection h with h; injection h with e1 e2; subst e1 e2; exact Sound.wk si_in
 ·cases h
theorem goodBi_OpOk_2:∀ f ms F,Ei_OpOk_2.bxf f = some (ms,F) → SoundB Tryz.prog f ms F := fun f ms F h => by cases h
theorem goodi_OpOk_2:Good Tryz.prog Ei_OpOk_2 := ⟨rfl,goodFi_OpOk_2,goodBi_OpOk_2⟩
noncomputable def Oi_OpOk_2_0:Orc := fun _ _ => none
noncomputable def msi_OpOk_2:List PM := [.own]
noncomputable def lsi_OpOk_2:List (Nat×Code) := loopsAll 0 (Tryz.f139.body.getD .skip)
theorem ki_OpOk_2_0:OrcOk Ei_OpOk_2 Oi_OpOk_2_0 lsi_OpOk_2 0 := orcOk_none
noncomputable def g_Ai_OpOk_2 (a0:Int):Bool := g_Ai_in a0 (0:Int) (99:Int)
noncomputable def g_Vi_OpOk_2_0 (a0:Int):Bool := g_Vi_in_0 a0 (0:Int) (99:Int)
noncomputable def Fi_OpOk_2:FSem := fun ys => match ys with
 | [.val false [.int .i64 a0]] => some ((g_Ai_OpOk_2 a0),.val false [.bool (g_Vi_OpOk_2_0 a0)],[])
 | _ => none
theorem vi_OpOk_2 (a0:Int):collapseH .std Ei_OpOk_2 Oi_OpOk_2_0 (execFn Ei_OpOk_2 Tryz.f139 msi_OpOk_2 [.val false [.int .i64 a0]]) = some ((g_Ai_OpOk_2 a0),.val false [.bool (g_Vi_OpOk_2_0 a0)],[]) := by kernel_rfl
theorem si_OpOk_2:Sound Tryz.prog 139 msi_OpOk_2 Fi_OpOk_2 := by
 refine fn_gen goodi_OpOk_2 (by kernel_rfl) .std (fn := Tryz.f139) (c := (Tryz.f139.body.getD .skip)) (o := Oi_OpOk_2_0) (k := 0) (by kernel_rfl) (by kernel_rfl) (by kernel_rfl) (by kernel_rfl) (by decide) ki_OpOk_2_0 ?_
 intro ys r outs h
 unfold Fi_OpOk_2 at h
 split at h
 ·exact (vi_OpOk_2 _).trans h
 ·cases h
noncomputable def Ei_OpOk:Env where
 tt := mkTI Tryz.prog
 fn := fun f => match f with
  | 138 => some (msi_OpOk_1,FSem.wk msi_OpOk_1 Fi_OpOk_1)
  | 139 => some (msi_OpOk_2,FSem.wk msi_OpOk_2 Fi_OpOk_2)
  | _ => none
 bxf := fun _ => none
 mv := []
 keep := fun _ => []
 keepB := fun _ => []
 keepX := fun _ => []
 keepXB := fun _ => []
theorem goodFi_OpOk:∀ f ms F,Ei_OpOk.fn f = some (ms,F) → Sound Tryz.prog f ms F := fun f ms F h => by
 unfold Ei_OpOk at h
 dsimp only at h
 split at h
 ·injection h with h; injection h with e1 e2; subst e1 e2; exact Sound.wk si_OpOk_1
 ·injection h with h; injection h with e1 e2; subst e1 e2; exact Sound.wk si_OpOk_2
 ·cases h
theorem goodBi_OpOk:∀ f ms F,Ei_OpOk.bxf f = some (ms,F) → SoundB Tryz.prog f ms F := fun f ms F h => by cases h
theorem goodi_OpOk:Good Tryz.prog Ei_OpOk := ⟨rfl,goodFi_OpOk,goodBi_OpOk⟩
noncomputable def Oi_OpOk_0:Orc := fun _ _ => none
noncomputable def msi_OpOk:List PM := [.own]
noncomputable def lsi_OpOk:List (Nat×Code) := loopsAll 0 (Tryz.f85.body.getD .skip)
theorem ki_OpOk_0:OrcOk Ei_OpOk Oi_OpOk_0 lsi_OpOk 0 := orcOk_none
noncomputable def g_Ai_OpOk (a0:Int) (a1:Int) (a2:Int) (a3:Int) (a4:Int) (a5:Int) (a6:Int):Bool := g_Ai_OpOk_1 a1&&(!g_Vi_OpOk_1_0 a1 || g_Ai_OpOk_1 a2&&(!g_Vi_OpOk_1_0 a2 || g_Ai_OpOk_1 a3&&(!g_Vi_OpOk_1_0 a3 || g_Ai_OpOk_1 a5&&(!g_Vi_OpOk_1_0 a5 || g_Ai_OpOk_2 a4&&(!g_Vi_OpOk_2_0 a4 || g_Ai_OpOk_2 a6&&(!g_Vi_OpOk_2_0 a6 || bif a0 == (1:Int) then a0 == (1:Int) || (a0 == (2:Int) || (a0 == (3:Int) || true)) else a0 == (5:Int) || (a0 == (2:Int) || (a0 == (3:Int) || true))))))))
noncomputable def g_Vi_OpOk_0 (a0:Int) (a1:Int) (a2:Int) (a3:Int) (a4:Int) (a5:Int) (a6:Int):Bool := bif !g_Vi_OpOk_1_0 a1 then false else bif !g_Vi_OpOk_1_0 a2 then false else bif !g_Vi_OpOk_1_0 a3 then false else bif !g_Vi_OpOk_1_0 a5 then false else bif !g_Vi_OpOk_2_0 a4 then false else bif !g_Vi_OpOk_2_0 a6 then false else bif a0 == (1:Int) then bif a0 == (1:Int) then a0 == a0&&(a1 == a1&&(a2 == a2&&(a3 == (0:Int)&&(a4 == (0:Int)&&(a5 == (0:Int)&&(a6 == (0:Int)&&true)))))) else bif a0 == (2:Int) then a0 == a0&&(a1 == a1&&(a2 == a2&&(a3 == a3&&(a4 == a4&&(a5 == (0:Int)&&(a6 == (0:Int)&&true)))))) else bif a0 == (3:Int) then a0 == a0&&(a1 == (0:Int)&&(a2 == (0:Int)&&(a3 == a3&&(a4 == a4&&(a5 == a5&&(a6 == (0:Int)&&true)))))) else bif a0 == (4:Int) then a0 == a0&&(a1 == (0:Int)&&(a2 == (0:Int)&&(a3 == (0:Int)&&(a4 == (0:Int)&&(a5 == a5&&(a6 == a6&&true)))))) else false else bif a0 == (5:Int) then a0 == a0&&(a1 == a1&&(a2 == a2&&(a3 == (0:Int)&&(a4 == (0:Int)&&(a5 == (0:Int)&&(a6 == (0:Int)&&true)))))) else bif a0 == (2:Int) then a0 == a0&&(a1 == a1&&(a2 == a2&&(a3 == a3&&(a4 == a4&&(a5 == (0:Int)&&(a6 == (0:Int)&&true)))))) else bif a0 == (3:Int) then a0 == a0&&(a1 == (0:Int)&&(a2 == (0:Int)&&(a3 == a3&&(a4 == a4&&(a5 == a5&&(a6 == (0:Int)&&true)))))) else bif a0 == (4:Int) then a0 == a0&&(a1 == (0:Int)&&(a2 == (0:Int)&&(a3 == (0:Int)&&(a4 == (0:Int)&&(a5 == a5&&(a6 == a6&&true)))))) else false
noncomputable def Fi_OpOk:FSem := fun ys => match ys with
 | [.val true [.int .i64 a0,.int .i64 a1,.int .i64 a2,.int .i64 a3,.int .i64 a4,.int .i64 a5,.int .i64 a6]] => some ((g_Ai_OpOk a0 a1 a2 a3 a4 a5 a6),.val false [.bool (g_Vi_OpOk_0 a0 a1 a2 a3 a4 a5 a6)],[])
 | _ => none
theorem vi_OpOk (a0:Int) (a1:Int) (a2:Int) (a3:Int) (a4:Int) (a5:Int) (a6:Int):collapseH .std Ei_OpOk Oi_OpOk_0 (execFn Ei_OpOk Tryz.f85 msi_OpOk [.val true [.int .i64 a0,.int .i64 a1,.int .i64 a2,.int .i64 a3,.int .i64 a4,.int .i64 a5,.int .i64 a6]]) = some ((g_Ai_OpOk a0 a1 a2 a3 a4 a5 a6),.val false [.bool (g_Vi_OpOk_0 a0 a1 a2 a3 a4 a5 a6)],[]) := by kernel_rfl
theorem si_OpOk:Sound Tryz.prog 85 msi_OpOk Fi_OpOk := by
 refine fn_gen goodi_OpOk (by kernel_rfl) .std (fn := Tryz.f85) (c := (Tryz.f85.body.getD .skip)) (o := Oi_OpOk_0) (k := 0) (by kernel_rfl) (by kernel_rfl) (by kernel_rfl) (by kernel_rfl) (by decide) ki_OpOk_0 ?_
 intro ys r outs h
 unfold Fi_OpOk at h
 split at h
 ·exact (vi_OpOk _ _ _ _ _ _ _).trans h
 ·cases h
noncomputable def Ei_OpPlaces:Env where
 tt := mkTI Tryz.prog
 fn := fun f => match f with
  | 85 => some (msi_OpOk,FSem.wk msi_OpOk Fi_OpOk)
  | _ => none
 bxf := fun _ => none
 mv := []
 keep := fun _ => []
 keepB := fun _ => []
 keepX := fun _ => []
 keepXB := fun _ => []
theorem goodFi_OpPlaces:∀ f ms F,Ei_OpPlaces.fn f = some (ms,F) → Sound Tryz.prog f ms F := fun f ms F h => by
 unfold Ei_OpPlaces at h
 dsimp only at h
 split at h
 ·injection h with h; injection h with e1 e2; subst e1 e2; exact Sound.wk si_OpOk
 ·cases h
theorem goodBi_OpPlaces:∀ f ms F,Ei_OpPlaces.bxf f = some (ms,F) → SoundB Tryz.prog f ms F := fun f ms F h => by cases h
theorem goodi_OpPlaces:Good Tryz.prog Ei_OpPlaces := ⟨rfl,goodFi_OpPlaces,goodBi_OpPlaces⟩
noncomputable def Oi_OpPlaces_0:Orc := fun _ _ => none
noncomputable def msi_OpPlaces:List PM := [.own]
noncomputable def lsi_OpPlaces:List (Nat×Code) := loopsAll 0 (Tryz.f48.body.getD .skip)
theorem ki_OpPlaces_0:OrcOk Ei_OpPlaces Oi_OpPlaces_0 lsi_OpPlaces 0 := orcOk_none
noncomputable def g_Ai_OpPlaces (a0:Int) (a1:Int) (a2:Int) (a3:Int) (a4:Int) (a5:Int) (a6:Int):Bool := g_Ai_OpOk a0 a1 a2 a3 a4 a5 a6&&(!g_Vi_OpOk_0 a0 a1 a2 a3 a4 a5 a6 || (a0 == (1:Int) || (a0 == (2:Int) || true)))
noncomputable def g_Vi_OpPlaces_0 (a0:Int) (a1:Int) (a2:Int) (a3:Int) (a4:Int) (a5:Int) (a6:Int):List Int := bif !g_Vi_OpOk_0 a0 a1 a2 a3 a4 a5 a6 then [] else bif a0 == (1:Int) then [(1:Int),(3:Int)] else bif a0 == (2:Int) then [(1:Int),(2:Int),(3:Int)] else bif a0 == (5:Int) then [(1:Int),(2:Int),(3:Int)] else [(2:Int),(3:Int)]
noncomputable def Fi_OpPlaces:FSem := fun ys => match ys with
 | [.val true [.int .i64 a0,.int .i64 a1,.int .i64 a2,.int .i64 a3,.int .i64 a4,.int .i64 a5,.int .i64 a6]] => some ((g_Ai_OpPlaces a0 a1 a2 a3 a4 a5 a6),.val false [.own .any true 3 (.int .i64) (g_Vi_OpPlaces_0 a0 a1 a2 a3 a4 a5 a6)],[])
 | _ => none
theorem vi_OpPlaces (a0:Int) (a1:Int) (a2:Int) (a3:Int) (a4:Int) (a5:Int) (a6:Int):collapseH .std Ei_OpPlaces Oi_OpPlaces_0 (execFn Ei_OpPlaces Tryz.f48 msi_OpPlaces [.val true [.int .i64 a0,.int .i64 a1,.int .i64 a2,.int .i64 a3,.int .i64 a4,.int .i64 a5,.int .i64 a6]]) = some ((g_Ai_OpPlaces a0 a1 a2 a3 a4 a5 a6),.val false [.own .any true 3 (.int .i64) (g_Vi_OpPlaces_0 a0 a1 a2 a3 a4 a5 a6)],[]) := by kernel_rfl
theorem si_OpPlaces:Sound Tryz.prog 48 msi_OpPlaces Fi_OpPlaces := by
 refine fn_gen goodi_OpPlaces (by kernel_rfl) .std (fn := Tryz.f48) (c := (Tryz.f48.body.getD .skip)) (o := Oi_OpPlaces_0) (k := 0) (by kernel_rfl) (by kernel_rfl) (by kernel_rfl) (by kernel_rfl) (by decide) ki_OpPlaces_0 ?_
 intro ys r outs h
 unfold Fi_OpPlaces at h
 split at h
 ·exact (vi_OpPlaces _ _ _ _ _ _ _).trans h
 ·cases h
def msstrings_Trim:List PM := [.own,.own]
def g_trim (s c:ByteArray):ByteArray := ⟨(Lib.trimS s.data.toList c.data.toList).toArray⟩
def g_ascii (c:ByteArray):Bool := c.data.toList.all fun b => decide (b.toNat < 128)
def Fstrings_Trim:FSem := fun ys => match ys with
 | [.val false [.str s],.val false [.str c]] => some (decide (s.size ≤ 9223372036854775807)&&(decide (c.size < 4294967281)&&g_ascii c),.val false [.str (g_trim s c)],[])
 | _ => none
theorem sstrings_Trim:Sound Tryz.prog 152 msstrings_Trim Fstrings_Trim := by
 refine sound_plain (by simp [msstrings_Trim]) ⟨_,Tryz.func152,by kernel_rfl,by kernel_rfl⟩ (fun w ys r outs h => ?_)
 unfold Fstrings_Trim at h
 split at h
 ·rename_i s c
  simp only [Option.some.injEq,Prod.mk.injEq,Bool.and_eq_true,decide_eq_true_eq] at h
  obtain ⟨⟨h1,h2,h3⟩,rfl,rfl⟩ := h
  refine ⟨rfl,[.string s,.string c],.string (g_trim s c),rfl,rfl,?_⟩
  exact Tryz.strings_Trim_laid s c w h1 h2 (fun j b hb => by
   have := List.all_eq_true.1 h3 b (List.mem_of_getElem? hb)
   simpa using this)
 ·cases h
noncomputable def Ei_keyOk:Env where
 tt := mkTI Tryz.prog
 fn := fun f => match f with
  | 64 => some (msi_in,FSem.wk msi_in Fi_in)
  | 152 => some (msstrings_Trim,FSem.wk msstrings_Trim Fstrings_Trim)
  | _ => none
 bxf := fun _ => none
 mv := []
 keep := fun _ => []
 keepB := fun _ => []
 keepX := fun _ => []
 keepXB := fun _ => []
theorem goodFi_keyOk:∀ f ms F,Ei_keyOk.fn f = some (ms,F) → Sound Tryz.prog f ms F := fun f ms F h => by
 unfold Ei_keyOk at h
 dsimp only at h
 split at h
 ·injection h with h; injection h with e1 e2; subst e1 e2; exact Sound.wk si_in
 ·injection h with h; injection h with e1 e2; subst e1 e2; exact Sound.wk sstrings_Trim
 ·cases h
theorem goodBi_keyOk:∀ f ms F,Ei_keyOk.bxf f = some (ms,F) → SoundB Tryz.prog f ms F := fun f ms F h => by cases h
theorem goodi_keyOk:Good Tryz.prog Ei_keyOk := ⟨rfl,goodFi_keyOk,goodBi_keyOk⟩
noncomputable def Oi_keyOk_0:Orc := fun _ _ => none
noncomputable def msi_keyOk:List PM := [.own]
noncomputable def lsi_keyOk:List (Nat×Code) := loopsAll 0 (Tryz.f109.body.getD .skip)
theorem ki_keyOk_0:OrcOk Ei_keyOk Oi_keyOk_0 lsi_keyOk 0 := orcOk_none
noncomputable def g_Ai_keyOk (a0:ByteArray):Bool := g_Ai_in (↑(ByteArray.size a0):Int) (2:Int) (3:Int)&&(!g_Vi_in_0 (↑(ByteArray.size a0):Int) (2:Int) (3:Int) || decide ((0:Int) ≤ (0:Int) ∧ (0:Int) < (↑(ByteArray.size a0):Int))&&(g_Ai_in (IntKind.wrap IntKind.i64 (byteAt a0 (nat_lit 0))) (97:Int) (122:Int)&&(!g_Vi_in_0 (IntKind.wrap IntKind.i64 (byteAt a0 (nat_lit 0))) (97:Int) (122:Int) || decide ((0:Int) ≤ (1:Int) ∧ (1:Int) ≤ (↑(ByteArray.size a0):Int))&&(decide (ByteArray.size (ByteArray.extract a0 (nat_lit 1) (ByteArray.size a0)) ≤ nat_lit 9223372036854775807)&&g_ascii (lit [(48:Nat),(49:Nat),(50:Nat),(51:Nat),(52:Nat),(53:Nat),(54:Nat),(55:Nat),(56:Nat),(57:Nat)])&&true))))
noncomputable def g_Vi_keyOk_0 (a0:ByteArray):Bool := bif g_Vi_in_0 (↑(ByteArray.size a0):Int) (2:Int) (3:Int) then bif g_Vi_in_0 (IntKind.wrap IntKind.i64 (byteAt a0 (nat_lit 0))) (97:Int) (122:Int) then ByteArray.toList (g_trim (ByteArray.extract a0 (nat_lit 1) (ByteArray.size a0)) (lit [(48:Nat),(49:Nat),(50:Nat),(51:Nat),(52:Nat),(53:Nat),(54:Nat),(55:Nat),(56:Nat),(57:Nat)])) == [] else false else false
noncomputable def Fi_keyOk:FSem := fun ys => match ys with
 | [.val false [.str a0]] => some ((g_Ai_keyOk a0),.val false [.bool (g_Vi_keyOk_0 a0)],[])
 | _ => none
theorem vi_keyOk (a0:ByteArray):collapseH .std Ei_keyOk Oi_keyOk_0 (execFn Ei_keyOk Tryz.f109 msi_keyOk [.val false [.str a0]]) = some ((g_Ai_keyOk a0),.val false [.bool (g_Vi_keyOk_0 a0)],[]) := by kernel_rfl
theorem si_keyOk:Sound Tryz.prog 109 msi_keyOk Fi_keyOk := by
 refine fn_gen goodi_keyOk (by kernel_rfl) .std (fn := Tryz.f109) (c := (Tryz.f109.body.getD .skip)) (o := Oi_keyOk_0) (k := 0) (by kernel_rfl) (by kernel_rfl) (by kernel_rfl) (by kernel_rfl) (by decide) ki_keyOk_0 ?_
 intro ys r outs h
 unfold Fi_keyOk at h
 split at h
 ·exact (vi_keyOk _).trans h
 ·cases h
noncomputable def Ei_valOk_1:Env where
 tt := mkTI Tryz.prog
 fn := fun f => match f with
  | 64 => some (msi_in,FSem.wk msi_in Fi_in)
  | _ => none
 bxf := fun _ => none
 mv := []
 keep := fun _ => []
 keepB := fun _ => []
 keepX := fun _ => []
 keepXB := fun _ => []
theorem goodFi_valOk_1:∀ f ms F,Ei_valOk_1.fn f = some (ms,F) → Sound Tryz.prog f ms F := fun f ms F h => by
 unfold Ei_valOk_1 at h
 dsimp only at h
 split at h
 ·injection h with h; injection h with e1 e2; subst e1 e2; exact Sound.wk si_in
 ·cases h
theorem goodBi_valOk_1:∀ f ms F,Ei_valOk_1.bxf f = some (ms,F) → SoundB Tryz.prog f ms F := fun f ms F h => by cases h
theorem goodi_valOk_1:Good Tryz.prog Ei_valOk_1 := ⟨rfl,goodFi_valOk_1,goodBi_valOk_1⟩
noncomputable def Oi_valOk_1_0:Orc := fun _ _ => none
noncomputable def msi_valOk_1:List PM := [.own]
noncomputable def lsi_valOk_1:List (Nat×Code) := loopsAll 0 (Tryz.f154.body.getD .skip)
theorem ki_valOk_1_0:OrcOk Ei_valOk_1 Oi_valOk_1_0 lsi_valOk_1 0 := orcOk_none
noncomputable def g_Ai_valOk_1 (a0:Int):Bool := g_Ai_in a0 (0:Int) (9999:Int)
noncomputable def g_Vi_valOk_1_0 (a0:Int):Bool := !g_Vi_in_0 a0 (0:Int) (9999:Int)
noncomputable def Fi_valOk_1:FSem := fun ys => match ys with
 | [.val false [.int .i64 a0]] => some ((g_Ai_valOk_1 a0),.val false [.bool (g_Vi_valOk_1_0 a0)],[])
 | _ => none
theorem vi_valOk_1 (a0:Int):collapseH .std Ei_valOk_1 Oi_valOk_1_0 (execFn Ei_valOk_1 Tryz.f154 msi_valOk_1 [.val false [.int .i64 a0]]) = some ((g_Ai_valOk_1 a0),.val false [.bool (g_Vi_valOk_1_0 a0)],[]) := by kernel_rfl
theorem si_valOk_1:Sound Tryz.prog 154 msi_valOk_1 Fi_valOk_1 := by
 refine fn_gen goodi_valOk_1 (by kernel_rfl) .std (fn := Tryz.f154) (c := (Tryz.f154.body.getD .skip)) (o := Oi_valOk_1_0) (k := 0) (by kernel_rfl) (by kernel_rfl) (by kernel_rfl) (by kernel_rfl) (by decide) ki_valOk_1_0 ?_
 intro ys r outs h
 unfold Fi_valOk_1 at h
 split at h
 ·exact (vi_valOk_1 _).trans h
 ·cases h
noncomputable def Eslices_IndexFunc_int_int__i_valOk_1:Env where
 tt := mkTI Tryz.prog
 fn := fun f => match f with
  | 154 => some (msi_valOk_1,FSem.wk msi_valOk_1 Fi_valOk_1)
  | _ => none
 bxf := fun _ => none
 mv := []
 keep := fun b => match b with
  | 0 => [(0,false),(1,false),(7,false),(8,false)]
  | _ => []
 keepB := fun b => match b with
  | 0 => []
  | _ => []
 keepX := fun b => match b with
  | 0 => [(4,false)]
  | _ => []
 keepXB := fun b => match b with
  | 0 => []
  | _ => []
theorem goodFslices_IndexFunc_int_int__i_valOk_1:∀ f ms F,Eslices_IndexFunc_int_int__i_valOk_1.fn f = some (ms,F) → Sound Tryz.prog f ms F := fun f ms F h => by
 unfold Eslices_IndexFunc_int_int__i_valOk_1 at h
 dsimp only at h
 split at h
 ·injection h with h; injection h with e1 e2; subst e1 e2; exact Sound.wk si_valOk_1
 ·cases h
theorem goodBslices_IndexFunc_int_int__i_valOk_1:∀ f ms F,Eslices_IndexFunc_int_int__i_valOk_1.bxf f = some (ms,F) → SoundB Tryz.prog f ms F := fun f ms F h => by cases h
theorem goodslices_IndexFunc_int_int__i_valOk_1:Good Tryz.prog Eslices_IndexFunc_int_int__i_valOk_1 := ⟨rfl,goodFslices_IndexFunc_int_int__i_valOk_1,goodBslices_IndexFunc_int_int__i_valOk_1⟩
noncomputable def Oslices_IndexFunc_int_int__i_valOk_1_0:Orc := fun _ _ => none
noncomputable def msslices_IndexFunc_int_int__i_valOk_1:List PM := [.rd,.rd]
noncomputable def lsslices_IndexFunc_int_int__i_valOk_1:List (Nat×Code) := loopsAll 0 (Tryz.f182.body.getD .skip)
noncomputable def cslices_IndexFunc_int_int__i_valOk_1_0:Code := (loopOf 0 (Tryz.f182.body.getD .skip)).getD .skip
theorem lseqslices_IndexFunc_int_int__i_valOk_1:lsslices_IndexFunc_int_int__i_valOk_1 = [(0,cslices_IndexFunc_int_int__i_valOk_1_0)] := by kernel_rfl
theorem mslices_IndexFunc_int_int__i_valOk_1_0:∀ p,p ∈ lsslices_IndexFunc_int_int__i_valOk_1 → p.1 = 0 → p.2 = cslices_IndexFunc_int_int__i_valOk_1_0 := by
 intro p hp
 rw [lseqslices_IndexFunc_int_int__i_valOk_1] at hp
 simp only [List.mem_cons,List.not_mem_nil,or_false] at hp
 subst hp; simp
theorem kslices_IndexFunc_int_int__i_valOk_1_0:OrcOk Eslices_IndexFunc_int_int__i_valOk_1 Oslices_IndexFunc_int_int__i_valOk_1_0 lsslices_IndexFunc_int_int__i_valOk_1 0 := orcOk_none
noncomputable def hslices_IndexFunc_int_int__i_valOk_1_0 (y0:List Int) (y1:Int) (y2:Int):List (Pl×LV) := [(.T 0,.t (.val false [.sl .any 3 (.int .i64) y0])),(.T 1,.t (.val false [.fn 154 []])),(.T 7,.t (.val false [.int .i64 y1])),(.T 8,.t (.val false [.int .i64 y2]))]
noncomputable def g_Sslices_IndexFunc_int_int__i_valOk_1_0 (y0:List Int) (y1:Int):(Int) → RT (Int) ((Int) ⊕ (Unit))
 | y2 => .br (true) (.br (decide (y2 < y1)) (.br (decide ((0:Int) ≤ y2 ∧ y2 < (↑(List.length y0):Int))) (.br (g_Ai_valOk_1 (at_ (Ty.int IntKind.i64) y0 (Int.toNat y2))) (.br (g_Vi_valOk_1_0 (at_ (Ty.int IntKind.i64) y0 (Int.toNat y2))) (.out (.inl y2)) (.br (true) (.go (IntKind.wrap IntKind.i64 (y2 + (1:Int)))) .bad)) .bad) .bad) (.out (.inr (())))) .bad
noncomputable def g_Lslices_IndexFunc_int_int__i_valOk_1_0 (y0:List Int) (y1:Int) (x:Int):Option ((Int) ⊕ (Unit)) := loopO (g_Sslices_IndexFunc_int_int__i_valOk_1_0 y0 y1) x
noncomputable def xslices_IndexFunc_int_int__i_valOk_1_0 (y0:List Int) (y1:Int):((Int) ⊕ (Unit)) → Ex×List (Pl×LV) := fun
 | .inl r => (.ret,[(.T 4,.t (.val false [.int .i64 r]))])
 | .inr (r) => (.exit 0,[(.T 4,.t (.val false [.undef]))])
noncomputable def Oslices_IndexFunc_int_int__i_valOk_1_1:Orc := fun b h => match b,h with
 | 0,[(.T 0,.t (.val false [.sl .any 3 (.int .i64) y0])),(.T 1,.t (.val false [.fn 154 []])),(.T 7,.t (.val false [.int .i64 y1])),(.T 8,.t (.val false [.int .i64 y2]))] => some (okO (g_Lslices_IndexFunc_int_int__i_valOk_1_0 y0 y1 y2),(.br (isL (valO (g_Lslices_IndexFunc_int_int__i_valOk_1_0 y0 y1 y2))) (.leaf .ret [(.T 4,.t (.val false [.int .i64 (getL (valO (g_Lslices_IndexFunc_int_int__i_valOk_1_0 y0 y1 y2)))]))]) (.leaf (.exit 0) [(.T 4,.t (.val false [.undef]))])))
 | b,h => Oslices_IndexFunc_int_int__i_valOk_1_0 b h
theorem bslices_IndexFunc_int_int__i_valOk_1_0 (y0:List Int) (y1:Int) (y2:Int):Tr.bt Eslices_IndexFunc_int_int__i_valOk_1 Oslices_IndexFunc_int_int__i_valOk_1_0 (exec Eslices_IndexFunc_int_int__i_valOk_1 0 cslices_IndexFunc_int_int__i_valOk_1_0 (St.of (hslices_IndexFunc_int_int__i_valOk_1_0 y0 y1 y2)) (leafRd Eslices_IndexFunc_int_int__i_valOk_1 0)) = (g_Sslices_IndexFunc_int_int__i_valOk_1_0 y0 y1 y2).bt (fun (y2:Int) => (hslices_IndexFunc_int_int__i_valOk_1_0 y0 y1 y2)) (xslices_IndexFunc_int_int__i_valOk_1_0 y0 y1) := by kernel_rfl
theorem kslices_IndexFunc_int_int__i_valOk_1_1:OrcOk Eslices_IndexFunc_int_int__i_valOk_1 Oslices_IndexFunc_int_int__i_valOk_1_1 lsslices_IndexFunc_int_int__i_valOk_1 1 := orc_add kslices_IndexFunc_int_int__i_valOk_1_0 (fun n p hp h ex h' ho => by
 obtain ⟨b,c⟩ := p
 obtain ⟨xt,h1,h2⟩ := ho
 have h1:Oslices_IndexFunc_int_int__i_valOk_1_1 b h = some (true,xt) := h1
 unfold Oslices_IndexFunc_int_int__i_valOk_1_1 at h1
 split at h1
 ·injection h1 with h1
  injection h1 with e1 e2
  subst e2
  have hc:c = cslices_IndexFunc_int_int__i_valOk_1_0 := mslices_IndexFunc_int_int__i_valOk_1_0 _ hp rfl
  subst hc
  right
  rename_i y0 y1 y2
  have key := LT_step kslices_IndexFunc_int_int__i_valOk_1_0 hp (fun q hq => loopsAll_in _ _ _ _ hp hq) (fun (y2:Int) => (hslices_IndexFunc_int_int__i_valOk_1_0 y0 y1 y2)) (xslices_IndexFunc_int_int__i_valOk_1_0 y0 y1) (g_Sslices_IndexFunc_int_int__i_valOk_1_0 y0 y1) (fun x => by first | exact bslices_IndexFunc_int_int__i_valOk_1_0 y0 y1 x) n (x := y2) (okO_some e1)
  have hx:∀ r,XT.sel (.br (isL r) (.leaf .ret [(.T 4,.t (.val false [.int .i64 (getL r)]))]) (.leaf (.exit 0) [(.T 4,.t (.val false [.undef]))])) = xslices_IndexFunc_int_int__i_valOk_1_0 y0 y1 r := fun r => by first | rfl | (rcases r with r | r <;> rfl) | (rcases r with r | r | r <;> rfl) | (rcases r with r | r | r | r <;> rfl)
  have h3 := (hx (valO (g_Lslices_IndexFunc_int_int__i_valOk_1_0 y0 y1 y2))).symm.trans h2
  have e3 := congrArg Prod.fst h3
  have e4 := congrArg Prod.snd h3
  simp only at e3 e4
  rw [← e3,← e4]
  exact key
 ·exact .inl ⟨xt,h1,h2⟩)
noncomputable def g_Aslices_IndexFunc_int_int__i_valOk_1 (a0:List Int):Bool := okO (g_Lslices_IndexFunc_int_int__i_valOk_1_0 a0 (↑(List.length a0):Int) (0:Int))
noncomputable def g_Vslices_IndexFunc_int_int__i_valOk_1_0 (a0:List Int):Int := bif isL (valO (g_Lslices_IndexFunc_int_int__i_valOk_1_0 a0 (↑(List.length a0):Int) (0:Int))) then getL (valO (g_Lslices_IndexFunc_int_int__i_valOk_1_0 a0 (↑(List.length a0):Int) (0:Int))) else (-1:Int)
noncomputable def Fslices_IndexFunc_int_int__i_valOk_1:FSem := fun ys => match ys with
 | [.val false [.sl .any 3 (.int .i64) a0],.val false [.fn 154 []]] => some ((g_Aslices_IndexFunc_int_int__i_valOk_1 a0),.val false [.int .i64 (g_Vslices_IndexFunc_int_int__i_valOk_1_0 a0)],[])
 | _ => none
theorem vslices_IndexFunc_int_int__i_valOk_1 (a0:List Int):collapseH .std Eslices_IndexFunc_int_int__i_valOk_1 Oslices_IndexFunc_int_int__i_valOk_1_1 (execFn Eslices_IndexFunc_int_int__i_valOk_1 Tryz.f182 msslices_IndexFunc_int_int__i_valOk_1 [.val false [.sl .any 3 (.int .i64) a0],.val false [.fn 154 []]]) = some ((g_Aslices_IndexFunc_int_int__i_valOk_1 a0),.val false [.int .i64 (g_Vslices_IndexFunc_int_int__i_valOk_1_0 a0)],[]) := by kernel_rfl
theorem sslices_IndexFunc_int_int__i_valOk_1:Sound Tryz.prog 182 msslices_IndexFunc_int_int__i_valOk_1 Fslices_IndexFunc_int_int__i_valOk_1 := by
 refine fn_gen goodslices_IndexFunc_int_int__i_valOk_1 (by kernel_rfl) .std (fn := Tryz.f182) (c := (Tryz.f182.body.getD .skip)) (o := Oslices_IndexFunc_int_int__i_valOk_1_1) (k := 1) (by kernel_rfl) (by kernel_rfl) (by kernel_rfl) (by kernel_rfl) (by decide) kslices_IndexFunc_int_int__i_valOk_1_1 ?_
 intro ys r outs h
 unfold Fslices_IndexFunc_int_int__i_valOk_1 at h
 split at h
 ·exact (vslices_IndexFunc_int_int__i_valOk_1 _).trans h
 ·cases h
noncomputable def Eslices_ContainsFunc_int_int__i_valOk_1:Env where
 tt := mkTI Tryz.prog
 fn := fun f => match f with
  | 154 => some (msi_valOk_1,FSem.wk msi_valOk_1 Fi_valOk_1)
  | 182 => some (msslices_IndexFunc_int_int__i_valOk_1,FSem.wk msslices_IndexFunc_int_int__i_valOk_1 Fslices_IndexFunc_int_int__i_valOk_1)
  | _ => none
 bxf := fun _ => none
 mv := []
 keep := fun _ => []
 keepB := fun _ => []
 keepX := fun _ => []
 keepXB := fun _ => []
theorem goodFslices_ContainsFunc_int_int__i_valOk_1:∀ f ms F,Eslices_ContainsFunc_int_int__i_valOk_1.fn f = some (ms,F) → Sound Tryz.prog f ms F := fun f ms F h => by
 unfold Eslices_ContainsFunc_int_int__i_valOk_1 at h
 dsimp only at h
 split at h
 ·injection h with h; injection h with e1 e2; subst e1 e2; exact Sound.wk si_valOk_1
 ·injection h with h; injection h with e1 e2; subst e1 e2; exact Sound.wk sslices_IndexFunc_int_int__i_valOk_1
 ·cases h
theorem goodBslices_ContainsFunc_int_int__i_valOk_1:∀ f ms F,Eslices_ContainsFunc_int_int__i_valOk_1.bxf f = some (ms,F) → SoundB Tryz.prog f ms F := fun f ms F h => by cases h
theorem goodslices_ContainsFunc_int_int__i_valOk_1:Good Tryz.prog Eslices_ContainsFunc_int_int__i_valOk_1 := ⟨rfl,goodFslices_ContainsFunc_int_int__i_valOk_1,goodBslices_ContainsFunc_int_int__i_valOk_1⟩
noncomputable def Oslices_ContainsFunc_int_int__i_valOk_1_0:Orc := fun _ _ => none
noncomputable def msslices_ContainsFunc_int_int__i_valOk_1:List PM := [.rd,.rd]
noncomputable def lsslices_ContainsFunc_int_int__i_valOk_1:List (Nat×Code) := loopsAll 0 (Tryz.f153.body.getD .skip)
theorem kslices_ContainsFunc_int_int__i_valOk_1_0:OrcOk Eslices_ContainsFunc_int_int__i_valOk_1 Oslices_ContainsFunc_int_int__i_valOk_1_0 lsslices_ContainsFunc_int_int__i_valOk_1 0 := orcOk_none
noncomputable def g_Aslices_ContainsFunc_int_int__i_valOk_1 (a0:List Int):Bool := g_Aslices_IndexFunc_int_int__i_valOk_1 a0&&true
noncomputable def g_Vslices_ContainsFunc_int_int__i_valOk_1_0 (a0:List Int):Bool := decide (g_Vslices_IndexFunc_int_int__i_valOk_1_0 a0 ≥ (0:Int))
noncomputable def Fslices_ContainsFunc_int_int__i_valOk_1:FSem := fun ys => match ys with
 | [.val false [.sl .any 3 (.int .i64) a0],.val false [.fn 154 []]] => some ((g_Aslices_ContainsFunc_int_int__i_valOk_1 a0),.val false [.bool (g_Vslices_ContainsFunc_int_int__i_valOk_1_0 a0)],[])
 | _ => none
theorem vslices_ContainsFunc_int_int__i_valOk_1 (a0:List Int):collapseH .std Eslices_ContainsFunc_int_int__i_valOk_1 Oslices_ContainsFunc_int_int__i_valOk_1_0 (execFn Eslices_ContainsFunc_int_int__i_valOk_1 Tryz.f153 msslices_ContainsFunc_int_int__i_valOk_1 [.val false [.sl .any 3 (.int .i64) a0],.val false [.fn 154 []]]) = some ((g_Aslices_ContainsFunc_int_int__i_valOk_1 a0),.val false [.bool (g_Vslices_ContainsFunc_int_int__i_valOk_1_0 a0)],[]) := by kernel_rfl
theorem sslices_ContainsFunc_int_int__i_valOk_1:Sound Tryz.prog 153 msslices_ContainsFunc_int_int__i_valOk_1 Fslices_ContainsFunc_int_int__i_valOk_1 := by
 refine fn_gen goodslices_ContainsFunc_int_int__i_valOk_1 (by kernel_rfl) .std (fn := Tryz.f153) (c := (Tryz.f153.body.getD .skip)) (o := Oslices_ContainsFunc_int_int__i_valOk_1_0) (k := 0) (by kernel_rfl) (by kernel_rfl) (by kernel_rfl) (by kernel_rfl) (by decide) kslices_ContainsFunc_int_int__i_valOk_1_0 ?_
 intro ys r outs h
 unfold Fslices_ContainsFunc_int_int__i_valOk_1 at h
 split at h
 ·exact (vslices_ContainsFunc_int_int__i_valOk_1 _).trans h
 ·cases h
noncomputable def Ei_valOk:Env where
 tt := mkTI Tryz.prog
 fn := fun f => match f with
  | 64 => some (msi_in,FSem.wk msi_in Fi_in)
  | 153 => some (msslices_ContainsFunc_int_int__i_valOk_1,FSem.wk msslices_ContainsFunc_int_int__i_valOk_1 Fslices_ContainsFunc_int_int__i_valOk_1)
  | _ => none
 bxf := fun _ => none
 mv := []
 keep := fun _ => []
 keepB := fun _ => []
 keepX := fun _ => []
 keepXB := fun _ => []
theorem goodFi_valOk:∀ f ms F,Ei_valOk.fn f = some (ms,F) → Sound Tryz.prog f ms F := fun f ms F h => by
 unfold Ei_valOk at h
 dsimp only at h
 split at h
 ·injection h with h; injection h with e1 e2; subst e1 e2; exact Sound.wk si_in
 ·injection h with h; injection h with e1 e2; subst e1 e2; exact Sound.wk sslices_ContainsFunc_int_int__i_valOk_1
 ·cases h
theorem goodBi_valOk:∀ f ms F,Ei_valOk.bxf f = some (ms,F) → SoundB Tryz.prog f ms F := fun f ms F h => by cases h
theorem goodi_valOk:Good Tryz.prog Ei_valOk := ⟨rfl,goodFi_valOk,goodBi_valOk⟩
noncomputable def Oi_valOk_0:Orc := fun _ _ => none
noncomputable def msi_valOk:List PM := [.rd]
noncomputable def lsi_valOk:List (Nat×Code) := loopsAll 0 (Tryz.f110.body.getD .skip)
theorem ki_valOk_0:OrcOk Ei_valOk Oi_valOk_0 lsi_valOk 0 := orcOk_none
noncomputable def g_Ai_valOk (a0:List Int):Bool := g_Ai_in (↑(List.length a0):Int) (1:Int) (3:Int)&&(!g_Vi_in_0 (↑(List.length a0):Int) (1:Int) (3:Int) || g_Aslices_ContainsFunc_int_int__i_valOk_1 a0)
noncomputable def g_Vi_valOk_0 (a0:List Int):Bool := bif g_Vi_in_0 (↑(List.length a0):Int) (1:Int) (3:Int) then !g_Vslices_ContainsFunc_int_int__i_valOk_1_0 a0 else false
noncomputable def Fi_valOk:FSem := fun ys => match ys with
 | [.val false [.sl .any 3 (.int .i64) a0]] => some ((g_Ai_valOk a0),.val false [.bool (g_Vi_valOk_0 a0)],[])
 | _ => none
theorem vi_valOk (a0:List Int):collapseH .std Ei_valOk Oi_valOk_0 (execFn Ei_valOk Tryz.f110 msi_valOk [.val false [.sl .any 3 (.int .i64) a0]]) = some ((g_Ai_valOk a0),.val false [.bool (g_Vi_valOk_0 a0)],[]) := by kernel_rfl
theorem si_valOk:Sound Tryz.prog 110 msi_valOk Fi_valOk := by
 refine fn_gen goodi_valOk (by kernel_rfl) .std (fn := Tryz.f110) (c := (Tryz.f110.body.getD .skip)) (o := Oi_valOk_0) (k := 0) (by kernel_rfl) (by kernel_rfl) (by kernel_rfl) (by kernel_rfl) (by decide) ki_valOk_0 ?_
 intro ys r outs h
 unfold Fi_valOk at h
 split at h
 ·exact (vi_valOk _).trans h
 ·cases h
noncomputable def Ei_StoOk:Env where
 tt := mkTI Tryz.prog
 fn := fun f => match f with
  | 109 => some (msi_keyOk,FSem.wk msi_keyOk Fi_keyOk)
  | 110 => some (msi_valOk,FSem.wk msi_valOk Fi_valOk)
  | _ => none
 bxf := fun _ => none
 mv := []
 keep := fun b => match b with
  | 0 => [(1,false),(6,false),(7,false),(8,false)]
  | _ => []
 keepB := fun b => match b with
  | 0 => [(1,false)]
  | _ => []
 keepX := fun b => match b with
  | 0 => [(1,false),(2,false)]
  | _ => []
 keepXB := fun b => match b with
  | 0 => [(1,false)]
  | _ => []
theorem goodFi_StoOk:∀ f ms F,Ei_StoOk.fn f = some (ms,F) → Sound Tryz.prog f ms F := fun f ms F h => by
 unfold Ei_StoOk at h
 dsimp only at h
 split at h
 ·injection h with h; injection h with e1 e2; subst e1 e2; exact Sound.wk si_keyOk
 ·injection h with h; injection h with e1 e2; subst e1 e2; exact Sound.wk si_valOk
 ·cases h
theorem goodBi_StoOk:∀ f ms F,Ei_StoOk.bxf f = some (ms,F) → SoundB Tryz.prog f ms F := fun f ms F h => by cases h
theorem goodi_StoOk:Good Tryz.prog Ei_StoOk := ⟨rfl,goodFi_StoOk,goodBi_StoOk⟩
noncomputable def Oi_StoOk_0:Orc := fun _ _ => none
noncomputable def msi_StoOk:List PM := [.rd]
noncomputable def lsi_StoOk:List (Nat×Code) := loopsAll 0 (Tryz.f63.body.getD .skip)
noncomputable def ci_StoOk_0:Code := (loopOf 0 (Tryz.f63.body.getD .skip)).getD .skip
theorem lseqi_StoOk:lsi_StoOk = [(0,ci_StoOk_0)] := by kernel_rfl
theorem mi_StoOk_0:∀ p,p ∈ lsi_StoOk → p.1 = 0 → p.2 = ci_StoOk_0 := by
 intro p hp
 rw [lseqi_StoOk] at hp
 simp only [List.mem_cons,List.not_mem_nil,or_false] at hp
 subst hp; simp
theorem ki_StoOk_0:OrcOk Ei_StoOk Oi_StoOk_0 lsi_StoOk 0 := orcOk_none
noncomputable def hi_StoOk_0 (y0:List (ByteArray×(List Int))) (y1:Int) (y2:Int) (y3:List (ByteArray×(List Int))):List (Pl×LV) := [(.T 1,.t (.val false [.ptr 1 0 0])),(.T 6,.t (.val false [.sl .any 49 (.pair .str (.sl 3 (.int .i64))) y0])),(.T 7,.t (.val false [.int .i64 y1])),(.T 8,.t (.val false [.int .i64 y2])),(.B 1,.b 0 false [.sl .any 49 (.pair .str (.sl 3 (.int .i64))) y3])]
noncomputable def g_Si_StoOk_0 (y0:List (ByteArray×(List Int))) (y1:Int) (y3:List (ByteArray×(List Int))):(Int) → RT (Int) ((Bool) ⊕ (Unit))
 | y2 => .br (true) (.br (decide (y2 < y1)) (.br (decide ((0:Int) ≤ y2 ∧ y2 < (↑(List.length y0):Int))) (.br (g_Ai_keyOk (at_ (Ty.pair Ty.str (Ty.sl (nat_lit 3) (Ty.int IntKind.i64))) y0 (Int.toNat y2)).1) (.br (!g_Vi_keyOk_0 (at_ (Ty.pair Ty.str (Ty.sl (nat_lit 3) (Ty.int IntKind.i64))) y0 (Int.toNat y2)).1) (.out (.inl false)) (.br (g_Ai_valOk (at_ (Ty.pair Ty.str (Ty.sl (nat_lit 3) (Ty.int IntKind.i64))) y0 (Int.toNat y2)).2) (.br (!g_Vi_valOk_0 (at_ (Ty.pair Ty.str (Ty.sl (nat_lit 3) (Ty.int IntKind.i64))) y0 (Int.toNat y2)).2) (.out (.inl false)) (.br (true) (.br (decide (y2 > (0:Int))) (.br (true) (.br (decide ((0:Int) ≤ IntKind.wrap IntKind.i64 (y2 - (1:Int)) ∧ IntKind.wrap IntKind.i64 (y2 - (1:Int)) < (↑(List.length y3):Int))) (.br (true) (.br (Op.bytesLess (ByteArray.toList (at_ (Ty.pair Ty.str (Ty.sl (nat_lit 3) (Ty.int IntKind.i64))) y0 (Int.toNat y2)).1) (ByteArray.toList (at_ (Ty.pair Ty.str (Ty.sl (nat_lit 3) (Ty.int IntKind.i64))) y3 (Int.toNat (IntKind.wrap IntKind.i64 (y2 - (1:Int))))).1) || ByteArray.toList (at_ (Ty.pair Ty.str (Ty.sl (nat_lit 3) (Ty.int IntKind.i64))) y0 (Int.toNat y2)).1 == ByteArray.toList (at_ (Ty.pair Ty.str (Ty.sl (nat_lit 3) (Ty.int IntKind.i64))) y3 (Int.toNat (IntKind.wrap IntKind.i64 (y2 - (1:Int))))).1) (.out (.inl false)) (.br (true) (.go (IntKind.wrap IntKind.i64 (y2 + (1:Int)))) .bad)) .bad) .bad) .bad) (.br (true) (.go (IntKind.wrap IntKind.i64 (y2 + (1:Int)))) .bad)) .bad)) .bad)) .bad) .bad) (.out (.inr (())))) .bad
noncomputable def g_Li_StoOk_0 (y0:List (ByteArray×(List Int))) (y1:Int) (y3:List (ByteArray×(List Int))) (x:Int):Option ((Bool) ⊕ (Unit)) := loopO (g_Si_StoOk_0 y0 y1 y3) x
noncomputable def xi_StoOk_0 (y0:List (ByteArray×(List Int))) (y1:Int) (y3:List (ByteArray×(List Int))):((Bool) ⊕ (Unit)) → Ex×List (Pl×LV) := fun
 | .inl r => (.ret,[(.T 1,.t (.val false [.ptr 1 0 0])),(.T 2,.t (.val false [.bool r])),(.B 1,.b 0 false [.sl .any 49 (.pair .str (.sl 3 (.int .i64))) y3])])
 | .inr (r) => (.exit 0,[(.T 1,.t (.val false [.ptr 1 0 0])),(.T 2,.t (.val false [.undef])),(.B 1,.b 0 false [.sl .any 49 (.pair .str (.sl 3 (.int .i64))) y3])])
noncomputable def Oi_StoOk_1:Orc := fun b h => match b,h with
 | 0,[(.T 1,.t (.val false [.ptr 1 0 0])),(.T 6,.t (.val false [.sl .any 49 (.pair .str (.sl 3 (.int .i64))) y0])),(.T 7,.t (.val false [.int .i64 y1])),(.T 8,.t (.val false [.int .i64 y2])),(.B 1,.b 0 false [.sl .any 49 (.pair .str (.sl 3 (.int .i64))) y3])] => some (okO (g_Li_StoOk_0 y0 y1 y3 y2),(.br (isL (valO (g_Li_StoOk_0 y0 y1 y3 y2))) (.leaf .ret [(.T 1,.t (.val false [.ptr 1 0 0])),(.T 2,.t (.val false [.bool (getL (valO (g_Li_StoOk_0 y0 y1 y3 y2)))])),(.B 1,.b 0 false [.sl .any 49 (.pair .str (.sl 3 (.int .i64))) y3])]) (.leaf (.exit 0) [(.T 1,.t (.val false [.ptr 1 0 0])),(.T 2,.t (.val false [.undef])),(.B 1,.b 0 false [.sl .any 49 (.pair .str (.sl 3 (.int .i64))) y3])])))
 | b,h => Oi_StoOk_0 b h
theorem bi_StoOk_0 (y0:List (ByteArray×(List Int))) (y1:Int) (y2:Int) (y3:List (ByteArray×(List Int))):Tr.bt Ei_StoOk Oi_StoOk_0 (exec Ei_StoOk 0 ci_StoOk_0 (St.of (hi_StoOk_0 y0 y1 y2 y3)) (leafRd Ei_StoOk 0)) = (g_Si_StoOk_0 y0 y1 y3 y2).bt (fun (y2:Int) => (hi_StoOk_0 y0 y1 y2 y3)) (xi_StoOk_0 y0 y1 y3) := by kernel_rfl
theorem ki_StoOk_1:OrcOk Ei_StoOk Oi_StoOk_1 lsi_StoOk 1 := orc_add ki_StoOk_0 (fun n p hp h ex h' ho => by
 obtain ⟨b,c⟩ := p
 obtain ⟨xt,h1,h2⟩ := ho
 have h1:Oi_StoOk_1 b h = some (true,xt) := h1
 unfold Oi_StoOk_1 at h1
 split at h1
 ·injection h1 with h1
  injection h1 with e1 e2
  subst e2
  have hc:c = ci_StoOk_0 := mi_StoOk_0 _ hp rfl
  subst hc
  right
  rename_i y0 y1 y2 y3
  have key := LT_step ki_StoOk_0 hp (fun q hq => loopsAll_in _ _ _ _ hp hq) (fun (y2:Int) => (hi_StoOk_0 y0 y1 y2 y3)) (xi_StoOk_0 y0 y1 y3) (g_Si_StoOk_0 y0 y1 y3) (fun x => by first | exact bi_StoOk_0 y0 y1 x y3) n (x := y2) (okO_some e1)
  have hx:∀ r,XT.sel (.br (isL r) (.leaf .ret [(.T 1,.t (.val false [.ptr 1 0 0])),(.T 2,.t (.val false [.bool (getL r)])),(.B 1,.b 0 false [.sl .any 49 (.pair .str (.sl 3 (.int .i64))) y3])]) (.leaf (.exit 0) [(.T 1,.t (.val false [.ptr 1 0 0])),(.T 2,.t (.val false [.undef])),(.B 1,.b 0 false [.sl .any 49 (.pair .str (.sl 3 (.int .i64))) y3])])) = xi_StoOk_0 y0 y1 y3 r := fun r => by first | rfl | (rcases r with r | r <;> rfl) | (rcases r with r | r | r <;> rfl) | (rcases r with r | r | r | r <;> rfl)
  have h3 := (hx (valO (g_Li_StoOk_0 y0 y1 y3 y2))).symm.trans h2
  have e3 := congrArg Prod.fst h3
  have e4 := congrArg Prod.snd h3
  simp only at e3 e4
  rw [← e3,← e4]
  exact key
 ·exact .inl ⟨xt,h1,h2⟩)
noncomputable def g_Ai_StoOk (a0:List (ByteArray×(List Int))):Bool := okO (g_Li_StoOk_0 a0 (↑(List.length a0):Int) a0 (0:Int))&&(isL (valO (g_Li_StoOk_0 a0 (↑(List.length a0):Int) a0 (0:Int))) || true)
noncomputable def g_Vi_StoOk_0 (a0:List (ByteArray×(List Int))):Bool := bif isL (valO (g_Li_StoOk_0 a0 (↑(List.length a0):Int) a0 (0:Int))) then getL (valO (g_Li_StoOk_0 a0 (↑(List.length a0):Int) a0 (0:Int))) else decide ((↑(List.length a0):Int) ≤ (40:Int))
noncomputable def Fi_StoOk:FSem := fun ys => match ys with
 | [.val true [.sl .any 49 (.pair .str (.sl 3 (.int .i64))) a0]] => some ((g_Ai_StoOk a0),.val false [.bool (g_Vi_StoOk_0 a0)],[])
 | _ => none
theorem vi_StoOk (a0:List (ByteArray×(List Int))):collapseH .std Ei_StoOk Oi_StoOk_1 (execFn Ei_StoOk Tryz.f63 msi_StoOk [.val true [.sl .any 49 (.pair .str (.sl 3 (.int .i64))) a0]]) = some ((g_Ai_StoOk a0),.val false [.bool (g_Vi_StoOk_0 a0)],[]) := by kernel_rfl
theorem si_StoOk:Sound Tryz.prog 63 msi_StoOk Fi_StoOk := by
 refine fn_gen goodi_StoOk (by kernel_rfl) .std (fn := Tryz.f63) (c := (Tryz.f63.body.getD .skip)) (o := Oi_StoOk_1) (k := 1) (by kernel_rfl) (by kernel_rfl) (by kernel_rfl) (by kernel_rfl) (by decide) ki_StoOk_1 ?_
 intro ys r outs h
 unfold Fi_StoOk at h
 split at h
 ·exact (vi_StoOk _).trans h
 ·cases h
noncomputable def Ei_isService:Env where
 tt := mkTI Tryz.prog
 fn := fun f => match f with
  | 64 => some (msi_in,FSem.wk msi_in Fi_in)
  | _ => none
 bxf := fun _ => none
 mv := []
 keep := fun _ => []
 keepB := fun _ => []
 keepX := fun _ => []
 keepXB := fun _ => []
theorem goodFi_isService:∀ f ms F,Ei_isService.fn f = some (ms,F) → Sound Tryz.prog f ms F := fun f ms F h => by
 unfold Ei_isService at h
 dsimp only at h
 split at h
 ·injection h with h; injection h with e1 e2; subst e1 e2; exact Sound.wk si_in
 ·cases h
theorem goodBi_isService:∀ f ms F,Ei_isService.bxf f = some (ms,F) → SoundB Tryz.prog f ms F := fun f ms F h => by cases h
theorem goodi_isService:Good Tryz.prog Ei_isService := ⟨rfl,goodFi_isService,goodBi_isService⟩
noncomputable def Oi_isService_0:Orc := fun _ _ => none
noncomputable def msi_isService:List PM := [.own]
noncomputable def lsi_isService:List (Nat×Code) := loopsAll 0 (Tryz.f93.body.getD .skip)
theorem ki_isService_0:OrcOk Ei_isService Oi_isService_0 lsi_isService 0 := orcOk_none
noncomputable def g_Ai_isService (a0:Int):Bool := g_Ai_in a0 (1:Int) (3:Int)
noncomputable def g_Vi_isService_0 (a0:Int):Bool := g_Vi_in_0 a0 (1:Int) (3:Int)
noncomputable def Fi_isService:FSem := fun ys => match ys with
 | [.val false [.int .i64 a0]] => some ((g_Ai_isService a0),.val false [.bool (g_Vi_isService_0 a0)],[])
 | _ => none
theorem vi_isService (a0:Int):collapseH .std Ei_isService Oi_isService_0 (execFn Ei_isService Tryz.f93 msi_isService [.val false [.int .i64 a0]]) = some ((g_Ai_isService a0),.val false [.bool (g_Vi_isService_0 a0)],[]) := by kernel_rfl
theorem si_isService:Sound Tryz.prog 93 msi_isService Fi_isService := by
 refine fn_gen goodi_isService (by kernel_rfl) .std (fn := Tryz.f93) (c := (Tryz.f93.body.getD .skip)) (o := Oi_isService_0) (k := 0) (by kernel_rfl) (by kernel_rfl) (by kernel_rfl) (by kernel_rfl) (by decide) ki_isService_0 ?_
 intro ys r outs h
 unfold Fi_isService at h
 split at h
 ·exact (vi_isService _).trans h
 ·cases h
noncomputable def Ei_itemOk:Env where
 tt := mkTI Tryz.prog
 fn := fun f => match f with
  | 64 => some (msi_in,FSem.wk msi_in Fi_in)
  | _ => none
 bxf := fun _ => none
 mv := []
 keep := fun _ => []
 keepB := fun _ => []
 keepX := fun _ => []
 keepXB := fun _ => []
theorem goodFi_itemOk:∀ f ms F,Ei_itemOk.fn f = some (ms,F) → Sound Tryz.prog f ms F := fun f ms F h => by
 unfold Ei_itemOk at h
 dsimp only at h
 split at h
 ·injection h with h; injection h with e1 e2; subst e1 e2; exact Sound.wk si_in
 ·cases h
theorem goodBi_itemOk:∀ f ms F,Ei_itemOk.bxf f = some (ms,F) → SoundB Tryz.prog f ms F := fun f ms F h => by cases h
theorem goodi_itemOk:Good Tryz.prog Ei_itemOk := ⟨rfl,goodFi_itemOk,goodBi_itemOk⟩
noncomputable def Oi_itemOk_0:Orc := fun _ _ => none
noncomputable def msi_itemOk:List PM := [.own,.rd]
noncomputable def lsi_itemOk:List (Nat×Code) := loopsAll 0 (Tryz.f92.body.getD .skip)
theorem ki_itemOk_0:OrcOk Ei_itemOk Oi_itemOk_0 lsi_itemOk 0 := orcOk_none
noncomputable def g_Ai_itemOk (a0:Int) (a1:ByteArray) (a2:List Int):Bool := decide ((0:Int) ≤ (0:Int) ∧ (0:Int) < (↑(ByteArray.size a1):Int))&&(decide ((0:Int) ≤ (0:Int) ∧ (0:Int) < (↑(List.length a2):Int))&&(g_Ai_in (at_ (Ty.int IntKind.i64) a2 (nat_lit 0)) (0:Int) (9:Int)&&bif a0 == (1:Int) then !byteAt a1 (nat_lit 0) == (115:Int) || (!(↑(ByteArray.size a1):Int) == (2:Int) || true) else bif a0 == (2:Int) then bif byteAt a1 (nat_lit 0) == (99:Int) then !byteAt a1 (nat_lit 0) == (102:Int) || (!(↑(List.length a2):Int) == (3:Int) || decide ((0:Int) ≤ (1:Int) ∧ (1:Int) < (↑(List.length a2):Int))&&(g_Ai_in (at_ (Ty.int IntKind.i64) a2 (nat_lit 1)) (1:Int) (99:Int)&&(!g_Vi_in_0 (at_ (Ty.int IntKind.i64) a2 (nat_lit 1)) (1:Int) (99:Int) || decide ((0:Int) ≤ (2:Int) ∧ (2:Int) < (↑(List.length a2):Int))&&true))) else !byteAt a1 (nat_lit 0) == (102:Int) || (!(↑(List.length a2):Int) == (3:Int) || decide ((0:Int) ≤ (1:Int) ∧ (1:Int) < (↑(List.length a2):Int))&&(g_Ai_in (at_ (Ty.int IntKind.i64) a2 (nat_lit 1)) (1:Int) (99:Int)&&(!g_Vi_in_0 (at_ (Ty.int IntKind.i64) a2 (nat_lit 1)) (1:Int) (99:Int) || decide ((0:Int) ≤ (2:Int) ∧ (2:Int) < (↑(List.length a2):Int))&&true))) else !a0 == (3:Int) || (!byteAt a1 (nat_lit 0) == (97:Int) || true)))
noncomputable def g_Vi_itemOk_0 (a0:Int) (a1:ByteArray) (a2:List Int):Bool := bif a0 == (1:Int) then bif byteAt a1 (nat_lit 0) == (115:Int) then bif (↑(ByteArray.size a1):Int) == (2:Int) then bif (↑(List.length a2):Int) == (1:Int) then g_Vi_in_0 (at_ (Ty.int IntKind.i64) a2 (nat_lit 0)) (0:Int) (9:Int) else false else false else false else bif a0 == (2:Int) then bif byteAt a1 (nat_lit 0) == (99:Int) then bif byteAt a1 (nat_lit 0) == (102:Int) then bif (↑(List.length a2):Int) == (3:Int) then bif g_Vi_in_0 (at_ (Ty.int IntKind.i64) a2 (nat_lit 1)) (1:Int) (99:Int) then bif (↑(ByteArray.size a1):Int) == (2:Int) then bif g_Vi_in_0 (at_ (Ty.int IntKind.i64) a2 (nat_lit 0)) (0:Int) (9:Int) then bif (↑(List.length a2):Int) == (2:Int) then true else decide (at_ (Ty.int IntKind.i64) a2 (nat_lit 2) ≤ (1:Int)) else false else false else bif (↑(ByteArray.size a1):Int) == (2:Int) then bif g_Vi_in_0 (at_ (Ty.int IntKind.i64) a2 (nat_lit 0)) (0:Int) (9:Int) then bif (↑(List.length a2):Int) == (2:Int) then true else false else false else false else bif (↑(ByteArray.size a1):Int) == (2:Int) then bif g_Vi_in_0 (at_ (Ty.int IntKind.i64) a2 (nat_lit 0)) (0:Int) (9:Int) then bif (↑(List.length a2):Int) == (2:Int) then true else false else false else false else bif (↑(ByteArray.size a1):Int) == (2:Int) then bif g_Vi_in_0 (at_ (Ty.int IntKind.i64) a2 (nat_lit 0)) (0:Int) (9:Int) then bif (↑(List.length a2):Int) == (2:Int) then true else false else false else false else bif byteAt a1 (nat_lit 0) == (102:Int) then bif (↑(List.length a2):Int) == (3:Int) then bif g_Vi_in_0 (at_ (Ty.int IntKind.i64) a2 (nat_lit 1)) (1:Int) (99:Int) then bif (↑(ByteArray.size a1):Int) == (2:Int) then bif g_Vi_in_0 (at_ (Ty.int IntKind.i64) a2 (nat_lit 0)) (0:Int) (9:Int) then decide (at_ (Ty.int IntKind.i64) a2 (nat_lit 2) ≤ (1:Int)) else false else false else bif (↑(ByteArray.size a1):Int) == (2:Int) then bif g_Vi_in_0 (at_ (Ty.int IntKind.i64) a2 (nat_lit 0)) (0:Int) (9:Int) then false else false else false else bif (↑(ByteArray.size a1):Int) == (2:Int) then bif g_Vi_in_0 (at_ (Ty.int IntKind.i64) a2 (nat_lit 0)) (0:Int) (9:Int) then false else false else false else bif (↑(ByteArray.size a1):Int) == (2:Int) then bif g_Vi_in_0 (at_ (Ty.int IntKind.i64) a2 (nat_lit 0)) (0:Int) (9:Int) then false else false else false else bif a0 == (3:Int) then bif byteAt a1 (nat_lit 0) == (97:Int) then (↑(List.length a2):Int) == (1:Int) else false else false
noncomputable def Fi_itemOk:FSem := fun ys => match ys with
 | [.val false [.int .i64 a0],.val true [.str a1,.sl .any 3 (.int .i64) a2]] => some ((g_Ai_itemOk a0 a1 a2),.val false [.bool (g_Vi_itemOk_0 a0 a1 a2)],[])
 | _ => none
theorem vi_itemOk (a0:Int) (a1:ByteArray) (a2:List Int):collapseH .std Ei_itemOk Oi_itemOk_0 (execFn Ei_itemOk Tryz.f92 msi_itemOk [.val false [.int .i64 a0],.val true [.str a1,.sl .any 3 (.int .i64) a2]]) = some ((g_Ai_itemOk a0 a1 a2),.val false [.bool (g_Vi_itemOk_0 a0 a1 a2)],[]) := by kernel_rfl
theorem si_itemOk:Sound Tryz.prog 92 msi_itemOk Fi_itemOk := by
 refine fn_gen goodi_itemOk (by kernel_rfl) .std (fn := Tryz.f92) (c := (Tryz.f92.body.getD .skip)) (o := Oi_itemOk_0) (k := 0) (by kernel_rfl) (by kernel_rfl) (by kernel_rfl) (by kernel_rfl) (by decide) ki_itemOk_0 ?_
 intro ys r outs h
 unfold Fi_itemOk at h
 split at h
 ·exact (vi_itemOk _ _ _).trans h
 ·cases h
noncomputable def Ei_PlcOk_1:Env where
 tt := mkTI Tryz.prog
 fn := fun f => match f with
  | 92 => some (msi_itemOk,FSem.wk msi_itemOk Fi_itemOk)
  | _ => none
 bxf := fun _ => none
 mv := []
 keep := fun _ => []
 keepB := fun _ => []
 keepX := fun _ => []
 keepXB := fun _ => []
theorem goodFi_PlcOk_1:∀ f ms F,Ei_PlcOk_1.fn f = some (ms,F) → Sound Tryz.prog f ms F := fun f ms F h => by
 unfold Ei_PlcOk_1 at h
 dsimp only at h
 split at h
 ·injection h with h; injection h with e1 e2; subst e1 e2; exact Sound.wk si_itemOk
 ·cases h
theorem goodBi_PlcOk_1:∀ f ms F,Ei_PlcOk_1.bxf f = some (ms,F) → SoundB Tryz.prog f ms F := fun f ms F h => by cases h
theorem goodi_PlcOk_1:Good Tryz.prog Ei_PlcOk_1 := ⟨rfl,goodFi_PlcOk_1,goodBi_PlcOk_1⟩
noncomputable def Oi_PlcOk_1_0:Orc := fun _ _ => none
noncomputable def msi_PlcOk_1:List PM := [.rd,.rd]
noncomputable def lsi_PlcOk_1:List (Nat×Code) := loopsAll 0 (Tryz.f91.body.getD .skip)
theorem ki_PlcOk_1_0:OrcOk Ei_PlcOk_1 Oi_PlcOk_1_0 lsi_PlcOk_1 0 := orcOk_none
noncomputable def g_Ai_PlcOk_1 (a0:ByteArray) (a1:List Int) (c0:Int):Bool := g_Ai_itemOk c0 a0 a1
noncomputable def Fi_PlcOk_1:FSem := fun ys => match ys with
 | [.val true [.str a0,.sl .any 3 (.int .i64) a1],.val false [.sptr (.int .i64) c0 0]] => some ((g_Ai_PlcOk_1 a0 a1 c0),.val false [.bool (!g_Vi_itemOk_0 c0 a0 a1)],[])
 | _ => none
theorem vi_PlcOk_1 (a0:ByteArray) (a1:List Int) (c0:Int):collapseH .std Ei_PlcOk_1 Oi_PlcOk_1_0 (execFn Ei_PlcOk_1 Tryz.f91 msi_PlcOk_1 [.val true [.str a0,.sl .any 3 (.int .i64) a1],.val false [.sptr (.int .i64) c0 0]]) = some ((g_Ai_PlcOk_1 a0 a1 c0),.val false [.bool (!g_Vi_itemOk_0 c0 a0 a1)],[]) := by kernel_rfl
theorem si_PlcOk_1:Sound Tryz.prog 91 msi_PlcOk_1 Fi_PlcOk_1 := by
 refine fn_gen goodi_PlcOk_1 (by kernel_rfl) .std (fn := Tryz.f91) (c := (Tryz.f91.body.getD .skip)) (o := Oi_PlcOk_1_0) (k := 0) (by kernel_rfl) (by kernel_rfl) (by kernel_rfl) (by kernel_rfl) (by decide) ki_PlcOk_1_0 ?_
 intro ys r outs h
 unfold Fi_PlcOk_1 at h
 split at h
 ·exact (vi_PlcOk_1 _ _ _).trans h
 ·cases h
noncomputable def Eslices_IndexFunc_i_StoItem_i_StoItem__i_PlcOk_1:Env where
 tt := mkTI Tryz.prog
 fn := fun f => match f with
  | 91 => some (msi_PlcOk_1,FSem.wk msi_PlcOk_1 Fi_PlcOk_1)
  | _ => none
 bxf := fun _ => none
 mv := []
 keep := fun b => match b with
  | 0 => [(0,false),(1,false),(7,false),(8,false)]
  | _ => []
 keepB := fun b => match b with
  | 0 => []
  | _ => []
 keepX := fun b => match b with
  | 0 => [(4,false)]
  | _ => []
 keepXB := fun b => match b with
  | 0 => []
  | _ => []
theorem goodFslices_IndexFunc_i_StoItem_i_StoItem__i_PlcOk_1:∀ f ms F,Eslices_IndexFunc_i_StoItem_i_StoItem__i_PlcOk_1.fn f = some (ms,F) → Sound Tryz.prog f ms F := fun f ms F h => by
 unfold Eslices_IndexFunc_i_StoItem_i_StoItem__i_PlcOk_1 at h
 dsimp only at h
 split at h
 ·injection h with h; injection h with e1 e2; subst e1 e2; exact Sound.wk si_PlcOk_1
 ·cases h
theorem goodBslices_IndexFunc_i_StoItem_i_StoItem__i_PlcOk_1:∀ f ms F,Eslices_IndexFunc_i_StoItem_i_StoItem__i_PlcOk_1.bxf f = some (ms,F) → SoundB Tryz.prog f ms F := fun f ms F h => by cases h
theorem goodslices_IndexFunc_i_StoItem_i_StoItem__i_PlcOk_1:Good Tryz.prog Eslices_IndexFunc_i_StoItem_i_StoItem__i_PlcOk_1 := ⟨rfl,goodFslices_IndexFunc_i_StoItem_i_StoItem__i_PlcOk_1,goodBslices_IndexFunc_i_StoItem_i_StoItem__i_PlcOk_1⟩
noncomputable def Oslices_IndexFunc_i_StoItem_i_StoItem__i_PlcOk_1_0:Orc := fun _ _ => none
noncomputable def msslices_IndexFunc_i_StoItem_i_StoItem__i_PlcOk_1:List PM := [.rd,.rd]
noncomputable def lsslices_IndexFunc_i_StoItem_i_StoItem__i_PlcOk_1:List (Nat×Code) := loopsAll 0 (Tryz.f141.body.getD .skip)
noncomputable def cslices_IndexFunc_i_StoItem_i_StoItem__i_PlcOk_1_0:Code := (loopOf 0 (Tryz.f141.body.getD .skip)).getD .skip
theorem lseqslices_IndexFunc_i_StoItem_i_StoItem__i_PlcOk_1:lsslices_IndexFunc_i_StoItem_i_StoItem__i_PlcOk_1 = [(0,cslices_IndexFunc_i_StoItem_i_StoItem__i_PlcOk_1_0)] := by kernel_rfl
theorem mslices_IndexFunc_i_StoItem_i_StoItem__i_PlcOk_1_0:∀ p,p ∈ lsslices_IndexFunc_i_StoItem_i_StoItem__i_PlcOk_1 → p.1 = 0 → p.2 = cslices_IndexFunc_i_StoItem_i_StoItem__i_PlcOk_1_0 := by
 intro p hp
 rw [lseqslices_IndexFunc_i_StoItem_i_StoItem__i_PlcOk_1] at hp
 simp only [List.mem_cons,List.not_mem_nil,or_false] at hp
 subst hp; simp
theorem kslices_IndexFunc_i_StoItem_i_StoItem__i_PlcOk_1_0:OrcOk Eslices_IndexFunc_i_StoItem_i_StoItem__i_PlcOk_1 Oslices_IndexFunc_i_StoItem_i_StoItem__i_PlcOk_1_0 lsslices_IndexFunc_i_StoItem_i_StoItem__i_PlcOk_1 0 := orcOk_none
noncomputable def hslices_IndexFunc_i_StoItem_i_StoItem__i_PlcOk_1_0 (y0:List (ByteArray×(List Int))) (y1:Int) (y2:Int) (y3:Int):List (Pl×LV) := [(.T 0,.t (.val false [.sl .any 49 (.pair .str (.sl 3 (.int .i64))) y0])),(.T 1,.t (.val false [.fn 91 [.sptr (.int .i64) y1 0]])),(.T 7,.t (.val false [.int .i64 y2])),(.T 8,.t (.val false [.int .i64 y3]))]
noncomputable def g_Sslices_IndexFunc_i_StoItem_i_StoItem__i_PlcOk_1_0 (y0:List (ByteArray×(List Int))) (y1:Int) (y2:Int):(Int) → RT (Int) ((Int) ⊕ (Unit))
 | y3 => .br (true) (.br (decide (y3 < y2)) (.br (decide ((0:Int) ≤ y3 ∧ y3 < (↑(List.length y0):Int))) (.br (g_Ai_PlcOk_1 (at_ (Ty.pair Ty.str (Ty.sl (nat_lit 3) (Ty.int IntKind.i64))) y0 (Int.toNat y3)).1 (at_ (Ty.pair Ty.str (Ty.sl (nat_lit 3) (Ty.int IntKind.i64))) y0 (Int.toNat y3)).2 y1) (.br (!g_Vi_itemOk_0 y1 (at_ (Ty.pair Ty.str (Ty.sl (nat_lit 3) (Ty.int IntKind.i64))) y0 (Int.toNat y3)).1 (at_ (Ty.pair Ty.str (Ty.sl (nat_lit 3) (Ty.int IntKind.i64))) y0 (Int.toNat y3)).2) (.out (.inl y3)) (.br (true) (.go (IntKind.wrap IntKind.i64 (y3 + (1:Int)))) .bad)) .bad) .bad) (.out (.inr (())))) .bad
noncomputable def g_Lslices_IndexFunc_i_StoItem_i_StoItem__i_PlcOk_1_0 (y0:List (ByteArray×(List Int))) (y1:Int) (y2:Int) (x:Int):Option ((Int) ⊕ (Unit)) := loopO (g_Sslices_IndexFunc_i_StoItem_i_StoItem__i_PlcOk_1_0 y0 y1 y2) x
noncomputable def xslices_IndexFunc_i_StoItem_i_StoItem__i_PlcOk_1_0 (y0:List (ByteArray×(List Int))) (y1:Int) (y2:Int):((Int) ⊕ (Unit)) → Ex×List (Pl×LV) := fun
 | .inl r => (.ret,[(.T 4,.t (.val false [.int .i64 r]))])
 | .inr (r) => (.exit 0,[(.T 4,.t (.val false [.undef]))])
noncomputable def Oslices_IndexFunc_i_StoItem_i_StoItem__i_PlcOk_1_1:Orc := fun b h => match b,h with
 | 0,[(.T 0,.t (.val false [.sl .any 49 (.pair .str (.sl 3 (.int .i64))) y0])),(.T 1,.t (.val false [.fn 91 [.sptr (.int .i64) y1 0]])),(.T 7,.t (.val false [.int .i64 y2])),(.T 8,.t (.val false [.int .i64 y3]))] => some (okO (g_Lslices_IndexFunc_i_StoItem_i_StoItem__i_PlcOk_1_0 y0 y1 y2 y3),(.br (isL (valO (g_Lslices_IndexFunc_i_StoItem_i_StoItem__i_PlcOk_1_0 y0 y1 y2 y3))) (.leaf .ret [(.T 4,.t (.val false [.int .i64 (getL (valO (g_Lslices_IndexFunc_i_StoItem_i_StoItem__i_PlcOk_1_0 y0 y1 y2 y3)))]))]) (.leaf (.exit 0) [(.T 4,.t (.val false [.undef]))])))
 | b,h => Oslices_IndexFunc_i_StoItem_i_StoItem__i_PlcOk_1_0 b h
theorem bslices_IndexFunc_i_StoItem_i_StoItem__i_PlcOk_1_0 (y0:List (ByteArray×(List Int))) (y1:Int) (y2:Int) (y3:Int):Tr.bt Eslices_IndexFunc_i_StoItem_i_StoItem__i_PlcOk_1 Oslices_IndexFunc_i_StoItem_i_StoItem__i_PlcOk_1_0 (exec Eslices_IndexFunc_i_StoItem_i_StoItem__i_PlcOk_1 0 cslices_IndexFunc_i_StoItem_i_StoItem__i_PlcOk_1_0 (St.of (hslices_IndexFunc_i_StoItem_i_StoItem__i_PlcOk_1_0 y0 y1 y2 y3)) (leafRd Eslices_IndexFunc_i_StoItem_i_StoItem__i_PlcOk_1 0)) = (g_Sslices_IndexFunc_i_StoItem_i_StoItem__i_PlcOk_1_0 y0 y1 y2 y3).bt (fun (y3:Int) => (hslices_IndexFunc_i_StoItem_i_StoItem__i_PlcOk_1_0 y0 y1 y2 y3)) (xslices_IndexFunc_i_StoItem_i_StoItem__i_PlcOk_1_0 y0 y1 y2) := by kernel_rfl
theorem kslices_IndexFunc_i_StoItem_i_StoItem__i_PlcOk_1_1:OrcOk Eslices_IndexFunc_i_StoItem_i_StoItem__i_PlcOk_1 Oslices_IndexFunc_i_StoItem_i_StoItem__i_PlcOk_1_1 lsslices_IndexFunc_i_StoItem_i_StoItem__i_PlcOk_1 1 := orc_add kslices_IndexFunc_i_StoItem_i_StoItem__i_PlcOk_1_0 (fun n p hp h ex h' ho => by
 obtain ⟨b,c⟩ := p
 obtain ⟨xt,h1,h2⟩ := ho
 have h1:Oslices_IndexFunc_i_StoItem_i_StoItem__i_PlcOk_1_1 b h = some (true,xt) := h1
 unfold Oslices_IndexFunc_i_StoItem_i_StoItem__i_PlcOk_1_1 at h1
 split at h1
 ·injection h1 with h1
  injection h1 with e1 e2
  subst e2
  have hc:c = cslices_IndexFunc_i_StoItem_i_StoItem__i_PlcOk_1_0 := mslices_IndexFunc_i_StoItem_i_StoItem__i_PlcOk_1_0 _ hp rfl
  subst hc
  right
  rename_i y0 y1 y2 y3
  have key := LT_step kslices_IndexFunc_i_StoItem_i_StoItem__i_PlcOk_1_0 hp (fun q hq => loopsAll_in _ _ _ _ hp hq) (fun (y3:Int) => (hslices_IndexFunc_i_StoItem_i_StoItem__i_PlcOk_1_0 y0 y1 y2 y3)) (xslices_IndexFunc_i_StoItem_i_StoItem__i_PlcOk_1_0 y0 y1 y2) (g_Sslices_IndexFunc_i_StoItem_i_StoItem__i_PlcOk_1_0 y0 y1 y2) (fun x => by first | exact bslices_IndexFunc_i_StoItem_i_StoItem__i_PlcOk_1_0 y0 y1 y2 x) n (x := y3) (okO_some e1)
  have hx:∀ r,XT.sel (.br (isL r) (.leaf .ret [(.T 4,.t (.val false [.int .i64 (getL r)]))]) (.leaf (.exit 0) [(.T 4,.t (.val false [.undef]))])) = xslices_IndexFunc_i_StoItem_i_StoItem__i_PlcOk_1_0 y0 y1 y2 r := fun r => by first | rfl | (rcases r with r | r <;> rfl) | (rcases r with r | r | r <;> rfl) | (rcases r with r | r | r | r <;> rfl)
  have h3 := (hx (valO (g_Lslices_IndexFunc_i_StoItem_i_StoItem__i_PlcOk_1_0 y0 y1 y2 y3))).symm.trans h2
  have e3 := congrArg Prod.fst h3
  have e4 := congrArg Prod.snd h3
  simp only at e3 e4
  rw [← e3,← e4]
  exact key
 ·exact .inl ⟨xt,h1,h2⟩)
noncomputable def g_Aslices_IndexFunc_i_StoItem_i_StoItem__i_PlcOk_1 (a0:List (ByteArray×(List Int))) (c0:Int):Bool := okO (g_Lslices_IndexFunc_i_StoItem_i_StoItem__i_PlcOk_1_0 a0 c0 (↑(List.length a0):Int) (0:Int))
noncomputable def g_Vslices_IndexFunc_i_StoItem_i_StoItem__i_PlcOk_1_0 (a0:List (ByteArray×(List Int))) (c0:Int):Int := bif isL (valO (g_Lslices_IndexFunc_i_StoItem_i_StoItem__i_PlcOk_1_0 a0 c0 (↑(List.length a0):Int) (0:Int))) then getL (valO (g_Lslices_IndexFunc_i_StoItem_i_StoItem__i_PlcOk_1_0 a0 c0 (↑(List.length a0):Int) (0:Int))) else (-1:Int)
noncomputable def Fslices_IndexFunc_i_StoItem_i_StoItem__i_PlcOk_1:FSem := fun ys => match ys with
 | [.val false [.sl .any 49 (.pair .str (.sl 3 (.int .i64))) a0],.val false [.fn 91 [.sptr (.int .i64) c0 0]]] => some ((g_Aslices_IndexFunc_i_StoItem_i_StoItem__i_PlcOk_1 a0 c0),.val false [.int .i64 (g_Vslices_IndexFunc_i_StoItem_i_StoItem__i_PlcOk_1_0 a0 c0)],[])
 | _ => none
theorem vslices_IndexFunc_i_StoItem_i_StoItem__i_PlcOk_1 (a0:List (ByteArray×(List Int))) (c0:Int):collapseH .std Eslices_IndexFunc_i_StoItem_i_StoItem__i_PlcOk_1 Oslices_IndexFunc_i_StoItem_i_StoItem__i_PlcOk_1_1 (execFn Eslices_IndexFunc_i_StoItem_i_StoItem__i_PlcOk_1 Tryz.f141 msslices_IndexFunc_i_StoItem_i_StoItem__i_PlcOk_1 [.val false [.sl .any 49 (.pair .str (.sl 3 (.int .i64))) a0],.val false [.fn 91 [.sptr (.int .i64) c0 0]]]) = some ((g_Aslices_IndexFunc_i_StoItem_i_StoItem__i_PlcOk_1 a0 c0),.val false [.int .i64 (g_Vslices_IndexFunc_i_StoItem_i_StoItem__i_PlcOk_1_0 a0 c0)],[]) := by kernel_rfl
theorem sslices_IndexFunc_i_StoItem_i_StoItem__i_PlcOk_1:Sound Tryz.prog 141 msslices_IndexFunc_i_StoItem_i_StoItem__i_PlcOk_1 Fslices_IndexFunc_i_StoItem_i_StoItem__i_PlcOk_1 := by
 refine fn_gen goodslices_IndexFunc_i_StoItem_i_StoItem__i_PlcOk_1 (by kernel_rfl) .std (fn := Tryz.f141) (c := (Tryz.f141.body.getD .skip)) (o := Oslices_IndexFunc_i_StoItem_i_StoItem__i_PlcOk_1_1) (k := 1) (by kernel_rfl) (by kernel_rfl) (by kernel_rfl) (by kernel_rfl) (by decide) kslices_IndexFunc_i_StoItem_i_StoItem__i_PlcOk_1_1 ?_
 intro ys r outs h
 unfold Fslices_IndexFunc_i_StoItem_i_StoItem__i_PlcOk_1 at h
 split at h
 ·exact (vslices_IndexFunc_i_StoItem_i_StoItem__i_PlcOk_1 _ _).trans h
 ·cases h
noncomputable def Eslices_ContainsFunc_i_StoItem_i_StoItem__i_PlcOk_1:Env where
 tt := mkTI Tryz.prog
 fn := fun f => match f with
  | 91 => some (msi_PlcOk_1,FSem.wk msi_PlcOk_1 Fi_PlcOk_1)
  | 141 => some (msslices_IndexFunc_i_StoItem_i_StoItem__i_PlcOk_1,FSem.wk msslices_IndexFunc_i_StoItem_i_StoItem__i_PlcOk_1 Fslices_IndexFunc_i_StoItem_i_StoItem__i_PlcOk_1)
  | _ => none
 bxf := fun _ => none
 mv := []
 keep := fun _ => []
 keepB := fun _ => []
 keepX := fun _ => []
 keepXB := fun _ => []
theorem goodFslices_ContainsFunc_i_StoItem_i_StoItem__i_PlcOk_1:∀ f ms F,Eslices_ContainsFunc_i_StoItem_i_StoItem__i_PlcOk_1.fn f = some (ms,F) → Sound Tryz.prog f ms F := fun f ms F h => by
 unfold Eslices_ContainsFunc_i_StoItem_i_StoItem__i_PlcOk_1 at h
 dsimp only at h
 split at h
 ·injection h with h; injection h with e1 e2; subst e1 e2; exact Sound.wk si_PlcOk_1
 ·injection h with h; injection h with e1 e2; subst e1 e2; exact Sound.wk sslices_IndexFunc_i_StoItem_i_StoItem__i_PlcOk_1
 ·cases h
theorem goodBslices_ContainsFunc_i_StoItem_i_StoItem__i_PlcOk_1:∀ f ms F,Eslices_ContainsFunc_i_StoItem_i_StoItem__i_PlcOk_1.bxf f = some (ms,F) → SoundB Tryz.prog f ms F := fun f ms F h => by cases h
theorem goodslices_ContainsFunc_i_StoItem_i_StoItem__i_PlcOk_1:Good Tryz.prog Eslices_ContainsFunc_i_StoItem_i_StoItem__i_PlcOk_1 := ⟨rfl,goodFslices_ContainsFunc_i_StoItem_i_StoItem__i_PlcOk_1,goodBslices_ContainsFunc_i_StoItem_i_StoItem__i_PlcOk_1⟩
noncomputable def Oslices_ContainsFunc_i_StoItem_i_StoItem__i_PlcOk_1_0:Orc := fun _ _ => none
noncomputable def msslices_ContainsFunc_i_StoItem_i_StoItem__i_PlcOk_1:List PM := [.rd,.rd]
noncomputable def lsslices_ContainsFunc_i_StoItem_i_StoItem__i_PlcOk_1:List (Nat×Code) := loopsAll 0 (Tryz.f94.body.getD .skip)
theorem kslices_ContainsFunc_i_StoItem_i_StoItem__i_PlcOk_1_0:OrcOk Eslices_ContainsFunc_i_StoItem_i_StoItem__i_PlcOk_1 Oslices_ContainsFunc_i_StoItem_i_StoItem__i_PlcOk_1_0 lsslices_ContainsFunc_i_StoItem_i_StoItem__i_PlcOk_1 0 := orcOk_none
noncomputable def g_Aslices_ContainsFunc_i_StoItem_i_StoItem__i_PlcOk_1 (a0:List (ByteArray×(List Int))) (c0:Int):Bool := g_Aslices_IndexFunc_i_StoItem_i_StoItem__i_PlcOk_1 a0 c0&&true
noncomputable def g_Vslices_ContainsFunc_i_StoItem_i_StoItem__i_PlcOk_1_0 (a0:List (ByteArray×(List Int))) (c0:Int):Bool := decide (g_Vslices_IndexFunc_i_StoItem_i_StoItem__i_PlcOk_1_0 a0 c0 ≥ (0:Int))
noncomputable def Fslices_ContainsFunc_i_StoItem_i_StoItem__i_PlcOk_1:FSem := fun ys => match ys with
 | [.val false [.sl .any 49 (.pair .str (.sl 3 (.int .i64))) a0],.val false [.fn 91 [.sptr (.int .i64) c0 0]]] => some ((g_Aslices_ContainsFunc_i_StoItem_i_StoItem__i_PlcOk_1 a0 c0),.val false [.bool (g_Vslices_ContainsFunc_i_StoItem_i_StoItem__i_PlcOk_1_0 a0 c0)],[])
 | _ => none
theorem vslices_ContainsFunc_i_StoItem_i_StoItem__i_PlcOk_1 (a0:List (ByteArray×(List Int))) (c0:Int):collapseH .std Eslices_ContainsFunc_i_StoItem_i_StoItem__i_PlcOk_1 Oslices_ContainsFunc_i_StoItem_i_StoItem__i_PlcOk_1_0 (execFn Eslices_ContainsFunc_i_StoItem_i_StoItem__i_PlcOk_1 Tryz.f94 msslices_ContainsFunc_i_StoItem_i_StoItem__i_PlcOk_1 [.val false [.sl .any 49 (.pair .str (.sl 3 (.int .i64))) a0],.val false [.fn 91 [.sptr (.int .i64) c0 0]]]) = some ((g_Aslices_ContainsFunc_i_StoItem_i_StoItem__i_PlcOk_1 a0 c0),.val false [.bool (g_Vslices_ContainsFunc_i_StoItem_i_StoItem__i_PlcOk_1_0 a0 c0)],[]) := by kernel_rfl
theorem sslices_ContainsFunc_i_StoItem_i_StoItem__i_PlcOk_1:Sound Tryz.prog 94 msslices_ContainsFunc_i_StoItem_i_StoItem__i_PlcOk_1 Fslices_ContainsFunc_i_StoItem_i_StoItem__i_PlcOk_1 := by
 refine fn_gen goodslices_ContainsFunc_i_StoItem_i_StoItem__i_PlcOk_1 (by kernel_rfl) .std (fn := Tryz.f94) (c := (Tryz.f94.body.getD .skip)) (o := Oslices_ContainsFunc_i_StoItem_i_StoItem__i_PlcOk_1_0) (k := 0) (by kernel_rfl) (by kernel_rfl) (by kernel_rfl) (by kernel_rfl) (by decide) kslices_ContainsFunc_i_StoItem_i_StoItem__i_PlcOk_1_0 ?_
 intro ys r outs h
 unfold Fslices_ContainsFunc_i_StoItem_i_StoItem__i_PlcOk_1 at h
 split at h
 ·exact (vslices_ContainsFunc_i_StoItem_i_StoItem__i_PlcOk_1 _ _).trans h
 ·cases h
noncomputable def Ei_PlcOk:Env where
 tt := mkTI Tryz.prog
 fn := fun f => match f with
  | 63 => some (msi_StoOk,FSem.wk msi_StoOk Fi_StoOk)
  | 93 => some (msi_isService,FSem.wk msi_isService Fi_isService)
  | 94 => some (msslices_ContainsFunc_i_StoItem_i_StoItem__i_PlcOk_1,FSem.wk msslices_ContainsFunc_i_StoItem_i_StoItem__i_PlcOk_1 Fslices_ContainsFunc_i_StoItem_i_StoItem__i_PlcOk_1)
  | _ => none
 bxf := fun _ => none
 mv := []
 keep := fun _ => []
 keepB := fun _ => []
 keepX := fun _ => []
 keepXB := fun _ => []
theorem goodFi_PlcOk:∀ f ms F,Ei_PlcOk.fn f = some (ms,F) → Sound Tryz.prog f ms F := fun f ms F h => by
 unfold Ei_PlcOk at h
 dsimp only at h
 split at h
 ·injection h with h; injection h with e1 e2; subst e1 e2; exact Sound.wk si_StoOk
 ·injection h with h; injection h with e1 e2; subst e1 e2; exact Sound.wk si_isService
 ·injection h with h; injection h with e1 e2; subst e1 e2; exact Sound.wk sslices_ContainsFunc_i_StoItem_i_StoItem__i_PlcOk_1
 ·cases h
theorem goodBi_PlcOk:∀ f ms F,Ei_PlcOk.bxf f = some (ms,F) → SoundB Tryz.prog f ms F := fun f ms F h => by cases h
theorem goodi_PlcOk:Good Tryz.prog Ei_PlcOk := ⟨rfl,goodFi_PlcOk,goodBi_PlcOk⟩
noncomputable def Oi_PlcOk_0:Orc := fun _ _ => none
noncomputable def msi_PlcOk:List PM := [.own,.rd]
noncomputable def lsi_PlcOk:List (Nat×Code) := loopsAll 0 (Tryz.f45.body.getD .skip)
theorem ki_PlcOk_0:OrcOk Ei_PlcOk Oi_PlcOk_0 lsi_PlcOk 0 := orcOk_none
noncomputable def g_Ai_PlcOk (a0:Int) (a1:List (ByteArray×(List Int))):Bool := g_Ai_isService a0&&(!g_Vi_isService_0 a0 || g_Ai_StoOk a1&&(!g_Vi_StoOk_0 a1 || g_Aslices_ContainsFunc_i_StoItem_i_StoItem__i_PlcOk_1 a1 a0))
noncomputable def g_Vi_PlcOk_0 (a0:Int) (a1:List (ByteArray×(List Int))):Bool := bif g_Vi_isService_0 a0 then bif g_Vi_StoOk_0 a1 then !g_Vslices_ContainsFunc_i_StoItem_i_StoItem__i_PlcOk_1_0 a1 a0 else false else false
noncomputable def Fi_PlcOk:FSem := fun ys => match ys with
 | [.val false [.int .i64 a0],.val true [.sl .any 49 (.pair .str (.sl 3 (.int .i64))) a1]] => some ((g_Ai_PlcOk a0 a1),.val false [.bool (g_Vi_PlcOk_0 a0 a1)],[])
 | _ => none
theorem vi_PlcOk (a0:Int) (a1:List (ByteArray×(List Int))):collapseH .std Ei_PlcOk Oi_PlcOk_0 (execFn Ei_PlcOk Tryz.f45 msi_PlcOk [.val false [.int .i64 a0],.val true [.sl .any 49 (.pair .str (.sl 3 (.int .i64))) a1]]) = some ((g_Ai_PlcOk a0 a1),.val false [.bool (g_Vi_PlcOk_0 a0 a1)],[]) := by kernel_rfl
theorem si_PlcOk:Sound Tryz.prog 45 msi_PlcOk Fi_PlcOk := by
 refine fn_gen goodi_PlcOk (by kernel_rfl) .std (fn := Tryz.f45) (c := (Tryz.f45.body.getD .skip)) (o := Oi_PlcOk_0) (k := 0) (by kernel_rfl) (by kernel_rfl) (by kernel_rfl) (by kernel_rfl) (by decide) ki_PlcOk_0 ?_
 intro ys r outs h
 unfold Fi_PlcOk at h
 split at h
 ·exact (vi_PlcOk _ _).trans h
 ·cases h
def msstrings_Compare:List PM := [.own,.own]
def g_compare (a b:ByteArray):Int := Lib.compareBytes a.data.toList b.data.toList
def Fstrings_Compare:FSem := fun ys => match ys with
 | [.val false [.str a],.val false [.str b]] => some (true,.val false [.int .i64 (g_compare a b)],[])
 | _ => none
theorem sstrings_Compare:Sound Tryz.prog 145 msstrings_Compare Fstrings_Compare := by
 refine sound_plain (by simp [msstrings_Compare]) ⟨_,Tryz.func145,by kernel_rfl,by kernel_rfl⟩ (fun w ys r outs h => ?_)
 unfold Fstrings_Compare at h
 split at h
 ·rename_i a b
  simp only [Option.some.injEq,Prod.mk.injEq,true_and] at h
  obtain ⟨rfl,rfl⟩ := h
  refine ⟨rfl,[.string a,.string b],.int .i64 (g_compare a b),rfl,rfl,?_⟩
  exact Calls.mono (Tryz.strings_Compare a b w) (fun e w' h => ⟨h.1,by rw [h.2]; exact RowKit.Below.refl _ _⟩)
 ·cases h
noncomputable def Ei_StoStore_find_1:Env where
 tt := mkTI Tryz.prog
 fn := fun f => match f with
  | 145 => some (msstrings_Compare,FSem.wk msstrings_Compare Fstrings_Compare)
  | _ => none
 bxf := fun _ => none
 mv := []
 keep := fun _ => []
 keepB := fun _ => []
 keepX := fun _ => []
 keepXB := fun _ => []
theorem goodFi_StoStore_find_1:∀ f ms F,Ei_StoStore_find_1.fn f = some (ms,F) → Sound Tryz.prog f ms F := fun f ms F h => by
 unfold Ei_StoStore_find_1 at h
 dsimp only at h
 split at h
 ·injection h with h; injection h with e1 e2; subst e1 e2; exact Sound.wk sstrings_Compare
 ·cases h
theorem goodBi_StoStore_find_1:∀ f ms F,Ei_StoStore_find_1.bxf f = some (ms,F) → SoundB Tryz.prog f ms F := fun f ms F h => by cases h
theorem goodi_StoStore_find_1:Good Tryz.prog Ei_StoStore_find_1 := ⟨rfl,goodFi_StoStore_find_1,goodBi_StoStore_find_1⟩
noncomputable def Oi_StoStore_find_1_0:Orc := fun _ _ => none
noncomputable def msi_StoStore_find_1:List PM := [.rd,.own]
noncomputable def lsi_StoStore_find_1:List (Nat×Code) := loopsAll 0 (Tryz.f144.body.getD .skip)
theorem ki_StoStore_find_1_0:OrcOk Ei_StoStore_find_1 Oi_StoStore_find_1_0 lsi_StoStore_find_1 0 := orcOk_none
noncomputable def Fi_StoStore_find_1:FSem := fun ys => match ys with
 | [.val true [.str a0,.sl .any 3 (.int .i64) a1],.val false [.str a2]] => some (true,.val false [.int .i64 (g_compare a0 a2)],[])
 | _ => none
theorem vi_StoStore_find_1 (a0:ByteArray) (a1:List Int) (a2:ByteArray):collapseH .std Ei_StoStore_find_1 Oi_StoStore_find_1_0 (execFn Ei_StoStore_find_1 Tryz.f144 msi_StoStore_find_1 [.val true [.str a0,.sl .any 3 (.int .i64) a1],.val false [.str a2]]) = some (true,.val false [.int .i64 (g_compare a0 a2)],[]) := by kernel_rfl
theorem si_StoStore_find_1:Sound Tryz.prog 144 msi_StoStore_find_1 Fi_StoStore_find_1 := by
 refine fn_gen goodi_StoStore_find_1 (by kernel_rfl) .std (fn := Tryz.f144) (c := (Tryz.f144.body.getD .skip)) (o := Oi_StoStore_find_1_0) (k := 0) (by kernel_rfl) (by kernel_rfl) (by kernel_rfl) (by kernel_rfl) (by decide) ki_StoStore_find_1_0 ?_
 intro ys r outs h
 unfold Fi_StoStore_find_1 at h
 split at h
 ·exact (vi_StoStore_find_1 _ _ _).trans h
 ·cases h
noncomputable def Eslices_BinarySearchFunc_i_StoItem_i_StoItem_string__i_StoStore_find_1:Env where
 tt := mkTI Tryz.prog
 fn := fun f => match f with
  | 144 => some (msi_StoStore_find_1,FSem.wk msi_StoStore_find_1 Fi_StoStore_find_1)
  | _ => none
 bxf := fun _ => none
 mv := []
 keep := fun b => match b with
  | 0 => [(0,false),(1,false),(2,false),(8,false),(9,false),(10,false)]
  | _ => []
 keepB := fun b => match b with
  | 0 => []
  | _ => []
 keepX := fun b => match b with
  | 0 => [(0,false),(1,false),(2,false),(8,false),(9,false)]
  | _ => []
 keepXB := fun b => match b with
  | 0 => []
  | _ => []
theorem goodFslices_BinarySearchFunc_i_StoItem_i_StoItem_string__i_StoStore_find_1:∀ f ms F,Eslices_BinarySearchFunc_i_StoItem_i_StoItem_string__i_StoStore_find_1.fn f = some (ms,F) → Sound Tryz.prog f ms F := fun f ms F h => by
 unfold Eslices_BinarySearchFunc_i_StoItem_i_StoItem_string__i_StoStore_find_1 at h
 dsimp only at h
 split at h
 ·injection h with h; injection h with e1 e2; subst e1 e2; exact Sound.wk si_StoStore_find_1
 ·cases h
theorem goodBslices_BinarySearchFunc_i_StoItem_i_StoItem_string__i_StoStore_find_1:∀ f ms F,Eslices_BinarySearchFunc_i_StoItem_i_StoItem_string__i_StoStore_find_1.bxf f = some (ms,F) → SoundB Tryz.prog f ms F := fun f ms F h => by cases h
theorem goodslices_BinarySearchFunc_i_StoItem_i_StoItem_string__i_StoStore_find_1:Good Tryz.prog Eslices_BinarySearchFunc_i_StoItem_i_StoItem_string__i_StoStore_find_1 := ⟨rfl,goodFslices_BinarySearchFunc_i_StoItem_i_StoItem_string__i_StoStore_find_1,goodBslices_BinarySearchFunc_i_StoItem_i_StoItem_string__i_StoStore_find_1⟩
noncomputable def Oslices_BinarySearchFunc_i_StoItem_i_StoItem_string__i_StoStore_find_1_0:Orc := fun _ _ => none
noncomputable def msslices_BinarySearchFunc_i_StoItem_i_StoItem_string__i_StoStore_find_1:List PM := [.rd,.own,.rd]
noncomputable def lsslices_BinarySearchFunc_i_StoItem_i_StoItem_string__i_StoStore_find_1:List (Nat×Code) := loopsAll 0 (Tryz.f143.body.getD .skip)
noncomputable def cslices_BinarySearchFunc_i_StoItem_i_StoItem_string__i_StoStore_find_1_0:Code := (loopOf 0 (Tryz.f143.body.getD .skip)).getD .skip
theorem lseqslices_BinarySearchFunc_i_StoItem_i_StoItem_string__i_StoStore_find_1:lsslices_BinarySearchFunc_i_StoItem_i_StoItem_string__i_StoStore_find_1 = [(0,cslices_BinarySearchFunc_i_StoItem_i_StoItem_string__i_StoStore_find_1_0)] := by kernel_rfl
theorem mslices_BinarySearchFunc_i_StoItem_i_StoItem_string__i_StoStore_find_1_0:∀ p,p ∈ lsslices_BinarySearchFunc_i_StoItem_i_StoItem_string__i_StoStore_find_1 → p.1 = 0 → p.2 = cslices_BinarySearchFunc_i_StoItem_i_StoItem_string__i_StoStore_find_1_0 := by
 intro p hp
 rw [lseqslices_BinarySearchFunc_i_StoItem_i_StoItem_string__i_StoStore_find_1] at hp
 simp only [List.mem_cons,List.not_mem_nil,or_false] at hp
 subst hp; simp
theorem kslices_BinarySearchFunc_i_StoItem_i_StoItem_string__i_StoStore_find_1_0:OrcOk Eslices_BinarySearchFunc_i_StoItem_i_StoItem_string__i_StoStore_find_1 Oslices_BinarySearchFunc_i_StoItem_i_StoItem_string__i_StoStore_find_1_0 lsslices_BinarySearchFunc_i_StoItem_i_StoItem_string__i_StoStore_find_1 0 := orcOk_none
noncomputable def hslices_BinarySearchFunc_i_StoItem_i_StoItem_string__i_StoStore_find_1_0 (y0:List (ByteArray×(List Int))) (y1:ByteArray) (y2:Int) (y3:Int) (y4:Int):List (Pl×LV) := [(.T 0,.t (.val false [.sl .any 49 (.pair .str (.sl 3 (.int .i64))) y0])),(.T 1,.t (.val false [.str y1])),(.T 2,.t (.val false [.fn 144 []])),(.T 8,.t (.val false [.int .i64 y2])),(.T 9,.t (.val false [.int .i64 y3])),(.T 10,.t (.val false [.int .i64 y4]))]
noncomputable def g_Sslices_BinarySearchFunc_i_StoItem_i_StoItem_string__i_StoStore_find_1_0 (y0:List (ByteArray×(List Int))) (y1:ByteArray) (y2:Int):(Int×Int) → RT (Int×Int) ((Int))
 | (y3,y4) => .br (true) (.br (decide (y3 < y4)) (.br (true) (.br (true) (.br (decide ((0:Int) ≤ IntKind.wrap IntKind.i64 (Int.fdiv (IntKind.wrap IntKind.u64 (IntKind.wrap IntKind.i64 (y3 + y4))) (2:Int)) ∧ IntKind.wrap IntKind.i64 (Int.fdiv (IntKind.wrap IntKind.u64 (IntKind.wrap IntKind.i64 (y3 + y4))) (2:Int)) < (↑(List.length y0):Int))) (.br (true) (.br (true) (.br (decide (g_compare (at_ (Ty.pair Ty.str (Ty.sl (nat_lit 3) (Ty.int IntKind.i64))) y0 (Int.toNat (IntKind.wrap IntKind.i64 (Int.fdiv (IntKind.wrap IntKind.u64 (IntKind.wrap IntKind.i64 (y3 + y4))) (2:Int))))).1 y1 < (0:Int))) (.br (true) (.go ((IntKind.wrap IntKind.i64 (IntKind.wrap IntKind.i64 (Int.fdiv (IntKind.wrap IntKind.u64 (IntKind.wrap IntKind.i64 (y3 + y4))) (2:Int)) + (1:Int)),y4))) .bad) (.go ((y3,IntKind.wrap IntKind.i64 (Int.fdiv (IntKind.wrap IntKind.u64 (IntKind.wrap IntKind.i64 (y3 + y4))) (2:Int)))))) .bad) .bad) .bad) .bad) .bad) (.out (y3))) .bad
noncomputable def g_Lslices_BinarySearchFunc_i_StoItem_i_StoItem_string__i_StoStore_find_1_0 (y0:List (ByteArray×(List Int))) (y1:ByteArray) (y2:Int) (x:Int×Int):Option ((Int)) := loopO (g_Sslices_BinarySearchFunc_i_StoItem_i_StoItem_string__i_StoStore_find_1_0 y0 y1 y2) x
noncomputable def xslices_BinarySearchFunc_i_StoItem_i_StoItem_string__i_StoStore_find_1_0 (y0:List (ByteArray×(List Int))) (y1:ByteArray) (y2:Int):((Int)) → Ex×List (Pl×LV) := fun r => (.exit 0,[(.T 0,.t (.val false [.sl .any 49 (.pair .str (.sl 3 (.int .i64))) y0])),(.T 1,.t (.val false [.str y1])),(.T 2,.t (.val false [.fn 144 []])),(.T 8,.t (.val false [.int .i64 y2])),(.T 9,.t (.val false [.int .i64 r]))])
noncomputable def Oslices_BinarySearchFunc_i_StoItem_i_StoItem_string__i_StoStore_find_1_1:Orc := fun b h => match b,h with
 | 0,[(.T 0,.t (.val false [.sl .any 49 (.pair .str (.sl 3 (.int .i64))) y0])),(.T 1,.t (.val false [.str y1])),(.T 2,.t (.val false [.fn 144 []])),(.T 8,.t (.val false [.int .i64 y2])),(.T 9,.t (.val false [.int .i64 y3])),(.T 10,.t (.val false [.int .i64 y4]))] => some (okO (g_Lslices_BinarySearchFunc_i_StoItem_i_StoItem_string__i_StoStore_find_1_0 y0 y1 y2 (y3,y4)),(.leaf (.exit 0) [(.T 0,.t (.val false [.sl .any 49 (.pair .str (.sl 3 (.int .i64))) y0])),(.T 1,.t (.val false [.str y1])),(.T 2,.t (.val false [.fn 144 []])),(.T 8,.t (.val false [.int .i64 y2])),(.T 9,.t (.val false [.int .i64 (valO (g_Lslices_BinarySearchFunc_i_StoItem_i_StoItem_string__i_StoStore_find_1_0 y0 y1 y2 (y3,y4)))]))]))
 | b,h => Oslices_BinarySearchFunc_i_StoItem_i_StoItem_string__i_StoStore_find_1_0 b h
theorem bslices_BinarySearchFunc_i_StoItem_i_StoItem_string__i_StoStore_find_1_0 (y0:List (ByteArray×(List Int))) (y1:ByteArray) (y2:Int) (y3:Int) (y4:Int):Tr.bt Eslices_BinarySearchFunc_i_StoItem_i_StoItem_string__i_StoStore_find_1 Oslices_BinarySearchFunc_i_StoItem_i_StoItem_string__i_StoStore_find_1_0 (exec Eslices_BinarySearchFunc_i_StoItem_i_StoItem_string__i_StoStore_find_1 0 cslices_BinarySearchFunc_i_StoItem_i_StoItem_string__i_StoStore_find_1_0 (St.of (hslices_BinarySearchFunc_i_StoItem_i_StoItem_string__i_StoStore_find_1_0 y0 y1 y2 y3 y4)) (leafRd Eslices_BinarySearchFunc_i_StoItem_i_StoItem_string__i_StoStore_find_1 0)) = (g_Sslices_BinarySearchFunc_i_StoItem_i_StoItem_string__i_StoStore_find_1_0 y0 y1 y2 (y3,y4)).bt (fun ((y3,y4):Int×Int) => (hslices_BinarySearchFunc_i_StoItem_i_StoItem_string__i_StoStore_find_1_0 y0 y1 y2 y3 y4)) (xslices_BinarySearchFunc_i_StoItem_i_StoItem_string__i_StoStore_find_1_0 y0 y1 y2) := by kernel_rfl
theorem kslices_BinarySearchFunc_i_StoItem_i_StoItem_string__i_StoStore_find_1_1:OrcOk Eslices_BinarySearchFunc_i_StoItem_i_StoItem_string__i_StoStore_find_1 Oslices_BinarySearchFunc_i_StoItem_i_StoItem_string__i_StoStore_find_1_1 lsslices_BinarySearchFunc_i_StoItem_i_StoItem_string__i_StoStore_find_1 1 := orc_add kslices_BinarySearchFunc_i_StoItem_i_StoItem_string__i_StoStore_find_1_0 (fun n p hp h ex h' ho => by
 obtain ⟨b,c⟩ := p
 obtain ⟨xt,h1,h2⟩ := ho
 have h1:Oslices_BinarySearchFunc_i_StoItem_i_StoItem_string__i_StoStore_find_1_1 b h = some (true,xt) := h1
 unfold Oslices_BinarySearchFunc_i_StoItem_i_StoItem_string__i_StoStore_find_1_1 at h1
 split at h1
 ·injection h1 with h1
  injection h1 with e1 e2
  subst e2
  have hc:c = cslices_BinarySearchFunc_i_StoItem_i_StoItem_string__i_StoStore_find_1_0 := mslices_BinarySearchFunc_i_StoItem_i_StoItem_string__i_StoStore_find_1_0 _ hp rfl
  subst hc
  right
  rename_i y0 y1 y2 y3 y4
  have key := LT_step kslices_BinarySearchFunc_i_StoItem_i_StoItem_string__i_StoStore_find_1_0 hp (fun q hq => loopsAll_in _ _ _ _ hp hq) (fun ((y3,y4):Int×Int) => (hslices_BinarySearchFunc_i_StoItem_i_StoItem_string__i_StoStore_find_1_0 y0 y1 y2 y3 y4)) (xslices_BinarySearchFunc_i_StoItem_i_StoItem_string__i_StoStore_find_1_0 y0 y1 y2) (g_Sslices_BinarySearchFunc_i_StoItem_i_StoItem_string__i_StoStore_find_1_0 y0 y1 y2) (fun x => by first | exact bslices_BinarySearchFunc_i_StoItem_i_StoItem_string__i_StoStore_find_1_0 y0 y1 y2 x.1 x.2) n (x := (y3,y4)) (okO_some e1)
  have hx:∀ r,XT.sel (.leaf (.exit 0) [(.T 0,.t (.val false [.sl .any 49 (.pair .str (.sl 3 (.int .i64))) y0])),(.T 1,.t (.val false [.str y1])),(.T 2,.t (.val false [.fn 144 []])),(.T 8,.t (.val false [.int .i64 y2])),(.T 9,.t (.val false [.int .i64 r]))]) = xslices_BinarySearchFunc_i_StoItem_i_StoItem_string__i_StoStore_find_1_0 y0 y1 y2 r := fun r => by first | rfl | (rcases r with r | r <;> rfl) | (rcases r with r | r | r <;> rfl) | (rcases r with r | r | r | r <;> rfl)
  have h3 := (hx (valO (g_Lslices_BinarySearchFunc_i_StoItem_i_StoItem_string__i_StoStore_find_1_0 y0 y1 y2 (y3,y4)))).symm.trans h2
  have e3 := congrArg Prod.fst h3
  have e4 := congrArg Prod.snd h3
  simp only at e3 e4
  rw [← e3,← e4]
  exact key
 ·exact .inl ⟨xt,h1,h2⟩)
noncomputable def g_Aslices_BinarySearchFunc_i_StoItem_i_StoItem_string__i_StoStore_find_1 (a0:List (ByteArray×(List Int))) (a1:ByteArray):Bool := okO (g_Lslices_BinarySearchFunc_i_StoItem_i_StoItem_string__i_StoStore_find_1_0 a0 a1 (↑(List.length a0):Int) ((0:Int),(↑(List.length a0):Int)))&&(!decide (valO (g_Lslices_BinarySearchFunc_i_StoItem_i_StoItem_string__i_StoStore_find_1_0 a0 a1 (↑(List.length a0):Int) ((0:Int),(↑(List.length a0):Int))) < (↑(List.length a0):Int)) || decide ((0:Int) ≤ valO (g_Lslices_BinarySearchFunc_i_StoItem_i_StoItem_string__i_StoStore_find_1_0 a0 a1 (↑(List.length a0):Int) ((0:Int),(↑(List.length a0):Int))) ∧ valO (g_Lslices_BinarySearchFunc_i_StoItem_i_StoItem_string__i_StoStore_find_1_0 a0 a1 (↑(List.length a0):Int) ((0:Int),(↑(List.length a0):Int))) < (↑(List.length a0):Int))&&true)
noncomputable def g_Vslices_BinarySearchFunc_i_StoItem_i_StoItem_string__i_StoStore_find_1_0 (a0:List (ByteArray×(List Int))) (a1:ByteArray):Int := bif decide (valO (g_Lslices_BinarySearchFunc_i_StoItem_i_StoItem_string__i_StoStore_find_1_0 a0 a1 (↑(List.length a0):Int) ((0:Int),(↑(List.length a0):Int))) < (↑(List.length a0):Int)) then valO (g_Lslices_BinarySearchFunc_i_StoItem_i_StoItem_string__i_StoStore_find_1_0 a0 a1 (↑(List.length a0):Int) ((0:Int),(↑(List.length a0):Int))) else valO (g_Lslices_BinarySearchFunc_i_StoItem_i_StoItem_string__i_StoStore_find_1_0 a0 a1 (↑(List.length a0):Int) ((0:Int),(↑(List.length a0):Int)))
noncomputable def g_Vslices_BinarySearchFunc_i_StoItem_i_StoItem_string__i_StoStore_find_1_1 (a0:List (ByteArray×(List Int))) (a1:ByteArray):Bool := bif decide (valO (g_Lslices_BinarySearchFunc_i_StoItem_i_StoItem_string__i_StoStore_find_1_0 a0 a1 (↑(List.length a0):Int) ((0:Int),(↑(List.length a0):Int))) < (↑(List.length a0):Int)) then g_compare (at_ (Ty.pair Ty.str (Ty.sl (nat_lit 3) (Ty.int IntKind.i64))) a0 (Int.toNat (valO (g_Lslices_BinarySearchFunc_i_StoItem_i_StoItem_string__i_StoStore_find_1_0 a0 a1 (↑(List.length a0):Int) ((0:Int),(↑(List.length a0):Int)))))).1 a1 == (0:Int) else false
noncomputable def Fslices_BinarySearchFunc_i_StoItem_i_StoItem_string__i_StoStore_find_1:FSem := fun ys => match ys with
 | [.val false [.sl .any 49 (.pair .str (.sl 3 (.int .i64))) a0],.val false [.str a1],.val false [.fn 144 []]] => some ((g_Aslices_BinarySearchFunc_i_StoItem_i_StoItem_string__i_StoStore_find_1 a0 a1),.tup [(false,[.int .i64 (g_Vslices_BinarySearchFunc_i_StoItem_i_StoItem_string__i_StoStore_find_1_0 a0 a1)]),(false,[.bool (g_Vslices_BinarySearchFunc_i_StoItem_i_StoItem_string__i_StoStore_find_1_1 a0 a1)])],[])
 | _ => none
theorem vslices_BinarySearchFunc_i_StoItem_i_StoItem_string__i_StoStore_find_1 (a0:List (ByteArray×(List Int))) (a1:ByteArray):collapseH .std Eslices_BinarySearchFunc_i_StoItem_i_StoItem_string__i_StoStore_find_1 Oslices_BinarySearchFunc_i_StoItem_i_StoItem_string__i_StoStore_find_1_1 (execFn Eslices_BinarySearchFunc_i_StoItem_i_StoItem_string__i_StoStore_find_1 Tryz.f143 msslices_BinarySearchFunc_i_StoItem_i_StoItem_string__i_StoStore_find_1 [.val false [.sl .any 49 (.pair .str (.sl 3 (.int .i64))) a0],.val false [.str a1],.val false [.fn 144 []]]) = some ((g_Aslices_BinarySearchFunc_i_StoItem_i_StoItem_string__i_StoStore_find_1 a0 a1),.tup [(false,[.int .i64 (g_Vslices_BinarySearchFunc_i_StoItem_i_StoItem_string__i_StoStore_find_1_0 a0 a1)]),(false,[.bool (g_Vslices_BinarySearchFunc_i_StoItem_i_StoItem_string__i_StoStore_find_1_1 a0 a1)])],[]) := by kernel_rfl
theorem sslices_BinarySearchFunc_i_StoItem_i_StoItem_string__i_StoStore_find_1:Sound Tryz.prog 143 msslices_BinarySearchFunc_i_StoItem_i_StoItem_string__i_StoStore_find_1 Fslices_BinarySearchFunc_i_StoItem_i_StoItem_string__i_StoStore_find_1 := by
 refine fn_gen goodslices_BinarySearchFunc_i_StoItem_i_StoItem_string__i_StoStore_find_1 (by kernel_rfl) .std (fn := Tryz.f143) (c := (Tryz.f143.body.getD .skip)) (o := Oslices_BinarySearchFunc_i_StoItem_i_StoItem_string__i_StoStore_find_1_1) (k := 1) (by kernel_rfl) (by kernel_rfl) (by kernel_rfl) (by kernel_rfl) (by decide) kslices_BinarySearchFunc_i_StoItem_i_StoItem_string__i_StoStore_find_1_1 ?_
 intro ys r outs h
 unfold Fslices_BinarySearchFunc_i_StoItem_i_StoItem_string__i_StoStore_find_1 at h
 split at h
 ·exact (vslices_BinarySearchFunc_i_StoItem_i_StoItem_string__i_StoStore_find_1 _ _).trans h
 ·cases h
noncomputable def Ei_StoStore_find:Env where
 tt := mkTI Tryz.prog
 fn := fun f => match f with
  | 143 => some (msslices_BinarySearchFunc_i_StoItem_i_StoItem_string__i_StoStore_find_1,FSem.wk msslices_BinarySearchFunc_i_StoItem_i_StoItem_string__i_StoStore_find_1 Fslices_BinarySearchFunc_i_StoItem_i_StoItem_string__i_StoStore_find_1)
  | _ => none
 bxf := fun _ => none
 mv := []
 keep := fun _ => []
 keepB := fun _ => []
 keepX := fun _ => []
 keepXB := fun _ => []
theorem goodFi_StoStore_find:∀ f ms F,Ei_StoStore_find.fn f = some (ms,F) → Sound Tryz.prog f ms F := fun f ms F h => by
 unfold Ei_StoStore_find at h
 dsimp only at h
 split at h
 ·injection h with h; injection h with e1 e2; subst e1 e2; exact Sound.wk sslices_BinarySearchFunc_i_StoItem_i_StoItem_string__i_StoStore_find_1
 ·cases h
theorem goodBi_StoStore_find:∀ f ms F,Ei_StoStore_find.bxf f = some (ms,F) → SoundB Tryz.prog f ms F := fun f ms F h => by cases h
theorem goodi_StoStore_find:Good Tryz.prog Ei_StoStore_find := ⟨rfl,goodFi_StoStore_find,goodBi_StoStore_find⟩
noncomputable def Oi_StoStore_find_0:Orc := fun _ _ => none
noncomputable def msi_StoStore_find:List PM := [.rd,.own]
noncomputable def lsi_StoStore_find:List (Nat×Code) := loopsAll 0 (Tryz.f100.body.getD .skip)
theorem ki_StoStore_find_0:OrcOk Ei_StoStore_find Oi_StoStore_find_0 lsi_StoStore_find 0 := orcOk_none
noncomputable def g_Ai_StoStore_find (a0:List (ByteArray×(List Int))) (a1:ByteArray):Bool := g_Aslices_BinarySearchFunc_i_StoItem_i_StoItem_string__i_StoStore_find_1 a0 a1
noncomputable def Fi_StoStore_find:FSem := fun ys => match ys with
 | [.val true [.sl .any 49 (.pair .str (.sl 3 (.int .i64))) a0],.val false [.str a1]] => some ((g_Ai_StoStore_find a0 a1),.tup [(false,[.int .i64 (g_Vslices_BinarySearchFunc_i_StoItem_i_StoItem_string__i_StoStore_find_1_0 a0 a1)]),(false,[.bool (g_Vslices_BinarySearchFunc_i_StoItem_i_StoItem_string__i_StoStore_find_1_1 a0 a1)])],[])
 | _ => none
theorem vi_StoStore_find (a0:List (ByteArray×(List Int))) (a1:ByteArray):collapseH .std Ei_StoStore_find Oi_StoStore_find_0 (execFn Ei_StoStore_find Tryz.f100 msi_StoStore_find [.val true [.sl .any 49 (.pair .str (.sl 3 (.int .i64))) a0],.val false [.str a1]]) = some ((g_Ai_StoStore_find a0 a1),.tup [(false,[.int .i64 (g_Vslices_BinarySearchFunc_i_StoItem_i_StoItem_string__i_StoStore_find_1_0 a0 a1)]),(false,[.bool (g_Vslices_BinarySearchFunc_i_StoItem_i_StoItem_string__i_StoStore_find_1_1 a0 a1)])],[]) := by kernel_rfl
theorem si_StoStore_find:Sound Tryz.prog 100 msi_StoStore_find Fi_StoStore_find := by
 refine fn_gen goodi_StoStore_find (by kernel_rfl) .std (fn := Tryz.f100) (c := (Tryz.f100.body.getD .skip)) (o := Oi_StoStore_find_0) (k := 0) (by kernel_rfl) (by kernel_rfl) (by kernel_rfl) (by kernel_rfl) (by decide) ki_StoStore_find_0 ?_
 intro ys r outs h
 unfold Fi_StoStore_find at h
 split at h
 ·exact (vi_StoStore_find _ _).trans h
 ·cases h
noncomputable def Eslices_Clone_int_int_nz:Env where
 tt := mkTI Tryz.prog
 fn := fun _ => none
 bxf := fun _ => none
 mv := []
 keep := fun _ => []
 keepB := fun _ => []
 keepX := fun _ => []
 keepXB := fun _ => []
theorem goodFslices_Clone_int_int_nz:∀ f ms F,Eslices_Clone_int_int_nz.fn f = some (ms,F) → Sound Tryz.prog f ms F := fun f ms F h => by cases h
theorem goodBslices_Clone_int_int_nz:∀ f ms F,Eslices_Clone_int_int_nz.bxf f = some (ms,F) → SoundB Tryz.prog f ms F := fun f ms F h => by cases h
theorem goodslices_Clone_int_int_nz:Good Tryz.prog Eslices_Clone_int_int_nz := ⟨rfl,goodFslices_Clone_int_int_nz,goodBslices_Clone_int_int_nz⟩
noncomputable def Oslices_Clone_int_int_nz_0:Orc := fun _ _ => none
noncomputable def msslices_Clone_int_int_nz:List PM := [.rd]
noncomputable def lsslices_Clone_int_int_nz:List (Nat×Code) := loopsAll 0 (Tryz.f101.body.getD .skip)
theorem kslices_Clone_int_int_nz_0:OrcOk Eslices_Clone_int_int_nz Oslices_Clone_int_int_nz_0 lsslices_Clone_int_int_nz 0 := orcOk_none
noncomputable def g_Aslices_Clone_int_int_nz (a0:List Int):Bool := decide (nat_lit 0 < List.length a0)&&decide ((nat_lit 0 + List.length a0) * nat_lit 8 ≤ nat_lit 140737488355328 ∧ nat_lit 0 + List.length a0 ≤ nat_lit 9223372036854775807)
noncomputable def g_Vslices_Clone_int_int_nz_0 (a0:List Int):List Int := [] ++ a0
noncomputable def Fslices_Clone_int_int_nz:FSem := fun ys => match ys with
 | [.val false [.sl .any 3 (.int .i64) a0]] => some ((g_Aslices_Clone_int_int_nz a0),.val false [.own (.may false) true 3 (.int .i64) (g_Vslices_Clone_int_int_nz_0 a0)],[])
 | _ => none
theorem vslices_Clone_int_int_nz (a0:List Int):collapseH .nz Eslices_Clone_int_int_nz Oslices_Clone_int_int_nz_0 (execFn Eslices_Clone_int_int_nz Tryz.f101 msslices_Clone_int_int_nz [.val false [.sl .any 3 (.int .i64) a0]]) = some ((g_Aslices_Clone_int_int_nz a0),.val false [.own (.may false) true 3 (.int .i64) (g_Vslices_Clone_int_int_nz_0 a0)],[]) := by kernel_rfl
theorem sslices_Clone_int_int_nz:Sound Tryz.prog 101 msslices_Clone_int_int_nz Fslices_Clone_int_int_nz := by
 refine fn_gen goodslices_Clone_int_int_nz (by kernel_rfl) .nz (fn := Tryz.f101) (c := (Tryz.f101.body.getD .skip)) (o := Oslices_Clone_int_int_nz_0) (k := 0) (by kernel_rfl) (by kernel_rfl) (by kernel_rfl) (by kernel_rfl) (by decide) kslices_Clone_int_int_nz_0 ?_
 intro ys r outs h
 unfold Fslices_Clone_int_int_nz at h
 split at h
 ·exact (vslices_Clone_int_int_nz _).trans h
 ·cases h
noncomputable def Ei_StoStore_get:Env where
 tt := mkTI Tryz.prog
 fn := fun f => match f with
  | 100 => some (msi_StoStore_find,FSem.wk msi_StoStore_find Fi_StoStore_find)
  | 101 => some (msslices_Clone_int_int_nz,FSem.wk msslices_Clone_int_int_nz Fslices_Clone_int_int_nz)
  | _ => none
 bxf := fun _ => none
 mv := []
 keep := fun _ => []
 keepB := fun _ => []
 keepX := fun _ => []
 keepXB := fun _ => []
theorem goodFi_StoStore_get:∀ f ms F,Ei_StoStore_get.fn f = some (ms,F) → Sound Tryz.prog f ms F := fun f ms F h => by
 unfold Ei_StoStore_get at h
 dsimp only at h
 split at h
 ·injection h with h; injection h with e1 e2; subst e1 e2; exact Sound.wk si_StoStore_find
 ·injection h with h; injection h with e1 e2; subst e1 e2; exact Sound.wk sslices_Clone_int_int_nz
 ·cases h
theorem goodBi_StoStore_get:∀ f ms F,Ei_StoStore_get.bxf f = some (ms,F) → SoundB Tryz.prog f ms F := fun f ms F h => by cases h
theorem goodi_StoStore_get:Good Tryz.prog Ei_StoStore_get := ⟨rfl,goodFi_StoStore_get,goodBi_StoStore_get⟩
noncomputable def Oi_StoStore_get_0:Orc := fun _ _ => none
noncomputable def msi_StoStore_get:List PM := [.rd,.own]
noncomputable def lsi_StoStore_get:List (Nat×Code) := loopsAll 0 (Tryz.f52.body.getD .skip)
theorem ki_StoStore_get_0:OrcOk Ei_StoStore_get Oi_StoStore_get_0 lsi_StoStore_get 0 := orcOk_none
noncomputable def g_Ai_StoStore_get (a0:List (ByteArray×(List Int))) (a1:ByteArray):Bool := g_Ai_StoStore_find a0 a1&&(!g_Vslices_BinarySearchFunc_i_StoItem_i_StoItem_string__i_StoStore_find_1_1 a0 a1 || decide ((0:Int) ≤ g_Vslices_BinarySearchFunc_i_StoItem_i_StoItem_string__i_StoStore_find_1_0 a0 a1 ∧ g_Vslices_BinarySearchFunc_i_StoItem_i_StoItem_string__i_StoStore_find_1_0 a0 a1 < (↑(List.length a0):Int))&&g_Aslices_Clone_int_int_nz (at_ (Ty.pair Ty.str (Ty.sl (nat_lit 3) (Ty.int IntKind.i64))) a0 (Int.toNat (g_Vslices_BinarySearchFunc_i_StoItem_i_StoItem_string__i_StoStore_find_1_0 a0 a1))).2)
noncomputable def g_Vi_StoStore_get_0 (a0:List (ByteArray×(List Int))) (a1:ByteArray):Bool := bif !g_Vslices_BinarySearchFunc_i_StoItem_i_StoItem_string__i_StoStore_find_1_1 a0 a1 then true else false
noncomputable def g_Vi_StoStore_get_1 (a0:List (ByteArray×(List Int))) (a1:ByteArray):List Int := bif !g_Vslices_BinarySearchFunc_i_StoItem_i_StoItem_string__i_StoStore_find_1_1 a0 a1 then [] else g_Vslices_Clone_int_int_nz_0 (at_ (Ty.pair Ty.str (Ty.sl (nat_lit 3) (Ty.int IntKind.i64))) a0 (Int.toNat (g_Vslices_BinarySearchFunc_i_StoItem_i_StoItem_string__i_StoStore_find_1_0 a0 a1))).2
noncomputable def Fi_StoStore_get:FSem := fun ys => match ys with
 | [.val true [.sl .any 49 (.pair .str (.sl 3 (.int .i64))) a0],.val false [.str a1]] => some ((g_Ai_StoStore_get a0 a1),.val false [.own (.may (g_Vi_StoStore_get_0 a0 a1)) true 3 (.int .i64) (g_Vi_StoStore_get_1 a0 a1)],[])
 | _ => none
theorem vi_StoStore_get (a0:List (ByteArray×(List Int))) (a1:ByteArray):collapseH .nz Ei_StoStore_get Oi_StoStore_get_0 (execFn Ei_StoStore_get Tryz.f52 msi_StoStore_get [.val true [.sl .any 49 (.pair .str (.sl 3 (.int .i64))) a0],.val false [.str a1]]) = some ((g_Ai_StoStore_get a0 a1),.val false [.own (.may (g_Vi_StoStore_get_0 a0 a1)) true 3 (.int .i64) (g_Vi_StoStore_get_1 a0 a1)],[]) := by kernel_rfl
theorem si_StoStore_get:Sound Tryz.prog 52 msi_StoStore_get Fi_StoStore_get := by
 refine fn_gen goodi_StoStore_get (by kernel_rfl) .nz (fn := Tryz.f52) (c := (Tryz.f52.body.getD .skip)) (o := Oi_StoStore_get_0) (k := 0) (by kernel_rfl) (by kernel_rfl) (by kernel_rfl) (by kernel_rfl) (by decide) ki_StoStore_get_0 ?_
 intro ys r outs h
 unfold Fi_StoStore_get at h
 split at h
 ·exact (vi_StoStore_get _ _).trans h
 ·cases h
noncomputable def Ei_done:Env where
 tt := mkTI Tryz.prog
 fn := fun _ => none
 bxf := fun _ => none
 mv := []
 keep := fun _ => []
 keepB := fun _ => []
 keepX := fun _ => []
 keepXB := fun _ => []
theorem goodFi_done:∀ f ms F,Ei_done.fn f = some (ms,F) → Sound Tryz.prog f ms F := fun f ms F h => by cases h
theorem goodBi_done:∀ f ms F,Ei_done.bxf f = some (ms,F) → SoundB Tryz.prog f ms F := fun f ms F h => by cases h
theorem goodi_done:Good Tryz.prog Ei_done := ⟨rfl,goodFi_done,goodBi_done⟩
noncomputable def Oi_done_0:Orc := fun _ _ => none
noncomputable def msi_done:List PM := [.own,.own]
noncomputable def lsi_done:List (Nat×Code) := loopsAll 0 (Tryz.f54.body.getD .skip)
theorem ki_done_0:OrcOk Ei_done Oi_done_0 lsi_done 0 := orcOk_none
noncomputable def Fi_done:FSem := fun ys => match ys with
 | [.val false [.own .any true 9 .str a0],.val false [.own .any true 39 (.pair .str (.pair .bool (.sl 3 (.int .i64)))) a1]] => some (true,.val true [.bool true,.own .any true 9 .str a0,.own .any true 39 (.pair .str (.pair .bool (.sl 3 (.int .i64)))) a1],[])
 | _ => none
theorem vi_done (a0:List ByteArray) (a1:List (ByteArray×(Bool×(List Int)))):collapseH .std Ei_done Oi_done_0 (execFn Ei_done Tryz.f54 msi_done [.val false [.own .any true 9 .str a0],.val false [.own .any true 39 (.pair .str (.pair .bool (.sl 3 (.int .i64)))) a1]]) = some (true,.val true [.bool true,.own .any true 9 .str a0,.own .any true 39 (.pair .str (.pair .bool (.sl 3 (.int .i64)))) a1],[]) := by kernel_rfl
theorem si_done:Sound Tryz.prog 54 msi_done Fi_done := by
 refine fn_gen goodi_done (by kernel_rfl) .std (fn := Tryz.f54) (c := (Tryz.f54.body.getD .skip)) (o := Oi_done_0) (k := 0) (by kernel_rfl) (by kernel_rfl) (by kernel_rfl) (by kernel_rfl) (by decide) ki_done_0 ?_
 intro ys r outs h
 unfold Fi_done at h
 split at h
 ·exact (vi_done _ _).trans h
 ·cases h
def msstrconv_Itoa:List PM := [.own]
def g_itoa (i:Int):ByteArray := ⟨(Lib.decDigits i.toNat).toArray⟩
def Fstrconv_Itoa:FSem := fun ys => match ys with
 | [.val false [.int .i64 i]] => some (decide (0 ≤ i ∧ i < 100),.val false [.str (g_itoa i)],[])
 | _ => none
theorem sstrconv_Itoa:Sound Tryz.prog 99 msstrconv_Itoa Fstrconv_Itoa := by
 refine sound_plain (by simp [msstrconv_Itoa]) ⟨_,Tryz.func99,by kernel_rfl,by kernel_rfl⟩ (fun w ys r outs h => ?_)
 unfold Fstrconv_Itoa at h
 split at h
 ·rename_i i
  simp only [Option.some.injEq,Prod.mk.injEq,decide_eq_true_eq] at h
  obtain ⟨h1,rfl,rfl⟩ := h
  refine ⟨rfl,[.int .i64 i],.string (g_itoa i),rfl,rfl,?_⟩
  obtain ⟨k,rfl⟩:∃ k:Nat,i = (k:Int) := ⟨i.toNat,by omega⟩
  exact Calls.mono (Tryz.strconv_Itoa_small k (by omega) w) (fun e w' h => ⟨by rw [h.1]; rfl,by rw [h.2]; exact RowKit.Below.refl _ _⟩)
 ·cases h
noncomputable def Ei_named:Env where
 tt := mkTI Tryz.prog
 fn := fun f => match f with
  | 99 => some (msstrconv_Itoa,FSem.wk msstrconv_Itoa Fstrconv_Itoa)
  | _ => none
 bxf := fun _ => none
 mv := []
 keep := fun _ => []
 keepB := fun _ => []
 keepX := fun _ => []
 keepXB := fun _ => []
theorem goodFi_named:∀ f ms F,Ei_named.fn f = some (ms,F) → Sound Tryz.prog f ms F := fun f ms F h => by
 unfold Ei_named at h
 dsimp only at h
 split at h
 ·injection h with h; injection h with e1 e2; subst e1 e2; exact Sound.wk sstrconv_Itoa
 ·cases h
theorem goodBi_named:∀ f ms F,Ei_named.bxf f = some (ms,F) → SoundB Tryz.prog f ms F := fun f ms F h => by cases h
theorem goodi_named:Good Tryz.prog Ei_named := ⟨rfl,goodFi_named,goodBi_named⟩
noncomputable def Oi_named_0:Orc := fun _ _ => none
noncomputable def msi_named:List PM := [.own,.own]
noncomputable def lsi_named:List (Nat×Code) := loopsAll 0 (Tryz.f51.body.getD .skip)
theorem ki_named_0:OrcOk Ei_named Oi_named_0 lsi_named 0 := orcOk_none
noncomputable def g_Ai_named (a0:ByteArray) (a1:Int):Bool := decide ((0:Int) ≤ a1 ∧ a1 < (100:Int))&&decide (ByteArray.size a0 + ByteArray.size (g_itoa a1) ≤ nat_lit 9223372036854775807)
noncomputable def g_Vi_named_0 (a0:ByteArray) (a1:Int):ByteArray := a0 ++ g_itoa a1
noncomputable def Fi_named:FSem := fun ys => match ys with
 | [.val false [.str a0],.val false [.int .i64 a1]] => some ((g_Ai_named a0 a1),.val false [.str (g_Vi_named_0 a0 a1)],[])
 | _ => none
theorem vi_named (a0:ByteArray) (a1:Int):collapseH .std Ei_named Oi_named_0 (execFn Ei_named Tryz.f51 msi_named [.val false [.str a0],.val false [.int .i64 a1]]) = some ((g_Ai_named a0 a1),.val false [.str (g_Vi_named_0 a0 a1)],[]) := by kernel_rfl
theorem si_named:Sound Tryz.prog 51 msi_named Fi_named := by
 refine fn_gen goodi_named (by kernel_rfl) .std (fn := Tryz.f51) (c := (Tryz.f51.body.getD .skip)) (o := Oi_named_0) (k := 0) (by kernel_rfl) (by kernel_rfl) (by kernel_rfl) (by kernel_rfl) (by decide) ki_named_0 ?_
 intro ys r outs h
 unfold Fi_named at h
 split at h
 ·exact (vi_named _ _).trans h
 ·cases h
noncomputable def Ei_refused:Env where
 tt := mkTI Tryz.prog
 fn := fun _ => none
 bxf := fun _ => none
 mv := []
 keep := fun _ => []
 keepB := fun _ => []
 keepX := fun _ => []
 keepXB := fun _ => []
theorem goodFi_refused:∀ f ms F,Ei_refused.fn f = some (ms,F) → Sound Tryz.prog f ms F := fun f ms F h => by cases h
theorem goodBi_refused:∀ f ms F,Ei_refused.bxf f = some (ms,F) → SoundB Tryz.prog f ms F := fun f ms F h => by cases h
theorem goodi_refused:Good Tryz.prog Ei_refused := ⟨rfl,goodFi_refused,goodBi_refused⟩
noncomputable def Oi_refused_0:Orc := fun _ _ => none
noncomputable def msi_refused:List PM := [.own]
noncomputable def lsi_refused:List (Nat×Code) := loopsAll 0 (Tryz.f53.body.getD .skip)
theorem ki_refused_0:OrcOk Ei_refused Oi_refused_0 lsi_refused 0 := orcOk_none
noncomputable def g_Vi_refused_0 (a0:List ByteArray):List (ByteArray×(Bool×(List Int))) := []
noncomputable def Fi_refused:FSem := fun ys => match ys with
 | [.val false [.own .any true 9 .str a0]] => some (true,.val true [.bool false,.own .any true 9 .str a0,.own .any true 39 (.pair .str (.pair .bool (.sl 3 (.int .i64)))) (g_Vi_refused_0 a0)],[])
 | _ => none
theorem vi_refused (a0:List ByteArray):collapseH .std Ei_refused Oi_refused_0 (execFn Ei_refused Tryz.f53 msi_refused [.val false [.own .any true 9 .str a0]]) = some (true,.val true [.bool false,.own .any true 9 .str a0,.own .any true 39 (.pair .str (.pair .bool (.sl 3 (.int .i64)))) (g_Vi_refused_0 a0)],[]) := by kernel_rfl
theorem si_refused:Sound Tryz.prog 53 msi_refused Fi_refused := by
 refine fn_gen goodi_refused (by kernel_rfl) .std (fn := Tryz.f53) (c := (Tryz.f53.body.getD .skip)) (o := Oi_refused_0) (k := 0) (by kernel_rfl) (by kernel_rfl) (by kernel_rfl) (by kernel_rfl) (by decide) ki_refused_0 ?_
 intro ys r outs h
 unfold Fi_refused at h
 split at h
 ·exact (vi_refused _).trans h
 ·cases h
noncomputable def Ei_set:Env where
 tt := mkTI Tryz.prog
 fn := fun _ => none
 bxf := fun _ => none
 mv := []
 keep := fun _ => []
 keepB := fun _ => []
 keepX := fun _ => []
 keepXB := fun _ => []
theorem goodFi_set:∀ f ms F,Ei_set.fn f = some (ms,F) → Sound Tryz.prog f ms F := fun f ms F h => by cases h
theorem goodBi_set:∀ f ms F,Ei_set.bxf f = some (ms,F) → SoundB Tryz.prog f ms F := fun f ms F h => by cases h
theorem goodi_set:Good Tryz.prog Ei_set := ⟨rfl,goodFi_set,goodBi_set⟩
noncomputable def Oi_set_0:Orc := fun _ _ => none
noncomputable def msi_set:List PM := [.own,.own]
noncomputable def lsi_set:List (Nat×Code) := loopsAll 0 (Tryz.f55.body.getD .skip)
theorem ki_set_0:OrcOk Ei_set Oi_set_0 lsi_set 0 := orcOk_none
noncomputable def Fi_set:FSem := fun ys => match ys with
 | [.val false [.str a0],.val false [.own .any true 3 (.int .i64) a1]] => some (true,.val true [.str a0,.bool false,.own .any true 3 (.int .i64) a1],[])
 | _ => none
theorem vi_set (a0:ByteArray) (a1:List Int):collapseH .std Ei_set Oi_set_0 (execFn Ei_set Tryz.f55 msi_set [.val false [.str a0],.val false [.own .any true 3 (.int .i64) a1]]) = some (true,.val true [.str a0,.bool false,.own .any true 3 (.int .i64) a1],[]) := by kernel_rfl
theorem si_set:Sound Tryz.prog 55 msi_set Fi_set := by
 refine fn_gen goodi_set (by kernel_rfl) .std (fn := Tryz.f55) (c := (Tryz.f55.body.getD .skip)) (o := Oi_set_0) (k := 0) (by kernel_rfl) (by kernel_rfl) (by kernel_rfl) (by kernel_rfl) (by decide) ki_set_0 ?_
 intro ys r outs h
 unfold Fi_set at h
 split at h
 ·exact (vi_set _ _).trans h
 ·cases h
noncomputable def Ei_atIn:Env where
 tt := mkTI Tryz.prog
 fn := fun f => match f with
  | 51 => some (msi_named,FSem.wk msi_named Fi_named)
  | 52 => some (msi_StoStore_get,FSem.wk msi_StoStore_get Fi_StoStore_get)
  | 53 => some (msi_refused,FSem.wk msi_refused Fi_refused)
  | 54 => some (msi_done,FSem.wk msi_done Fi_done)
  | 55 => some (msi_set,FSem.wk msi_set Fi_set)
  | _ => none
 bxf := fun _ => none
 mv := []
 keep := fun _ => []
 keepB := fun _ => []
 keepX := fun _ => []
 keepXB := fun _ => []
theorem goodFi_atIn:∀ f ms F,Ei_atIn.fn f = some (ms,F) → Sound Tryz.prog f ms F := fun f ms F h => by
 unfold Ei_atIn at h
 dsimp only at h
 split at h
 ·injection h with h; injection h with e1 e2; subst e1 e2; exact Sound.wk si_named
 ·injection h with h; injection h with e1 e2; subst e1 e2; exact Sound.wk si_StoStore_get
 ·injection h with h; injection h with e1 e2; subst e1 e2; exact Sound.wk si_refused
 ·injection h with h; injection h with e1 e2; subst e1 e2; exact Sound.wk si_done
 ·injection h with h; injection h with e1 e2; subst e1 e2; exact Sound.wk si_set
 ·cases h
theorem goodBi_atIn:∀ f ms F,Ei_atIn.bxf f = some (ms,F) → SoundB Tryz.prog f ms F := fun f ms F h => by cases h
theorem goodi_atIn:Good Tryz.prog Ei_atIn := ⟨rfl,goodFi_atIn,goodBi_atIn⟩
noncomputable def Oi_atIn_0:Orc := fun _ _ => none
noncomputable def msi_atIn:List PM := [.rd,.own]
noncomputable def lsi_atIn:List (Nat×Code) := loopsAll 0 (Tryz.f49.body.getD .skip)
theorem ki_atIn_0:OrcOk Ei_atIn Oi_atIn_0 lsi_atIn 0 := orcOk_none
noncomputable def g_Ai_atIn (a0:List (ByteArray×(List Int))) (a1:Int) (a2:Int) (a3:Int) (a4:Int) (a5:Int) (a6:Int) (a7:Int):Bool := g_Ai_named (lit [(115:Nat)]) a3&&(g_Ai_StoStore_get a0 (g_Vi_named_0 (lit [(115:Nat)]) a3)&&bif a1 == (1:Int) then bif !g_Vi_StoStore_get_0 a0 (g_Vi_named_0 (lit [(115:Nat)]) a3) then true else true else bif g_Vi_StoStore_get_0 a0 (g_Vi_named_0 (lit [(115:Nat)]) a3) then true else decide ((0:Int) ≤ (0:Int) ∧ (0:Int) < (↑(List.length (g_Vi_StoStore_get_1 a0 (g_Vi_named_0 (lit [(115:Nat)]) a3))):Int))&&(decide (nat_lit 0 < List.length (g_Vi_StoStore_get_1 a0 (g_Vi_named_0 (lit [(115:Nat)]) a3)))&&bif at_ (Ty.int IntKind.i64) (g_Vi_StoStore_get_1 a0 (g_Vi_named_0 (lit [(115:Nat)]) a3)) (nat_lit 0) != a2 then true else bif a1 == (5:Int) then true else true))
noncomputable def g_Vi_atIn_0 (a0:List (ByteArray×(List Int))) (a1:Int) (a2:Int) (a3:Int) (a4:Int) (a5:Int) (a6:Int) (a7:Int):Bool := bif a1 == (1:Int) then bif !g_Vi_StoStore_get_0 a0 (g_Vi_named_0 (lit [(115:Nat)]) a3) then false else true else bif g_Vi_StoStore_get_0 a0 (g_Vi_named_0 (lit [(115:Nat)]) a3) then false else bif at_ (Ty.int IntKind.i64) (g_Vi_StoStore_get_1 a0 (g_Vi_named_0 (lit [(115:Nat)]) a3)) (nat_lit 0) != a2 then false else bif a1 == (5:Int) then true else true
noncomputable def g_Vi_atIn_1 (a0:List (ByteArray×(List Int))) (a1:Int) (a2:Int) (a3:Int) (a4:Int) (a5:Int) (a6:Int) (a7:Int):List ByteArray := bif a1 == (1:Int) then bif !g_Vi_StoStore_get_0 a0 (g_Vi_named_0 (lit [(115:Nat)]) a3) then [g_Vi_named_0 (lit [(115:Nat)]) a3] else [g_Vi_named_0 (lit [(115:Nat)]) a3] else bif g_Vi_StoStore_get_0 a0 (g_Vi_named_0 (lit [(115:Nat)]) a3) then [g_Vi_named_0 (lit [(115:Nat)]) a3] else bif at_ (Ty.int IntKind.i64) (g_Vi_StoStore_get_1 a0 (g_Vi_named_0 (lit [(115:Nat)]) a3)) (nat_lit 0) != a2 then [g_Vi_named_0 (lit [(115:Nat)]) a3] else bif a1 == (5:Int) then [g_Vi_named_0 (lit [(115:Nat)]) a3] else [g_Vi_named_0 (lit [(115:Nat)]) a3]
noncomputable def g_Vi_atIn_2 (a0:List (ByteArray×(List Int))) (a1:Int) (a2:Int) (a3:Int) (a4:Int) (a5:Int) (a6:Int) (a7:Int):List (ByteArray×(Bool×(List Int))) := bif a1 == (1:Int) then bif !g_Vi_StoStore_get_0 a0 (g_Vi_named_0 (lit [(115:Nat)]) a3) then g_Vi_refused_0 [g_Vi_named_0 (lit [(115:Nat)]) a3] else [(g_Vi_named_0 (lit [(115:Nat)]) a3,false,[a2])] else bif g_Vi_StoStore_get_0 a0 (g_Vi_named_0 (lit [(115:Nat)]) a3) then g_Vi_refused_0 [g_Vi_named_0 (lit [(115:Nat)]) a3] else bif at_ (Ty.int IntKind.i64) (g_Vi_StoStore_get_1 a0 (g_Vi_named_0 (lit [(115:Nat)]) a3)) (nat_lit 0) != a2 then g_Vi_refused_0 [g_Vi_named_0 (lit [(115:Nat)]) a3] else bif a1 == (5:Int) then [(g_Vi_named_0 (lit [(115:Nat)]) a3,true,[])] else []
noncomputable def Fi_atIn:FSem := fun ys => match ys with
 | [.val true [.sl .any 49 (.pair .str (.sl 3 (.int .i64))) a0],.val true [.int .i64 a1,.int .i64 a2,.int .i64 a3,.int .i64 a4,.int .i64 a5,.int .i64 a6,.int .i64 a7]] => some ((g_Ai_atIn a0 a1 a2 a3 a4 a5 a6 a7),.val true [.bool (g_Vi_atIn_0 a0 a1 a2 a3 a4 a5 a6 a7),.own .any true 9 .str (g_Vi_atIn_1 a0 a1 a2 a3 a4 a5 a6 a7),.own .any true 39 (.pair .str (.pair .bool (.sl 3 (.int .i64)))) (g_Vi_atIn_2 a0 a1 a2 a3 a4 a5 a6 a7)],[])
 | _ => none
theorem vi_atIn (a0:List (ByteArray×(List Int))) (a1:Int) (a2:Int) (a3:Int) (a4:Int) (a5:Int) (a6:Int) (a7:Int):collapseH .std Ei_atIn Oi_atIn_0 (execFn Ei_atIn Tryz.f49 msi_atIn [.val true [.sl .any 49 (.pair .str (.sl 3 (.int .i64))) a0],.val true [.int .i64 a1,.int .i64 a2,.int .i64 a3,.int .i64 a4,.int .i64 a5,.int .i64 a6,.int .i64 a7]]) = some ((g_Ai_atIn a0 a1 a2 a3 a4 a5 a6 a7),.val true [.bool (g_Vi_atIn_0 a0 a1 a2 a3 a4 a5 a6 a7),.own .any true 9 .str (g_Vi_atIn_1 a0 a1 a2 a3 a4 a5 a6 a7),.own .any true 39 (.pair .str (.pair .bool (.sl 3 (.int .i64)))) (g_Vi_atIn_2 a0 a1 a2 a3 a4 a5 a6 a7)],[]) := by kernel_rfl
theorem si_atIn:Sound Tryz.prog 49 msi_atIn Fi_atIn := by
 refine fn_gen goodi_atIn (by kernel_rfl) .std (fn := Tryz.f49) (c := (Tryz.f49.body.getD .skip)) (o := Oi_atIn_0) (k := 0) (by kernel_rfl) (by kernel_rfl) (by kernel_rfl) (by kernel_rfl) (by decide) ki_atIn_0 ?_
 intro ys r outs h
 unfold Fi_atIn at h
 split at h
 ·exact (vi_atIn _ _ _ _ _ _ _ _).trans h
 ·cases h
noncomputable def Ei_SecSum:Env where
 tt := mkTI Tryz.prog
 fn := fun f => match f with
  | 64 => some (msi_in,FSem.wk msi_in Fi_in)
  | _ => none
 bxf := fun _ => none
 mv := []
 keep := fun _ => []
 keepB := fun _ => []
 keepX := fun _ => []
 keepXB := fun _ => []
theorem goodFi_SecSum:∀ f ms F,Ei_SecSum.fn f = some (ms,F) → Sound Tryz.prog f ms F := fun f ms F h => by
 unfold Ei_SecSum at h
 dsimp only at h
 split at h
 ·injection h with h; injection h with e1 e2; subst e1 e2; exact Sound.wk si_in
 ·cases h
theorem goodBi_SecSum:∀ f ms F,Ei_SecSum.bxf f = some (ms,F) → SoundB Tryz.prog f ms F := fun f ms F h => by cases h
theorem goodi_SecSum:Good Tryz.prog Ei_SecSum := ⟨rfl,goodFi_SecSum,goodBi_SecSum⟩
noncomputable def Oi_SecSum_0:Orc := fun _ _ => none
noncomputable def msi_SecSum:List PM := [.own]
noncomputable def lsi_SecSum:List (Nat×Code) := loopsAll 0 (Tryz.f21.body.getD .skip)
theorem ki_SecSum_0:OrcOk Ei_SecSum Oi_SecSum_0 lsi_SecSum 0 := orcOk_none
noncomputable def g_Ai_SecSum (a0:Int):Bool := g_Ai_in a0 (0:Int) (99:Int)&&(!g_Vi_in_0 a0 (0:Int) (99:Int) || true)
noncomputable def g_Vi_SecSum_0 (a0:Int):Int := bif !g_Vi_in_0 a0 (0:Int) (99:Int) then (-1:Int) else Int.tmod (IntKind.wrap IntKind.i64 (IntKind.wrap IntKind.i64 ((7919:Int) * a0) + (104:Int))) (9973:Int)
noncomputable def Fi_SecSum:FSem := fun ys => match ys with
 | [.val false [.int .i64 a0]] => some ((g_Ai_SecSum a0),.val false [.int .i64 (g_Vi_SecSum_0 a0)],[])
 | _ => none
theorem vi_SecSum (a0:Int):collapseH .std Ei_SecSum Oi_SecSum_0 (execFn Ei_SecSum Tryz.f21 msi_SecSum [.val false [.int .i64 a0]]) = some ((g_Ai_SecSum a0),.val false [.int .i64 (g_Vi_SecSum_0 a0)],[]) := by kernel_rfl
theorem si_SecSum:Sound Tryz.prog 21 msi_SecSum Fi_SecSum := by
 refine fn_gen goodi_SecSum (by kernel_rfl) .std (fn := Tryz.f21) (c := (Tryz.f21.body.getD .skip)) (o := Oi_SecSum_0) (k := 0) (by kernel_rfl) (by kernel_rfl) (by kernel_rfl) (by kernel_rfl) (by decide) ki_SecSum_0 ?_
 intro ys r outs h
 unfold Fi_SecSum at h
 split at h
 ·exact (vi_SecSum _).trans h
 ·cases h
noncomputable def Ei_next:Env where
 tt := mkTI Tryz.prog
 fn := fun f => match f with
  | 51 => some (msi_named,FSem.wk msi_named Fi_named)
  | 52 => some (msi_StoStore_get,FSem.wk msi_StoStore_get Fi_StoStore_get)
  | 53 => some (msi_refused,FSem.wk msi_refused Fi_refused)
  | 54 => some (msi_done,FSem.wk msi_done Fi_done)
  | 55 => some (msi_set,FSem.wk msi_set Fi_set)
  | 64 => some (msi_in,FSem.wk msi_in Fi_in)
  | _ => none
 bxf := fun _ => none
 mv := []
 keep := fun _ => []
 keepB := fun _ => []
 keepX := fun _ => []
 keepXB := fun _ => []
theorem goodFi_next:∀ f ms F,Ei_next.fn f = some (ms,F) → Sound Tryz.prog f ms F := fun f ms F h => by
 unfold Ei_next at h
 dsimp only at h
 split at h
 ·injection h with h; injection h with e1 e2; subst e1 e2; exact Sound.wk si_named
 ·injection h with h; injection h with e1 e2; subst e1 e2; exact Sound.wk si_StoStore_get
 ·injection h with h; injection h with e1 e2; subst e1 e2; exact Sound.wk si_refused
 ·injection h with h; injection h with e1 e2; subst e1 e2; exact Sound.wk si_done
 ·injection h with h; injection h with e1 e2; subst e1 e2; exact Sound.wk si_set
 ·injection h with h; injection h with e1 e2; subst e1 e2; exact Sound.wk si_in
 ·cases h
theorem goodBi_next:∀ f ms F,Ei_next.bxf f = some (ms,F) → SoundB Tryz.prog f ms F := fun f ms F h => by cases h
theorem goodi_next:Good Tryz.prog Ei_next := ⟨rfl,goodFi_next,goodBi_next⟩
noncomputable def Oi_next_0:Orc := fun _ _ => none
noncomputable def msi_next:List PM := [.rd,.own]
noncomputable def lsi_next:List (Nat×Code) := loopsAll 0 (Tryz.f97.body.getD .skip)
theorem ki_next_0:OrcOk Ei_next Oi_next_0 lsi_next 0 := orcOk_none
noncomputable def g_Ai_next (a0:List (ByteArray×(List Int))) (a1:Int) (a2:Int) (a3:Int) (a4:Int) (a5:Int) (a6:Int) (a7:Int):Bool := g_Ai_named (lit [(102:Nat)]) a6&&(g_Ai_StoStore_get a0 (g_Vi_named_0 (lit [(102:Nat)]) a6)&&bif g_Vi_StoStore_get_0 a0 (g_Vi_named_0 (lit [(102:Nat)]) a6) then true else decide ((0:Int) ≤ (2:Int) ∧ (2:Int) < (↑(List.length (g_Vi_StoStore_get_1 a0 (g_Vi_named_0 (lit [(102:Nat)]) a6))):Int))&&(decide (nat_lit 2 < List.length (g_Vi_StoStore_get_1 a0 (g_Vi_named_0 (lit [(102:Nat)]) a6)))&&bif at_ (Ty.int IntKind.i64) (g_Vi_StoStore_get_1 a0 (g_Vi_named_0 (lit [(102:Nat)]) a6)) (nat_lit 2) == (0:Int) then true else decide ((0:Int) ≤ (1:Int) ∧ (1:Int) < (↑(List.length (g_Vi_StoStore_get_1 a0 (g_Vi_named_0 (lit [(102:Nat)]) a6))):Int))&&(decide (nat_lit 1 < List.length (g_Vi_StoStore_get_1 a0 (g_Vi_named_0 (lit [(102:Nat)]) a6)))&&(g_Ai_in a7 (1:Int) (at_ (Ty.int IntKind.i64) (g_Vi_StoStore_get_1 a0 (g_Vi_named_0 (lit [(102:Nat)]) a6)) (nat_lit 1))&&bif !g_Vi_in_0 a7 (1:Int) (at_ (Ty.int IntKind.i64) (g_Vi_StoStore_get_1 a0 (g_Vi_named_0 (lit [(102:Nat)]) a6)) (nat_lit 1)) then true else decide ((0:Int) ≤ (1:Int) ∧ (1:Int) < (↑(List.length (g_Vi_StoStore_get_1 a0 (g_Vi_named_0 (lit [(102:Nat)]) a6))):Int))&&(decide (nat_lit 1 < List.length (g_Vi_StoStore_get_1 a0 (g_Vi_named_0 (lit [(102:Nat)]) a6)))&&bif at_ (Ty.int IntKind.i64) (g_Vi_StoStore_get_1 a0 (g_Vi_named_0 (lit [(102:Nat)]) a6)) (nat_lit 1) == (99:Int) then true else decide ((0:Int) ≤ (0:Int) ∧ (0:Int) < (↑(List.length (g_Vi_StoStore_get_1 a0 (g_Vi_named_0 (lit [(102:Nat)]) a6))):Int))&&(decide (nat_lit 0 < List.length (g_Vi_StoStore_get_1 a0 (g_Vi_named_0 (lit [(102:Nat)]) a6)))&&(decide ((0:Int) ≤ (1:Int) ∧ (1:Int) < (↑(List.length (g_Vi_StoStore_get_1 a0 (g_Vi_named_0 (lit [(102:Nat)]) a6))):Int))&&(decide (nat_lit 1 < List.length (g_Vi_StoStore_get_1 a0 (g_Vi_named_0 (lit [(102:Nat)]) a6)))&&(decide ((0:Int) ≤ (1:Int) ∧ (1:Int) < (↑(List.length (g_Vi_StoStore_get_1 a0 (g_Vi_named_0 (lit [(102:Nat)]) a6))):Int))&&(decide (nat_lit 1 < List.length (g_Vi_StoStore_get_1 a0 (g_Vi_named_0 (lit [(102:Nat)]) a6)))&&bif decide (a7 < at_ (Ty.int IntKind.i64) (g_Vi_StoStore_get_1 a0 (g_Vi_named_0 (lit [(102:Nat)]) a6)) (nat_lit 1)) then decide ((0:Int) ≤ (0:Int) ∧ (0:Int) < (↑(List.length (g_Vi_StoStore_get_1 a0 (g_Vi_named_0 (lit [(102:Nat)]) a6))):Int))&&(decide (nat_lit 0 < List.length (g_Vi_StoStore_get_1 a0 (g_Vi_named_0 (lit [(102:Nat)]) a6)))&&(decide ((0:Int) ≤ (1:Int) ∧ (1:Int) < (↑(List.length (g_Vi_StoStore_get_1 a0 (g_Vi_named_0 (lit [(102:Nat)]) a6))):Int))&&(decide (nat_lit 1 < List.length (g_Vi_StoStore_get_1 a0 (g_Vi_named_0 (lit [(102:Nat)]) a6)))&&(decide ((0:Int) ≤ (0:Int) ∧ (0:Int) < (↑(List.length (g_Vi_StoStore_get_1 a0 (g_Vi_named_0 (lit [(102:Nat)]) a6))):Int))&&(decide (nat_lit 0 < List.length (g_Vi_StoStore_get_1 a0 (g_Vi_named_0 (lit [(102:Nat)]) a6)))&&(g_Ai_named (lit [(117:Nat)]) (at_ (Ty.int IntKind.i64) (g_Vi_StoStore_get_1 a0 (g_Vi_named_0 (lit [(102:Nat)]) a6)) (nat_lit 0))&&true)))))) else decide ((0:Int) ≤ (0:Int) ∧ (0:Int) < (↑(List.length (g_Vi_StoStore_get_1 a0 (g_Vi_named_0 (lit [(102:Nat)]) a6))):Int))&&(decide (nat_lit 0 < List.length (g_Vi_StoStore_get_1 a0 (g_Vi_named_0 (lit [(102:Nat)]) a6)))&&(g_Ai_named (lit [(117:Nat)]) (at_ (Ty.int IntKind.i64) (g_Vi_StoStore_get_1 a0 (g_Vi_named_0 (lit [(102:Nat)]) a6)) (nat_lit 0))&&true))))))))))))
noncomputable def g_Vi_next_0 (a0:List (ByteArray×(List Int))) (a1:Int) (a2:Int) (a3:Int) (a4:Int) (a5:Int) (a6:Int) (a7:Int):Bool := bif g_Vi_StoStore_get_0 a0 (g_Vi_named_0 (lit [(102:Nat)]) a6) then false else bif at_ (Ty.int IntKind.i64) (g_Vi_StoStore_get_1 a0 (g_Vi_named_0 (lit [(102:Nat)]) a6)) (nat_lit 2) == (0:Int) then false else bif !g_Vi_in_0 a7 (1:Int) (at_ (Ty.int IntKind.i64) (g_Vi_StoStore_get_1 a0 (g_Vi_named_0 (lit [(102:Nat)]) a6)) (nat_lit 1)) then false else bif at_ (Ty.int IntKind.i64) (g_Vi_StoStore_get_1 a0 (g_Vi_named_0 (lit [(102:Nat)]) a6)) (nat_lit 1) == (99:Int) then false else bif decide (a7 < at_ (Ty.int IntKind.i64) (g_Vi_StoStore_get_1 a0 (g_Vi_named_0 (lit [(102:Nat)]) a6)) (nat_lit 1)) then true else true
noncomputable def g_Vi_next_1 (a0:List (ByteArray×(List Int))) (a1:Int) (a2:Int) (a3:Int) (a4:Int) (a5:Int) (a6:Int) (a7:Int):List ByteArray := bif g_Vi_StoStore_get_0 a0 (g_Vi_named_0 (lit [(102:Nat)]) a6) then [g_Vi_named_0 (lit [(102:Nat)]) a6] else bif at_ (Ty.int IntKind.i64) (g_Vi_StoStore_get_1 a0 (g_Vi_named_0 (lit [(102:Nat)]) a6)) (nat_lit 2) == (0:Int) then [g_Vi_named_0 (lit [(102:Nat)]) a6] else bif !g_Vi_in_0 a7 (1:Int) (at_ (Ty.int IntKind.i64) (g_Vi_StoStore_get_1 a0 (g_Vi_named_0 (lit [(102:Nat)]) a6)) (nat_lit 1)) then [g_Vi_named_0 (lit [(102:Nat)]) a6] else bif at_ (Ty.int IntKind.i64) (g_Vi_StoStore_get_1 a0 (g_Vi_named_0 (lit [(102:Nat)]) a6)) (nat_lit 1) == (99:Int) then [g_Vi_named_0 (lit [(102:Nat)]) a6] else bif decide (a7 < at_ (Ty.int IntKind.i64) (g_Vi_StoStore_get_1 a0 (g_Vi_named_0 (lit [(102:Nat)]) a6)) (nat_lit 1)) then [g_Vi_named_0 (lit [(102:Nat)]) a6,g_Vi_named_0 (lit [(117:Nat)]) (at_ (Ty.int IntKind.i64) (g_Vi_StoStore_get_1 a0 (g_Vi_named_0 (lit [(102:Nat)]) a6)) (nat_lit 0))] else [g_Vi_named_0 (lit [(102:Nat)]) a6,g_Vi_named_0 (lit [(117:Nat)]) (at_ (Ty.int IntKind.i64) (g_Vi_StoStore_get_1 a0 (g_Vi_named_0 (lit [(102:Nat)]) a6)) (nat_lit 0))]
noncomputable def g_Vi_next_2 (a0:List (ByteArray×(List Int))) (a1:Int) (a2:Int) (a3:Int) (a4:Int) (a5:Int) (a6:Int) (a7:Int):List (ByteArray×(Bool×(List Int))) := bif g_Vi_StoStore_get_0 a0 (g_Vi_named_0 (lit [(102:Nat)]) a6) then g_Vi_refused_0 [g_Vi_named_0 (lit [(102:Nat)]) a6] else bif at_ (Ty.int IntKind.i64) (g_Vi_StoStore_get_1 a0 (g_Vi_named_0 (lit [(102:Nat)]) a6)) (nat_lit 2) == (0:Int) then g_Vi_refused_0 [g_Vi_named_0 (lit [(102:Nat)]) a6] else bif !g_Vi_in_0 a7 (1:Int) (at_ (Ty.int IntKind.i64) (g_Vi_StoStore_get_1 a0 (g_Vi_named_0 (lit [(102:Nat)]) a6)) (nat_lit 1)) then g_Vi_refused_0 [g_Vi_named_0 (lit [(102:Nat)]) a6] else bif at_ (Ty.int IntKind.i64) (g_Vi_StoStore_get_1 a0 (g_Vi_named_0 (lit [(102:Nat)]) a6)) (nat_lit 1) == (99:Int) then g_Vi_refused_0 [g_Vi_named_0 (lit [(102:Nat)]) a6] else bif decide (a7 < at_ (Ty.int IntKind.i64) (g_Vi_StoStore_get_1 a0 (g_Vi_named_0 (lit [(102:Nat)]) a6)) (nat_lit 1)) then [(g_Vi_named_0 (lit [(102:Nat)]) a6,false,[at_ (Ty.int IntKind.i64) (g_Vi_StoStore_get_1 a0 (g_Vi_named_0 (lit [(102:Nat)]) a6)) (nat_lit 0),at_ (Ty.int IntKind.i64) (g_Vi_StoStore_get_1 a0 (g_Vi_named_0 (lit [(102:Nat)]) a6)) (nat_lit 1),(0:Int)])] else [(g_Vi_named_0 (lit [(102:Nat)]) a6,false,[at_ (Ty.int IntKind.i64) (g_Vi_StoStore_get_1 a0 (g_Vi_named_0 (lit [(102:Nat)]) a6)) (nat_lit 0),IntKind.wrap IntKind.i64 (at_ (Ty.int IntKind.i64) (g_Vi_StoStore_get_1 a0 (g_Vi_named_0 (lit [(102:Nat)]) a6)) (nat_lit 1) + (1:Int)),(1:Int)])]
noncomputable def Fi_next:FSem := fun ys => match ys with
 | [.val true [.sl .any 49 (.pair .str (.sl 3 (.int .i64))) a0],.val true [.int .i64 a1,.int .i64 a2,.int .i64 a3,.int .i64 a4,.int .i64 a5,.int .i64 a6,.int .i64 a7]] => some ((g_Ai_next a0 a1 a2 a3 a4 a5 a6 a7),.val true [.bool (g_Vi_next_0 a0 a1 a2 a3 a4 a5 a6 a7),.own .any true 9 .str (g_Vi_next_1 a0 a1 a2 a3 a4 a5 a6 a7),.own .any true 39 (.pair .str (.pair .bool (.sl 3 (.int .i64)))) (g_Vi_next_2 a0 a1 a2 a3 a4 a5 a6 a7)],[])
 | _ => none
theorem vi_next (a0:List (ByteArray×(List Int))) (a1:Int) (a2:Int) (a3:Int) (a4:Int) (a5:Int) (a6:Int) (a7:Int):collapseH .std Ei_next Oi_next_0 (execFn Ei_next Tryz.f97 msi_next [.val true [.sl .any 49 (.pair .str (.sl 3 (.int .i64))) a0],.val true [.int .i64 a1,.int .i64 a2,.int .i64 a3,.int .i64 a4,.int .i64 a5,.int .i64 a6,.int .i64 a7]]) = some ((g_Ai_next a0 a1 a2 a3 a4 a5 a6 a7),.val true [.bool (g_Vi_next_0 a0 a1 a2 a3 a4 a5 a6 a7),.own .any true 9 .str (g_Vi_next_1 a0 a1 a2 a3 a4 a5 a6 a7),.own .any true 39 (.pair .str (.pair .bool (.sl 3 (.int .i64)))) (g_Vi_next_2 a0 a1 a2 a3 a4 a5 a6 a7)],[]) := by kernel_rfl
theorem si_next:Sound Tryz.prog 97 msi_next Fi_next := by
 refine fn_gen goodi_next (by kernel_rfl) .std (fn := Tryz.f97) (c := (Tryz.f97.body.getD .skip)) (o := Oi_next_0) (k := 0) (by kernel_rfl) (by kernel_rfl) (by kernel_rfl) (by kernel_rfl) (by decide) ki_next_0 ?_
 intro ys r outs h
 unfold Fi_next at h
 split at h
 ·exact (vi_next _ _ _ _ _ _ _ _).trans h
 ·cases h
noncomputable def Ei_out:Env where
 tt := mkTI Tryz.prog
 fn := fun f => match f with
  | 51 => some (msi_named,FSem.wk msi_named Fi_named)
  | 54 => some (msi_done,FSem.wk msi_done Fi_done)
  | 55 => some (msi_set,FSem.wk msi_set Fi_set)
  | _ => none
 bxf := fun _ => none
 mv := []
 keep := fun b => match b with
  | 0 => [(3,false),(4,false),(5,false),(14,false),(15,false),(16,false)]
  | _ => []
 keepB := fun b => match b with
  | 0 => [(3,false),(4,false),(5,false)]
  | _ => []
 keepX := fun b => match b with
  | 0 => [(4,false),(5,false)]
  | _ => []
 keepXB := fun b => match b with
  | 0 => [(4,false),(5,false)]
  | _ => []
theorem goodFi_out:∀ f ms F,Ei_out.fn f = some (ms,F) → Sound Tryz.prog f ms F := fun f ms F h => by
 unfold Ei_out at h
 dsimp only at h
 split at h
 ·injection h with h; injection h with e1 e2; subst e1 e2; exact Sound.wk si_named
 ·injection h with h; injection h with e1 e2; subst e1 e2; exact Sound.wk si_done
 ·injection h with h; injection h with e1 e2; subst e1 e2; exact Sound.wk si_set
 ·cases h
theorem goodBi_out:∀ f ms F,Ei_out.bxf f = some (ms,F) → SoundB Tryz.prog f ms F := fun f ms F h => by cases h
theorem goodi_out:Good Tryz.prog Ei_out := ⟨rfl,goodFi_out,goodBi_out⟩
noncomputable def Oi_out_0:Orc := fun _ _ => none
noncomputable def msi_out:List PM := [.rd,.own]
noncomputable def lsi_out:List (Nat×Code) := loopsAll 0 (Tryz.f98.body.getD .skip)
noncomputable def ci_out_0:Code := (loopOf 0 (Tryz.f98.body.getD .skip)).getD .skip
theorem lseqi_out:lsi_out = [(0,ci_out_0)] := by kernel_rfl
theorem mi_out_0:∀ p,p ∈ lsi_out → p.1 = 0 → p.2 = ci_out_0 := by
 intro p hp
 rw [lseqi_out] at hp
 simp only [List.mem_cons,List.not_mem_nil,or_false] at hp
 subst hp; simp
theorem ki_out_0:OrcOk Ei_out Oi_out_0 lsi_out 0 := orcOk_none
noncomputable def hi_out_0 (y0:List (ByteArray×(List Int))) (y1:Int) (y2:Int) (y3:Int) (y4:Int) (y5:Int) (y6:Int) (y7:Int) (y8:Int) (y9:Int) (y10:Bool) (y11:List ByteArray) (y12:List (ByteArray×(Bool×(List Int)))) (y13:Bool) (y14:List ByteArray) (y15:List (ByteArray×(Bool×(List Int)))):List (Pl×LV) := [(.T 3,.t (.val false [.ptr 3 0 0])),(.T 4,.t (.val false [.ptr 4 0 0])),(.T 5,.t (.val false [.ptr 5 0 0])),(.T 14,.t (.val false [.sl .any 49 (.pair .str (.sl 3 (.int .i64))) y0])),(.T 15,.t (.val false [.int .i64 y1])),(.T 16,.t (.val false [.int .i64 y2])),(.B 3,.b 0 false [.int .i64 y3,.int .i64 y4,.int .i64 y5,.int .i64 y6,.int .i64 y7,.int .i64 y8,.int .i64 y9]),(.B 4,.b 0 false [.bool y10,.row 4 3 0,.row 4 5 0]),(.R 4 3,.r 0 (some ⟨false,.any,true,9,.str,y11⟩)),(.R 4 5,.r 0 (some ⟨false,.any,true,39,(.pair .str (.pair .bool (.sl 3 (.int .i64)))),y12⟩)),(.B 5,.b 0 false [.bool y13,.row 5 3 0,.row 5 5 0]),(.R 5 3,.r 0 (some ⟨false,.any,true,9,.str,y14⟩)),(.R 5 5,.r 0 (some ⟨false,.any,true,39,(.pair .str (.pair .bool (.sl 3 (.int .i64)))),y15⟩))]
noncomputable def g_Si_out_0 (y0:List (ByteArray×(List Int))) (y1:Int) (y3:Int) (y4:Int) (y5:Int) (y6:Int) (y7:Int) (y8:Int) (y9:Int) (y10:Bool) (y11:List ByteArray) (y12:List (ByteArray×(Bool×(List Int)))) (y13:Bool):(Int×(List ByteArray)×(List (ByteArray×(Bool×(List Int))))) → RT (Int×(List ByteArray)×(List (ByteArray×(Bool×(List Int))))) (((List ByteArray)×(List (ByteArray×(Bool×(List Int))))))
 | (y2,y14,y15) => .br (true) (.br (decide (y2 < y1)) (.br (decide ((0:Int) ≤ y2 ∧ y2 < (↑(List.length y0):Int))) (.br (decide ((0:Int) ≤ (0:Int) ∧ (0:Int) < (↑(ByteArray.size (at_ (Ty.pair Ty.str (Ty.sl (nat_lit 3) (Ty.int IntKind.i64))) y0 (Int.toNat y2)).1):Int))) (.br (true) (.br (byteAt (at_ (Ty.pair Ty.str (Ty.sl (nat_lit 3) (Ty.int IntKind.i64))) y0 (Int.toNat y2)).1 (nat_lit 0) == (102:Int)) (.br (decide ((0:Int) ≤ (0:Int) ∧ (0:Int) < (↑(List.length (at_ (Ty.pair Ty.str (Ty.sl (nat_lit 3) (Ty.int IntKind.i64))) y0 (Int.toNat y2)).2):Int))) (.br (true) (.br (at_ (Ty.int IntKind.i64) (at_ (Ty.pair Ty.str (Ty.sl (nat_lit 3) (Ty.int IntKind.i64))) y0 (Int.toNat y2)).2 (nat_lit 0) == y4) (.br (decide ((0:Int) ≤ (2:Int) ∧ (2:Int) < (↑(List.length (at_ (Ty.pair Ty.str (Ty.sl (nat_lit 3) (Ty.int IntKind.i64))) y0 (Int.toNat y2)).2):Int))) (.br (true) (.br (at_ (Ty.int IntKind.i64) (at_ (Ty.pair Ty.str (Ty.sl (nat_lit 3) (Ty.int IntKind.i64))) y0 (Int.toNat y2)).2 (nat_lit 2) == (1:Int)) (.br (decide ((List.length y14 + List.length [(at_ (Ty.pair Ty.str (Ty.sl (nat_lit 3) (Ty.int IntKind.i64))) y0 (Int.toNat y2)).1]) * nat_lit 16 ≤ nat_lit 140737488355328 ∧ List.length y14 + List.length [(at_ (Ty.pair Ty.str (Ty.sl (nat_lit 3) (Ty.int IntKind.i64))) y0 (Int.toNat y2)).1] ≤ nat_lit 9223372036854775807)) (.br (decide ((0:Int) ≤ (1:Int) ∧ (1:Int) < (↑(List.length (at_ (Ty.pair Ty.str (Ty.sl (nat_lit 3) (Ty.int IntKind.i64))) y0 (Int.toNat y2)).2):Int))) (.br (true) (.br (decide ((List.length y15 + List.length [((at_ (Ty.pair Ty.str (Ty.sl (nat_lit 3) (Ty.int IntKind.i64))) y0 (Int.toNat y2)).1,false,[y4,at_ (Ty.int IntKind.i64) (at_ (Ty.pair Ty.str (Ty.sl (nat_lit 3) (Ty.int IntKind.i64))) y0 (Int.toNat y2)).2 (nat_lit 1),(0:Int)])]) * nat_lit 48 ≤ nat_lit 140737488355328 ∧ List.length y15 + List.length [((at_ (Ty.pair Ty.str (Ty.sl (nat_lit 3) (Ty.int IntKind.i64))) y0 (Int.toNat y2)).1,false,[y4,at_ (Ty.int IntKind.i64) (at_ (Ty.pair Ty.str (Ty.sl (nat_lit 3) (Ty.int IntKind.i64))) y0 (Int.toNat y2)).2 (nat_lit 1),(0:Int)])] ≤ nat_lit 9223372036854775807)) (.br (true) (.go ((IntKind.wrap IntKind.i64 (y2 + (1:Int)),y14 ++ [(at_ (Ty.pair Ty.str (Ty.sl (nat_lit 3) (Ty.int IntKind.i64))) y0 (Int.toNat y2)).1],y15 ++ [((at_ (Ty.pair Ty.str (Ty.sl (nat_lit 3) (Ty.int IntKind.i64))) y0 (Int.toNat y2)).1,false,[y4,at_ (Ty.int IntKind.i64) (at_ (Ty.pair Ty.str (Ty.sl (nat_lit 3) (Ty.int IntKind.i64))) y0 (Int.toNat y2)).2 (nat_lit 1),(0:Int)])]))) .bad) .bad) .bad) .bad) .bad) (.br (true) (.go ((IntKind.wrap IntKind.i64 (y2 + (1:Int)),y14,y15))) .bad)) .bad) .bad) (.br (true) (.go ((IntKind.wrap IntKind.i64 (y2 + (1:Int)),y14,y15))) .bad)) .bad) .bad) (.br (true) (.go ((IntKind.wrap IntKind.i64 (y2 + (1:Int)),y14,y15))) .bad)) .bad) .bad) .bad) (.out ((y14,y15)))) .bad
noncomputable def g_Li_out_0 (y0:List (ByteArray×(List Int))) (y1:Int) (y3:Int) (y4:Int) (y5:Int) (y6:Int) (y7:Int) (y8:Int) (y9:Int) (y10:Bool) (y11:List ByteArray) (y12:List (ByteArray×(Bool×(List Int)))) (y13:Bool) (x:Int×(List ByteArray)×(List (ByteArray×(Bool×(List Int))))):Option (((List ByteArray)×(List (ByteArray×(Bool×(List Int)))))) := loopO (g_Si_out_0 y0 y1 y3 y4 y5 y6 y7 y8 y9 y10 y11 y12 y13) x
noncomputable def xi_out_0 (y0:List (ByteArray×(List Int))) (y1:Int) (y3:Int) (y4:Int) (y5:Int) (y6:Int) (y7:Int) (y8:Int) (y9:Int) (y10:Bool) (y11:List ByteArray) (y12:List (ByteArray×(Bool×(List Int)))) (y13:Bool):(((List ByteArray)×(List (ByteArray×(Bool×(List Int)))))) → Ex×List (Pl×LV) := fun r => (.exit 0,[(.T 4,.t (.val false [.ptr 4 0 0])),(.T 5,.t (.val false [.ptr 5 0 0])),(.B 4,.b 0 false [.bool y10,.row 4 3 0,.row 4 5 0]),(.R 4 3,.r 0 (some ⟨false,.any,true,9,.str,y11⟩)),(.R 4 5,.r 0 (some ⟨false,.any,true,39,(.pair .str (.pair .bool (.sl 3 (.int .i64)))),y12⟩)),(.B 5,.b 0 false [.bool y13,.row 5 3 0,.row 5 5 0]),(.R 5 3,.r 0 (some ⟨false,.any,true,9,.str,r.1⟩)),(.R 5 5,.r 0 (some ⟨false,.any,true,39,(.pair .str (.pair .bool (.sl 3 (.int .i64)))),r.2⟩))])
noncomputable def Oi_out_1:Orc := fun b h => match b,h with
 | 0,[(.T 3,.t (.val false [.ptr 3 0 0])),(.T 4,.t (.val false [.ptr 4 0 0])),(.T 5,.t (.val false [.ptr 5 0 0])),(.T 14,.t (.val false [.sl .any 49 (.pair .str (.sl 3 (.int .i64))) y0])),(.T 15,.t (.val false [.int .i64 y1])),(.T 16,.t (.val false [.int .i64 y2])),(.B 3,.b 0 false [.int .i64 y3,.int .i64 y4,.int .i64 y5,.int .i64 y6,.int .i64 y7,.int .i64 y8,.int .i64 y9]),(.B 4,.b 0 false [.bool y10,.row 4 3 0,.row 4 5 0]),(.R 4 3,.r 0 (some ⟨false,.any,true,9,.str,y11⟩)),(.R 4 5,.r 0 (some ⟨false,.any,true,39,(.pair .str (.pair .bool (.sl 3 (.int .i64)))),y12⟩)),(.B 5,.b 0 false [.bool y13,.row 5 3 0,.row 5 5 0]),(.R 5 3,.r 0 (some ⟨false,.any,true,9,.str,y14⟩)),(.R 5 5,.r 0 (some ⟨false,.any,true,39,(.pair .str (.pair .bool (.sl 3 (.int .i64)))),y15⟩))] => some (okO (g_Li_out_0 y0 y1 y3 y4 y5 y6 y7 y8 y9 y10 y11 y12 y13 (y2,y14,y15)),(.leaf (.exit 0) [(.T 4,.t (.val false [.ptr 4 0 0])),(.T 5,.t (.val false [.ptr 5 0 0])),(.B 4,.b 0 false [.bool y10,.row 4 3 0,.row 4 5 0]),(.R 4 3,.r 0 (some ⟨false,.any,true,9,.str,y11⟩)),(.R 4 5,.r 0 (some ⟨false,.any,true,39,(.pair .str (.pair .bool (.sl 3 (.int .i64)))),y12⟩)),(.B 5,.b 0 false [.bool y13,.row 5 3 0,.row 5 5 0]),(.R 5 3,.r 0 (some ⟨false,.any,true,9,.str,(valO (g_Li_out_0 y0 y1 y3 y4 y5 y6 y7 y8 y9 y10 y11 y12 y13 (y2,y14,y15))).1⟩)),(.R 5 5,.r 0 (some ⟨false,.any,true,39,(.pair .str (.pair .bool (.sl 3 (.int .i64)))),(valO (g_Li_out_0 y0 y1 y3 y4 y5 y6 y7 y8 y9 y10 y11 y12 y13 (y2,y14,y15))).2⟩))]))
 | b,h => Oi_out_0 b h
theorem bi_out_0 (y0:List (ByteArray×(List Int))) (y1:Int) (y2:Int) (y3:Int) (y4:Int) (y5:Int) (y6:Int) (y7:Int) (y8:Int) (y9:Int) (y10:Bool) (y11:List ByteArray) (y12:List (ByteArray×(Bool×(List Int)))) (y13:Bool) (y14:List ByteArray) (y15:List (ByteArray×(Bool×(List Int)))):Tr.bt Ei_out Oi_out_0 (exec Ei_out 0 ci_out_0 (St.of (hi_out_0 y0 y1 y2 y3 y4 y5 y6 y7 y8 y9 y10 y11 y12 y13 y14 y15)) (leafRd Ei_out 0)) = (g_Si_out_0 y0 y1 y3 y4 y5 y6 y7 y8 y9 y10 y11 y12 y13 (y2,y14,y15)).bt (fun ((y2,y14,y15):Int×(List ByteArray)×(List (ByteArray×(Bool×(List Int))))) => (hi_out_0 y0 y1 y2 y3 y4 y5 y6 y7 y8 y9 y10 y11 y12 y13 y14 y15)) (xi_out_0 y0 y1 y3 y4 y5 y6 y7 y8 y9 y10 y11 y12 y13) := by kernel_rfl
theorem ki_out_1:OrcOk Ei_out Oi_out_1 lsi_out 1 := orc_add ki_out_0 (fun n p hp h ex h' ho => by
 obtain ⟨b,c⟩ := p
 obtain ⟨xt,h1,h2⟩ := ho
 have h1:Oi_out_1 b h = some (true,xt) := h1
 unfold Oi_out_1 at h1
 split at h1
 ·injection h1 with h1
  injection h1 with e1 e2
  subst e2
  have hc:c = ci_out_0 := mi_out_0 _ hp rfl
  subst hc
  right
  rename_i y0 y1 y2 y3 y4 y5 y6 y7 y8 y9 y10 y11 y12 y13 y14 y15
  have key := LT_step ki_out_0 hp (fun q hq => loopsAll_in _ _ _ _ hp hq) (fun ((y2,y14,y15):Int×(List ByteArray)×(List (ByteArray×(Bool×(List Int))))) => (hi_out_0 y0 y1 y2 y3 y4 y5 y6 y7 y8 y9 y10 y11 y12 y13 y14 y15)) (xi_out_0 y0 y1 y3 y4 y5 y6 y7 y8 y9 y10 y11 y12 y13) (g_Si_out_0 y0 y1 y3 y4 y5 y6 y7 y8 y9 y10 y11 y12 y13) (fun x => by first | exact bi_out_0 y0 y1 x.1 y3 y4 y5 y6 y7 y8 y9 y10 y11 y12 y13 x.2.1 x.2.2) n (x := (y2,y14,y15)) (okO_some e1)
  have hx:∀ r,XT.sel (.leaf (.exit 0) [(.T 4,.t (.val false [.ptr 4 0 0])),(.T 5,.t (.val false [.ptr 5 0 0])),(.B 4,.b 0 false [.bool y10,.row 4 3 0,.row 4 5 0]),(.R 4 3,.r 0 (some ⟨false,.any,true,9,.str,y11⟩)),(.R 4 5,.r 0 (some ⟨false,.any,true,39,(.pair .str (.pair .bool (.sl 3 (.int .i64)))),y12⟩)),(.B 5,.b 0 false [.bool y13,.row 5 3 0,.row 5 5 0]),(.R 5 3,.r 0 (some ⟨false,.any,true,9,.str,r.1⟩)),(.R 5 5,.r 0 (some ⟨false,.any,true,39,(.pair .str (.pair .bool (.sl 3 (.int .i64)))),r.2⟩))]) = xi_out_0 y0 y1 y3 y4 y5 y6 y7 y8 y9 y10 y11 y12 y13 r := fun r => by first | rfl | (rcases r with r | r <;> rfl) | (rcases r with r | r | r <;> rfl) | (rcases r with r | r | r | r <;> rfl)
  have h3 := (hx (valO (g_Li_out_0 y0 y1 y3 y4 y5 y6 y7 y8 y9 y10 y11 y12 y13 (y2,y14,y15)))).symm.trans h2
  have e3 := congrArg Prod.fst h3
  have e4 := congrArg Prod.snd h3
  simp only at e3 e4
  rw [← e3,← e4]
  exact key
 ·exact .inl ⟨xt,h1,h2⟩)
noncomputable def g_Ai_out (a0:List (ByteArray×(List Int))) (a1:Int) (a2:Int) (a3:Int) (a4:Int) (a5:Int) (a6:Int) (a7:Int):Bool := g_Ai_named (lit [(117:Nat)]) a2&&okO (g_Li_out_0 a0 (↑(List.length a0):Int) a1 a2 a3 a4 a5 a6 a7 false [] [] true ((0:Int),[g_Vi_named_0 (lit [(117:Nat)]) a2],[]))
noncomputable def g_Vi_out_0 (a0:List (ByteArray×(List Int))) (a1:Int) (a2:Int) (a3:Int) (a4:Int) (a5:Int) (a6:Int) (a7:Int):List ByteArray := (valO (g_Li_out_0 a0 (↑(List.length a0):Int) a1 a2 a3 a4 a5 a6 a7 false [] [] true ((0:Int),[g_Vi_named_0 (lit [(117:Nat)]) a2],[]))).1
noncomputable def g_Vi_out_1 (a0:List (ByteArray×(List Int))) (a1:Int) (a2:Int) (a3:Int) (a4:Int) (a5:Int) (a6:Int) (a7:Int):List (ByteArray×(Bool×(List Int))) := (valO (g_Li_out_0 a0 (↑(List.length a0):Int) a1 a2 a3 a4 a5 a6 a7 false [] [] true ((0:Int),[g_Vi_named_0 (lit [(117:Nat)]) a2],[]))).2
noncomputable def Fi_out:FSem := fun ys => match ys with
 | [.val true [.sl .any 49 (.pair .str (.sl 3 (.int .i64))) a0],.val true [.int .i64 a1,.int .i64 a2,.int .i64 a3,.int .i64 a4,.int .i64 a5,.int .i64 a6,.int .i64 a7]] => some ((g_Ai_out a0 a1 a2 a3 a4 a5 a6 a7),.val true [.bool true,.own .any true 9 .str (g_Vi_out_0 a0 a1 a2 a3 a4 a5 a6 a7),.own .any true 39 (.pair .str (.pair .bool (.sl 3 (.int .i64)))) (g_Vi_out_1 a0 a1 a2 a3 a4 a5 a6 a7)],[])
 | _ => none
theorem vi_out (a0:List (ByteArray×(List Int))) (a1:Int) (a2:Int) (a3:Int) (a4:Int) (a5:Int) (a6:Int) (a7:Int):collapseH .std Ei_out Oi_out_1 (execFn Ei_out Tryz.f98 msi_out [.val true [.sl .any 49 (.pair .str (.sl 3 (.int .i64))) a0],.val true [.int .i64 a1,.int .i64 a2,.int .i64 a3,.int .i64 a4,.int .i64 a5,.int .i64 a6,.int .i64 a7]]) = some ((g_Ai_out a0 a1 a2 a3 a4 a5 a6 a7),.val true [.bool true,.own .any true 9 .str (g_Vi_out_0 a0 a1 a2 a3 a4 a5 a6 a7),.own .any true 39 (.pair .str (.pair .bool (.sl 3 (.int .i64)))) (g_Vi_out_1 a0 a1 a2 a3 a4 a5 a6 a7)],[]) := by kernel_rfl
theorem si_out:Sound Tryz.prog 98 msi_out Fi_out := by
 refine fn_gen goodi_out (by kernel_rfl) .std (fn := Tryz.f98) (c := (Tryz.f98.body.getD .skip)) (o := Oi_out_1) (k := 1) (by kernel_rfl) (by kernel_rfl) (by kernel_rfl) (by kernel_rfl) (by decide) ki_out_1 ?_
 intro ys r outs h
 unfold Fi_out at h
 split at h
 ·exact (vi_out _ _ _ _ _ _ _ _).trans h
 ·cases h
noncomputable def Ei_trade:Env where
 tt := mkTI Tryz.prog
 fn := fun f => match f with
  | 21 => some (msi_SecSum,FSem.wk msi_SecSum Fi_SecSum)
  | 51 => some (msi_named,FSem.wk msi_named Fi_named)
  | 52 => some (msi_StoStore_get,FSem.wk msi_StoStore_get Fi_StoStore_get)
  | 53 => some (msi_refused,FSem.wk msi_refused Fi_refused)
  | 54 => some (msi_done,FSem.wk msi_done Fi_done)
  | 55 => some (msi_set,FSem.wk msi_set Fi_set)
  | _ => none
 bxf := fun _ => none
 mv := []
 keep := fun _ => []
 keepB := fun _ => []
 keepX := fun _ => []
 keepXB := fun _ => []
theorem goodFi_trade:∀ f ms F,Ei_trade.fn f = some (ms,F) → Sound Tryz.prog f ms F := fun f ms F h => by
 unfold Ei_trade at h
 dsimp only at h
 split at h
 ·injection h with h; injection h with e1 e2; subst e1 e2; exact Sound.wk si_SecSum
 ·injection h with h; injection h with e1 e2; subst e1 e2; exact Sound.wk si_named
 ·injection h with h; injection h with e1 e2; subst e1 e2; exact Sound.wk si_StoStore_get
 ·injection h with h; injection h with e1 e2; subst e1 e2; exact Sound.wk si_refused
 ·injection h with h; injection h with e1 e2; subst e1 e2; exact Sound.wk si_done
 ·injection h with h; injection h with e1 e2; subst e1 e2; exact Sound.wk si_set
 ·cases h
theorem goodBi_trade:∀ f ms F,Ei_trade.bxf f = some (ms,F) → SoundB Tryz.prog f ms F := fun f ms F h => by cases h
theorem goodi_trade:Good Tryz.prog Ei_trade := ⟨rfl,goodFi_trade,goodBi_trade⟩
noncomputable def Oi_trade_0:Orc := fun _ _ => none
noncomputable def msi_trade:List PM := [.rd,.own]
noncomputable def lsi_trade:List (Nat×Code) := loopsAll 0 (Tryz.f96.body.getD .skip)
theorem ki_trade_0:OrcOk Ei_trade Oi_trade_0 lsi_trade 0 := orcOk_none
noncomputable def g_Ai_trade (a0:List (ByteArray×(List Int))) (a1:Int) (a2:Int) (a3:Int) (a4:Int) (a5:Int) (a6:Int) (a7:Int):Bool := g_Ai_named (lit [(99:Nat)]) a4&&(g_Ai_named (lit [(102:Nat)]) a6&&(g_Ai_StoStore_get a0 (g_Vi_named_0 (lit [(99:Nat)]) a4)&&bif g_Vi_StoStore_get_0 a0 (g_Vi_named_0 (lit [(99:Nat)]) a4) then true else g_Ai_StoStore_get a0 (g_Vi_named_0 (lit [(102:Nat)]) a6)&&bif !g_Vi_StoStore_get_0 a0 (g_Vi_named_0 (lit [(102:Nat)]) a6) then true else g_Ai_SecSum a5&&(decide ((0:Int) ≤ (1:Int) ∧ (1:Int) < (↑(List.length (g_Vi_StoStore_get_1 a0 (g_Vi_named_0 (lit [(99:Nat)]) a4))):Int))&&(decide (nat_lit 1 < List.length (g_Vi_StoStore_get_1 a0 (g_Vi_named_0 (lit [(99:Nat)]) a4)))&&bif g_Vi_SecSum_0 a5 != at_ (Ty.int IntKind.i64) (g_Vi_StoStore_get_1 a0 (g_Vi_named_0 (lit [(99:Nat)]) a4)) (nat_lit 1) then true else decide ((0:Int) ≤ (0:Int) ∧ (0:Int) < (↑(List.length (g_Vi_StoStore_get_1 a0 (g_Vi_named_0 (lit [(99:Nat)]) a4))):Int))&&(decide (nat_lit 0 < List.length (g_Vi_StoStore_get_1 a0 (g_Vi_named_0 (lit [(99:Nat)]) a4)))&&(g_Ai_named (lit [(117:Nat)]) (at_ (Ty.int IntKind.i64) (g_Vi_StoStore_get_1 a0 (g_Vi_named_0 (lit [(99:Nat)]) a4)) (nat_lit 0))&&(decide ((0:Int) ≤ (0:Int) ∧ (0:Int) < (↑(List.length (g_Vi_StoStore_get_1 a0 (g_Vi_named_0 (lit [(99:Nat)]) a4))):Int))&&(decide (nat_lit 0 < List.length (g_Vi_StoStore_get_1 a0 (g_Vi_named_0 (lit [(99:Nat)]) a4)))&&true))))))))
noncomputable def g_Vi_trade_0 (a0:List (ByteArray×(List Int))) (a1:Int) (a2:Int) (a3:Int) (a4:Int) (a5:Int) (a6:Int) (a7:Int):Bool := bif g_Vi_StoStore_get_0 a0 (g_Vi_named_0 (lit [(99:Nat)]) a4) then false else bif !g_Vi_StoStore_get_0 a0 (g_Vi_named_0 (lit [(102:Nat)]) a6) then false else bif g_Vi_SecSum_0 a5 != at_ (Ty.int IntKind.i64) (g_Vi_StoStore_get_1 a0 (g_Vi_named_0 (lit [(99:Nat)]) a4)) (nat_lit 1) then false else true
noncomputable def g_Vi_trade_1 (a0:List (ByteArray×(List Int))) (a1:Int) (a2:Int) (a3:Int) (a4:Int) (a5:Int) (a6:Int) (a7:Int):List ByteArray := bif g_Vi_StoStore_get_0 a0 (g_Vi_named_0 (lit [(99:Nat)]) a4) then [g_Vi_named_0 (lit [(99:Nat)]) a4,g_Vi_named_0 (lit [(102:Nat)]) a6] else bif !g_Vi_StoStore_get_0 a0 (g_Vi_named_0 (lit [(102:Nat)]) a6) then [g_Vi_named_0 (lit [(99:Nat)]) a4,g_Vi_named_0 (lit [(102:Nat)]) a6] else bif g_Vi_SecSum_0 a5 != at_ (Ty.int IntKind.i64) (g_Vi_StoStore_get_1 a0 (g_Vi_named_0 (lit [(99:Nat)]) a4)) (nat_lit 1) then [g_Vi_named_0 (lit [(99:Nat)]) a4,g_Vi_named_0 (lit [(102:Nat)]) a6] else [g_Vi_named_0 (lit [(99:Nat)]) a4,g_Vi_named_0 (lit [(102:Nat)]) a6,g_Vi_named_0 (lit [(117:Nat)]) (at_ (Ty.int IntKind.i64) (g_Vi_StoStore_get_1 a0 (g_Vi_named_0 (lit [(99:Nat)]) a4)) (nat_lit 0))]
noncomputable def g_Vi_trade_2 (a0:List (ByteArray×(List Int))) (a1:Int) (a2:Int) (a3:Int) (a4:Int) (a5:Int) (a6:Int) (a7:Int):List (ByteArray×(Bool×(List Int))) := bif g_Vi_StoStore_get_0 a0 (g_Vi_named_0 (lit [(99:Nat)]) a4) then g_Vi_refused_0 [g_Vi_named_0 (lit [(99:Nat)]) a4,g_Vi_named_0 (lit [(102:Nat)]) a6] else bif !g_Vi_StoStore_get_0 a0 (g_Vi_named_0 (lit [(102:Nat)]) a6) then g_Vi_refused_0 [g_Vi_named_0 (lit [(99:Nat)]) a4,g_Vi_named_0 (lit [(102:Nat)]) a6] else bif g_Vi_SecSum_0 a5 != at_ (Ty.int IntKind.i64) (g_Vi_StoStore_get_1 a0 (g_Vi_named_0 (lit [(99:Nat)]) a4)) (nat_lit 1) then g_Vi_refused_0 [g_Vi_named_0 (lit [(99:Nat)]) a4,g_Vi_named_0 (lit [(102:Nat)]) a6] else [(g_Vi_named_0 (lit [(99:Nat)]) a4,true,[]),(g_Vi_named_0 (lit [(102:Nat)]) a6,false,[at_ (Ty.int IntKind.i64) (g_Vi_StoStore_get_1 a0 (g_Vi_named_0 (lit [(99:Nat)]) a4)) (nat_lit 0),(1:Int),(1:Int)])]
noncomputable def Fi_trade:FSem := fun ys => match ys with
 | [.val true [.sl .any 49 (.pair .str (.sl 3 (.int .i64))) a0],.val true [.int .i64 a1,.int .i64 a2,.int .i64 a3,.int .i64 a4,.int .i64 a5,.int .i64 a6,.int .i64 a7]] => some ((g_Ai_trade a0 a1 a2 a3 a4 a5 a6 a7),.val true [.bool (g_Vi_trade_0 a0 a1 a2 a3 a4 a5 a6 a7),.own .any true 9 .str (g_Vi_trade_1 a0 a1 a2 a3 a4 a5 a6 a7),.own .any true 39 (.pair .str (.pair .bool (.sl 3 (.int .i64)))) (g_Vi_trade_2 a0 a1 a2 a3 a4 a5 a6 a7)],[])
 | _ => none
theorem vi_trade (a0:List (ByteArray×(List Int))) (a1:Int) (a2:Int) (a3:Int) (a4:Int) (a5:Int) (a6:Int) (a7:Int):collapseH .std Ei_trade Oi_trade_0 (execFn Ei_trade Tryz.f96 msi_trade [.val true [.sl .any 49 (.pair .str (.sl 3 (.int .i64))) a0],.val true [.int .i64 a1,.int .i64 a2,.int .i64 a3,.int .i64 a4,.int .i64 a5,.int .i64 a6,.int .i64 a7]]) = some ((g_Ai_trade a0 a1 a2 a3 a4 a5 a6 a7),.val true [.bool (g_Vi_trade_0 a0 a1 a2 a3 a4 a5 a6 a7),.own .any true 9 .str (g_Vi_trade_1 a0 a1 a2 a3 a4 a5 a6 a7),.own .any true 39 (.pair .str (.pair .bool (.sl 3 (.int .i64)))) (g_Vi_trade_2 a0 a1 a2 a3 a4 a5 a6 a7)],[]) := by kernel_rfl
theorem si_trade:Sound Tryz.prog 96 msi_trade Fi_trade := by
 refine fn_gen goodi_trade (by kernel_rfl) .std (fn := Tryz.f96) (c := (Tryz.f96.body.getD .skip)) (o := Oi_trade_0) (k := 0) (by kernel_rfl) (by kernel_rfl) (by kernel_rfl) (by kernel_rfl) (by decide) ki_trade_0 ?_
 intro ys r outs h
 unfold Fi_trade at h
 split at h
 ·exact (vi_trade _ _ _ _ _ _ _ _).trans h
 ·cases h
noncomputable def Ei_atMay:Env where
 tt := mkTI Tryz.prog
 fn := fun f => match f with
  | 21 => some (msi_SecSum,FSem.wk msi_SecSum Fi_SecSum)
  | 51 => some (msi_named,FSem.wk msi_named Fi_named)
  | 52 => some (msi_StoStore_get,FSem.wk msi_StoStore_get Fi_StoStore_get)
  | 53 => some (msi_refused,FSem.wk msi_refused Fi_refused)
  | 54 => some (msi_done,FSem.wk msi_done Fi_done)
  | 55 => some (msi_set,FSem.wk msi_set Fi_set)
  | 96 => some (msi_trade,FSem.wk msi_trade Fi_trade)
  | 97 => some (msi_next,FSem.wk msi_next Fi_next)
  | 98 => some (msi_out,FSem.wk msi_out Fi_out)
  | _ => none
 bxf := fun _ => none
 mv := []
 keep := fun _ => []
 keepB := fun _ => []
 keepX := fun _ => []
 keepXB := fun _ => []
theorem goodFi_atMay:∀ f ms F,Ei_atMay.fn f = some (ms,F) → Sound Tryz.prog f ms F := fun f ms F h => by
 unfold Ei_atMay at h
 dsimp only at h
 split at h
 ·injection h with h; injection h with e1 e2; subst e1 e2; exact Sound.wk si_SecSum
 ·injection h with h; injection h with e1 e2; subst e1 e2; exact Sound.wk si_named
 ·injection h with h; injection h with e1 e2; subst e1 e2; exact Sound.wk si_StoStore_get
 ·injection h with h; injection h with e1 e2; subst e1 e2; exact Sound.wk si_refused
 ·injection h with h; injection h with e1 e2; subst e1 e2; exact Sound.wk si_done
 ·injection h with h; injection h with e1 e2; subst e1 e2; exact Sound.wk si_set
 ·injection h with h; injection h with e1 e2; subst e1 e2; exact Sound.wk si_trade
 ·injection h with h; injection h with e1 e2; subst e1 e2; exact Sound.wk si_next
 ·injection h with h; injection h with e1 e2; subst e1 e2; exact Sound.wk si_out
 ·cases h
theorem goodBi_atMay:∀ f ms F,Ei_atMay.bxf f = some (ms,F) → SoundB Tryz.prog f ms F := fun f ms F h => by cases h
theorem goodi_atMay:Good Tryz.prog Ei_atMay := ⟨rfl,goodFi_atMay,goodBi_atMay⟩
noncomputable def Oi_atMay_0:Orc := fun _ _ => none
noncomputable def msi_atMay:List PM := [.rd,.own]
noncomputable def lsi_atMay:List (Nat×Code) := loopsAll 0 (Tryz.f50.body.getD .skip)
theorem ki_atMay_0:OrcOk Ei_atMay Oi_atMay_0 lsi_atMay 0 := orcOk_none
noncomputable def g_Ai_atMay (a0:List (ByteArray×(List Int))) (a1:Int) (a2:Int) (a3:Int) (a4:Int) (a5:Int) (a6:Int) (a7:Int):Bool := bif a1 == (3:Int) then g_Ai_trade a0 a1 a2 a3 a4 a5 a6 a7 else bif a1 == (4:Int) then g_Ai_next a0 a1 a2 a3 a4 a5 a6 a7 else bif a1 == (5:Int) then g_Ai_out a0 a1 a2 a3 a4 a5 a6 a7 else g_Ai_named (lit [(99:Nat)]) a4&&(g_Ai_StoStore_get a0 (g_Vi_named_0 (lit [(99:Nat)]) a4)&&bif !g_Vi_StoStore_get_0 a0 (g_Vi_named_0 (lit [(99:Nat)]) a4) then true else g_Ai_SecSum a5&&true)
noncomputable def g_Vi_atMay_0 (a0:List (ByteArray×(List Int))) (a1:Int) (a2:Int) (a3:Int) (a4:Int) (a5:Int) (a6:Int) (a7:Int):Bool := bif a1 == (3:Int) then g_Vi_trade_0 a0 a1 a2 a3 a4 a5 a6 a7 else bif a1 == (4:Int) then g_Vi_next_0 a0 a1 a2 a3 a4 a5 a6 a7 else bif a1 == (5:Int) then true else bif !g_Vi_StoStore_get_0 a0 (g_Vi_named_0 (lit [(99:Nat)]) a4) then false else true
noncomputable def g_Vi_atMay_1 (a0:List (ByteArray×(List Int))) (a1:Int) (a2:Int) (a3:Int) (a4:Int) (a5:Int) (a6:Int) (a7:Int):List ByteArray := bif a1 == (3:Int) then g_Vi_trade_1 a0 a1 a2 a3 a4 a5 a6 a7 else bif a1 == (4:Int) then g_Vi_next_1 a0 a1 a2 a3 a4 a5 a6 a7 else bif a1 == (5:Int) then g_Vi_out_0 a0 a1 a2 a3 a4 a5 a6 a7 else bif !g_Vi_StoStore_get_0 a0 (g_Vi_named_0 (lit [(99:Nat)]) a4) then [g_Vi_named_0 (lit [(99:Nat)]) a4] else [g_Vi_named_0 (lit [(99:Nat)]) a4]
noncomputable def g_Vi_atMay_2 (a0:List (ByteArray×(List Int))) (a1:Int) (a2:Int) (a3:Int) (a4:Int) (a5:Int) (a6:Int) (a7:Int):List (ByteArray×(Bool×(List Int))) := bif a1 == (3:Int) then g_Vi_trade_2 a0 a1 a2 a3 a4 a5 a6 a7 else bif a1 == (4:Int) then g_Vi_next_2 a0 a1 a2 a3 a4 a5 a6 a7 else bif a1 == (5:Int) then g_Vi_out_1 a0 a1 a2 a3 a4 a5 a6 a7 else bif !g_Vi_StoStore_get_0 a0 (g_Vi_named_0 (lit [(99:Nat)]) a4) then g_Vi_refused_0 [g_Vi_named_0 (lit [(99:Nat)]) a4] else [(g_Vi_named_0 (lit [(99:Nat)]) a4,false,[a2,g_Vi_SecSum_0 a5])]
noncomputable def Fi_atMay:FSem := fun ys => match ys with
 | [.val true [.sl .any 49 (.pair .str (.sl 3 (.int .i64))) a0],.val true [.int .i64 a1,.int .i64 a2,.int .i64 a3,.int .i64 a4,.int .i64 a5,.int .i64 a6,.int .i64 a7]] => some ((g_Ai_atMay a0 a1 a2 a3 a4 a5 a6 a7),.val true [.bool (g_Vi_atMay_0 a0 a1 a2 a3 a4 a5 a6 a7),.own .any true 9 .str (g_Vi_atMay_1 a0 a1 a2 a3 a4 a5 a6 a7),.own .any true 39 (.pair .str (.pair .bool (.sl 3 (.int .i64)))) (g_Vi_atMay_2 a0 a1 a2 a3 a4 a5 a6 a7)],[])
 | _ => none
theorem vi_atMay (a0:List (ByteArray×(List Int))) (a1:Int) (a2:Int) (a3:Int) (a4:Int) (a5:Int) (a6:Int) (a7:Int):collapseH .std Ei_atMay Oi_atMay_0 (execFn Ei_atMay Tryz.f50 msi_atMay [.val true [.sl .any 49 (.pair .str (.sl 3 (.int .i64))) a0],.val true [.int .i64 a1,.int .i64 a2,.int .i64 a3,.int .i64 a4,.int .i64 a5,.int .i64 a6,.int .i64 a7]]) = some ((g_Ai_atMay a0 a1 a2 a3 a4 a5 a6 a7),.val true [.bool (g_Vi_atMay_0 a0 a1 a2 a3 a4 a5 a6 a7),.own .any true 9 .str (g_Vi_atMay_1 a0 a1 a2 a3 a4 a5 a6 a7),.own .any true 39 (.pair .str (.pair .bool (.sl 3 (.int .i64)))) (g_Vi_atMay_2 a0 a1 a2 a3 a4 a5 a6 a7)],[]) := by kernel_rfl
theorem si_atMay:Sound Tryz.prog 50 msi_atMay Fi_atMay := by
 refine fn_gen goodi_atMay (by kernel_rfl) .std (fn := Tryz.f50) (c := (Tryz.f50.body.getD .skip)) (o := Oi_atMay_0) (k := 0) (by kernel_rfl) (by kernel_rfl) (by kernel_rfl) (by kernel_rfl) (by decide) ki_atMay_0 ?_
 intro ys r outs h
 unfold Fi_atMay at h
 split at h
 ·exact (vi_atMay _ _ _ _ _ _ _ _).trans h
 ·cases h
noncomputable def Ei_isTx:Env where
 tt := mkTI Tryz.prog
 fn := fun f => match f with
  | 64 => some (msi_in,FSem.wk msi_in Fi_in)
  | _ => none
 bxf := fun _ => none
 mv := []
 keep := fun _ => []
 keepB := fun _ => []
 keepX := fun _ => []
 keepXB := fun _ => []
theorem goodFi_isTx:∀ f ms F,Ei_isTx.fn f = some (ms,F) → Sound Tryz.prog f ms F := fun f ms F h => by
 unfold Ei_isTx at h
 dsimp only at h
 split at h
 ·injection h with h; injection h with e1 e2; subst e1 e2; exact Sound.wk si_in
 ·cases h
theorem goodBi_isTx:∀ f ms F,Ei_isTx.bxf f = some (ms,F) → SoundB Tryz.prog f ms F := fun f ms F h => by cases h
theorem goodi_isTx:Good Tryz.prog Ei_isTx := ⟨rfl,goodFi_isTx,goodBi_isTx⟩
noncomputable def Oi_isTx_0:Orc := fun _ _ => none
noncomputable def msi_isTx:List PM := [.own]
noncomputable def lsi_isTx:List (Nat×Code) := loopsAll 0 (Tryz.f46.body.getD .skip)
theorem ki_isTx_0:OrcOk Ei_isTx Oi_isTx_0 lsi_isTx 0 := orcOk_none
noncomputable def g_Ai_isTx (a0:Int):Bool := g_Ai_in a0 (0:Int) (29:Int)
noncomputable def g_Vi_isTx_0 (a0:Int):Bool := g_Vi_in_0 a0 (0:Int) (29:Int)
noncomputable def Fi_isTx:FSem := fun ys => match ys with
 | [.val false [.int .i64 a0]] => some ((g_Ai_isTx a0),.val false [.bool (g_Vi_isTx_0 a0)],[])
 | _ => none
theorem vi_isTx (a0:Int):collapseH .std Ei_isTx Oi_isTx_0 (execFn Ei_isTx Tryz.f46 msi_isTx [.val false [.int .i64 a0]]) = some ((g_Ai_isTx a0),.val false [.bool (g_Vi_isTx_0 a0)],[]) := by kernel_rfl
theorem si_isTx:Sound Tryz.prog 46 msi_isTx Fi_isTx := by
 refine fn_gen goodi_isTx (by kernel_rfl) .std (fn := Tryz.f46) (c := (Tryz.f46.body.getD .skip)) (o := Oi_isTx_0) (k := 0) (by kernel_rfl) (by kernel_rfl) (by kernel_rfl) (by kernel_rfl) (by decide) ki_isTx_0 ?_
 intro ys r outs h
 unfold Fi_isTx at h
 split at h
 ·exact (vi_isTx _).trans h
 ·cases h
noncomputable def Eslices_Index_int_int:Env where
 tt := mkTI Tryz.prog
 fn := fun _ => none
 bxf := fun _ => none
 mv := []
 keep := fun b => match b with
  | 0 => [(0,false),(1,false),(7,false),(8,false)]
  | _ => []
 keepB := fun b => match b with
  | 0 => []
  | _ => []
 keepX := fun b => match b with
  | 0 => [(4,false)]
  | _ => []
 keepXB := fun b => match b with
  | 0 => []
  | _ => []
theorem goodFslices_Index_int_int:∀ f ms F,Eslices_Index_int_int.fn f = some (ms,F) → Sound Tryz.prog f ms F := fun f ms F h => by cases h
theorem goodBslices_Index_int_int:∀ f ms F,Eslices_Index_int_int.bxf f = some (ms,F) → SoundB Tryz.prog f ms F := fun f ms F h => by cases h
theorem goodslices_Index_int_int:Good Tryz.prog Eslices_Index_int_int := ⟨rfl,goodFslices_Index_int_int,goodBslices_Index_int_int⟩
noncomputable def Oslices_Index_int_int_0:Orc := fun _ _ => none
noncomputable def msslices_Index_int_int:List PM := [.rd,.own]
noncomputable def lsslices_Index_int_int:List (Nat×Code) := loopsAll 0 (Tryz.f95.body.getD .skip)
noncomputable def cslices_Index_int_int_0:Code := (loopOf 0 (Tryz.f95.body.getD .skip)).getD .skip
theorem lseqslices_Index_int_int:lsslices_Index_int_int = [(0,cslices_Index_int_int_0)] := by kernel_rfl
theorem mslices_Index_int_int_0:∀ p,p ∈ lsslices_Index_int_int → p.1 = 0 → p.2 = cslices_Index_int_int_0 := by
 intro p hp
 rw [lseqslices_Index_int_int] at hp
 simp only [List.mem_cons,List.not_mem_nil,or_false] at hp
 subst hp; simp
theorem kslices_Index_int_int_0:OrcOk Eslices_Index_int_int Oslices_Index_int_int_0 lsslices_Index_int_int 0 := orcOk_none
noncomputable def hslices_Index_int_int_0 (y0:List Int) (y1:Int) (y2:Int) (y3:Int):List (Pl×LV) := [(.T 0,.t (.val false [.sl .any 3 (.int .i64) y0])),(.T 1,.t (.val false [.int .i64 y1])),(.T 7,.t (.val false [.int .i64 y2])),(.T 8,.t (.val false [.int .i64 y3]))]
noncomputable def g_Sslices_Index_int_int_0 (y0:List Int) (y1:Int) (y2:Int):(Int) → RT (Int) ((Int) ⊕ (Unit))
 | y3 => .br (true) (.br (decide (y3 < y2)) (.br (decide ((0:Int) ≤ y3 ∧ y3 < (↑(List.length y0):Int))) (.br (true) (.br (y1 == at_ (Ty.int IntKind.i64) y0 (Int.toNat y3)) (.out (.inl y3)) (.br (true) (.go (IntKind.wrap IntKind.i64 (y3 + (1:Int)))) .bad)) .bad) .bad) (.out (.inr (())))) .bad
noncomputable def g_Lslices_Index_int_int_0 (y0:List Int) (y1:Int) (y2:Int) (x:Int):Option ((Int) ⊕ (Unit)) := loopO (g_Sslices_Index_int_int_0 y0 y1 y2) x
noncomputable def xslices_Index_int_int_0 (y0:List Int) (y1:Int) (y2:Int):((Int) ⊕ (Unit)) → Ex×List (Pl×LV) := fun
 | .inl r => (.ret,[(.T 4,.t (.val false [.int .i64 r]))])
 | .inr (r) => (.exit 0,[(.T 4,.t (.val false [.undef]))])
noncomputable def Oslices_Index_int_int_1:Orc := fun b h => match b,h with
 | 0,[(.T 0,.t (.val false [.sl .any 3 (.int .i64) y0])),(.T 1,.t (.val false [.int .i64 y1])),(.T 7,.t (.val false [.int .i64 y2])),(.T 8,.t (.val false [.int .i64 y3]))] => some (okO (g_Lslices_Index_int_int_0 y0 y1 y2 y3),(.br (isL (valO (g_Lslices_Index_int_int_0 y0 y1 y2 y3))) (.leaf .ret [(.T 4,.t (.val false [.int .i64 (getL (valO (g_Lslices_Index_int_int_0 y0 y1 y2 y3)))]))]) (.leaf (.exit 0) [(.T 4,.t (.val false [.undef]))])))
 | b,h => Oslices_Index_int_int_0 b h
theorem bslices_Index_int_int_0 (y0:List Int) (y1:Int) (y2:Int) (y3:Int):Tr.bt Eslices_Index_int_int Oslices_Index_int_int_0 (exec Eslices_Index_int_int 0 cslices_Index_int_int_0 (St.of (hslices_Index_int_int_0 y0 y1 y2 y3)) (leafRd Eslices_Index_int_int 0)) = (g_Sslices_Index_int_int_0 y0 y1 y2 y3).bt (fun (y3:Int) => (hslices_Index_int_int_0 y0 y1 y2 y3)) (xslices_Index_int_int_0 y0 y1 y2) := by kernel_rfl
theorem kslices_Index_int_int_1:OrcOk Eslices_Index_int_int Oslices_Index_int_int_1 lsslices_Index_int_int 1 := orc_add kslices_Index_int_int_0 (fun n p hp h ex h' ho => by
 obtain ⟨b,c⟩ := p
 obtain ⟨xt,h1,h2⟩ := ho
 have h1:Oslices_Index_int_int_1 b h = some (true,xt) := h1
 unfold Oslices_Index_int_int_1 at h1
 split at h1
 ·injection h1 with h1
  injection h1 with e1 e2
  subst e2
  have hc:c = cslices_Index_int_int_0 := mslices_Index_int_int_0 _ hp rfl
  subst hc
  right
  rename_i y0 y1 y2 y3
  have key := LT_step kslices_Index_int_int_0 hp (fun q hq => loopsAll_in _ _ _ _ hp hq) (fun (y3:Int) => (hslices_Index_int_int_0 y0 y1 y2 y3)) (xslices_Index_int_int_0 y0 y1 y2) (g_Sslices_Index_int_int_0 y0 y1 y2) (fun x => by first | exact bslices_Index_int_int_0 y0 y1 y2 x) n (x := y3) (okO_some e1)
  have hx:∀ r,XT.sel (.br (isL r) (.leaf .ret [(.T 4,.t (.val false [.int .i64 (getL r)]))]) (.leaf (.exit 0) [(.T 4,.t (.val false [.undef]))])) = xslices_Index_int_int_0 y0 y1 y2 r := fun r => by first | rfl | (rcases r with r | r <;> rfl) | (rcases r with r | r | r <;> rfl) | (rcases r with r | r | r | r <;> rfl)
  have h3 := (hx (valO (g_Lslices_Index_int_int_0 y0 y1 y2 y3))).symm.trans h2
  have e3 := congrArg Prod.fst h3
  have e4 := congrArg Prod.snd h3
  simp only at e3 e4
  rw [← e3,← e4]
  exact key
 ·exact .inl ⟨xt,h1,h2⟩)
noncomputable def g_Aslices_Index_int_int (a0:List Int) (a1:Int):Bool := okO (g_Lslices_Index_int_int_0 a0 a1 (↑(List.length a0):Int) (0:Int))
noncomputable def g_Vslices_Index_int_int_0 (a0:List Int) (a1:Int):Int := bif isL (valO (g_Lslices_Index_int_int_0 a0 a1 (↑(List.length a0):Int) (0:Int))) then getL (valO (g_Lslices_Index_int_int_0 a0 a1 (↑(List.length a0):Int) (0:Int))) else (-1:Int)
noncomputable def Fslices_Index_int_int:FSem := fun ys => match ys with
 | [.val false [.sl .any 3 (.int .i64) a0],.val false [.int .i64 a1]] => some ((g_Aslices_Index_int_int a0 a1),.val false [.int .i64 (g_Vslices_Index_int_int_0 a0 a1)],[])
 | _ => none
theorem vslices_Index_int_int (a0:List Int) (a1:Int):collapseH .std Eslices_Index_int_int Oslices_Index_int_int_1 (execFn Eslices_Index_int_int Tryz.f95 msslices_Index_int_int [.val false [.sl .any 3 (.int .i64) a0],.val false [.int .i64 a1]]) = some ((g_Aslices_Index_int_int a0 a1),.val false [.int .i64 (g_Vslices_Index_int_int_0 a0 a1)],[]) := by kernel_rfl
theorem sslices_Index_int_int:Sound Tryz.prog 95 msslices_Index_int_int Fslices_Index_int_int := by
 refine fn_gen goodslices_Index_int_int (by kernel_rfl) .std (fn := Tryz.f95) (c := (Tryz.f95.body.getD .skip)) (o := Oslices_Index_int_int_1) (k := 1) (by kernel_rfl) (by kernel_rfl) (by kernel_rfl) (by kernel_rfl) (by decide) kslices_Index_int_int_1 ?_
 intro ys r outs h
 unfold Fslices_Index_int_int at h
 split at h
 ·exact (vslices_Index_int_int _ _).trans h
 ·cases h
noncomputable def Eslices_Contains_int_int:Env where
 tt := mkTI Tryz.prog
 fn := fun f => match f with
  | 95 => some (msslices_Index_int_int,FSem.wk msslices_Index_int_int Fslices_Index_int_int)
  | _ => none
 bxf := fun _ => none
 mv := []
 keep := fun _ => []
 keepB := fun _ => []
 keepX := fun _ => []
 keepXB := fun _ => []
theorem goodFslices_Contains_int_int:∀ f ms F,Eslices_Contains_int_int.fn f = some (ms,F) → Sound Tryz.prog f ms F := fun f ms F h => by
 unfold Eslices_Contains_int_int at h
 dsimp only at h
 split at h
 ·injection h with h; injection h with e1 e2; subst e1 e2; exact Sound.wk sslices_Index_int_int
 ·cases h
theorem goodBslices_Contains_int_int:∀ f ms F,Eslices_Contains_int_int.bxf f = some (ms,F) → SoundB Tryz.prog f ms F := fun f ms F h => by cases h
theorem goodslices_Contains_int_int:Good Tryz.prog Eslices_Contains_int_int := ⟨rfl,goodFslices_Contains_int_int,goodBslices_Contains_int_int⟩
noncomputable def Oslices_Contains_int_int_0:Orc := fun _ _ => none
noncomputable def msslices_Contains_int_int:List PM := [.rd,.own]
noncomputable def lsslices_Contains_int_int:List (Nat×Code) := loopsAll 0 (Tryz.f47.body.getD .skip)
theorem kslices_Contains_int_int_0:OrcOk Eslices_Contains_int_int Oslices_Contains_int_int_0 lsslices_Contains_int_int 0 := orcOk_none
noncomputable def g_Aslices_Contains_int_int (a0:List Int) (a1:Int):Bool := g_Aslices_Index_int_int a0 a1&&true
noncomputable def g_Vslices_Contains_int_int_0 (a0:List Int) (a1:Int):Bool := decide (g_Vslices_Index_int_int_0 a0 a1 ≥ (0:Int))
noncomputable def Fslices_Contains_int_int:FSem := fun ys => match ys with
 | [.val false [.sl .any 3 (.int .i64) a0],.val false [.int .i64 a1]] => some ((g_Aslices_Contains_int_int a0 a1),.val false [.bool (g_Vslices_Contains_int_int_0 a0 a1)],[])
 | _ => none
theorem vslices_Contains_int_int (a0:List Int) (a1:Int):collapseH .std Eslices_Contains_int_int Oslices_Contains_int_int_0 (execFn Eslices_Contains_int_int Tryz.f47 msslices_Contains_int_int [.val false [.sl .any 3 (.int .i64) a0],.val false [.int .i64 a1]]) = some ((g_Aslices_Contains_int_int a0 a1),.val false [.bool (g_Vslices_Contains_int_int_0 a0 a1)],[]) := by kernel_rfl
theorem sslices_Contains_int_int:Sound Tryz.prog 47 msslices_Contains_int_int Fslices_Contains_int_int := by
 refine fn_gen goodslices_Contains_int_int (by kernel_rfl) .std (fn := Tryz.f47) (c := (Tryz.f47.body.getD .skip)) (o := Oslices_Contains_int_int_0) (k := 0) (by kernel_rfl) (by kernel_rfl) (by kernel_rfl) (by kernel_rfl) (by decide) kslices_Contains_int_int_0 ?_
 intro ys r outs h
 unfold Fslices_Contains_int_int at h
 split at h
 ·exact (vslices_Contains_int_int _ _).trans h
 ·cases h
noncomputable def Ei_PlcPlan:Env where
 tt := mkTI Tryz.prog
 fn := fun f => match f with
  | 45 => some (msi_PlcOk,FSem.wk msi_PlcOk Fi_PlcOk)
  | 46 => some (msi_isTx,FSem.wk msi_isTx Fi_isTx)
  | 47 => some (msslices_Contains_int_int,FSem.wk msslices_Contains_int_int Fslices_Contains_int_int)
  | 48 => some (msi_OpPlaces,FSem.wk msi_OpPlaces Fi_OpPlaces)
  | 49 => some (msi_atIn,FSem.wk msi_atIn Fi_atIn)
  | 50 => some (msi_atMay,FSem.wk msi_atMay Fi_atMay)
  | 51 => some (msi_named,FSem.wk msi_named Fi_named)
  | 52 => some (msi_StoStore_get,FSem.wk msi_StoStore_get Fi_StoStore_get)
  | 53 => some (msi_refused,FSem.wk msi_refused Fi_refused)
  | 54 => some (msi_done,FSem.wk msi_done Fi_done)
  | 55 => some (msi_set,FSem.wk msi_set Fi_set)
  | _ => none
 bxf := fun _ => none
 mv := []
 keep := fun _ => []
 keepB := fun _ => []
 keepX := fun _ => []
 keepXB := fun _ => []
theorem goodFi_PlcPlan:∀ f ms F,Ei_PlcPlan.fn f = some (ms,F) → Sound Tryz.prog f ms F := fun f ms F h => by
 unfold Ei_PlcPlan at h
 dsimp only at h
 split at h
 ·injection h with h; injection h with e1 e2; subst e1 e2; exact Sound.wk si_PlcOk
 ·injection h with h; injection h with e1 e2; subst e1 e2; exact Sound.wk si_isTx
 ·injection h with h; injection h with e1 e2; subst e1 e2; exact Sound.wk sslices_Contains_int_int
 ·injection h with h; injection h with e1 e2; subst e1 e2; exact Sound.wk si_OpPlaces
 ·injection h with h; injection h with e1 e2; subst e1 e2; exact Sound.wk si_atIn
 ·injection h with h; injection h with e1 e2; subst e1 e2; exact Sound.wk si_atMay
 ·injection h with h; injection h with e1 e2; subst e1 e2; exact Sound.wk si_named
 ·injection h with h; injection h with e1 e2; subst e1 e2; exact Sound.wk si_StoStore_get
 ·injection h with h; injection h with e1 e2; subst e1 e2; exact Sound.wk si_refused
 ·injection h with h; injection h with e1 e2; subst e1 e2; exact Sound.wk si_done
 ·injection h with h; injection h with e1 e2; subst e1 e2; exact Sound.wk si_set
 ·cases h
theorem goodBi_PlcPlan:∀ f ms F,Ei_PlcPlan.bxf f = some (ms,F) → SoundB Tryz.prog f ms F := fun f ms F h => by cases h
theorem goodi_PlcPlan:Good Tryz.prog Ei_PlcPlan := ⟨rfl,goodFi_PlcPlan,goodBi_PlcPlan⟩
noncomputable def Oi_PlcPlan_0:Orc := fun _ _ => none
noncomputable def msi_PlcPlan:List PM := [.own,.rd,.own,.own]
noncomputable def lsi_PlcPlan:List (Nat×Code) := loopsAll 0 (Tryz.f11.body.getD .skip)
theorem ki_PlcPlan_0:OrcOk Ei_PlcPlan Oi_PlcPlan_0 lsi_PlcPlan 0 := orcOk_none
noncomputable def g_Ai_PlcPlan (a0:Int) (a1:List (ByteArray×(List Int))) (a2:Int) (a3:Int) (a4:Int) (a5:Int) (a6:Int) (a7:Int) (a8:Int) (a9:Int):Bool := g_Ai_PlcOk a0 a1&&(!g_Vi_PlcOk_0 a0 a1 || g_Ai_isTx a2&&(!g_Vi_isTx_0 a2 || g_Ai_OpPlaces a3 a4 a5 a6 a7 a8 a9&&(g_Aslices_Contains_int_int (g_Vi_OpPlaces_0 a3 a4 a5 a6 a7 a8 a9) a0&&(!g_Vslices_Contains_int_int_0 (g_Vi_OpPlaces_0 a3 a4 a5 a6 a7 a8 a9) a0 || bif a0 == (1:Int) then g_Ai_atIn a1 a3 a4 a5 a6 a7 a8 a9 else bif a0 == (2:Int) then g_Ai_atMay a1 a3 a4 a5 a6 a7 a8 a9 else g_Ai_named (lit [(97:Nat)]) a2&&(g_Ai_StoStore_get a1 (g_Vi_named_0 (lit [(97:Nat)]) a2)&&bif !g_Vi_StoStore_get_0 a1 (g_Vi_named_0 (lit [(97:Nat)]) a2) then true else true)))))
noncomputable def g_Vi_PlcPlan_0 (a0:Int) (a1:List (ByteArray×(List Int))) (a2:Int) (a3:Int) (a4:Int) (a5:Int) (a6:Int) (a7:Int) (a8:Int) (a9:Int):Bool := bif !g_Vi_PlcOk_0 a0 a1 then false else bif !g_Vi_isTx_0 a2 then false else bif !g_Vslices_Contains_int_int_0 (g_Vi_OpPlaces_0 a3 a4 a5 a6 a7 a8 a9) a0 then false else bif a0 == (1:Int) then g_Vi_atIn_0 a1 a3 a4 a5 a6 a7 a8 a9 else bif a0 == (2:Int) then g_Vi_atMay_0 a1 a3 a4 a5 a6 a7 a8 a9 else bif !g_Vi_StoStore_get_0 a1 (g_Vi_named_0 (lit [(97:Nat)]) a2) then false else true
noncomputable def g_Vi_PlcPlan_1 (a0:Int) (a1:List (ByteArray×(List Int))) (a2:Int) (a3:Int) (a4:Int) (a5:Int) (a6:Int) (a7:Int) (a8:Int) (a9:Int):List ByteArray := bif !g_Vi_PlcOk_0 a0 a1 then [] else bif !g_Vi_isTx_0 a2 then [] else bif !g_Vslices_Contains_int_int_0 (g_Vi_OpPlaces_0 a3 a4 a5 a6 a7 a8 a9) a0 then [] else bif a0 == (1:Int) then g_Vi_atIn_1 a1 a3 a4 a5 a6 a7 a8 a9 else bif a0 == (2:Int) then g_Vi_atMay_1 a1 a3 a4 a5 a6 a7 a8 a9 else bif !g_Vi_StoStore_get_0 a1 (g_Vi_named_0 (lit [(97:Nat)]) a2) then [g_Vi_named_0 (lit [(97:Nat)]) a2] else [g_Vi_named_0 (lit [(97:Nat)]) a2]
noncomputable def g_Vi_PlcPlan_2 (a0:Int) (a1:List (ByteArray×(List Int))) (a2:Int) (a3:Int) (a4:Int) (a5:Int) (a6:Int) (a7:Int) (a8:Int) (a9:Int):List (ByteArray×(Bool×(List Int))) := bif !g_Vi_PlcOk_0 a0 a1 then [] else bif !g_Vi_isTx_0 a2 then [] else bif !g_Vslices_Contains_int_int_0 (g_Vi_OpPlaces_0 a3 a4 a5 a6 a7 a8 a9) a0 then [] else bif a0 == (1:Int) then g_Vi_atIn_2 a1 a3 a4 a5 a6 a7 a8 a9 else bif a0 == (2:Int) then g_Vi_atMay_2 a1 a3 a4 a5 a6 a7 a8 a9 else bif !g_Vi_StoStore_get_0 a1 (g_Vi_named_0 (lit [(97:Nat)]) a2) then g_Vi_refused_0 [g_Vi_named_0 (lit [(97:Nat)]) a2] else [(g_Vi_named_0 (lit [(97:Nat)]) a2,false,[a3])]
noncomputable def Fi_PlcPlan:FSem := fun ys => match ys with
 | [.val false [.int .i64 a0],.val true [.sl .any 49 (.pair .str (.sl 3 (.int .i64))) a1],.val false [.int .i64 a2],.val true [.int .i64 a3,.int .i64 a4,.int .i64 a5,.int .i64 a6,.int .i64 a7,.int .i64 a8,.int .i64 a9]] => some ((g_Ai_PlcPlan a0 a1 a2 a3 a4 a5 a6 a7 a8 a9),.val true [.bool (g_Vi_PlcPlan_0 a0 a1 a2 a3 a4 a5 a6 a7 a8 a9),.own .any true 9 .str (g_Vi_PlcPlan_1 a0 a1 a2 a3 a4 a5 a6 a7 a8 a9),.own .any true 39 (.pair .str (.pair .bool (.sl 3 (.int .i64)))) (g_Vi_PlcPlan_2 a0 a1 a2 a3 a4 a5 a6 a7 a8 a9)],[])
 | _ => none
theorem vi_PlcPlan (a0:Int) (a1:List (ByteArray×(List Int))) (a2:Int) (a3:Int) (a4:Int) (a5:Int) (a6:Int) (a7:Int) (a8:Int) (a9:Int):collapseH .std Ei_PlcPlan Oi_PlcPlan_0 (execFn Ei_PlcPlan Tryz.f11 msi_PlcPlan [.val false [.int .i64 a0],.val true [.sl .any 49 (.pair .str (.sl 3 (.int .i64))) a1],.val false [.int .i64 a2],.val true [.int .i64 a3,.int .i64 a4,.int .i64 a5,.int .i64 a6,.int .i64 a7,.int .i64 a8,.int .i64 a9]]) = some ((g_Ai_PlcPlan a0 a1 a2 a3 a4 a5 a6 a7 a8 a9),.val true [.bool (g_Vi_PlcPlan_0 a0 a1 a2 a3 a4 a5 a6 a7 a8 a9),.own .any true 9 .str (g_Vi_PlcPlan_1 a0 a1 a2 a3 a4 a5 a6 a7 a8 a9),.own .any true 39 (.pair .str (.pair .bool (.sl 3 (.int .i64)))) (g_Vi_PlcPlan_2 a0 a1 a2 a3 a4 a5 a6 a7 a8 a9)],[]) := by kernel_rfl
theorem si_PlcPlan:Sound Tryz.prog 11 msi_PlcPlan Fi_PlcPlan := by
 refine fn_gen goodi_PlcPlan (by kernel_rfl) .std (fn := Tryz.f11) (c := (Tryz.f11.body.getD .skip)) (o := Oi_PlcPlan_0) (k := 0) (by kernel_rfl) (by kernel_rfl) (by kernel_rfl) (by kernel_rfl) (by decide) ki_PlcPlan_0 ?_
 intro ys r outs h
 unfold Fi_PlcPlan at h
 split at h
 ·exact (vi_PlcPlan _ _ _ _ _ _ _ _ _ _).trans h
 ·cases h
noncomputable def Es_l1In:Env where
 tt := mkTI Tryz.prog
 fn := fun _ => none
 bxf := fun _ => none
 mv := []
 keep := fun _ => []
 keepB := fun _ => []
 keepX := fun _ => []
 keepXB := fun _ => []
theorem goodFs_l1In:∀ f ms F,Es_l1In.fn f = some (ms,F) → Sound Tryz.prog f ms F := fun f ms F h => by cases h
theorem goodBs_l1In:∀ f ms F,Es_l1In.bxf f = some (ms,F) → SoundB Tryz.prog f ms F := fun f ms F h => by cases h
theorem goods_l1In:Good Tryz.prog Es_l1In := ⟨rfl,goodFs_l1In,goodBs_l1In⟩
noncomputable def Os_l1In_0:Orc := fun _ _ => none
noncomputable def mss_l1In:List PM := [.own,.own,.own]
noncomputable def lss_l1In:List (Nat×Code) := loopsAll 0 (Tryz.f59.body.getD .skip)
theorem ks_l1In_0:OrcOk Es_l1In Os_l1In_0 lss_l1In 0 := orcOk_none
noncomputable def g_As_l1In (a0:Int) (a1:Int) (a2:Int):Bool := !decide (a0 ≥ a1) || true
noncomputable def g_Vs_l1In_0 (a0:Int) (a1:Int) (a2:Int):Bool := bif decide (a0 ≥ a1) then decide (a0 ≤ a2) else false
noncomputable def Fs_l1In:FSem := fun ys => match ys with
 | [.val false [.int .i64 a0],.val false [.int .i64 a1],.val false [.int .i64 a2]] => some ((g_As_l1In a0 a1 a2),.val false [.bool (g_Vs_l1In_0 a0 a1 a2)],[])
 | _ => none
theorem vs_l1In (a0:Int) (a1:Int) (a2:Int):collapseH .std Es_l1In Os_l1In_0 (execFn Es_l1In Tryz.f59 mss_l1In [.val false [.int .i64 a0],.val false [.int .i64 a1],.val false [.int .i64 a2]]) = some ((g_As_l1In a0 a1 a2),.val false [.bool (g_Vs_l1In_0 a0 a1 a2)],[]) := by kernel_rfl
theorem ss_l1In:Sound Tryz.prog 59 mss_l1In Fs_l1In := by
 refine fn_gen goods_l1In (by kernel_rfl) .std (fn := Tryz.f59) (c := (Tryz.f59.body.getD .skip)) (o := Os_l1In_0) (k := 0) (by kernel_rfl) (by kernel_rfl) (by kernel_rfl) (by kernel_rfl) (by decide) ks_l1In_0 ?_
 intro ys r outs h
 unfold Fs_l1In at h
 split at h
 ·exact (vs_l1In _ _ _).trans h
 ·cases h
noncomputable def Es_OpOk:Env where
 tt := mkTI Tryz.prog
 fn := fun f => match f with
  | 59 => some (mss_l1In,FSem.wk mss_l1In Fs_l1In)
  | _ => none
 bxf := fun _ => none
 mv := []
 keep := fun _ => []
 keepB := fun _ => []
 keepX := fun _ => []
 keepXB := fun _ => []
theorem goodFs_OpOk:∀ f ms F,Es_OpOk.fn f = some (ms,F) → Sound Tryz.prog f ms F := fun f ms F h => by
 unfold Es_OpOk at h
 dsimp only at h
 split at h
 ·injection h with h; injection h with e1 e2; subst e1 e2; exact Sound.wk ss_l1In
 ·cases h
theorem goodBs_OpOk:∀ f ms F,Es_OpOk.bxf f = some (ms,F) → SoundB Tryz.prog f ms F := fun f ms F h => by cases h
theorem goods_OpOk:Good Tryz.prog Es_OpOk := ⟨rfl,goodFs_OpOk,goodBs_OpOk⟩
noncomputable def Os_OpOk_0:Orc := fun _ _ => none
noncomputable def mss_OpOk:List PM := [.own]
noncomputable def lss_OpOk:List (Nat×Code) := loopsAll 0 (Tryz.f58.body.getD .skip)
theorem ks_OpOk_0:OrcOk Es_OpOk Os_OpOk_0 lss_OpOk 0 := orcOk_none
noncomputable def g_As_OpOk (a0:Int) (a1:Int) (a2:Int) (a3:Int) (a4:Int) (a5:Int) (a6:Int):Bool := g_As_l1In a1 (0:Int) (9:Int)&&(!g_Vs_l1In_0 a1 (0:Int) (9:Int) || g_As_l1In a2 (0:Int) (9:Int)&&(!g_Vs_l1In_0 a2 (0:Int) (9:Int) || g_As_l1In a3 (0:Int) (9:Int)&&(!g_Vs_l1In_0 a3 (0:Int) (9:Int) || g_As_l1In a4 (0:Int) (99:Int)&&(!g_Vs_l1In_0 a4 (0:Int) (99:Int) || g_As_l1In a5 (0:Int) (9:Int)&&(!g_Vs_l1In_0 a5 (0:Int) (9:Int) || g_As_l1In a6 (0:Int) (99:Int)&&(!g_Vs_l1In_0 a6 (0:Int) (99:Int) || bif a0 == (1:Int) then bif a0 == (1:Int) then !a3 == (0:Int) || (!a4 == (0:Int) || (!a5 == (0:Int) || true)) else bif a0 == (2:Int) then !a5 == (0:Int) || true else bif a0 == (3:Int) then !a1 == (0:Int) || (!a2 == (0:Int) || true) else !a0 == (4:Int) || (!a1 == (0:Int) || (!a2 == (0:Int) || (!a3 == (0:Int) || true))) else bif a0 == (5:Int) then !a3 == (0:Int) || (!a4 == (0:Int) || (!a5 == (0:Int) || true)) else bif a0 == (2:Int) then !a5 == (0:Int) || true else bif a0 == (3:Int) then !a1 == (0:Int) || (!a2 == (0:Int) || true) else !a0 == (4:Int) || (!a1 == (0:Int) || (!a2 == (0:Int) || (!a3 == (0:Int) || true)))))))))
noncomputable def g_Vs_OpOk_0 (a0:Int) (a1:Int) (a2:Int) (a3:Int) (a4:Int) (a5:Int) (a6:Int):Bool := bif !g_Vs_l1In_0 a1 (0:Int) (9:Int) then false else bif !g_Vs_l1In_0 a2 (0:Int) (9:Int) then false else bif !g_Vs_l1In_0 a3 (0:Int) (9:Int) then false else bif !g_Vs_l1In_0 a4 (0:Int) (99:Int) then false else bif !g_Vs_l1In_0 a5 (0:Int) (9:Int) then false else bif !g_Vs_l1In_0 a6 (0:Int) (99:Int) then false else bif a0 == (1:Int) then bif a0 == (1:Int) then bif a3 == (0:Int) then bif a4 == (0:Int) then bif a5 == (0:Int) then a6 == (0:Int) else false else false else false else bif a0 == (2:Int) then bif a5 == (0:Int) then a6 == (0:Int) else false else bif a0 == (3:Int) then bif a1 == (0:Int) then bif a2 == (0:Int) then a6 == (0:Int) else false else false else bif a0 == (4:Int) then bif a1 == (0:Int) then bif a2 == (0:Int) then bif a3 == (0:Int) then a4 == (0:Int) else false else false else false else false else bif a0 == (5:Int) then bif a3 == (0:Int) then bif a4 == (0:Int) then bif a5 == (0:Int) then a6 == (0:Int) else false else false else false else bif a0 == (2:Int) then bif a5 == (0:Int) then a6 == (0:Int) else false else bif a0 == (3:Int) then bif a1 == (0:Int) then bif a2 == (0:Int) then a6 == (0:Int) else false else false else bif a0 == (4:Int) then bif a1 == (0:Int) then bif a2 == (0:Int) then bif a3 == (0:Int) then a4 == (0:Int) else false else false else false else false
noncomputable def Fs_OpOk:FSem := fun ys => match ys with
 | [.val true [.int .i64 a0,.int .i64 a1,.int .i64 a2,.int .i64 a3,.int .i64 a4,.int .i64 a5,.int .i64 a6]] => some ((g_As_OpOk a0 a1 a2 a3 a4 a5 a6),.val false [.bool (g_Vs_OpOk_0 a0 a1 a2 a3 a4 a5 a6)],[])
 | _ => none
theorem vs_OpOk (a0:Int) (a1:Int) (a2:Int) (a3:Int) (a4:Int) (a5:Int) (a6:Int):collapseH .std Es_OpOk Os_OpOk_0 (execFn Es_OpOk Tryz.f58 mss_OpOk [.val true [.int .i64 a0,.int .i64 a1,.int .i64 a2,.int .i64 a3,.int .i64 a4,.int .i64 a5,.int .i64 a6]]) = some ((g_As_OpOk a0 a1 a2 a3 a4 a5 a6),.val false [.bool (g_Vs_OpOk_0 a0 a1 a2 a3 a4 a5 a6)],[]) := by kernel_rfl
theorem ss_OpOk:Sound Tryz.prog 58 mss_OpOk Fs_OpOk := by
 refine fn_gen goods_OpOk (by kernel_rfl) .std (fn := Tryz.f58) (c := (Tryz.f58.body.getD .skip)) (o := Os_OpOk_0) (k := 0) (by kernel_rfl) (by kernel_rfl) (by kernel_rfl) (by kernel_rfl) (by decide) ks_OpOk_0 ?_
 intro ys r outs h
 unfold Fs_OpOk at h
 split at h
 ·exact (vs_OpOk _ _ _ _ _ _ _).trans h
 ·cases h
noncomputable def Es_OpPlaces:Env where
 tt := mkTI Tryz.prog
 fn := fun f => match f with
  | 58 => some (mss_OpOk,FSem.wk mss_OpOk Fs_OpOk)
  | _ => none
 bxf := fun _ => none
 mv := []
 keep := fun _ => []
 keepB := fun _ => []
 keepX := fun _ => []
 keepXB := fun _ => []
theorem goodFs_OpPlaces:∀ f ms F,Es_OpPlaces.fn f = some (ms,F) → Sound Tryz.prog f ms F := fun f ms F h => by
 unfold Es_OpPlaces at h
 dsimp only at h
 split at h
 ·injection h with h; injection h with e1 e2; subst e1 e2; exact Sound.wk ss_OpOk
 ·cases h
theorem goodBs_OpPlaces:∀ f ms F,Es_OpPlaces.bxf f = some (ms,F) → SoundB Tryz.prog f ms F := fun f ms F h => by cases h
theorem goods_OpPlaces:Good Tryz.prog Es_OpPlaces := ⟨rfl,goodFs_OpPlaces,goodBs_OpPlaces⟩
noncomputable def Os_OpPlaces_0:Orc := fun _ _ => none
noncomputable def mss_OpPlaces:List PM := [.own]
noncomputable def lss_OpPlaces:List (Nat×Code) := loopsAll 0 (Tryz.f41.body.getD .skip)
theorem ks_OpPlaces_0:OrcOk Es_OpPlaces Os_OpPlaces_0 lss_OpPlaces 0 := orcOk_none
noncomputable def g_As_OpPlaces (a0:Int) (a1:Int) (a2:Int) (a3:Int) (a4:Int) (a5:Int) (a6:Int):Bool := g_As_OpOk a0 a1 a2 a3 a4 a5 a6&&(!g_Vs_OpOk_0 a0 a1 a2 a3 a4 a5 a6 || (a0 == (1:Int) || (a0 == (2:Int) || true)))
noncomputable def g_Vs_OpPlaces_0 (a0:Int) (a1:Int) (a2:Int) (a3:Int) (a4:Int) (a5:Int) (a6:Int):List Int := bif !g_Vs_OpOk_0 a0 a1 a2 a3 a4 a5 a6 then [] else bif a0 == (1:Int) then [(1:Int),(3:Int)] else bif a0 == (2:Int) then bif a0 == (2:Int) then [(1:Int),(2:Int),(3:Int)] else [(2:Int),(3:Int)] else bif a0 == (5:Int) then [(1:Int),(2:Int),(3:Int)] else [(2:Int),(3:Int)]
noncomputable def Fs_OpPlaces:FSem := fun ys => match ys with
 | [.val true [.int .i64 a0,.int .i64 a1,.int .i64 a2,.int .i64 a3,.int .i64 a4,.int .i64 a5,.int .i64 a6]] => some ((g_As_OpPlaces a0 a1 a2 a3 a4 a5 a6),.val false [.own .any true 3 (.int .i64) (g_Vs_OpPlaces_0 a0 a1 a2 a3 a4 a5 a6)],[])
 | _ => none
theorem vs_OpPlaces (a0:Int) (a1:Int) (a2:Int) (a3:Int) (a4:Int) (a5:Int) (a6:Int):collapseH .std Es_OpPlaces Os_OpPlaces_0 (execFn Es_OpPlaces Tryz.f41 mss_OpPlaces [.val true [.int .i64 a0,.int .i64 a1,.int .i64 a2,.int .i64 a3,.int .i64 a4,.int .i64 a5,.int .i64 a6]]) = some ((g_As_OpPlaces a0 a1 a2 a3 a4 a5 a6),.val false [.own .any true 3 (.int .i64) (g_Vs_OpPlaces_0 a0 a1 a2 a3 a4 a5 a6)],[]) := by kernel_rfl
theorem ss_OpPlaces:Sound Tryz.prog 41 mss_OpPlaces Fs_OpPlaces := by
 refine fn_gen goods_OpPlaces (by kernel_rfl) .std (fn := Tryz.f41) (c := (Tryz.f41.body.getD .skip)) (o := Os_OpPlaces_0) (k := 0) (by kernel_rfl) (by kernel_rfl) (by kernel_rfl) (by kernel_rfl) (by decide) ks_OpPlaces_0 ?_
 intro ys r outs h
 unfold Fs_OpPlaces at h
 split at h
 ·exact (vs_OpPlaces _ _ _ _ _ _ _).trans h
 ·cases h
noncomputable def Es_l1Key:Env where
 tt := mkTI Tryz.prog
 fn := fun f => match f with
  | 59 => some (mss_l1In,FSem.wk mss_l1In Fs_l1In)
  | _ => none
 bxf := fun _ => none
 mv := []
 keep := fun b => match b with
  | 0 => [(0,false),(3,false)]
  | _ => []
 keepB := fun b => match b with
  | 0 => []
  | _ => []
 keepX := fun b => match b with
  | 0 => [(2,false)]
  | _ => []
 keepXB := fun b => match b with
  | 0 => []
  | _ => []
theorem goodFs_l1Key:∀ f ms F,Es_l1Key.fn f = some (ms,F) → Sound Tryz.prog f ms F := fun f ms F h => by
 unfold Es_l1Key at h
 dsimp only at h
 split at h
 ·injection h with h; injection h with e1 e2; subst e1 e2; exact Sound.wk ss_l1In
 ·cases h
theorem goodBs_l1Key:∀ f ms F,Es_l1Key.bxf f = some (ms,F) → SoundB Tryz.prog f ms F := fun f ms F h => by cases h
theorem goods_l1Key:Good Tryz.prog Es_l1Key := ⟨rfl,goodFs_l1Key,goodBs_l1Key⟩
noncomputable def Os_l1Key_0:Orc := fun _ _ => none
noncomputable def mss_l1Key:List PM := [.own]
noncomputable def lss_l1Key:List (Nat×Code) := loopsAll 0 (Tryz.f128.body.getD .skip)
noncomputable def cs_l1Key_0:Code := (loopOf 0 (Tryz.f128.body.getD .skip)).getD .skip
theorem lseqs_l1Key:lss_l1Key = [(0,cs_l1Key_0)] := by kernel_rfl
theorem ms_l1Key_0:∀ p,p ∈ lss_l1Key → p.1 = 0 → p.2 = cs_l1Key_0 := by
 intro p hp
 rw [lseqs_l1Key] at hp
 simp only [List.mem_cons,List.not_mem_nil,or_false] at hp
 subst hp; simp
theorem ks_l1Key_0:OrcOk Es_l1Key Os_l1Key_0 lss_l1Key 0 := orcOk_none
noncomputable def hs_l1Key_0 (y0:ByteArray) (y1:Int):List (Pl×LV) := [(.T 0,.t (.val false [.str y0])),(.T 3,.t (.val false [.int .i64 y1]))]
noncomputable def g_Ss_l1Key_0 (y0:ByteArray):(Int) → RT (Int) ((Bool) ⊕ (Unit))
 | y1 => .br (true) (.br (decide (y1 < (↑(ByteArray.size y0):Int))) (.br (decide ((0:Int) ≤ y1 ∧ y1 < (↑(ByteArray.size y0):Int))) (.br (true) (.br (decide (byteAt y0 (Int.toNat y1) < (48:Int))) (.out (.inl false)) (.br (decide ((0:Int) ≤ y1 ∧ y1 < (↑(ByteArray.size y0):Int))) (.br (true) (.br (decide (byteAt y0 (Int.toNat y1) > (57:Int))) (.out (.inl false)) (.br (true) (.go (IntKind.wrap IntKind.i64 (y1 + (1:Int)))) .bad)) .bad) .bad)) .bad) .bad) (.out (.inr (())))) .bad
noncomputable def g_Ls_l1Key_0 (y0:ByteArray) (x:Int):Option ((Bool) ⊕ (Unit)) := loopO (g_Ss_l1Key_0 y0) x
noncomputable def xs_l1Key_0 (y0:ByteArray):((Bool) ⊕ (Unit)) → Ex×List (Pl×LV) := fun
 | .inl r => (.ret,[(.T 2,.t (.val false [.bool r]))])
 | .inr (r) => (.exit 0,[(.T 2,.t (.val false [.undef]))])
noncomputable def Os_l1Key_1:Orc := fun b h => match b,h with
 | 0,[(.T 0,.t (.val false [.str y0])),(.T 3,.t (.val false [.int .i64 y1]))] => some (okO (g_Ls_l1Key_0 y0 y1),(.br (isL (valO (g_Ls_l1Key_0 y0 y1))) (.leaf .ret [(.T 2,.t (.val false [.bool (getL (valO (g_Ls_l1Key_0 y0 y1)))]))]) (.leaf (.exit 0) [(.T 2,.t (.val false [.undef]))])))
 | b,h => Os_l1Key_0 b h
theorem bs_l1Key_0 (y0:ByteArray) (y1:Int):Tr.bt Es_l1Key Os_l1Key_0 (exec Es_l1Key 0 cs_l1Key_0 (St.of (hs_l1Key_0 y0 y1)) (leafRd Es_l1Key 0)) = (g_Ss_l1Key_0 y0 y1).bt (fun (y1:Int) => (hs_l1Key_0 y0 y1)) (xs_l1Key_0 y0) := by kernel_rfl
theorem ks_l1Key_1:OrcOk Es_l1Key Os_l1Key_1 lss_l1Key 1 := orc_add ks_l1Key_0 (fun n p hp h ex h' ho => by
 obtain ⟨b,c⟩ := p
 obtain ⟨xt,h1,h2⟩ := ho
 have h1:Os_l1Key_1 b h = some (true,xt) := h1
 unfold Os_l1Key_1 at h1
 split at h1
 ·injection h1 with h1
  injection h1 with e1 e2
  subst e2
  have hc:c = cs_l1Key_0 := ms_l1Key_0 _ hp rfl
  subst hc
  right
  rename_i y0 y1
  have key := LT_step ks_l1Key_0 hp (fun q hq => loopsAll_in _ _ _ _ hp hq) (fun (y1:Int) => (hs_l1Key_0 y0 y1)) (xs_l1Key_0 y0) (g_Ss_l1Key_0 y0) (fun x => by first | exact bs_l1Key_0 y0 x) n (x := y1) (okO_some e1)
  have hx:∀ r,XT.sel (.br (isL r) (.leaf .ret [(.T 2,.t (.val false [.bool (getL r)]))]) (.leaf (.exit 0) [(.T 2,.t (.val false [.undef]))])) = xs_l1Key_0 y0 r := fun r => by first | rfl | (rcases r with r | r <;> rfl) | (rcases r with r | r | r <;> rfl) | (rcases r with r | r | r | r <;> rfl)
  have h3 := (hx (valO (g_Ls_l1Key_0 y0 y1))).symm.trans h2
  have e3 := congrArg Prod.fst h3
  have e4 := congrArg Prod.snd h3
  simp only at e3 e4
  rw [← e3,← e4]
  exact key
 ·exact .inl ⟨xt,h1,h2⟩)
noncomputable def g_As_l1Key (a0:ByteArray):Bool := g_As_l1In (↑(ByteArray.size a0):Int) (2:Int) (3:Int)&&(!g_Vs_l1In_0 (↑(ByteArray.size a0):Int) (2:Int) (3:Int) || decide ((0:Int) ≤ (0:Int) ∧ (0:Int) < (↑(ByteArray.size a0):Int))&&(decide (byteAt a0 (nat_lit 0) < (97:Int)) || decide ((0:Int) ≤ (0:Int) ∧ (0:Int) < (↑(ByteArray.size a0):Int))&&(decide (byteAt a0 (nat_lit 0) > (122:Int)) || okO (g_Ls_l1Key_0 a0 (1:Int)))))
noncomputable def g_Vs_l1Key_0 (a0:ByteArray):Bool := bif !g_Vs_l1In_0 (↑(ByteArray.size a0):Int) (2:Int) (3:Int) then false else bif decide (byteAt a0 (nat_lit 0) < (97:Int)) then false else bif decide (byteAt a0 (nat_lit 0) > (122:Int)) then false else bif isL (valO (g_Ls_l1Key_0 a0 (1:Int))) then getL (valO (g_Ls_l1Key_0 a0 (1:Int))) else true
noncomputable def Fs_l1Key:FSem := fun ys => match ys with
 | [.val false [.str a0]] => some ((g_As_l1Key a0),.val false [.bool (g_Vs_l1Key_0 a0)],[])
 | _ => none
theorem vs_l1Key (a0:ByteArray):collapseH .std Es_l1Key Os_l1Key_1 (execFn Es_l1Key Tryz.f128 mss_l1Key [.val false [.str a0]]) = some ((g_As_l1Key a0),.val false [.bool (g_Vs_l1Key_0 a0)],[]) := by kernel_rfl
theorem ss_l1Key:Sound Tryz.prog 128 mss_l1Key Fs_l1Key := by
 refine fn_gen goods_l1Key (by kernel_rfl) .std (fn := Tryz.f128) (c := (Tryz.f128.body.getD .skip)) (o := Os_l1Key_1) (k := 1) (by kernel_rfl) (by kernel_rfl) (by kernel_rfl) (by kernel_rfl) (by decide) ks_l1Key_1 ?_
 intro ys r outs h
 unfold Fs_l1Key at h
 split at h
 ·exact (vs_l1Key _).trans h
 ·cases h
noncomputable def Es_l1Val:Env where
 tt := mkTI Tryz.prog
 fn := fun f => match f with
  | 59 => some (mss_l1In,FSem.wk mss_l1In Fs_l1In)
  | _ => none
 bxf := fun _ => none
 mv := []
 keep := fun b => match b with
  | 0 => [(0,false),(3,false)]
  | _ => []
 keepB := fun b => match b with
  | 0 => []
  | _ => []
 keepX := fun b => match b with
  | 0 => [(0,false),(2,false)]
  | _ => []
 keepXB := fun b => match b with
  | 0 => []
  | _ => []
theorem goodFs_l1Val:∀ f ms F,Es_l1Val.fn f = some (ms,F) → Sound Tryz.prog f ms F := fun f ms F h => by
 unfold Es_l1Val at h
 dsimp only at h
 split at h
 ·injection h with h; injection h with e1 e2; subst e1 e2; exact Sound.wk ss_l1In
 ·cases h
theorem goodBs_l1Val:∀ f ms F,Es_l1Val.bxf f = some (ms,F) → SoundB Tryz.prog f ms F := fun f ms F h => by cases h
theorem goods_l1Val:Good Tryz.prog Es_l1Val := ⟨rfl,goodFs_l1Val,goodBs_l1Val⟩
noncomputable def Os_l1Val_0:Orc := fun _ _ => none
noncomputable def mss_l1Val:List PM := [.rd]
noncomputable def lss_l1Val:List (Nat×Code) := loopsAll 0 (Tryz.f146.body.getD .skip)
noncomputable def cs_l1Val_0:Code := (loopOf 0 (Tryz.f146.body.getD .skip)).getD .skip
theorem lseqs_l1Val:lss_l1Val = [(0,cs_l1Val_0)] := by kernel_rfl
theorem ms_l1Val_0:∀ p,p ∈ lss_l1Val → p.1 = 0 → p.2 = cs_l1Val_0 := by
 intro p hp
 rw [lseqs_l1Val] at hp
 simp only [List.mem_cons,List.not_mem_nil,or_false] at hp
 subst hp; simp
theorem ks_l1Val_0:OrcOk Es_l1Val Os_l1Val_0 lss_l1Val 0 := orcOk_none
noncomputable def hs_l1Val_0 (y0:List Int) (y1:Int):List (Pl×LV) := [(.T 0,.t (.val false [.sl .any 3 (.int .i64) y0])),(.T 3,.t (.val false [.int .i64 y1]))]
noncomputable def g_Ss_l1Val_0 (y0:List Int):(Int) → RT (Int) ((Bool) ⊕ (Unit))
 | y1 => .br (true) (.br (decide (y1 < (↑(List.length y0):Int))) (.br (decide ((0:Int) ≤ y1 ∧ y1 < (↑(List.length y0):Int))) (.br (g_As_l1In (at_ (Ty.int IntKind.i64) y0 (Int.toNat y1)) (0:Int) (9999:Int)) (.br (!g_Vs_l1In_0 (at_ (Ty.int IntKind.i64) y0 (Int.toNat y1)) (0:Int) (9999:Int)) (.out (.inl false)) (.br (true) (.go (IntKind.wrap IntKind.i64 (y1 + (1:Int)))) .bad)) .bad) .bad) (.out (.inr (())))) .bad
noncomputable def g_Ls_l1Val_0 (y0:List Int) (x:Int):Option ((Bool) ⊕ (Unit)) := loopO (g_Ss_l1Val_0 y0) x
noncomputable def xs_l1Val_0 (y0:List Int):((Bool) ⊕ (Unit)) → Ex×List (Pl×LV) := fun
 | .inl r => (.ret,[(.T 0,.t (.val false [.sl .any 3 (.int .i64) y0])),(.T 2,.t (.val false [.bool r]))])
 | .inr (r) => (.exit 0,[(.T 0,.t (.val false [.sl .any 3 (.int .i64) y0])),(.T 2,.t (.val false [.undef]))])
noncomputable def Os_l1Val_1:Orc := fun b h => match b,h with
 | 0,[(.T 0,.t (.val false [.sl .any 3 (.int .i64) y0])),(.T 3,.t (.val false [.int .i64 y1]))] => some (okO (g_Ls_l1Val_0 y0 y1),(.br (isL (valO (g_Ls_l1Val_0 y0 y1))) (.leaf .ret [(.T 0,.t (.val false [.sl .any 3 (.int .i64) y0])),(.T 2,.t (.val false [.bool (getL (valO (g_Ls_l1Val_0 y0 y1)))]))]) (.leaf (.exit 0) [(.T 0,.t (.val false [.sl .any 3 (.int .i64) y0])),(.T 2,.t (.val false [.undef]))])))
 | b,h => Os_l1Val_0 b h
theorem bs_l1Val_0 (y0:List Int) (y1:Int):Tr.bt Es_l1Val Os_l1Val_0 (exec Es_l1Val 0 cs_l1Val_0 (St.of (hs_l1Val_0 y0 y1)) (leafRd Es_l1Val 0)) = (g_Ss_l1Val_0 y0 y1).bt (fun (y1:Int) => (hs_l1Val_0 y0 y1)) (xs_l1Val_0 y0) := by kernel_rfl
theorem ks_l1Val_1:OrcOk Es_l1Val Os_l1Val_1 lss_l1Val 1 := orc_add ks_l1Val_0 (fun n p hp h ex h' ho => by
 obtain ⟨b,c⟩ := p
 obtain ⟨xt,h1,h2⟩ := ho
 have h1:Os_l1Val_1 b h = some (true,xt) := h1
 unfold Os_l1Val_1 at h1
 split at h1
 ·injection h1 with h1
  injection h1 with e1 e2
  subst e2
  have hc:c = cs_l1Val_0 := ms_l1Val_0 _ hp rfl
  subst hc
  right
  rename_i y0 y1
  have key := LT_step ks_l1Val_0 hp (fun q hq => loopsAll_in _ _ _ _ hp hq) (fun (y1:Int) => (hs_l1Val_0 y0 y1)) (xs_l1Val_0 y0) (g_Ss_l1Val_0 y0) (fun x => by first | exact bs_l1Val_0 y0 x) n (x := y1) (okO_some e1)
  have hx:∀ r,XT.sel (.br (isL r) (.leaf .ret [(.T 0,.t (.val false [.sl .any 3 (.int .i64) y0])),(.T 2,.t (.val false [.bool (getL r)]))]) (.leaf (.exit 0) [(.T 0,.t (.val false [.sl .any 3 (.int .i64) y0])),(.T 2,.t (.val false [.undef]))])) = xs_l1Val_0 y0 r := fun r => by first | rfl | (rcases r with r | r <;> rfl) | (rcases r with r | r | r <;> rfl) | (rcases r with r | r | r | r <;> rfl)
  have h3 := (hx (valO (g_Ls_l1Val_0 y0 y1))).symm.trans h2
  have e3 := congrArg Prod.fst h3
  have e4 := congrArg Prod.snd h3
  simp only at e3 e4
  rw [← e3,← e4]
  exact key
 ·exact .inl ⟨xt,h1,h2⟩)
noncomputable def g_As_l1Val (a0:List Int):Bool := okO (g_Ls_l1Val_0 a0 (0:Int))&&(isL (valO (g_Ls_l1Val_0 a0 (0:Int))) || g_As_l1In (↑(List.length a0):Int) (1:Int) (3:Int))
noncomputable def g_Vs_l1Val_0 (a0:List Int):Bool := bif isL (valO (g_Ls_l1Val_0 a0 (0:Int))) then getL (valO (g_Ls_l1Val_0 a0 (0:Int))) else g_Vs_l1In_0 (↑(List.length a0):Int) (1:Int) (3:Int)
noncomputable def Fs_l1Val:FSem := fun ys => match ys with
 | [.val false [.sl .any 3 (.int .i64) a0]] => some ((g_As_l1Val a0),.val false [.bool (g_Vs_l1Val_0 a0)],[])
 | _ => none
theorem vs_l1Val (a0:List Int):collapseH .std Es_l1Val Os_l1Val_1 (execFn Es_l1Val Tryz.f146 mss_l1Val [.val false [.sl .any 3 (.int .i64) a0]]) = some ((g_As_l1Val a0),.val false [.bool (g_Vs_l1Val_0 a0)],[]) := by kernel_rfl
theorem ss_l1Val:Sound Tryz.prog 146 mss_l1Val Fs_l1Val := by
 refine fn_gen goods_l1Val (by kernel_rfl) .std (fn := Tryz.f146) (c := (Tryz.f146.body.getD .skip)) (o := Os_l1Val_1) (k := 1) (by kernel_rfl) (by kernel_rfl) (by kernel_rfl) (by kernel_rfl) (by decide) ks_l1Val_1 ?_
 intro ys r outs h
 unfold Fs_l1Val at h
 split at h
 ·exact (vs_l1Val _).trans h
 ·cases h
noncomputable def Es_StoOk:Env where
 tt := mkTI Tryz.prog
 fn := fun f => match f with
  | 128 => some (mss_l1Key,FSem.wk mss_l1Key Fs_l1Key)
  | 146 => some (mss_l1Val,FSem.wk mss_l1Val Fs_l1Val)
  | _ => none
 bxf := fun _ => none
 mv := []
 keep := fun b => match b with
  | 0 => [(1,false),(3,false)]
  | _ => []
 keepB := fun b => match b with
  | 0 => [(1,false)]
  | _ => []
 keepX := fun b => match b with
  | 0 => [(2,false)]
  | _ => []
 keepXB := fun b => match b with
  | 0 => []
  | _ => []
theorem goodFs_StoOk:∀ f ms F,Es_StoOk.fn f = some (ms,F) → Sound Tryz.prog f ms F := fun f ms F h => by
 unfold Es_StoOk at h
 dsimp only at h
 split at h
 ·injection h with h; injection h with e1 e2; subst e1 e2; exact Sound.wk ss_l1Key
 ·injection h with h; injection h with e1 e2; subst e1 e2; exact Sound.wk ss_l1Val
 ·cases h
theorem goodBs_StoOk:∀ f ms F,Es_StoOk.bxf f = some (ms,F) → SoundB Tryz.prog f ms F := fun f ms F h => by cases h
theorem goods_StoOk:Good Tryz.prog Es_StoOk := ⟨rfl,goodFs_StoOk,goodBs_StoOk⟩
noncomputable def Os_StoOk_0:Orc := fun _ _ => none
noncomputable def mss_StoOk:List PM := [.rd]
noncomputable def lss_StoOk:List (Nat×Code) := loopsAll 0 (Tryz.f102.body.getD .skip)
noncomputable def cs_StoOk_0:Code := (loopOf 0 (Tryz.f102.body.getD .skip)).getD .skip
theorem lseqs_StoOk:lss_StoOk = [(0,cs_StoOk_0)] := by kernel_rfl
theorem ms_StoOk_0:∀ p,p ∈ lss_StoOk → p.1 = 0 → p.2 = cs_StoOk_0 := by
 intro p hp
 rw [lseqs_StoOk] at hp
 simp only [List.mem_cons,List.not_mem_nil,or_false] at hp
 subst hp; simp
theorem ks_StoOk_0:OrcOk Es_StoOk Os_StoOk_0 lss_StoOk 0 := orcOk_none
noncomputable def hs_StoOk_0 (y0:Int) (y1:List (ByteArray×(List Int))):List (Pl×LV) := [(.T 1,.t (.val false [.ptr 1 0 0])),(.T 3,.t (.val false [.int .i64 y0])),(.B 1,.b 0 false [.sl .any 49 (.pair .str (.sl 3 (.int .i64))) y1])]
noncomputable def g_Ss_StoOk_0 (y1:List (ByteArray×(List Int))):(Int) → RT (Int) ((Bool) ⊕ (Unit))
 | y0 => .br (true) (.br (decide (y0 < (↑(List.length y1):Int))) (.br (decide ((0:Int) ≤ y0 ∧ y0 < (↑(List.length y1):Int))) (.br (g_As_l1Key (at_ (Ty.pair Ty.str (Ty.sl (nat_lit 3) (Ty.int IntKind.i64))) y1 (Int.toNat y0)).1) (.br (!g_Vs_l1Key_0 (at_ (Ty.pair Ty.str (Ty.sl (nat_lit 3) (Ty.int IntKind.i64))) y1 (Int.toNat y0)).1) (.out (.inl false)) (.br (decide ((0:Int) ≤ y0 ∧ y0 < (↑(List.length y1):Int))) (.br (g_As_l1Val (at_ (Ty.pair Ty.str (Ty.sl (nat_lit 3) (Ty.int IntKind.i64))) y1 (Int.toNat y0)).2) (.br (!g_Vs_l1Val_0 (at_ (Ty.pair Ty.str (Ty.sl (nat_lit 3) (Ty.int IntKind.i64))) y1 (Int.toNat y0)).2) (.out (.inl false)) (.br (true) (.br (decide (y0 > (0:Int))) (.br (true) (.br (decide ((0:Int) ≤ IntKind.wrap IntKind.i64 (y0 - (1:Int)) ∧ IntKind.wrap IntKind.i64 (y0 - (1:Int)) < (↑(List.length y1):Int))) (.br (decide ((0:Int) ≤ y0 ∧ y0 < (↑(List.length y1):Int))) (.br (true) (.br (!Op.bytesLess (ByteArray.toList (at_ (Ty.pair Ty.str (Ty.sl (nat_lit 3) (Ty.int IntKind.i64))) y1 (Int.toNat (IntKind.wrap IntKind.i64 (y0 - (1:Int))))).1) (ByteArray.toList (at_ (Ty.pair Ty.str (Ty.sl (nat_lit 3) (Ty.int IntKind.i64))) y1 (Int.toNat y0)).1)) (.out (.inl false)) (.br (true) (.go (IntKind.wrap IntKind.i64 (y0 + (1:Int)))) .bad)) .bad) .bad) .bad) .bad) (.br (true) (.go (IntKind.wrap IntKind.i64 (y0 + (1:Int)))) .bad)) .bad)) .bad) .bad)) .bad) .bad) (.out (.inr (())))) .bad
noncomputable def g_Ls_StoOk_0 (y1:List (ByteArray×(List Int))) (x:Int):Option ((Bool) ⊕ (Unit)) := loopO (g_Ss_StoOk_0 y1) x
noncomputable def xs_StoOk_0 (y1:List (ByteArray×(List Int))):((Bool) ⊕ (Unit)) → Ex×List (Pl×LV) := fun
 | .inl r => (.ret,[(.T 2,.t (.val false [.bool r]))])
 | .inr (r) => (.exit 0,[(.T 2,.t (.val false [.undef]))])
noncomputable def Os_StoOk_1:Orc := fun b h => match b,h with
 | 0,[(.T 1,.t (.val false [.ptr 1 0 0])),(.T 3,.t (.val false [.int .i64 y0])),(.B 1,.b 0 false [.sl .any 49 (.pair .str (.sl 3 (.int .i64))) y1])] => some (okO (g_Ls_StoOk_0 y1 y0),(.br (isL (valO (g_Ls_StoOk_0 y1 y0))) (.leaf .ret [(.T 2,.t (.val false [.bool (getL (valO (g_Ls_StoOk_0 y1 y0)))]))]) (.leaf (.exit 0) [(.T 2,.t (.val false [.undef]))])))
 | b,h => Os_StoOk_0 b h
theorem bs_StoOk_0 (y0:Int) (y1:List (ByteArray×(List Int))):Tr.bt Es_StoOk Os_StoOk_0 (exec Es_StoOk 0 cs_StoOk_0 (St.of (hs_StoOk_0 y0 y1)) (leafRd Es_StoOk 0)) = (g_Ss_StoOk_0 y1 y0).bt (fun (y0:Int) => (hs_StoOk_0 y0 y1)) (xs_StoOk_0 y1) := by kernel_rfl
theorem ks_StoOk_1:OrcOk Es_StoOk Os_StoOk_1 lss_StoOk 1 := orc_add ks_StoOk_0 (fun n p hp h ex h' ho => by
 obtain ⟨b,c⟩ := p
 obtain ⟨xt,h1,h2⟩ := ho
 have h1:Os_StoOk_1 b h = some (true,xt) := h1
 unfold Os_StoOk_1 at h1
 split at h1
 ·injection h1 with h1
  injection h1 with e1 e2
  subst e2
  have hc:c = cs_StoOk_0 := ms_StoOk_0 _ hp rfl
  subst hc
  right
  rename_i y0 y1
  have key := LT_step ks_StoOk_0 hp (fun q hq => loopsAll_in _ _ _ _ hp hq) (fun (y0:Int) => (hs_StoOk_0 y0 y1)) (xs_StoOk_0 y1) (g_Ss_StoOk_0 y1) (fun x => by first | exact bs_StoOk_0 x y1) n (x := y0) (okO_some e1)
  have hx:∀ r,XT.sel (.br (isL r) (.leaf .ret [(.T 2,.t (.val false [.bool (getL r)]))]) (.leaf (.exit 0) [(.T 2,.t (.val false [.undef]))])) = xs_StoOk_0 y1 r := fun r => by first | rfl | (rcases r with r | r <;> rfl) | (rcases r with r | r | r <;> rfl) | (rcases r with r | r | r | r <;> rfl)
  have h3 := (hx (valO (g_Ls_StoOk_0 y1 y0))).symm.trans h2
  have e3 := congrArg Prod.fst h3
  have e4 := congrArg Prod.snd h3
  simp only at e3 e4
  rw [← e3,← e4]
  exact key
 ·exact .inl ⟨xt,h1,h2⟩)
noncomputable def g_As_StoOk (a0:List (ByteArray×(List Int))):Bool := decide ((↑(List.length a0):Int) > (40:Int)) || okO (g_Ls_StoOk_0 a0 (0:Int))
noncomputable def g_Vs_StoOk_0 (a0:List (ByteArray×(List Int))):Bool := bif decide ((↑(List.length a0):Int) > (40:Int)) then false else bif isL (valO (g_Ls_StoOk_0 a0 (0:Int))) then getL (valO (g_Ls_StoOk_0 a0 (0:Int))) else true
noncomputable def Fs_StoOk:FSem := fun ys => match ys with
 | [.val true [.sl .any 49 (.pair .str (.sl 3 (.int .i64))) a0]] => some ((g_As_StoOk a0),.val false [.bool (g_Vs_StoOk_0 a0)],[])
 | _ => none
theorem vs_StoOk (a0:List (ByteArray×(List Int))):collapseH .std Es_StoOk Os_StoOk_1 (execFn Es_StoOk Tryz.f102 mss_StoOk [.val true [.sl .any 49 (.pair .str (.sl 3 (.int .i64))) a0]]) = some ((g_As_StoOk a0),.val false [.bool (g_Vs_StoOk_0 a0)],[]) := by kernel_rfl
theorem ss_StoOk:Sound Tryz.prog 102 mss_StoOk Fs_StoOk := by
 refine fn_gen goods_StoOk (by kernel_rfl) .std (fn := Tryz.f102) (c := (Tryz.f102.body.getD .skip)) (o := Os_StoOk_1) (k := 1) (by kernel_rfl) (by kernel_rfl) (by kernel_rfl) (by kernel_rfl) (by decide) ks_StoOk_1 ?_
 intro ys r outs h
 unfold Fs_StoOk at h
 split at h
 ·exact (vs_StoOk _).trans h
 ·cases h
noncomputable def Es_l3Form:Env where
 tt := mkTI Tryz.prog
 fn := fun f => match f with
  | 59 => some (mss_l1In,FSem.wk mss_l1In Fs_l1In)
  | _ => none
 bxf := fun _ => none
 mv := []
 keep := fun b => match b with
  | 0 => [(0,false),(3,false),(5,false)]
  | _ => []
 keepB := fun b => match b with
  | 0 => [(3,false)]
  | _ => []
 keepX := fun b => match b with
  | 0 => [(4,false)]
  | _ => []
 keepXB := fun b => match b with
  | 0 => []
  | _ => []
theorem goodFs_l3Form:∀ f ms F,Es_l3Form.fn f = some (ms,F) → Sound Tryz.prog f ms F := fun f ms F h => by
 unfold Es_l3Form at h
 dsimp only at h
 split at h
 ·injection h with h; injection h with e1 e2; subst e1 e2; exact Sound.wk ss_l1In
 ·cases h
theorem goodBs_l3Form:∀ f ms F,Es_l3Form.bxf f = some (ms,F) → SoundB Tryz.prog f ms F := fun f ms F h => by cases h
theorem goods_l3Form:Good Tryz.prog Es_l3Form := ⟨rfl,goodFs_l3Form,goodBs_l3Form⟩
noncomputable def Os_l3Form_0:Orc := fun _ _ => none
noncomputable def mss_l3Form:List PM := [.own,.rd]
noncomputable def lss_l3Form:List (Nat×Code) := loopsAll 0 (Tryz.f103.body.getD .skip)
noncomputable def cs_l3Form_0:Code := (loopOf 0 (Tryz.f103.body.getD .skip)).getD .skip
theorem lseqs_l3Form:lss_l3Form = [(0,cs_l3Form_0)] := by kernel_rfl
theorem ms_l3Form_0:∀ p,p ∈ lss_l3Form → p.1 = 0 → p.2 = cs_l3Form_0 := by
 intro p hp
 rw [lseqs_l3Form] at hp
 simp only [List.mem_cons,List.not_mem_nil,or_false] at hp
 subst hp; simp
theorem ks_l3Form_0:OrcOk Es_l3Form Os_l3Form_0 lss_l3Form 0 := orcOk_none
noncomputable def hs_l3Form_0 (y0:Int) (y1:Int) (y2:List (ByteArray×(List Int))):List (Pl×LV) := [(.T 0,.t (.val false [.int .i64 y0])),(.T 3,.t (.val false [.ptr 3 0 0])),(.T 5,.t (.val false [.int .i64 y1])),(.B 3,.b 0 false [.sl .any 49 (.pair .str (.sl 3 (.int .i64))) y2])]
noncomputable def g_Ss_l3Form_0 (y0:Int) (y2:List (ByteArray×(List Int))):(Int) → RT (Int) ((Bool) ⊕ (Unit))
 | y1 => .br (true) (.br (decide (y1 < (↑(List.length y2):Int))) (.br (decide ((0:Int) ≤ y1 ∧ y1 < (↑(List.length y2):Int))) (.br (decide ((0:Int) ≤ (0:Int) ∧ (0:Int) < (↑(ByteArray.size (itI y2 y1).1):Int))) (.br (decide ((0:Int) ≤ (0:Int) ∧ (0:Int) < (↑(List.length (itI y2 y1).2):Int))) (.br (true) (.br (y0 == (1:Int)) (.br (true) (.br (byteAt (itI y2 y1).1 (nat_lit 0) == (115:Int)) (.br (true) (.br ((↑(List.length (itI y2 y1).2):Int) == (1:Int)) (.br (true) (.br (decide (at_ (Ty.int IntKind.i64) (itI y2 y1).2 (nat_lit 0) ≤ (9:Int))) (.br (false) (.out (.inl false)) (.br (true) (.br (byteAt (itI y2 y1).1 (nat_lit 0) != (97:Int)) (.br (true) (.br ((↑(ByteArray.size (itI y2 y1).1):Int) != (2:Int)) (.out (.inl false)) (.br (true) (.go (IntKind.wrap IntKind.i64 (y1 + (1:Int)))) .bad)) .bad) (.br (true) (.go (IntKind.wrap IntKind.i64 (y1 + (1:Int)))) .bad)) .bad)) (.br (true) (.br (y0 == (3:Int)) (.br (true) (.br (byteAt (itI y2 y1).1 (nat_lit 0) == (97:Int)) (.br (true) (.br ((↑(List.length (itI y2 y1).2):Int) == (1:Int)) (.br (false) (.out (.inl false)) (.br (true) (.br (byteAt (itI y2 y1).1 (nat_lit 0) != (97:Int)) (.br (true) (.br ((↑(ByteArray.size (itI y2 y1).1):Int) != (2:Int)) (.out (.inl false)) (.br (true) (.go (IntKind.wrap IntKind.i64 (y1 + (1:Int)))) .bad)) .bad) (.br (true) (.go (IntKind.wrap IntKind.i64 (y1 + (1:Int)))) .bad)) .bad)) (.br (true) (.br (y0 == (2:Int)) (.br (true) (.br (decide (at_ (Ty.int IntKind.i64) (itI y2 y1).2 (nat_lit 0) ≤ (9:Int))) (.br (true) (.br (byteAt (itI y2 y1).1 (nat_lit 0) == (99:Int)) (.br (true) (.br ((↑(List.length (itI y2 y1).2):Int) == (2:Int)) (.br (false) (.out (.inl false)) (.br (true) (.br (byteAt (itI y2 y1).1 (nat_lit 0) != (97:Int)) (.br (true) (.br ((↑(ByteArray.size (itI y2 y1).1):Int) != (2:Int)) (.out (.inl false)) (.br (true) (.go (IntKind.wrap IntKind.i64 (y1 + (1:Int)))) .bad)) .bad) (.br (true) (.go (IntKind.wrap IntKind.i64 (y1 + (1:Int)))) .bad)) .bad)) (.br (true) (.br (byteAt (itI y2 y1).1 (nat_lit 0) == (102:Int)) (.br (true) (.br ((↑(List.length (itI y2 y1).2):Int) == (3:Int)) (.br (decide ((0:Int) ≤ (1:Int) ∧ (1:Int) < (↑(List.length (itI y2 y1).2):Int))) (.br (g_As_l1In (at_ (Ty.int IntKind.i64) (itI y2 y1).2 (nat_lit 1)) (1:Int) (99:Int)) (.br (g_Vs_l1In_0 (at_ (Ty.int IntKind.i64) (itI y2 y1).2 (nat_lit 1)) (1:Int) (99:Int)) (.br (decide ((0:Int) ≤ (2:Int) ∧ (2:Int) < (↑(List.length (itI y2 y1).2):Int))) (.br (true) (.br (!decide (at_ (Ty.int IntKind.i64) (itI y2 y1).2 (nat_lit 2) ≤ (1:Int))) (.out (.inl false)) (.br (true) (.br (byteAt (itI y2 y1).1 (nat_lit 0) != (97:Int)) (.br (true) (.br ((↑(ByteArray.size (itI y2 y1).1):Int) != (2:Int)) (.out (.inl false)) (.br (true) (.go (IntKind.wrap IntKind.i64 (y1 + (1:Int)))) .bad)) .bad) (.br (true) (.go (IntKind.wrap IntKind.i64 (y1 + (1:Int)))) .bad)) .bad)) .bad) .bad) (.br (true) (.out (.inl false)) (.br (true) (.br (byteAt (itI y2 y1).1 (nat_lit 0) != (97:Int)) (.br (true) (.br ((↑(ByteArray.size (itI y2 y1).1):Int) != (2:Int)) (.out (.inl false)) (.br (true) (.go (IntKind.wrap IntKind.i64 (y1 + (1:Int)))) .bad)) .bad) (.br (true) (.go (IntKind.wrap IntKind.i64 (y1 + (1:Int)))) .bad)) .bad))) .bad) .bad) (.br (true) (.out (.inl false)) (.br (true) (.br (byteAt (itI y2 y1).1 (nat_lit 0) != (97:Int)) (.br (true) (.br ((↑(ByteArray.size (itI y2 y1).1):Int) != (2:Int)) (.out (.inl false)) (.br (true) (.go (IntKind.wrap IntKind.i64 (y1 + (1:Int)))) .bad)) .bad) (.br (true) (.go (IntKind.wrap IntKind.i64 (y1 + (1:Int)))) .bad)) .bad))) .bad) (.br (true) (.out (.inl false)) (.br (true) (.br (byteAt (itI y2 y1).1 (nat_lit 0) != (97:Int)) (.br (true) (.br ((↑(ByteArray.size (itI y2 y1).1):Int) != (2:Int)) (.out (.inl false)) (.br (true) (.go (IntKind.wrap IntKind.i64 (y1 + (1:Int)))) .bad)) .bad) (.br (true) (.go (IntKind.wrap IntKind.i64 (y1 + (1:Int)))) .bad)) .bad))) .bad)) .bad) (.br (true) (.br (byteAt (itI y2 y1).1 (nat_lit 0) == (102:Int)) (.br (true) (.br ((↑(List.length (itI y2 y1).2):Int) == (3:Int)) (.br (decide ((0:Int) ≤ (1:Int) ∧ (1:Int) < (↑(List.length (itI y2 y1).2):Int))) (.br (g_As_l1In (at_ (Ty.int IntKind.i64) (itI y2 y1).2 (nat_lit 1)) (1:Int) (99:Int)) (.br (g_Vs_l1In_0 (at_ (Ty.int IntKind.i64) (itI y2 y1).2 (nat_lit 1)) (1:Int) (99:Int)) (.br (decide ((0:Int) ≤ (2:Int) ∧ (2:Int) < (↑(List.length (itI y2 y1).2):Int))) (.br (true) (.br (!decide (at_ (Ty.int IntKind.i64) (itI y2 y1).2 (nat_lit 2) ≤ (1:Int))) (.out (.inl false)) (.br (true) (.br (byteAt (itI y2 y1).1 (nat_lit 0) != (97:Int)) (.br (true) (.br ((↑(ByteArray.size (itI y2 y1).1):Int) != (2:Int)) (.out (.inl false)) (.br (true) (.go (IntKind.wrap IntKind.i64 (y1 + (1:Int)))) .bad)) .bad) (.br (true) (.go (IntKind.wrap IntKind.i64 (y1 + (1:Int)))) .bad)) .bad)) .bad) .bad) (.br (true) (.out (.inl false)) (.br (true) (.br (byteAt (itI y2 y1).1 (nat_lit 0) != (97:Int)) (.br (true) (.br ((↑(ByteArray.size (itI y2 y1).1):Int) != (2:Int)) (.out (.inl false)) (.br (true) (.go (IntKind.wrap IntKind.i64 (y1 + (1:Int)))) .bad)) .bad) (.br (true) (.go (IntKind.wrap IntKind.i64 (y1 + (1:Int)))) .bad)) .bad))) .bad) .bad) (.br (true) (.out (.inl false)) (.br (true) (.br (byteAt (itI y2 y1).1 (nat_lit 0) != (97:Int)) (.br (true) (.br ((↑(ByteArray.size (itI y2 y1).1):Int) != (2:Int)) (.out (.inl false)) (.br (true) (.go (IntKind.wrap IntKind.i64 (y1 + (1:Int)))) .bad)) .bad) (.br (true) (.go (IntKind.wrap IntKind.i64 (y1 + (1:Int)))) .bad)) .bad))) .bad) (.br (true) (.out (.inl false)) (.br (true) (.br (byteAt (itI y2 y1).1 (nat_lit 0) != (97:Int)) (.br (true) (.br ((↑(ByteArray.size (itI y2 y1).1):Int) != (2:Int)) (.out (.inl false)) (.br (true) (.go (IntKind.wrap IntKind.i64 (y1 + (1:Int)))) .bad)) .bad) (.br (true) (.go (IntKind.wrap IntKind.i64 (y1 + (1:Int)))) .bad)) .bad))) .bad)) .bad) (.br (true) (.out (.inl false)) (.br (true) (.br (byteAt (itI y2 y1).1 (nat_lit 0) != (97:Int)) (.br (true) (.br ((↑(ByteArray.size (itI y2 y1).1):Int) != (2:Int)) (.out (.inl false)) (.br (true) (.go (IntKind.wrap IntKind.i64 (y1 + (1:Int)))) .bad)) .bad) (.br (true) (.go (IntKind.wrap IntKind.i64 (y1 + (1:Int)))) .bad)) .bad))) .bad) (.br (true) (.out (.inl false)) (.br (true) (.br (byteAt (itI y2 y1).1 (nat_lit 0) != (97:Int)) (.br (true) (.br ((↑(ByteArray.size (itI y2 y1).1):Int) != (2:Int)) (.out (.inl false)) (.br (true) (.go (IntKind.wrap IntKind.i64 (y1 + (1:Int)))) .bad)) .bad) (.br (true) (.go (IntKind.wrap IntKind.i64 (y1 + (1:Int)))) .bad)) .bad))) .bad)) .bad) (.br (true) (.br (y0 == (2:Int)) (.br (true) (.br (decide (at_ (Ty.int IntKind.i64) (itI y2 y1).2 (nat_lit 0) ≤ (9:Int))) (.br (true) (.br (byteAt (itI y2 y1).1 (nat_lit 0) == (99:Int)) (.br (true) (.br ((↑(List.length (itI y2 y1).2):Int) == (2:Int)) (.br (false) (.out (.inl false)) (.br (true) (.br (byteAt (itI y2 y1).1 (nat_lit 0) != (97:Int)) (.br (true) (.br ((↑(ByteArray.size (itI y2 y1).1):Int) != (2:Int)) (.out (.inl false)) (.br (true) (.go (IntKind.wrap IntKind.i64 (y1 + (1:Int)))) .bad)) .bad) (.br (true) (.go (IntKind.wrap IntKind.i64 (y1 + (1:Int)))) .bad)) .bad)) (.br (true) (.br (byteAt (itI y2 y1).1 (nat_lit 0) == (102:Int)) (.br (true) (.br ((↑(List.length (itI y2 y1).2):Int) == (3:Int)) (.br (decide ((0:Int) ≤ (1:Int) ∧ (1:Int) < (↑(List.length (itI y2 y1).2):Int))) (.br (g_As_l1In (at_ (Ty.int IntKind.i64) (itI y2 y1).2 (nat_lit 1)) (1:Int) (99:Int)) (.br (g_Vs_l1In_0 (at_ (Ty.int IntKind.i64) (itI y2 y1).2 (nat_lit 1)) (1:Int) (99:Int)) (.br (decide ((0:Int) ≤ (2:Int) ∧ (2:Int) < (↑(List.length (itI y2 y1).2):Int))) (.br (true) (.br (!decide (at_ (Ty.int IntKind.i64) (itI y2 y1).2 (nat_lit 2) ≤ (1:Int))) (.out (.inl false)) (.br (true) (.br (byteAt (itI y2 y1).1 (nat_lit 0) != (97:Int)) (.br (true) (.br ((↑(ByteArray.size (itI y2 y1).1):Int) != (2:Int)) (.out (.inl false)) (.br (true) (.go (IntKind.wrap IntKind.i64 (y1 + (1:Int)))) .bad)) .bad) (.br (true) (.go (IntKind.wrap IntKind.i64 (y1 + (1:Int)))) .bad)) .bad)) .bad) .bad) (.br (true) (.out (.inl false)) (.br (true) (.br (byteAt (itI y2 y1).1 (nat_lit 0) != (97:Int)) (.br (true) (.br ((↑(ByteArray.size (itI y2 y1).1):Int) != (2:Int)) (.out (.inl false)) (.br (true) (.go (IntKind.wrap IntKind.i64 (y1 + (1:Int)))) .bad)) .bad) (.br (true) (.go (IntKind.wrap IntKind.i64 (y1 + (1:Int)))) .bad)) .bad))) .bad) .bad) (.br (true) (.out (.inl false)) (.br (true) (.br (byteAt (itI y2 y1).1 (nat_lit 0) != (97:Int)) (.br (true) (.br ((↑(ByteArray.size (itI y2 y1).1):Int) != (2:Int)) (.out (.inl false)) (.br (true) (.go (IntKind.wrap IntKind.i64 (y1 + (1:Int)))) .bad)) .bad) (.br (true) (.go (IntKind.wrap IntKind.i64 (y1 + (1:Int)))) .bad)) .bad))) .bad) (.br (true) (.out (.inl false)) (.br (true) (.br (byteAt (itI y2 y1).1 (nat_lit 0) != (97:Int)) (.br (true) (.br ((↑(ByteArray.size (itI y2 y1).1):Int) != (2:Int)) (.out (.inl false)) (.br (true) (.go (IntKind.wrap IntKind.i64 (y1 + (1:Int)))) .bad)) .bad) (.br (true) (.go (IntKind.wrap IntKind.i64 (y1 + (1:Int)))) .bad)) .bad))) .bad)) .bad) (.br (true) (.br (byteAt (itI y2 y1).1 (nat_lit 0) == (102:Int)) (.br (true) (.br ((↑(List.length (itI y2 y1).2):Int) == (3:Int)) (.br (decide ((0:Int) ≤ (1:Int) ∧ (1:Int) < (↑(List.length (itI y2 y1).2):Int))) (.br (g_As_l1In (at_ (Ty.int IntKind.i64) (itI y2 y1).2 (nat_lit 1)) (1:Int) (99:Int)) (.br (g_Vs_l1In_0 (at_ (Ty.int IntKind.i64) (itI y2 y1).2 (nat_lit 1)) (1:Int) (99:Int)) (.br (decide ((0:Int) ≤ (2:Int) ∧ (2:Int) < (↑(List.length (itI y2 y1).2):Int))) (.br (true) (.br (!decide (at_ (Ty.int IntKind.i64) (itI y2 y1).2 (nat_lit 2) ≤ (1:Int))) (.out (.inl false)) (.br (true) (.br (byteAt (itI y2 y1).1 (nat_lit 0) != (97:Int)) (.br (true) (.br ((↑(ByteArray.size (itI y2 y1).1):Int) != (2:Int)) (.out (.inl false)) (.br (true) (.go (IntKind.wrap IntKind.i64 (y1 + (1:Int)))) .bad)) .bad) (.br (true) (.go (IntKind.wrap IntKind.i64 (y1 + (1:Int)))) .bad)) .bad)) .bad) .bad) (.br (true) (.out (.inl false)) (.br (true) (.br (byteAt (itI y2 y1).1 (nat_lit 0) != (97:Int)) (.br (true) (.br ((↑(ByteArray.size (itI y2 y1).1):Int) != (2:Int)) (.out (.inl false)) (.br (true) (.go (IntKind.wrap IntKind.i64 (y1 + (1:Int)))) .bad)) .bad) (.br (true) (.go (IntKind.wrap IntKind.i64 (y1 + (1:Int)))) .bad)) .bad))) .bad) .bad) (.br (true) (.out (.inl false)) (.br (true) (.br (byteAt (itI y2 y1).1 (nat_lit 0) != (97:Int)) (.br (true) (.br ((↑(ByteArray.size (itI y2 y1).1):Int) != (2:Int)) (.out (.inl false)) (.br (true) (.go (IntKind.wrap IntKind.i64 (y1 + (1:Int)))) .bad)) .bad) (.br (true) (.go (IntKind.wrap IntKind.i64 (y1 + (1:Int)))) .bad)) .bad))) .bad) (.br (true) (.out (.inl false)) (.br (true) (.br (byteAt (itI y2 y1).1 (nat_lit 0) != (97:Int)) (.br (true) (.br ((↑(ByteArray.size (itI y2 y1).1):Int) != (2:Int)) (.out (.inl false)) (.br (true) (.go (IntKind.wrap IntKind.i64 (y1 + (1:Int)))) .bad)) .bad) (.br (true) (.go (IntKind.wrap IntKind.i64 (y1 + (1:Int)))) .bad)) .bad))) .bad)) .bad) (.br (true) (.out (.inl false)) (.br (true) (.br (byteAt (itI y2 y1).1 (nat_lit 0) != (97:Int)) (.br (true) (.br ((↑(ByteArray.size (itI y2 y1).1):Int) != (2:Int)) (.out (.inl false)) (.br (true) (.go (IntKind.wrap IntKind.i64 (y1 + (1:Int)))) .bad)) .bad) (.br (true) (.go (IntKind.wrap IntKind.i64 (y1 + (1:Int)))) .bad)) .bad))) .bad) (.br (true) (.out (.inl false)) (.br (true) (.br (byteAt (itI y2 y1).1 (nat_lit 0) != (97:Int)) (.br (true) (.br ((↑(ByteArray.size (itI y2 y1).1):Int) != (2:Int)) (.out (.inl false)) (.br (true) (.go (IntKind.wrap IntKind.i64 (y1 + (1:Int)))) .bad)) .bad) (.br (true) (.go (IntKind.wrap IntKind.i64 (y1 + (1:Int)))) .bad)) .bad))) .bad)) .bad) (.br (true) (.br (y0 == (2:Int)) (.br (true) (.br (decide (at_ (Ty.int IntKind.i64) (itI y2 y1).2 (nat_lit 0) ≤ (9:Int))) (.br (true) (.br (byteAt (itI y2 y1).1 (nat_lit 0) == (99:Int)) (.br (true) (.br ((↑(List.length (itI y2 y1).2):Int) == (2:Int)) (.br (false) (.out (.inl false)) (.br (true) (.br (byteAt (itI y2 y1).1 (nat_lit 0) != (97:Int)) (.br (true) (.br ((↑(ByteArray.size (itI y2 y1).1):Int) != (2:Int)) (.out (.inl false)) (.br (true) (.go (IntKind.wrap IntKind.i64 (y1 + (1:Int)))) .bad)) .bad) (.br (true) (.go (IntKind.wrap IntKind.i64 (y1 + (1:Int)))) .bad)) .bad)) (.br (true) (.br (byteAt (itI y2 y1).1 (nat_lit 0) == (102:Int)) (.br (true) (.br ((↑(List.length (itI y2 y1).2):Int) == (3:Int)) (.br (decide ((0:Int) ≤ (1:Int) ∧ (1:Int) < (↑(List.length (itI y2 y1).2):Int))) (.br (g_As_l1In (at_ (Ty.int IntKind.i64) (itI y2 y1).2 (nat_lit 1)) (1:Int) (99:Int)) (.br (g_Vs_l1In_0 (at_ (Ty.int IntKind.i64) (itI y2 y1).2 (nat_lit 1)) (1:Int) (99:Int)) (.br (decide ((0:Int) ≤ (2:Int) ∧ (2:Int) < (↑(List.length (itI y2 y1).2):Int))) (.br (true) (.br (!decide (at_ (Ty.int IntKind.i64) (itI y2 y1).2 (nat_lit 2) ≤ (1:Int))) (.out (.inl false)) (.br (true) (.br (byteAt (itI y2 y1).1 (nat_lit 0) != (97:Int)) (.br (true) (.br ((↑(ByteArray.size (itI y2 y1).1):Int) != (2:Int)) (.out (.inl false)) (.br (true) (.go (IntKind.wrap IntKind.i64 (y1 + (1:Int)))) .bad)) .bad) (.br (true) (.go (IntKind.wrap IntKind.i64 (y1 + (1:Int)))) .bad)) .bad)) .bad) .bad) (.br (true) (.out (.inl false)) (.br (true) (.br (byteAt (itI y2 y1).1 (nat_lit 0) != (97:Int)) (.br (true) (.br ((↑(ByteArray.size (itI y2 y1).1):Int) != (2:Int)) (.out (.inl false)) (.br (true) (.go (IntKind.wrap IntKind.i64 (y1 + (1:Int)))) .bad)) .bad) (.br (true) (.go (IntKind.wrap IntKind.i64 (y1 + (1:Int)))) .bad)) .bad))) .bad) .bad) (.br (true) (.out (.inl false)) (.br (true) (.br (byteAt (itI y2 y1).1 (nat_lit 0) != (97:Int)) (.br (true) (.br ((↑(ByteArray.size (itI y2 y1).1):Int) != (2:Int)) (.out (.inl false)) (.br (true) (.go (IntKind.wrap IntKind.i64 (y1 + (1:Int)))) .bad)) .bad) (.br (true) (.go (IntKind.wrap IntKind.i64 (y1 + (1:Int)))) .bad)) .bad))) .bad) (.br (true) (.out (.inl false)) (.br (true) (.br (byteAt (itI y2 y1).1 (nat_lit 0) != (97:Int)) (.br (true) (.br ((↑(ByteArray.size (itI y2 y1).1):Int) != (2:Int)) (.out (.inl false)) (.br (true) (.go (IntKind.wrap IntKind.i64 (y1 + (1:Int)))) .bad)) .bad) (.br (true) (.go (IntKind.wrap IntKind.i64 (y1 + (1:Int)))) .bad)) .bad))) .bad)) .bad) (.br (true) (.br (byteAt (itI y2 y1).1 (nat_lit 0) == (102:Int)) (.br (true) (.br ((↑(List.length (itI y2 y1).2):Int) == (3:Int)) (.br (decide ((0:Int) ≤ (1:Int) ∧ (1:Int) < (↑(List.length (itI y2 y1).2):Int))) (.br (g_As_l1In (at_ (Ty.int IntKind.i64) (itI y2 y1).2 (nat_lit 1)) (1:Int) (99:Int)) (.br (g_Vs_l1In_0 (at_ (Ty.int IntKind.i64) (itI y2 y1).2 (nat_lit 1)) (1:Int) (99:Int)) (.br (decide ((0:Int) ≤ (2:Int) ∧ (2:Int) < (↑(List.length (itI y2 y1).2):Int))) (.br (true) (.br (!decide (at_ (Ty.int IntKind.i64) (itI y2 y1).2 (nat_lit 2) ≤ (1:Int))) (.out (.inl false)) (.br (true) (.br (byteAt (itI y2 y1).1 (nat_lit 0) != (97:Int)) (.br (true) (.br ((↑(ByteArray.size (itI y2 y1).1):Int) != (2:Int)) (.out (.inl false)) (.br (true) (.go (IntKind.wrap IntKind.i64 (y1 + (1:Int)))) .bad)) .bad) (.br (true) (.go (IntKind.wrap IntKind.i64 (y1 + (1:Int)))) .bad)) .bad)) .bad) .bad) (.br (true) (.out (.inl false)) (.br (true) (.br (byteAt (itI y2 y1).1 (nat_lit 0) != (97:Int)) (.br (true) (.br ((↑(ByteArray.size (itI y2 y1).1):Int) != (2:Int)) (.out (.inl false)) (.br (true) (.go (IntKind.wrap IntKind.i64 (y1 + (1:Int)))) .bad)) .bad) (.br (true) (.go (IntKind.wrap IntKind.i64 (y1 + (1:Int)))) .bad)) .bad))) .bad) .bad) (.br (true) (.out (.inl false)) (.br (true) (.br (byteAt (itI y2 y1).1 (nat_lit 0) != (97:Int)) (.br (true) (.br ((↑(ByteArray.size (itI y2 y1).1):Int) != (2:Int)) (.out (.inl false)) (.br (true) (.go (IntKind.wrap IntKind.i64 (y1 + (1:Int)))) .bad)) .bad) (.br (true) (.go (IntKind.wrap IntKind.i64 (y1 + (1:Int)))) .bad)) .bad))) .bad) (.br (true) (.out (.inl false)) (.br (true) (.br (byteAt (itI y2 y1).1 (nat_lit 0) != (97:Int)) (.br (true) (.br ((↑(ByteArray.size (itI y2 y1).1):Int) != (2:Int)) (.out (.inl false)) (.br (true) (.go (IntKind.wrap IntKind.i64 (y1 + (1:Int)))) .bad)) .bad) (.br (true) (.go (IntKind.wrap IntKind.i64 (y1 + (1:Int)))) .bad)) .bad))) .bad)) .bad) (.br (true) (.out (.inl false)) (.br (true) (.br (byteAt (itI y2 y1).1 (nat_lit 0) != (97:Int)) (.br (true) (.br ((↑(ByteArray.size (itI y2 y1).1):Int) != (2:Int)) (.out (.inl false)) (.br (true) (.go (IntKind.wrap IntKind.i64 (y1 + (1:Int)))) .bad)) .bad) (.br (true) (.go (IntKind.wrap IntKind.i64 (y1 + (1:Int)))) .bad)) .bad))) .bad) (.br (true) (.out (.inl false)) (.br (true) (.br (byteAt (itI y2 y1).1 (nat_lit 0) != (97:Int)) (.br (true) (.br ((↑(ByteArray.size (itI y2 y1).1):Int) != (2:Int)) (.out (.inl false)) (.br (true) (.go (IntKind.wrap IntKind.i64 (y1 + (1:Int)))) .bad)) .bad) (.br (true) (.go (IntKind.wrap IntKind.i64 (y1 + (1:Int)))) .bad)) .bad))) .bad)) .bad)) .bad) (.br (true) (.br (y0 == (3:Int)) (.br (true) (.br (byteAt (itI y2 y1).1 (nat_lit 0) == (97:Int)) (.br (true) (.br ((↑(List.length (itI y2 y1).2):Int) == (1:Int)) (.br (false) (.out (.inl false)) (.br (true) (.br (byteAt (itI y2 y1).1 (nat_lit 0) != (97:Int)) (.br (true) (.br ((↑(ByteArray.size (itI y2 y1).1):Int) != (2:Int)) (.out (.inl false)) (.br (true) (.go (IntKind.wrap IntKind.i64 (y1 + (1:Int)))) .bad)) .bad) (.br (true) (.go (IntKind.wrap IntKind.i64 (y1 + (1:Int)))) .bad)) .bad)) (.br (true) (.br (y0 == (2:Int)) (.br (true) (.br (decide (at_ (Ty.int IntKind.i64) (itI y2 y1).2 (nat_lit 0) ≤ (9:Int))) (.br (true) (.br (byteAt (itI y2 y1).1 (nat_lit 0) == (99:Int)) (.br (true) (.br ((↑(List.length (itI y2 y1).2):Int) == (2:Int)) (.br (false) (.out (.inl false)) (.br (true) (.br (byteAt (itI y2 y1).1 (nat_lit 0) != (97:Int)) (.br (true) (.br ((↑(ByteArray.size (itI y2 y1).1):Int) != (2:Int)) (.out (.inl false)) (.br (true) (.go (IntKind.wrap IntKind.i64 (y1 + (1:Int)))) .bad)) .bad) (.br (true) (.go (IntKind.wrap IntKind.i64 (y1 + (1:Int)))) .bad)) .bad)) (.br (true) (.br (byteAt (itI y2 y1).1 (nat_lit 0) == (102:Int)) (.br (true) (.br ((↑(List.length (itI y2 y1).2):Int) == (3:Int)) (.br (decide ((0:Int) ≤ (1:Int) ∧ (1:Int) < (↑(List.length (itI y2 y1).2):Int))) (.br (g_As_l1In (at_ (Ty.int IntKind.i64) (itI y2 y1).2 (nat_lit 1)) (1:Int) (99:Int)) (.br (g_Vs_l1In_0 (at_ (Ty.int IntKind.i64) (itI y2 y1).2 (nat_lit 1)) (1:Int) (99:Int)) (.br (decide ((0:Int) ≤ (2:Int) ∧ (2:Int) < (↑(List.length (itI y2 y1).2):Int))) (.br (true) (.br (!decide (at_ (Ty.int IntKind.i64) (itI y2 y1).2 (nat_lit 2) ≤ (1:Int))) (.out (.inl false)) (.br (true) (.br (byteAt (itI y2 y1).1 (nat_lit 0) != (97:Int)) (.br (true) (.br ((↑(ByteArray.size (itI y2 y1).1):Int) != (2:Int)) (.out (.inl false)) (.br (true) (.go (IntKind.wrap IntKind.i64 (y1 + (1:Int)))) .bad)) .bad) (.br (true) (.go (IntKind.wrap IntKind.i64 (y1 + (1:Int)))) .bad)) .bad)) .bad) .bad) (.br (true) (.out (.inl false)) (.br (true) (.br (byteAt (itI y2 y1).1 (nat_lit 0) != (97:Int)) (.br (true) (.br ((↑(ByteArray.size (itI y2 y1).1):Int) != (2:Int)) (.out (.inl false)) (.br (true) (.go (IntKind.wrap IntKind.i64 (y1 + (1:Int)))) .bad)) .bad) (.br (true) (.go (IntKind.wrap IntKind.i64 (y1 + (1:Int)))) .bad)) .bad))) .bad) .bad) (.br (true) (.out (.inl false)) (.br (true) (.br (byteAt (itI y2 y1).1 (nat_lit 0) != (97:Int)) (.br (true) (.br ((↑(ByteArray.size (itI y2 y1).1):Int) != (2:Int)) (.out (.inl false)) (.br (true) (.go (IntKind.wrap IntKind.i64 (y1 + (1:Int)))) .bad)) .bad) (.br (true) (.go (IntKind.wrap IntKind.i64 (y1 + (1:Int)))) .bad)) .bad))) .bad) (.br (true) (.out (.inl false)) (.br (true) (.br (byteAt (itI y2 y1).1 (nat_lit 0) != (97:Int)) (.br (true) (.br ((↑(ByteArray.size (itI y2 y1).1):Int) != (2:Int)) (.out (.inl false)) (.br (true) (.go (IntKind.wrap IntKind.i64 (y1 + (1:Int)))) .bad)) .bad) (.br (true) (.go (IntKind.wrap IntKind.i64 (y1 + (1:Int)))) .bad)) .bad))) .bad)) .bad) (.br (true) (.br (byteAt (itI y2 y1).1 (nat_lit 0) == (102:Int)) (.br (true) (.br ((↑(List.length (itI y2 y1).2):Int) == (3:Int)) (.br (decide ((0:Int) ≤ (1:Int) ∧ (1:Int) < (↑(List.length (itI y2 y1).2):Int))) (.br (g_As_l1In (at_ (Ty.int IntKind.i64) (itI y2 y1).2 (nat_lit 1)) (1:Int) (99:Int)) (.br (g_Vs_l1In_0 (at_ (Ty.int IntKind.i64) (itI y2 y1).2 (nat_lit 1)) (1:Int) (99:Int)) (.br (decide ((0:Int) ≤ (2:Int) ∧ (2:Int) < (↑(List.length (itI y2 y1).2):Int))) (.br (true) (.br (!decide (at_ (Ty.int IntKind.i64) (itI y2 y1).2 (nat_lit 2) ≤ (1:Int))) (.out (.inl false)) (.br (true) (.br (byteAt (itI y2 y1).1 (nat_lit 0) != (97:Int)) (.br (true) (.br ((↑(ByteArray.size (itI y2 y1).1):Int) != (2:Int)) (.out (.inl false)) (.br (true) (.go (IntKind.wrap IntKind.i64 (y1 + (1:Int)))) .bad)) .bad) (.br (true) (.go (IntKind.wrap IntKind.i64 (y1 + (1:Int)))) .bad)) .bad)) .bad) .bad) (.br (true) (.out (.inl false)) (.br (true) (.br (byteAt (itI y2 y1).1 (nat_lit 0) != (97:Int)) (.br (true) (.br ((↑(ByteArray.size (itI y2 y1).1):Int) != (2:Int)) (.out (.inl false)) (.br (true) (.go (IntKind.wrap IntKind.i64 (y1 + (1:Int)))) .bad)) .bad) (.br (true) (.go (IntKind.wrap IntKind.i64 (y1 + (1:Int)))) .bad)) .bad))) .bad) .bad) (.br (true) (.out (.inl false)) (.br (true) (.br (byteAt (itI y2 y1).1 (nat_lit 0) != (97:Int)) (.br (true) (.br ((↑(ByteArray.size (itI y2 y1).1):Int) != (2:Int)) (.out (.inl false)) (.br (true) (.go (IntKind.wrap IntKind.i64 (y1 + (1:Int)))) .bad)) .bad) (.br (true) (.go (IntKind.wrap IntKind.i64 (y1 + (1:Int)))) .bad)) .bad))) .bad) (.br (true) (.out (.inl false)) (.br (true) (.br (byteAt (itI y2 y1).1 (nat_lit 0) != (97:Int)) (.br (true) (.br ((↑(ByteArray.size (itI y2 y1).1):Int) != (2:Int)) (.out (.inl false)) (.br (true) (.go (IntKind.wrap IntKind.i64 (y1 + (1:Int)))) .bad)) .bad) (.br (true) (.go (IntKind.wrap IntKind.i64 (y1 + (1:Int)))) .bad)) .bad))) .bad)) .bad) (.br (true) (.out (.inl false)) (.br (true) (.br (byteAt (itI y2 y1).1 (nat_lit 0) != (97:Int)) (.br (true) (.br ((↑(ByteArray.size (itI y2 y1).1):Int) != (2:Int)) (.out (.inl false)) (.br (true) (.go (IntKind.wrap IntKind.i64 (y1 + (1:Int)))) .bad)) .bad) (.br (true) (.go (IntKind.wrap IntKind.i64 (y1 + (1:Int)))) .bad)) .bad))) .bad) (.br (true) (.out (.inl false)) (.br (true) (.br (byteAt (itI y2 y1).1 (nat_lit 0) != (97:Int)) (.br (true) (.br ((↑(ByteArray.size (itI y2 y1).1):Int) != (2:Int)) (.out (.inl false)) (.br (true) (.go (IntKind.wrap IntKind.i64 (y1 + (1:Int)))) .bad)) .bad) (.br (true) (.go (IntKind.wrap IntKind.i64 (y1 + (1:Int)))) .bad)) .bad))) .bad)) .bad) (.br (true) (.br (y0 == (2:Int)) (.br (true) (.br (decide (at_ (Ty.int IntKind.i64) (itI y2 y1).2 (nat_lit 0) ≤ (9:Int))) (.br (true) (.br (byteAt (itI y2 y1).1 (nat_lit 0) == (99:Int)) (.br (true) (.br ((↑(List.length (itI y2 y1).2):Int) == (2:Int)) (.br (false) (.out (.inl false)) (.br (true) (.br (byteAt (itI y2 y1).1 (nat_lit 0) != (97:Int)) (.br (true) (.br ((↑(ByteArray.size (itI y2 y1).1):Int) != (2:Int)) (.out (.inl false)) (.br (true) (.go (IntKind.wrap IntKind.i64 (y1 + (1:Int)))) .bad)) .bad) (.br (true) (.go (IntKind.wrap IntKind.i64 (y1 + (1:Int)))) .bad)) .bad)) (.br (true) (.br (byteAt (itI y2 y1).1 (nat_lit 0) == (102:Int)) (.br (true) (.br ((↑(List.length (itI y2 y1).2):Int) == (3:Int)) (.br (decide ((0:Int) ≤ (1:Int) ∧ (1:Int) < (↑(List.length (itI y2 y1).2):Int))) (.br (g_As_l1In (at_ (Ty.int IntKind.i64) (itI y2 y1).2 (nat_lit 1)) (1:Int) (99:Int)) (.br (g_Vs_l1In_0 (at_ (Ty.int IntKind.i64) (itI y2 y1).2 (nat_lit 1)) (1:Int) (99:Int)) (.br (decide ((0:Int) ≤ (2:Int) ∧ (2:Int) < (↑(List.length (itI y2 y1).2):Int))) (.br (true) (.br (!decide (at_ (Ty.int IntKind.i64) (itI y2 y1).2 (nat_lit 2) ≤ (1:Int))) (.out (.inl false)) (.br (true) (.br (byteAt (itI y2 y1).1 (nat_lit 0) != (97:Int)) (.br (true) (.br ((↑(ByteArray.size (itI y2 y1).1):Int) != (2:Int)) (.out (.inl false)) (.br (true) (.go (IntKind.wrap IntKind.i64 (y1 + (1:Int)))) .bad)) .bad) (.br (true) (.go (IntKind.wrap IntKind.i64 (y1 + (1:Int)))) .bad)) .bad)) .bad) .bad) (.br (true) (.out (.inl false)) (.br (true) (.br (byteAt (itI y2 y1).1 (nat_lit 0) != (97:Int)) (.br (true) (.br ((↑(ByteArray.size (itI y2 y1).1):Int) != (2:Int)) (.out (.inl false)) (.br (true) (.go (IntKind.wrap IntKind.i64 (y1 + (1:Int)))) .bad)) .bad) (.br (true) (.go (IntKind.wrap IntKind.i64 (y1 + (1:Int)))) .bad)) .bad))) .bad) .bad) (.br (true) (.out (.inl false)) (.br (true) (.br (byteAt (itI y2 y1).1 (nat_lit 0) != (97:Int)) (.br (true) (.br ((↑(ByteArray.size (itI y2 y1).1):Int) != (2:Int)) (.out (.inl false)) (.br (true) (.go (IntKind.wrap IntKind.i64 (y1 + (1:Int)))) .bad)) .bad) (.br (true) (.go (IntKind.wrap IntKind.i64 (y1 + (1:Int)))) .bad)) .bad))) .bad) (.br (true) (.out (.inl false)) (.br (true) (.br (byteAt (itI y2 y1).1 (nat_lit 0) != (97:Int)) (.br (true) (.br ((↑(ByteArray.size (itI y2 y1).1):Int) != (2:Int)) (.out (.inl false)) (.br (true) (.go (IntKind.wrap IntKind.i64 (y1 + (1:Int)))) .bad)) .bad) (.br (true) (.go (IntKind.wrap IntKind.i64 (y1 + (1:Int)))) .bad)) .bad))) .bad)) .bad) (.br (true) (.br (byteAt (itI y2 y1).1 (nat_lit 0) == (102:Int)) (.br (true) (.br ((↑(List.length (itI y2 y1).2):Int) == (3:Int)) (.br (decide ((0:Int) ≤ (1:Int) ∧ (1:Int) < (↑(List.length (itI y2 y1).2):Int))) (.br (g_As_l1In (at_ (Ty.int IntKind.i64) (itI y2 y1).2 (nat_lit 1)) (1:Int) (99:Int)) (.br (g_Vs_l1In_0 (at_ (Ty.int IntKind.i64) (itI y2 y1).2 (nat_lit 1)) (1:Int) (99:Int)) (.br (decide ((0:Int) ≤ (2:Int) ∧ (2:Int) < (↑(List.length (itI y2 y1).2):Int))) (.br (true) (.br (!decide (at_ (Ty.int IntKind.i64) (itI y2 y1).2 (nat_lit 2) ≤ (1:Int))) (.out (.inl false)) (.br (true) (.br (byteAt (itI y2 y1).1 (nat_lit 0) != (97:Int)) (.br (true) (.br ((↑(ByteArray.size (itI y2 y1).1):Int) != (2:Int)) (.out (.inl false)) (.br (true) (.go (IntKind.wrap IntKind.i64 (y1 + (1:Int)))) .bad)) .bad) (.br (true) (.go (IntKind.wrap IntKind.i64 (y1 + (1:Int)))) .bad)) .bad)) .bad) .bad) (.br (true) (.out (.inl false)) (.br (true) (.br (byteAt (itI y2 y1).1 (nat_lit 0) != (97:Int)) (.br (true) (.br ((↑(ByteArray.size (itI y2 y1).1):Int) != (2:Int)) (.out (.inl false)) (.br (true) (.go (IntKind.wrap IntKind.i64 (y1 + (1:Int)))) .bad)) .bad) (.br (true) (.go (IntKind.wrap IntKind.i64 (y1 + (1:Int)))) .bad)) .bad))) .bad) .bad) (.br (true) (.out (.inl false)) (.br (true) (.br (byteAt (itI y2 y1).1 (nat_lit 0) != (97:Int)) (.br (true) (.br ((↑(ByteArray.size (itI y2 y1).1):Int) != (2:Int)) (.out (.inl false)) (.br (true) (.go (IntKind.wrap IntKind.i64 (y1 + (1:Int)))) .bad)) .bad) (.br (true) (.go (IntKind.wrap IntKind.i64 (y1 + (1:Int)))) .bad)) .bad))) .bad) (.br (true) (.out (.inl false)) (.br (true) (.br (byteAt (itI y2 y1).1 (nat_lit 0) != (97:Int)) (.br (true) (.br ((↑(ByteArray.size (itI y2 y1).1):Int) != (2:Int)) (.out (.inl false)) (.br (true) (.go (IntKind.wrap IntKind.i64 (y1 + (1:Int)))) .bad)) .bad) (.br (true) (.go (IntKind.wrap IntKind.i64 (y1 + (1:Int)))) .bad)) .bad))) .bad)) .bad) (.br (true) (.out (.inl false)) (.br (true) (.br (byteAt (itI y2 y1).1 (nat_lit 0) != (97:Int)) (.br (true) (.br ((↑(ByteArray.size (itI y2 y1).1):Int) != (2:Int)) (.out (.inl false)) (.br (true) (.go (IntKind.wrap IntKind.i64 (y1 + (1:Int)))) .bad)) .bad) (.br (true) (.go (IntKind.wrap IntKind.i64 (y1 + (1:Int)))) .bad)) .bad))) .bad) (.br (true) (.out (.inl false)) (.br (true) (.br (byteAt (itI y2 y1).1 (nat_lit 0) != (97:Int)) (.br (true) (.br ((↑(ByteArray.size (itI y2 y1).1):Int) != (2:Int)) (.out (.inl false)) (.br (true) (.go (IntKind.wrap IntKind.i64 (y1 + (1:Int)))) .bad)) .bad) (.br (true) (.go (IntKind.wrap IntKind.i64 (y1 + (1:Int)))) .bad)) .bad))) .bad)) .bad) (.br (true) (.br (y0 == (2:Int)) (.br (true) (.br (decide (at_ (Ty.int IntKind.i64) (itI y2 y1).2 (nat_lit 0) ≤ (9:Int))) (.br (true) (.br (byteAt (itI y2 y1).1 (nat_lit 0) == (99:Int)) (.br (true) (.br ((↑(List.length (itI y2 y1).2):Int) == (2:Int)) (.br (false) (.out (.inl false)) (.br (true) (.br (byteAt (itI y2 y1).1 (nat_lit 0) != (97:Int)) (.br (true) (.br ((↑(ByteArray.size (itI y2 y1).1):Int) != (2:Int)) (.out (.inl false)) (.br (true) (.go (IntKind.wrap IntKind.i64 (y1 + (1:Int)))) .bad)) .bad) (.br (true) (.go (IntKind.wrap IntKind.i64 (y1 + (1:Int)))) .bad)) .bad)) (.br (true) (.br (byteAt (itI y2 y1).1 (nat_lit 0) == (102:Int)) (.br (true) (.br ((↑(List.length (itI y2 y1).2):Int) == (3:Int)) (.br (decide ((0:Int) ≤ (1:Int) ∧ (1:Int) < (↑(List.length (itI y2 y1).2):Int))) (.br (g_As_l1In (at_ (Ty.int IntKind.i64) (itI y2 y1).2 (nat_lit 1)) (1:Int) (99:Int)) (.br (g_Vs_l1In_0 (at_ (Ty.int IntKind.i64) (itI y2 y1).2 (nat_lit 1)) (1:Int) (99:Int)) (.br (decide ((0:Int) ≤ (2:Int) ∧ (2:Int) < (↑(List.length (itI y2 y1).2):Int))) (.br (true) (.br (!decide (at_ (Ty.int IntKind.i64) (itI y2 y1).2 (nat_lit 2) ≤ (1:Int))) (.out (.inl false)) (.br (true) (.br (byteAt (itI y2 y1).1 (nat_lit 0) != (97:Int)) (.br (true) (.br ((↑(ByteArray.size (itI y2 y1).1):Int) != (2:Int)) (.out (.inl false)) (.br (true) (.go (IntKind.wrap IntKind.i64 (y1 + (1:Int)))) .bad)) .bad) (.br (true) (.go (IntKind.wrap IntKind.i64 (y1 + (1:Int)))) .bad)) .bad)) .bad) .bad) (.br (true) (.out (.inl false)) (.br (true) (.br (byteAt (itI y2 y1).1 (nat_lit 0) != (97:Int)) (.br (true) (.br ((↑(ByteArray.size (itI y2 y1).1):Int) != (2:Int)) (.out (.inl false)) (.br (true) (.go (IntKind.wrap IntKind.i64 (y1 + (1:Int)))) .bad)) .bad) (.br (true) (.go (IntKind.wrap IntKind.i64 (y1 + (1:Int)))) .bad)) .bad))) .bad) .bad) (.br (true) (.out (.inl false)) (.br (true) (.br (byteAt (itI y2 y1).1 (nat_lit 0) != (97:Int)) (.br (true) (.br ((↑(ByteArray.size (itI y2 y1).1):Int) != (2:Int)) (.out (.inl false)) (.br (true) (.go (IntKind.wrap IntKind.i64 (y1 + (1:Int)))) .bad)) .bad) (.br (true) (.go (IntKind.wrap IntKind.i64 (y1 + (1:Int)))) .bad)) .bad))) .bad) (.br (true) (.out (.inl false)) (.br (true) (.br (byteAt (itI y2 y1).1 (nat_lit 0) != (97:Int)) (.br (true) (.br ((↑(ByteArray.size (itI y2 y1).1):Int) != (2:Int)) (.out (.inl false)) (.br (true) (.go (IntKind.wrap IntKind.i64 (y1 + (1:Int)))) .bad)) .bad) (.br (true) (.go (IntKind.wrap IntKind.i64 (y1 + (1:Int)))) .bad)) .bad))) .bad)) .bad) (.br (true) (.br (byteAt (itI y2 y1).1 (nat_lit 0) == (102:Int)) (.br (true) (.br ((↑(List.length (itI y2 y1).2):Int) == (3:Int)) (.br (decide ((0:Int) ≤ (1:Int) ∧ (1:Int) < (↑(List.length (itI y2 y1).2):Int))) (.br (g_As_l1In (at_ (Ty.int IntKind.i64) (itI y2 y1).2 (nat_lit 1)) (1:Int) (99:Int)) (.br (g_Vs_l1In_0 (at_ (Ty.int IntKind.i64) (itI y2 y1).2 (nat_lit 1)) (1:Int) (99:Int)) (.br (decide ((0:Int) ≤ (2:Int) ∧ (2:Int) < (↑(List.length (itI y2 y1).2):Int))) (.br (true) (.br (!decide (at_ (Ty.int IntKind.i64) (itI y2 y1).2 (nat_lit 2) ≤ (1:Int))) (.out (.inl false)) (.br (true) (.br (byteAt (itI y2 y1).1 (nat_lit 0) != (97:Int)) (.br (true) (.br ((↑(ByteArray.size (itI y2 y1).1):Int) != (2:Int)) (.out (.inl false)) (.br (true) (.go (IntKind.wrap IntKind.i64 (y1 + (1:Int)))) .bad)) .bad) (.br (true) (.go (IntKind.wrap IntKind.i64 (y1 + (1:Int)))) .bad)) .bad)) .bad) .bad) (.br (true) (.out (.inl false)) (.br (true) (.br (byteAt (itI y2 y1).1 (nat_lit 0) != (97:Int)) (.br (true) (.br ((↑(ByteArray.size (itI y2 y1).1):Int) != (2:Int)) (.out (.inl false)) (.br (true) (.go (IntKind.wrap IntKind.i64 (y1 + (1:Int)))) .bad)) .bad) (.br (true) (.go (IntKind.wrap IntKind.i64 (y1 + (1:Int)))) .bad)) .bad))) .bad) .bad) (.br (true) (.out (.inl false)) (.br (true) (.br (byteAt (itI y2 y1).1 (nat_lit 0) != (97:Int)) (.br (true) (.br ((↑(ByteArray.size (itI y2 y1).1):Int) != (2:Int)) (.out (.inl false)) (.br (true) (.go (IntKind.wrap IntKind.i64 (y1 + (1:Int)))) .bad)) .bad) (.br (true) (.go (IntKind.wrap IntKind.i64 (y1 + (1:Int)))) .bad)) .bad))) .bad) (.br (true) (.out (.inl false)) (.br (true) (.br (byteAt (itI y2 y1).1 (nat_lit 0) != (97:Int)) (.br (true) (.br ((↑(ByteArray.size (itI y2 y1).1):Int) != (2:Int)) (.out (.inl false)) (.br (true) (.go (IntKind.wrap IntKind.i64 (y1 + (1:Int)))) .bad)) .bad) (.br (true) (.go (IntKind.wrap IntKind.i64 (y1 + (1:Int)))) .bad)) .bad))) .bad)) .bad) (.br (true) (.out (.inl false)) (.br (true) (.br (byteAt (itI y2 y1).1 (nat_lit 0) != (97:Int)) (.br (true) (.br ((↑(ByteArray.size (itI y2 y1).1):Int) != (2:Int)) (.out (.inl false)) (.br (true) (.go (IntKind.wrap IntKind.i64 (y1 + (1:Int)))) .bad)) .bad) (.br (true) (.go (IntKind.wrap IntKind.i64 (y1 + (1:Int)))) .bad)) .bad))) .bad) (.br (true) (.out (.inl false)) (.br (true) (.br (byteAt (itI y2 y1).1 (nat_lit 0) != (97:Int)) (.br (true) (.br ((↑(ByteArray.size (itI y2 y1).1):Int) != (2:Int)) (.out (.inl false)) (.br (true) (.go (IntKind.wrap IntKind.i64 (y1 + (1:Int)))) .bad)) .bad) (.br (true) (.go (IntKind.wrap IntKind.i64 (y1 + (1:Int)))) .bad)) .bad))) .bad)) .bad)) .bad) (.br (true) (.br (y0 == (3:Int)) (.br (true) (.br (byteAt (itI y2 y1).1 (nat_lit 0) == (97:Int)) (.br (true) (.br ((↑(List.length (itI y2 y1).2):Int) == (1:Int)) (.br (false) (.out (.inl false)) (.br (true) (.br (byteAt (itI y2 y1).1 (nat_lit 0) != (97:Int)) (.br (true) (.br ((↑(ByteArray.size (itI y2 y1).1):Int) != (2:Int)) (.out (.inl false)) (.br (true) (.go (IntKind.wrap IntKind.i64 (y1 + (1:Int)))) .bad)) .bad) (.br (true) (.go (IntKind.wrap IntKind.i64 (y1 + (1:Int)))) .bad)) .bad)) (.br (true) (.br (y0 == (2:Int)) (.br (true) (.br (decide (at_ (Ty.int IntKind.i64) (itI y2 y1).2 (nat_lit 0) ≤ (9:Int))) (.br (true) (.br (byteAt (itI y2 y1).1 (nat_lit 0) == (99:Int)) (.br (true) (.br ((↑(List.length (itI y2 y1).2):Int) == (2:Int)) (.br (false) (.out (.inl false)) (.br (true) (.br (byteAt (itI y2 y1).1 (nat_lit 0) != (97:Int)) (.br (true) (.br ((↑(ByteArray.size (itI y2 y1).1):Int) != (2:Int)) (.out (.inl false)) (.br (true) (.go (IntKind.wrap IntKind.i64 (y1 + (1:Int)))) .bad)) .bad) (.br (true) (.go (IntKind.wrap IntKind.i64 (y1 + (1:Int)))) .bad)) .bad)) (.br (true) (.br (byteAt (itI y2 y1).1 (nat_lit 0) == (102:Int)) (.br (true) (.br ((↑(List.length (itI y2 y1).2):Int) == (3:Int)) (.br (decide ((0:Int) ≤ (1:Int) ∧ (1:Int) < (↑(List.length (itI y2 y1).2):Int))) (.br (g_As_l1In (at_ (Ty.int IntKind.i64) (itI y2 y1).2 (nat_lit 1)) (1:Int) (99:Int)) (.br (g_Vs_l1In_0 (at_ (Ty.int IntKind.i64) (itI y2 y1).2 (nat_lit 1)) (1:Int) (99:Int)) (.br (decide ((0:Int) ≤ (2:Int) ∧ (2:Int) < (↑(List.length (itI y2 y1).2):Int))) (.br (true) (.br (!decide (at_ (Ty.int IntKind.i64) (itI y2 y1).2 (nat_lit 2) ≤ (1:Int))) (.out (.inl false)) (.br (true) (.br (byteAt (itI y2 y1).1 (nat_lit 0) != (97:Int)) (.br (true) (.br ((↑(ByteArray.size (itI y2 y1).1):Int) != (2:Int)) (.out (.inl false)) (.br (true) (.go (IntKind.wrap IntKind.i64 (y1 + (1:Int)))) .bad)) .bad) (.br (true) (.go (IntKind.wrap IntKind.i64 (y1 + (1:Int)))) .bad)) .bad)) .bad) .bad) (.br (true) (.out (.inl false)) (.br (true) (.br (byteAt (itI y2 y1).1 (nat_lit 0) != (97:Int)) (.br (true) (.br ((↑(ByteArray.size (itI y2 y1).1):Int) != (2:Int)) (.out (.inl false)) (.br (true) (.go (IntKind.wrap IntKind.i64 (y1 + (1:Int)))) .bad)) .bad) (.br (true) (.go (IntKind.wrap IntKind.i64 (y1 + (1:Int)))) .bad)) .bad))) .bad) .bad) (.br (true) (.out (.inl false)) (.br (true) (.br (byteAt (itI y2 y1).1 (nat_lit 0) != (97:Int)) (.br (true) (.br ((↑(ByteArray.size (itI y2 y1).1):Int) != (2:Int)) (.out (.inl false)) (.br (true) (.go (IntKind.wrap IntKind.i64 (y1 + (1:Int)))) .bad)) .bad) (.br (true) (.go (IntKind.wrap IntKind.i64 (y1 + (1:Int)))) .bad)) .bad))) .bad) (.br (true) (.out (.inl false)) (.br (true) (.br (byteAt (itI y2 y1).1 (nat_lit 0) != (97:Int)) (.br (true) (.br ((↑(ByteArray.size (itI y2 y1).1):Int) != (2:Int)) (.out (.inl false)) (.br (true) (.go (IntKind.wrap IntKind.i64 (y1 + (1:Int)))) .bad)) .bad) (.br (true) (.go (IntKind.wrap IntKind.i64 (y1 + (1:Int)))) .bad)) .bad))) .bad)) .bad) (.br (true) (.br (byteAt (itI y2 y1).1 (nat_lit 0) == (102:Int)) (.br (true) (.br ((↑(List.length (itI y2 y1).2):Int) == (3:Int)) (.br (decide ((0:Int) ≤ (1:Int) ∧ (1:Int) < (↑(List.length (itI y2 y1).2):Int))) (.br (g_As_l1In (at_ (Ty.int IntKind.i64) (itI y2 y1).2 (nat_lit 1)) (1:Int) (99:Int)) (.br (g_Vs_l1In_0 (at_ (Ty.int IntKind.i64) (itI y2 y1).2 (nat_lit 1)) (1:Int) (99:Int)) (.br (decide ((0:Int) ≤ (2:Int) ∧ (2:Int) < (↑(List.length (itI y2 y1).2):Int))) (.br (true) (.br (!decide (at_ (Ty.int IntKind.i64) (itI y2 y1).2 (nat_lit 2) ≤ (1:Int))) (.out (.inl false)) (.br (true) (.br (byteAt (itI y2 y1).1 (nat_lit 0) != (97:Int)) (.br (true) (.br ((↑(ByteArray.size (itI y2 y1).1):Int) != (2:Int)) (.out (.inl false)) (.br (true) (.go (IntKind.wrap IntKind.i64 (y1 + (1:Int)))) .bad)) .bad) (.br (true) (.go (IntKind.wrap IntKind.i64 (y1 + (1:Int)))) .bad)) .bad)) .bad) .bad) (.br (true) (.out (.inl false)) (.br (true) (.br (byteAt (itI y2 y1).1 (nat_lit 0) != (97:Int)) (.br (true) (.br ((↑(ByteArray.size (itI y2 y1).1):Int) != (2:Int)) (.out (.inl false)) (.br (true) (.go (IntKind.wrap IntKind.i64 (y1 + (1:Int)))) .bad)) .bad) (.br (true) (.go (IntKind.wrap IntKind.i64 (y1 + (1:Int)))) .bad)) .bad))) .bad) .bad) (.br (true) (.out (.inl false)) (.br (true) (.br (byteAt (itI y2 y1).1 (nat_lit 0) != (97:Int)) (.br (true) (.br ((↑(ByteArray.size (itI y2 y1).1):Int) != (2:Int)) (.out (.inl false)) (.br (true) (.go (IntKind.wrap IntKind.i64 (y1 + (1:Int)))) .bad)) .bad) (.br (true) (.go (IntKind.wrap IntKind.i64 (y1 + (1:Int)))) .bad)) .bad))) .bad) (.br (true) (.out (.inl false)) (.br (true) (.br (byteAt (itI y2 y1).1 (nat_lit 0) != (97:Int)) (.br (true) (.br ((↑(ByteArray.size (itI y2 y1).1):Int) != (2:Int)) (.out (.inl false)) (.br (true) (.go (IntKind.wrap IntKind.i64 (y1 + (1:Int)))) .bad)) .bad) (.br (true) (.go (IntKind.wrap IntKind.i64 (y1 + (1:Int)))) .bad)) .bad))) .bad)) .bad) (.br (true) (.out (.inl false)) (.br (true) (.br (byteAt (itI y2 y1).1 (nat_lit 0) != (97:Int)) (.br (true) (.br ((↑(ByteArray.size (itI y2 y1).1):Int) != (2:Int)) (.out (.inl false)) (.br (true) (.go (IntKind.wrap IntKind.i64 (y1 + (1:Int)))) .bad)) .bad) (.br (true) (.go (IntKind.wrap IntKind.i64 (y1 + (1:Int)))) .bad)) .bad))) .bad) (.br (true) (.out (.inl false)) (.br (true) (.br (byteAt (itI y2 y1).1 (nat_lit 0) != (97:Int)) (.br (true) (.br ((↑(ByteArray.size (itI y2 y1).1):Int) != (2:Int)) (.out (.inl false)) (.br (true) (.go (IntKind.wrap IntKind.i64 (y1 + (1:Int)))) .bad)) .bad) (.br (true) (.go (IntKind.wrap IntKind.i64 (y1 + (1:Int)))) .bad)) .bad))) .bad)) .bad) (.br (true) (.br (y0 == (2:Int)) (.br (true) (.br (decide (at_ (Ty.int IntKind.i64) (itI y2 y1).2 (nat_lit 0) ≤ (9:Int))) (.br (true) (.br (byteAt (itI y2 y1).1 (nat_lit 0) == (99:Int)) (.br (true) (.br ((↑(List.length (itI y2 y1).2):Int) == (2:Int)) (.br (false) (.out (.inl false)) (.br (true) (.br (byteAt (itI y2 y1).1 (nat_lit 0) != (97:Int)) (.br (true) (.br ((↑(ByteArray.size (itI y2 y1).1):Int) != (2:Int)) (.out (.inl false)) (.br (true) (.go (IntKind.wrap IntKind.i64 (y1 + (1:Int)))) .bad)) .bad) (.br (true) (.go (IntKind.wrap IntKind.i64 (y1 + (1:Int)))) .bad)) .bad)) (.br (true) (.br (byteAt (itI y2 y1).1 (nat_lit 0) == (102:Int)) (.br (true) (.br ((↑(List.length (itI y2 y1).2):Int) == (3:Int)) (.br (decide ((0:Int) ≤ (1:Int) ∧ (1:Int) < (↑(List.length (itI y2 y1).2):Int))) (.br (g_As_l1In (at_ (Ty.int IntKind.i64) (itI y2 y1).2 (nat_lit 1)) (1:Int) (99:Int)) (.br (g_Vs_l1In_0 (at_ (Ty.int IntKind.i64) (itI y2 y1).2 (nat_lit 1)) (1:Int) (99:Int)) (.br (decide ((0:Int) ≤ (2:Int) ∧ (2:Int) < (↑(List.length (itI y2 y1).2):Int))) (.br (true) (.br (!decide (at_ (Ty.int IntKind.i64) (itI y2 y1).2 (nat_lit 2) ≤ (1:Int))) (.out (.inl false)) (.br (true) (.br (byteAt (itI y2 y1).1 (nat_lit 0) != (97:Int)) (.br (true) (.br ((↑(ByteArray.size (itI y2 y1).1):Int) != (2:Int)) (.out (.inl false)) (.br (true) (.go (IntKind.wrap IntKind.i64 (y1 + (1:Int)))) .bad)) .bad) (.br (true) (.go (IntKind.wrap IntKind.i64 (y1 + (1:Int)))) .bad)) .bad)) .bad) .bad) (.br (true) (.out (.inl false)) (.br (true) (.br (byteAt (itI y2 y1).1 (nat_lit 0) != (97:Int)) (.br (true) (.br ((↑(ByteArray.size (itI y2 y1).1):Int) != (2:Int)) (.out (.inl false)) (.br (true) (.go (IntKind.wrap IntKind.i64 (y1 + (1:Int)))) .bad)) .bad) (.br (true) (.go (IntKind.wrap IntKind.i64 (y1 + (1:Int)))) .bad)) .bad))) .bad) .bad) (.br (true) (.out (.inl false)) (.br (true) (.br (byteAt (itI y2 y1).1 (nat_lit 0) != (97:Int)) (.br (true) (.br ((↑(ByteArray.size (itI y2 y1).1):Int) != (2:Int)) (.out (.inl false)) (.br (true) (.go (IntKind.wrap IntKind.i64 (y1 + (1:Int)))) .bad)) .bad) (.br (true) (.go (IntKind.wrap IntKind.i64 (y1 + (1:Int)))) .bad)) .bad))) .bad) (.br (true) (.out (.inl false)) (.br (true) (.br (byteAt (itI y2 y1).1 (nat_lit 0) != (97:Int)) (.br (true) (.br ((↑(ByteArray.size (itI y2 y1).1):Int) != (2:Int)) (.out (.inl false)) (.br (true) (.go (IntKind.wrap IntKind.i64 (y1 + (1:Int)))) .bad)) .bad) (.br (true) (.go (IntKind.wrap IntKind.i64 (y1 + (1:Int)))) .bad)) .bad))) .bad)) .bad) (.br (true) (.br (byteAt (itI y2 y1).1 (nat_lit 0) == (102:Int)) (.br (true) (.br ((↑(List.length (itI y2 y1).2):Int) == (3:Int)) (.br (decide ((0:Int) ≤ (1:Int) ∧ (1:Int) < (↑(List.length (itI y2 y1).2):Int))) (.br (g_As_l1In (at_ (Ty.int IntKind.i64) (itI y2 y1).2 (nat_lit 1)) (1:Int) (99:Int)) (.br (g_Vs_l1In_0 (at_ (Ty.int IntKind.i64) (itI y2 y1).2 (nat_lit 1)) (1:Int) (99:Int)) (.br (decide ((0:Int) ≤ (2:Int) ∧ (2:Int) < (↑(List.length (itI y2 y1).2):Int))) (.br (true) (.br (!decide (at_ (Ty.int IntKind.i64) (itI y2 y1).2 (nat_lit 2) ≤ (1:Int))) (.out (.inl false)) (.br (true) (.br (byteAt (itI y2 y1).1 (nat_lit 0) != (97:Int)) (.br (true) (.br ((↑(ByteArray.size (itI y2 y1).1):Int) != (2:Int)) (.out (.inl false)) (.br (true) (.go (IntKind.wrap IntKind.i64 (y1 + (1:Int)))) .bad)) .bad) (.br (true) (.go (IntKind.wrap IntKind.i64 (y1 + (1:Int)))) .bad)) .bad)) .bad) .bad) (.br (true) (.out (.inl false)) (.br (true) (.br (byteAt (itI y2 y1).1 (nat_lit 0) != (97:Int)) (.br (true) (.br ((↑(ByteArray.size (itI y2 y1).1):Int) != (2:Int)) (.out (.inl false)) (.br (true) (.go (IntKind.wrap IntKind.i64 (y1 + (1:Int)))) .bad)) .bad) (.br (true) (.go (IntKind.wrap IntKind.i64 (y1 + (1:Int)))) .bad)) .bad))) .bad) .bad) (.br (true) (.out (.inl false)) (.br (true) (.br (byteAt (itI y2 y1).1 (nat_lit 0) != (97:Int)) (.br (true) (.br ((↑(ByteArray.size (itI y2 y1).1):Int) != (2:Int)) (.out (.inl false)) (.br (true) (.go (IntKind.wrap IntKind.i64 (y1 + (1:Int)))) .bad)) .bad) (.br (true) (.go (IntKind.wrap IntKind.i64 (y1 + (1:Int)))) .bad)) .bad))) .bad) (.br (true) (.out (.inl false)) (.br (true) (.br (byteAt (itI y2 y1).1 (nat_lit 0) != (97:Int)) (.br (true) (.br ((↑(ByteArray.size (itI y2 y1).1):Int) != (2:Int)) (.out (.inl false)) (.br (true) (.go (IntKind.wrap IntKind.i64 (y1 + (1:Int)))) .bad)) .bad) (.br (true) (.go (IntKind.wrap IntKind.i64 (y1 + (1:Int)))) .bad)) .bad))) .bad)) .bad) (.br (true) (.out (.inl false)) (.br (true) (.br (byteAt (itI y2 y1).1 (nat_lit 0) != (97:Int)) (.br (true) (.br ((↑(ByteArray.size (itI y2 y1).1):Int) != (2:Int)) (.out (.inl false)) (.br (true) (.go (IntKind.wrap IntKind.i64 (y1 + (1:Int)))) .bad)) .bad) (.br (true) (.go (IntKind.wrap IntKind.i64 (y1 + (1:Int)))) .bad)) .bad))) .bad) (.br (true) (.out (.inl false)) (.br (true) (.br (byteAt (itI y2 y1).1 (nat_lit 0) != (97:Int)) (.br (true) (.br ((↑(ByteArray.size (itI y2 y1).1):Int) != (2:Int)) (.out (.inl false)) (.br (true) (.go (IntKind.wrap IntKind.i64 (y1 + (1:Int)))) .bad)) .bad) (.br (true) (.go (IntKind.wrap IntKind.i64 (y1 + (1:Int)))) .bad)) .bad))) .bad)) .bad) (.br (true) (.br (y0 == (2:Int)) (.br (true) (.br (decide (at_ (Ty.int IntKind.i64) (itI y2 y1).2 (nat_lit 0) ≤ (9:Int))) (.br (true) (.br (byteAt (itI y2 y1).1 (nat_lit 0) == (99:Int)) (.br (true) (.br ((↑(List.length (itI y2 y1).2):Int) == (2:Int)) (.br (false) (.out (.inl false)) (.br (true) (.br (byteAt (itI y2 y1).1 (nat_lit 0) != (97:Int)) (.br (true) (.br ((↑(ByteArray.size (itI y2 y1).1):Int) != (2:Int)) (.out (.inl false)) (.br (true) (.go (IntKind.wrap IntKind.i64 (y1 + (1:Int)))) .bad)) .bad) (.br (true) (.go (IntKind.wrap IntKind.i64 (y1 + (1:Int)))) .bad)) .bad)) (.br (true) (.br (byteAt (itI y2 y1).1 (nat_lit 0) == (102:Int)) (.br (true) (.br ((↑(List.length (itI y2 y1).2):Int) == (3:Int)) (.br (decide ((0:Int) ≤ (1:Int) ∧ (1:Int) < (↑(List.length (itI y2 y1).2):Int))) (.br (g_As_l1In (at_ (Ty.int IntKind.i64) (itI y2 y1).2 (nat_lit 1)) (1:Int) (99:Int)) (.br (g_Vs_l1In_0 (at_ (Ty.int IntKind.i64) (itI y2 y1).2 (nat_lit 1)) (1:Int) (99:Int)) (.br (decide ((0:Int) ≤ (2:Int) ∧ (2:Int) < (↑(List.length (itI y2 y1).2):Int))) (.br (true) (.br (!decide (at_ (Ty.int IntKind.i64) (itI y2 y1).2 (nat_lit 2) ≤ (1:Int))) (.out (.inl false)) (.br (true) (.br (byteAt (itI y2 y1).1 (nat_lit 0) != (97:Int)) (.br (true) (.br ((↑(ByteArray.size (itI y2 y1).1):Int) != (2:Int)) (.out (.inl false)) (.br (true) (.go (IntKind.wrap IntKind.i64 (y1 + (1:Int)))) .bad)) .bad) (.br (true) (.go (IntKind.wrap IntKind.i64 (y1 + (1:Int)))) .bad)) .bad)) .bad) .bad) (.br (true) (.out (.inl false)) (.br (true) (.br (byteAt (itI y2 y1).1 (nat_lit 0) != (97:Int)) (.br (true) (.br ((↑(ByteArray.size (itI y2 y1).1):Int) != (2:Int)) (.out (.inl false)) (.br (true) (.go (IntKind.wrap IntKind.i64 (y1 + (1:Int)))) .bad)) .bad) (.br (true) (.go (IntKind.wrap IntKind.i64 (y1 + (1:Int)))) .bad)) .bad))) .bad) .bad) (.br (true) (.out (.inl false)) (.br (true) (.br (byteAt (itI y2 y1).1 (nat_lit 0) != (97:Int)) (.br (true) (.br ((↑(ByteArray.size (itI y2 y1).1):Int) != (2:Int)) (.out (.inl false)) (.br (true) (.go (IntKind.wrap IntKind.i64 (y1 + (1:Int)))) .bad)) .bad) (.br (true) (.go (IntKind.wrap IntKind.i64 (y1 + (1:Int)))) .bad)) .bad))) .bad) (.br (true) (.out (.inl false)) (.br (true) (.br (byteAt (itI y2 y1).1 (nat_lit 0) != (97:Int)) (.br (true) (.br ((↑(ByteArray.size (itI y2 y1).1):Int) != (2:Int)) (.out (.inl false)) (.br (true) (.go (IntKind.wrap IntKind.i64 (y1 + (1:Int)))) .bad)) .bad) (.br (true) (.go (IntKind.wrap IntKind.i64 (y1 + (1:Int)))) .bad)) .bad))) .bad)) .bad) (.br (true) (.br (byteAt (itI y2 y1).1 (nat_lit 0) == (102:Int)) (.br (true) (.br ((↑(List.length (itI y2 y1).2):Int) == (3:Int)) (.br (decide ((0:Int) ≤ (1:Int) ∧ (1:Int) < (↑(List.length (itI y2 y1).2):Int))) (.br (g_As_l1In (at_ (Ty.int IntKind.i64) (itI y2 y1).2 (nat_lit 1)) (1:Int) (99:Int)) (.br (g_Vs_l1In_0 (at_ (Ty.int IntKind.i64) (itI y2 y1).2 (nat_lit 1)) (1:Int) (99:Int)) (.br (decide ((0:Int) ≤ (2:Int) ∧ (2:Int) < (↑(List.length (itI y2 y1).2):Int))) (.br (true) (.br (!decide (at_ (Ty.int IntKind.i64) (itI y2 y1).2 (nat_lit 2) ≤ (1:Int))) (.out (.inl false)) (.br (true) (.br (byteAt (itI y2 y1).1 (nat_lit 0) != (97:Int)) (.br (true) (.br ((↑(ByteArray.size (itI y2 y1).1):Int) != (2:Int)) (.out (.inl false)) (.br (true) (.go (IntKind.wrap IntKind.i64 (y1 + (1:Int)))) .bad)) .bad) (.br (true) (.go (IntKind.wrap IntKind.i64 (y1 + (1:Int)))) .bad)) .bad)) .bad) .bad) (.br (true) (.out (.inl false)) (.br (true) (.br (byteAt (itI y2 y1).1 (nat_lit 0) != (97:Int)) (.br (true) (.br ((↑(ByteArray.size (itI y2 y1).1):Int) != (2:Int)) (.out (.inl false)) (.br (true) (.go (IntKind.wrap IntKind.i64 (y1 + (1:Int)))) .bad)) .bad) (.br (true) (.go (IntKind.wrap IntKind.i64 (y1 + (1:Int)))) .bad)) .bad))) .bad) .bad) (.br (true) (.out (.inl false)) (.br (true) (.br (byteAt (itI y2 y1).1 (nat_lit 0) != (97:Int)) (.br (true) (.br ((↑(ByteArray.size (itI y2 y1).1):Int) != (2:Int)) (.out (.inl false)) (.br (true) (.go (IntKind.wrap IntKind.i64 (y1 + (1:Int)))) .bad)) .bad) (.br (true) (.go (IntKind.wrap IntKind.i64 (y1 + (1:Int)))) .bad)) .bad))) .bad) (.br (true) (.out (.inl false)) (.br (true) (.br (byteAt (itI y2 y1).1 (nat_lit 0) != (97:Int)) (.br (true) (.br ((↑(ByteArray.size (itI y2 y1).1):Int) != (2:Int)) (.out (.inl false)) (.br (true) (.go (IntKind.wrap IntKind.i64 (y1 + (1:Int)))) .bad)) .bad) (.br (true) (.go (IntKind.wrap IntKind.i64 (y1 + (1:Int)))) .bad)) .bad))) .bad)) .bad) (.br (true) (.out (.inl false)) (.br (true) (.br (byteAt (itI y2 y1).1 (nat_lit 0) != (97:Int)) (.br (true) (.br ((↑(ByteArray.size (itI y2 y1).1):Int) != (2:Int)) (.out (.inl false)) (.br (true) (.go (IntKind.wrap IntKind.i64 (y1 + (1:Int)))) .bad)) .bad) (.br (true) (.go (IntKind.wrap IntKind.i64 (y1 + (1:Int)))) .bad)) .bad))) .bad) (.br (true) (.out (.inl false)) (.br (true) (.br (byteAt (itI y2 y1).1 (nat_lit 0) != (97:Int)) (.br (true) (.br ((↑(ByteArray.size (itI y2 y1).1):Int) != (2:Int)) (.out (.inl false)) (.br (true) (.go (IntKind.wrap IntKind.i64 (y1 + (1:Int)))) .bad)) .bad) (.br (true) (.go (IntKind.wrap IntKind.i64 (y1 + (1:Int)))) .bad)) .bad))) .bad)) .bad)) .bad) (.br (true) (.br (y0 == (3:Int)) (.br (true) (.br (byteAt (itI y2 y1).1 (nat_lit 0) == (97:Int)) (.br (true) (.br ((↑(List.length (itI y2 y1).2):Int) == (1:Int)) (.br (false) (.out (.inl false)) (.br (true) (.br (byteAt (itI y2 y1).1 (nat_lit 0) != (97:Int)) (.br (true) (.br ((↑(ByteArray.size (itI y2 y1).1):Int) != (2:Int)) (.out (.inl false)) (.br (true) (.go (IntKind.wrap IntKind.i64 (y1 + (1:Int)))) .bad)) .bad) (.br (true) (.go (IntKind.wrap IntKind.i64 (y1 + (1:Int)))) .bad)) .bad)) (.br (true) (.br (y0 == (2:Int)) (.br (true) (.br (decide (at_ (Ty.int IntKind.i64) (itI y2 y1).2 (nat_lit 0) ≤ (9:Int))) (.br (true) (.br (byteAt (itI y2 y1).1 (nat_lit 0) == (99:Int)) (.br (true) (.br ((↑(List.length (itI y2 y1).2):Int) == (2:Int)) (.br (false) (.out (.inl false)) (.br (true) (.br (byteAt (itI y2 y1).1 (nat_lit 0) != (97:Int)) (.br (true) (.br ((↑(ByteArray.size (itI y2 y1).1):Int) != (2:Int)) (.out (.inl false)) (.br (true) (.go (IntKind.wrap IntKind.i64 (y1 + (1:Int)))) .bad)) .bad) (.br (true) (.go (IntKind.wrap IntKind.i64 (y1 + (1:Int)))) .bad)) .bad)) (.br (true) (.br (byteAt (itI y2 y1).1 (nat_lit 0) == (102:Int)) (.br (true) (.br ((↑(List.length (itI y2 y1).2):Int) == (3:Int)) (.br (decide ((0:Int) ≤ (1:Int) ∧ (1:Int) < (↑(List.length (itI y2 y1).2):Int))) (.br (g_As_l1In (at_ (Ty.int IntKind.i64) (itI y2 y1).2 (nat_lit 1)) (1:Int) (99:Int)) (.br (g_Vs_l1In_0 (at_ (Ty.int IntKind.i64) (itI y2 y1).2 (nat_lit 1)) (1:Int) (99:Int)) (.br (decide ((0:Int) ≤ (2:Int) ∧ (2:Int) < (↑(List.length (itI y2 y1).2):Int))) (.br (true) (.br (!decide (at_ (Ty.int IntKind.i64) (itI y2 y1).2 (nat_lit 2) ≤ (1:Int))) (.out (.inl false)) (.br (true) (.br (byteAt (itI y2 y1).1 (nat_lit 0) != (97:Int)) (.br (true) (.br ((↑(ByteArray.size (itI y2 y1).1):Int) != (2:Int)) (.out (.inl false)) (.br (true) (.go (IntKind.wrap IntKind.i64 (y1 + (1:Int)))) .bad)) .bad) (.br (true) (.go (IntKind.wrap IntKind.i64 (y1 + (1:Int)))) .bad)) .bad)) .bad) .bad) (.br (true) (.out (.inl false)) (.br (true) (.br (byteAt (itI y2 y1).1 (nat_lit 0) != (97:Int)) (.br (true) (.br ((↑(ByteArray.size (itI y2 y1).1):Int) != (2:Int)) (.out (.inl false)) (.br (true) (.go (IntKind.wrap IntKind.i64 (y1 + (1:Int)))) .bad)) .bad) (.br (true) (.go (IntKind.wrap IntKind.i64 (y1 + (1:Int)))) .bad)) .bad))) .bad) .bad) (.br (true) (.out (.inl false)) (.br (true) (.br (byteAt (itI y2 y1).1 (nat_lit 0) != (97:Int)) (.br (true) (.br ((↑(ByteArray.size (itI y2 y1).1):Int) != (2:Int)) (.out (.inl false)) (.br (true) (.go (IntKind.wrap IntKind.i64 (y1 + (1:Int)))) .bad)) .bad) (.br (true) (.go (IntKind.wrap IntKind.i64 (y1 + (1:Int)))) .bad)) .bad))) .bad) (.br (true) (.out (.inl false)) (.br (true) (.br (byteAt (itI y2 y1).1 (nat_lit 0) != (97:Int)) (.br (true) (.br ((↑(ByteArray.size (itI y2 y1).1):Int) != (2:Int)) (.out (.inl false)) (.br (true) (.go (IntKind.wrap IntKind.i64 (y1 + (1:Int)))) .bad)) .bad) (.br (true) (.go (IntKind.wrap IntKind.i64 (y1 + (1:Int)))) .bad)) .bad))) .bad)) .bad) (.br (true) (.br (byteAt (itI y2 y1).1 (nat_lit 0) == (102:Int)) (.br (true) (.br ((↑(List.length (itI y2 y1).2):Int) == (3:Int)) (.br (decide ((0:Int) ≤ (1:Int) ∧ (1:Int) < (↑(List.length (itI y2 y1).2):Int))) (.br (g_As_l1In (at_ (Ty.int IntKind.i64) (itI y2 y1).2 (nat_lit 1)) (1:Int) (99:Int)) (.br (g_Vs_l1In_0 (at_ (Ty.int IntKind.i64) (itI y2 y1).2 (nat_lit 1)) (1:Int) (99:Int)) (.br (decide ((0:Int) ≤ (2:Int) ∧ (2:Int) < (↑(List.length (itI y2 y1).2):Int))) (.br (true) (.br (!decide (at_ (Ty.int IntKind.i64) (itI y2 y1).2 (nat_lit 2) ≤ (1:Int))) (.out (.inl false)) (.br (true) (.br (byteAt (itI y2 y1).1 (nat_lit 0) != (97:Int)) (.br (true) (.br ((↑(ByteArray.size (itI y2 y1).1):Int) != (2:Int)) (.out (.inl false)) (.br (true) (.go (IntKind.wrap IntKind.i64 (y1 + (1:Int)))) .bad)) .bad) (.br (true) (.go (IntKind.wrap IntKind.i64 (y1 + (1:Int)))) .bad)) .bad)) .bad) .bad) (.br (true) (.out (.inl false)) (.br (true) (.br (byteAt (itI y2 y1).1 (nat_lit 0) != (97:Int)) (.br (true) (.br ((↑(ByteArray.size (itI y2 y1).1):Int) != (2:Int)) (.out (.inl false)) (.br (true) (.go (IntKind.wrap IntKind.i64 (y1 + (1:Int)))) .bad)) .bad) (.br (true) (.go (IntKind.wrap IntKind.i64 (y1 + (1:Int)))) .bad)) .bad))) .bad) .bad) (.br (true) (.out (.inl false)) (.br (true) (.br (byteAt (itI y2 y1).1 (nat_lit 0) != (97:Int)) (.br (true) (.br ((↑(ByteArray.size (itI y2 y1).1):Int) != (2:Int)) (.out (.inl false)) (.br (true) (.go (IntKind.wrap IntKind.i64 (y1 + (1:Int)))) .bad)) .bad) (.br (true) (.go (IntKind.wrap IntKind.i64 (y1 + (1:Int)))) .bad)) .bad))) .bad) (.br (true) (.out (.inl false)) (.br (true) (.br (byteAt (itI y2 y1).1 (nat_lit 0) != (97:Int)) (.br (true) (.br ((↑(ByteArray.size (itI y2 y1).1):Int) != (2:Int)) (.out (.inl false)) (.br (true) (.go (IntKind.wrap IntKind.i64 (y1 + (1:Int)))) .bad)) .bad) (.br (true) (.go (IntKind.wrap IntKind.i64 (y1 + (1:Int)))) .bad)) .bad))) .bad)) .bad) (.br (true) (.out (.inl false)) (.br (true) (.br (byteAt (itI y2 y1).1 (nat_lit 0) != (97:Int)) (.br (true) (.br ((↑(ByteArray.size (itI y2 y1).1):Int) != (2:Int)) (.out (.inl false)) (.br (true) (.go (IntKind.wrap IntKind.i64 (y1 + (1:Int)))) .bad)) .bad) (.br (true) (.go (IntKind.wrap IntKind.i64 (y1 + (1:Int)))) .bad)) .bad))) .bad) (.br (true) (.out (.inl false)) (.br (true) (.br (byteAt (itI y2 y1).1 (nat_lit 0) != (97:Int)) (.br (true) (.br ((↑(ByteArray.size (itI y2 y1).1):Int) != (2:Int)) (.out (.inl false)) (.br (true) (.go (IntKind.wrap IntKind.i64 (y1 + (1:Int)))) .bad)) .bad) (.br (true) (.go (IntKind.wrap IntKind.i64 (y1 + (1:Int)))) .bad)) .bad))) .bad)) .bad) (.br (true) (.br (y0 == (2:Int)) (.br (true) (.br (decide (at_ (Ty.int IntKind.i64) (itI y2 y1).2 (nat_lit 0) ≤ (9:Int))) (.br (true) (.br (byteAt (itI y2 y1).1 (nat_lit 0) == (99:Int)) (.br (true) (.br ((↑(List.length (itI y2 y1).2):Int) == (2:Int)) (.br (false) (.out (.inl false)) (.br (true) (.br (byteAt (itI y2 y1).1 (nat_lit 0) != (97:Int)) (.br (true) (.br ((↑(ByteArray.size (itI y2 y1).1):Int) != (2:Int)) (.out (.inl false)) (.br (true) (.go (IntKind.wrap IntKind.i64 (y1 + (1:Int)))) .bad)) .bad) (.br (true) (.go (IntKind.wrap IntKind.i64 (y1 + (1:Int)))) .bad)) .bad)) (.br (true) (.br (byteAt (itI y2 y1).1 (nat_lit 0) == (102:Int)) (.br (true) (.br ((↑(List.length (itI y2 y1).2):Int) == (3:Int)) (.br (decide ((0:Int) ≤ (1:Int) ∧ (1:Int) < (↑(List.length (itI y2 y1).2):Int))) (.br (g_As_l1In (at_ (Ty.int IntKind.i64) (itI y2 y1).2 (nat_lit 1)) (1:Int) (99:Int)) (.br (g_Vs_l1In_0 (at_ (Ty.int IntKind.i64) (itI y2 y1).2 (nat_lit 1)) (1:Int) (99:Int)) (.br (decide ((0:Int) ≤ (2:Int) ∧ (2:Int) < (↑(List.length (itI y2 y1).2):Int))) (.br (true) (.br (!decide (at_ (Ty.int IntKind.i64) (itI y2 y1).2 (nat_lit 2) ≤ (1:Int))) (.out (.inl false)) (.br (true) (.br (byteAt (itI y2 y1).1 (nat_lit 0) != (97:Int)) (.br (true) (.br ((↑(ByteArray.size (itI y2 y1).1):Int) != (2:Int)) (.out (.inl false)) (.br (true) (.go (IntKind.wrap IntKind.i64 (y1 + (1:Int)))) .bad)) .bad) (.br (true) (.go (IntKind.wrap IntKind.i64 (y1 + (1:Int)))) .bad)) .bad)) .bad) .bad) (.br (true) (.out (.inl false)) (.br (true) (.br (byteAt (itI y2 y1).1 (nat_lit 0) != (97:Int)) (.br (true) (.br ((↑(ByteArray.size (itI y2 y1).1):Int) != (2:Int)) (.out (.inl false)) (.br (true) (.go (IntKind.wrap IntKind.i64 (y1 + (1:Int)))) .bad)) .bad) (.br (true) (.go (IntKind.wrap IntKind.i64 (y1 + (1:Int)))) .bad)) .bad))) .bad) .bad) (.br (true) (.out (.inl false)) (.br (true) (.br (byteAt (itI y2 y1).1 (nat_lit 0) != (97:Int)) (.br (true) (.br ((↑(ByteArray.size (itI y2 y1).1):Int) != (2:Int)) (.out (.inl false)) (.br (true) (.go (IntKind.wrap IntKind.i64 (y1 + (1:Int)))) .bad)) .bad) (.br (true) (.go (IntKind.wrap IntKind.i64 (y1 + (1:Int)))) .bad)) .bad))) .bad) (.br (true) (.out (.inl false)) (.br (true) (.br (byteAt (itI y2 y1).1 (nat_lit 0) != (97:Int)) (.br (true) (.br ((↑(ByteArray.size (itI y2 y1).1):Int) != (2:Int)) (.out (.inl false)) (.br (true) (.go (IntKind.wrap IntKind.i64 (y1 + (1:Int)))) .bad)) .bad) (.br (true) (.go (IntKind.wrap IntKind.i64 (y1 + (1:Int)))) .bad)) .bad))) .bad)) .bad) (.br (true) (.br (byteAt (itI y2 y1).1 (nat_lit 0) == (102:Int)) (.br (true) (.br ((↑(List.length (itI y2 y1).2):Int) == (3:Int)) (.br (decide ((0:Int) ≤ (1:Int) ∧ (1:Int) < (↑(List.length (itI y2 y1).2):Int))) (.br (g_As_l1In (at_ (Ty.int IntKind.i64) (itI y2 y1).2 (nat_lit 1)) (1:Int) (99:Int)) (.br (g_Vs_l1In_0 (at_ (Ty.int IntKind.i64) (itI y2 y1).2 (nat_lit 1)) (1:Int) (99:Int)) (.br (decide ((0:Int) ≤ (2:Int) ∧ (2:Int) < (↑(List.length (itI y2 y1).2):Int))) (.br (true) (.br (!decide (at_ (Ty.int IntKind.i64) (itI y2 y1).2 (nat_lit 2) ≤ (1:Int))) (.out (.inl false)) (.br (true) (.br (byteAt (itI y2 y1).1 (nat_lit 0) != (97:Int)) (.br (true) (.br ((↑(ByteArray.size (itI y2 y1).1):Int) != (2:Int)) (.out (.inl false)) (.br (true) (.go (IntKind.wrap IntKind.i64 (y1 + (1:Int)))) .bad)) .bad) (.br (true) (.go (IntKind.wrap IntKind.i64 (y1 + (1:Int)))) .bad)) .bad)) .bad) .bad) (.br (true) (.out (.inl false)) (.br (true) (.br (byteAt (itI y2 y1).1 (nat_lit 0) != (97:Int)) (.br (true) (.br ((↑(ByteArray.size (itI y2 y1).1):Int) != (2:Int)) (.out (.inl false)) (.br (true) (.go (IntKind.wrap IntKind.i64 (y1 + (1:Int)))) .bad)) .bad) (.br (true) (.go (IntKind.wrap IntKind.i64 (y1 + (1:Int)))) .bad)) .bad))) .bad) .bad) (.br (true) (.out (.inl false)) (.br (true) (.br (byteAt (itI y2 y1).1 (nat_lit 0) != (97:Int)) (.br (true) (.br ((↑(ByteArray.size (itI y2 y1).1):Int) != (2:Int)) (.out (.inl false)) (.br (true) (.go (IntKind.wrap IntKind.i64 (y1 + (1:Int)))) .bad)) .bad) (.br (true) (.go (IntKind.wrap IntKind.i64 (y1 + (1:Int)))) .bad)) .bad))) .bad) (.br (true) (.out (.inl false)) (.br (true) (.br (byteAt (itI y2 y1).1 (nat_lit 0) != (97:Int)) (.br (true) (.br ((↑(ByteArray.size (itI y2 y1).1):Int) != (2:Int)) (.out (.inl false)) (.br (true) (.go (IntKind.wrap IntKind.i64 (y1 + (1:Int)))) .bad)) .bad) (.br (true) (.go (IntKind.wrap IntKind.i64 (y1 + (1:Int)))) .bad)) .bad))) .bad)) .bad) (.br (true) (.out (.inl false)) (.br (true) (.br (byteAt (itI y2 y1).1 (nat_lit 0) != (97:Int)) (.br (true) (.br ((↑(ByteArray.size (itI y2 y1).1):Int) != (2:Int)) (.out (.inl false)) (.br (true) (.go (IntKind.wrap IntKind.i64 (y1 + (1:Int)))) .bad)) .bad) (.br (true) (.go (IntKind.wrap IntKind.i64 (y1 + (1:Int)))) .bad)) .bad))) .bad) (.br (true) (.out (.inl false)) (.br (true) (.br (byteAt (itI y2 y1).1 (nat_lit 0) != (97:Int)) (.br (true) (.br ((↑(ByteArray.size (itI y2 y1).1):Int) != (2:Int)) (.out (.inl false)) (.br (true) (.go (IntKind.wrap IntKind.i64 (y1 + (1:Int)))) .bad)) .bad) (.br (true) (.go (IntKind.wrap IntKind.i64 (y1 + (1:Int)))) .bad)) .bad))) .bad)) .bad) (.br (true) (.br (y0 == (2:Int)) (.br (true) (.br (decide (at_ (Ty.int IntKind.i64) (itI y2 y1).2 (nat_lit 0) ≤ (9:Int))) (.br (true) (.br (byteAt (itI y2 y1).1 (nat_lit 0) == (99:Int)) (.br (true) (.br ((↑(List.length (itI y2 y1).2):Int) == (2:Int)) (.br (false) (.out (.inl false)) (.br (true) (.br (byteAt (itI y2 y1).1 (nat_lit 0) != (97:Int)) (.br (true) (.br ((↑(ByteArray.size (itI y2 y1).1):Int) != (2:Int)) (.out (.inl false)) (.br (true) (.go (IntKind.wrap IntKind.i64 (y1 + (1:Int)))) .bad)) .bad) (.br (true) (.go (IntKind.wrap IntKind.i64 (y1 + (1:Int)))) .bad)) .bad)) (.br (true) (.br (byteAt (itI y2 y1).1 (nat_lit 0) == (102:Int)) (.br (true) (.br ((↑(List.length (itI y2 y1).2):Int) == (3:Int)) (.br (decide ((0:Int) ≤ (1:Int) ∧ (1:Int) < (↑(List.length (itI y2 y1).2):Int))) (.br (g_As_l1In (at_ (Ty.int IntKind.i64) (itI y2 y1).2 (nat_lit 1)) (1:Int) (99:Int)) (.br (g_Vs_l1In_0 (at_ (Ty.int IntKind.i64) (itI y2 y1).2 (nat_lit 1)) (1:Int) (99:Int)) (.br (decide ((0:Int) ≤ (2:Int) ∧ (2:Int) < (↑(List.length (itI y2 y1).2):Int))) (.br (true) (.br (!decide (at_ (Ty.int IntKind.i64) (itI y2 y1).2 (nat_lit 2) ≤ (1:Int))) (.out (.inl false)) (.br (true) (.br (byteAt (itI y2 y1).1 (nat_lit 0) != (97:Int)) (.br (true) (.br ((↑(ByteArray.size (itI y2 y1).1):Int) != (2:Int)) (.out (.inl false)) (.br (true) (.go (IntKind.wrap IntKind.i64 (y1 + (1:Int)))) .bad)) .bad) (.br (true) (.go (IntKind.wrap IntKind.i64 (y1 + (1:Int)))) .bad)) .bad)) .bad) .bad) (.br (true) (.out (.inl false)) (.br (true) (.br (byteAt (itI y2 y1).1 (nat_lit 0) != (97:Int)) (.br (true) (.br ((↑(ByteArray.size (itI y2 y1).1):Int) != (2:Int)) (.out (.inl false)) (.br (true) (.go (IntKind.wrap IntKind.i64 (y1 + (1:Int)))) .bad)) .bad) (.br (true) (.go (IntKind.wrap IntKind.i64 (y1 + (1:Int)))) .bad)) .bad))) .bad) .bad) (.br (true) (.out (.inl false)) (.br (true) (.br (byteAt (itI y2 y1).1 (nat_lit 0) != (97:Int)) (.br (true) (.br ((↑(ByteArray.size (itI y2 y1).1):Int) != (2:Int)) (.out (.inl false)) (.br (true) (.go (IntKind.wrap IntKind.i64 (y1 + (1:Int)))) .bad)) .bad) (.br (true) (.go (IntKind.wrap IntKind.i64 (y1 + (1:Int)))) .bad)) .bad))) .bad) (.br (true) (.out (.inl false)) (.br (true) (.br (byteAt (itI y2 y1).1 (nat_lit 0) != (97:Int)) (.br (true) (.br ((↑(ByteArray.size (itI y2 y1).1):Int) != (2:Int)) (.out (.inl false)) (.br (true) (.go (IntKind.wrap IntKind.i64 (y1 + (1:Int)))) .bad)) .bad) (.br (true) (.go (IntKind.wrap IntKind.i64 (y1 + (1:Int)))) .bad)) .bad))) .bad)) .bad) (.br (true) (.br (byteAt (itI y2 y1).1 (nat_lit 0) == (102:Int)) (.br (true) (.br ((↑(List.length (itI y2 y1).2):Int) == (3:Int)) (.br (decide ((0:Int) ≤ (1:Int) ∧ (1:Int) < (↑(List.length (itI y2 y1).2):Int))) (.br (g_As_l1In (at_ (Ty.int IntKind.i64) (itI y2 y1).2 (nat_lit 1)) (1:Int) (99:Int)) (.br (g_Vs_l1In_0 (at_ (Ty.int IntKind.i64) (itI y2 y1).2 (nat_lit 1)) (1:Int) (99:Int)) (.br (decide ((0:Int) ≤ (2:Int) ∧ (2:Int) < (↑(List.length (itI y2 y1).2):Int))) (.br (true) (.br (!decide (at_ (Ty.int IntKind.i64) (itI y2 y1).2 (nat_lit 2) ≤ (1:Int))) (.out (.inl false)) (.br (true) (.br (byteAt (itI y2 y1).1 (nat_lit 0) != (97:Int)) (.br (true) (.br ((↑(ByteArray.size (itI y2 y1).1):Int) != (2:Int)) (.out (.inl false)) (.br (true) (.go (IntKind.wrap IntKind.i64 (y1 + (1:Int)))) .bad)) .bad) (.br (true) (.go (IntKind.wrap IntKind.i64 (y1 + (1:Int)))) .bad)) .bad)) .bad) .bad) (.br (true) (.out (.inl false)) (.br (true) (.br (byteAt (itI y2 y1).1 (nat_lit 0) != (97:Int)) (.br (true) (.br ((↑(ByteArray.size (itI y2 y1).1):Int) != (2:Int)) (.out (.inl false)) (.br (true) (.go (IntKind.wrap IntKind.i64 (y1 + (1:Int)))) .bad)) .bad) (.br (true) (.go (IntKind.wrap IntKind.i64 (y1 + (1:Int)))) .bad)) .bad))) .bad) .bad) (.br (true) (.out (.inl false)) (.br (true) (.br (byteAt (itI y2 y1).1 (nat_lit 0) != (97:Int)) (.br (true) (.br ((↑(ByteArray.size (itI y2 y1).1):Int) != (2:Int)) (.out (.inl false)) (.br (true) (.go (IntKind.wrap IntKind.i64 (y1 + (1:Int)))) .bad)) .bad) (.br (true) (.go (IntKind.wrap IntKind.i64 (y1 + (1:Int)))) .bad)) .bad))) .bad) (.br (true) (.out (.inl false)) (.br (true) (.br (byteAt (itI y2 y1).1 (nat_lit 0) != (97:Int)) (.br (true) (.br ((↑(ByteArray.size (itI y2 y1).1):Int) != (2:Int)) (.out (.inl false)) (.br (true) (.go (IntKind.wrap IntKind.i64 (y1 + (1:Int)))) .bad)) .bad) (.br (true) (.go (IntKind.wrap IntKind.i64 (y1 + (1:Int)))) .bad)) .bad))) .bad)) .bad) (.br (true) (.out (.inl false)) (.br (true) (.br (byteAt (itI y2 y1).1 (nat_lit 0) != (97:Int)) (.br (true) (.br ((↑(ByteArray.size (itI y2 y1).1):Int) != (2:Int)) (.out (.inl false)) (.br (true) (.go (IntKind.wrap IntKind.i64 (y1 + (1:Int)))) .bad)) .bad) (.br (true) (.go (IntKind.wrap IntKind.i64 (y1 + (1:Int)))) .bad)) .bad))) .bad) (.br (true) (.out (.inl false)) (.br (true) (.br (byteAt (itI y2 y1).1 (nat_lit 0) != (97:Int)) (.br (true) (.br ((↑(ByteArray.size (itI y2 y1).1):Int) != (2:Int)) (.out (.inl false)) (.br (true) (.go (IntKind.wrap IntKind.i64 (y1 + (1:Int)))) .bad)) .bad) (.br (true) (.go (IntKind.wrap IntKind.i64 (y1 + (1:Int)))) .bad)) .bad))) .bad)) .bad)) .bad) .bad) .bad) .bad) (.out (.inr (())))) .bad
noncomputable def g_Ls_l3Form_0 (y0:Int) (y2:List (ByteArray×(List Int))) (x:Int):Option ((Bool) ⊕ (Unit)) := loopO (g_Ss_l3Form_0 y0 y2) x
noncomputable def xs_l3Form_0 (y0:Int) (y2:List (ByteArray×(List Int))):((Bool) ⊕ (Unit)) → Ex×List (Pl×LV) := fun
 | .inl r => (.ret,[(.T 4,.t (.val false [.bool r]))])
 | .inr (r) => (.exit 0,[(.T 4,.t (.val false [.undef]))])
noncomputable def Os_l3Form_1:Orc := fun b h => match b,h with
 | 0,[(.T 0,.t (.val false [.int .i64 y0])),(.T 3,.t (.val false [.ptr 3 0 0])),(.T 5,.t (.val false [.int .i64 y1])),(.B 3,.b 0 false [.sl .any 49 (.pair .str (.sl 3 (.int .i64))) y2])] => some (okO (g_Ls_l3Form_0 y0 y2 y1),(.br (isL (valO (g_Ls_l3Form_0 y0 y2 y1))) (.leaf .ret [(.T 4,.t (.val false [.bool (getL (valO (g_Ls_l3Form_0 y0 y2 y1)))]))]) (.leaf (.exit 0) [(.T 4,.t (.val false [.undef]))])))
 | b,h => Os_l3Form_0 b h
theorem bs_l3Form_0 (y0:Int) (y1:Int) (y2:List (ByteArray×(List Int))):Tr.bt Es_l3Form Os_l3Form_0 (exec Es_l3Form 0 cs_l3Form_0 (St.of (hs_l3Form_0 y0 y1 y2)) (leafRd Es_l3Form 0)) = (g_Ss_l3Form_0 y0 y2 y1).bt (fun (y1:Int) => (hs_l3Form_0 y0 y1 y2)) (xs_l3Form_0 y0 y2) := by kernel_rfl
theorem ks_l3Form_1:OrcOk Es_l3Form Os_l3Form_1 lss_l3Form 1 := orc_add ks_l3Form_0 (fun n p hp h ex h' ho => by
 obtain ⟨b,c⟩ := p
 obtain ⟨xt,h1,h2⟩ := ho
 have h1:Os_l3Form_1 b h = some (true,xt) := h1
 unfold Os_l3Form_1 at h1
 split at h1
 ·injection h1 with h1
  injection h1 with e1 e2
  subst e2
  have hc:c = cs_l3Form_0 := ms_l3Form_0 _ hp rfl
  subst hc
  right
  rename_i y0 y1 y2
  have key := LT_step ks_l3Form_0 hp (fun q hq => loopsAll_in _ _ _ _ hp hq) (fun (y1:Int) => (hs_l3Form_0 y0 y1 y2)) (xs_l3Form_0 y0 y2) (g_Ss_l3Form_0 y0 y2) (fun x => by first | exact bs_l3Form_0 y0 x y2) n (x := y1) (okO_some e1)
  have hx:∀ r,XT.sel (.br (isL r) (.leaf .ret [(.T 4,.t (.val false [.bool (getL r)]))]) (.leaf (.exit 0) [(.T 4,.t (.val false [.undef]))])) = xs_l3Form_0 y0 y2 r := fun r => by first | rfl | (rcases r with r | r <;> rfl) | (rcases r with r | r | r <;> rfl) | (rcases r with r | r | r | r <;> rfl)
  have h3 := (hx (valO (g_Ls_l3Form_0 y0 y2 y1))).symm.trans h2
  have e3 := congrArg Prod.fst h3
  have e4 := congrArg Prod.snd h3
  simp only at e3 e4
  rw [← e3,← e4]
  exact key
 ·exact .inl ⟨xt,h1,h2⟩)
noncomputable def g_As_l3Form (a0:Int) (a1:List (ByteArray×(List Int))):Bool := okO (g_Ls_l3Form_0 a0 a1 (0:Int))
noncomputable def g_Vs_l3Form_0 (a0:Int) (a1:List (ByteArray×(List Int))):Bool := bif isL (valO (g_Ls_l3Form_0 a0 a1 (0:Int))) then getL (valO (g_Ls_l3Form_0 a0 a1 (0:Int))) else true
noncomputable def Fs_l3Form:FSem := fun ys => match ys with
 | [.val false [.int .i64 a0],.val true [.sl .any 49 (.pair .str (.sl 3 (.int .i64))) a1]] => some ((g_As_l3Form a0 a1),.val false [.bool (g_Vs_l3Form_0 a0 a1)],[])
 | _ => none
theorem vs_l3Form (a0:Int) (a1:List (ByteArray×(List Int))):collapseH .std Es_l3Form Os_l3Form_1 (execFn Es_l3Form Tryz.f103 mss_l3Form [.val false [.int .i64 a0],.val true [.sl .any 49 (.pair .str (.sl 3 (.int .i64))) a1]]) = some ((g_As_l3Form a0 a1),.val false [.bool (g_Vs_l3Form_0 a0 a1)],[]) := by kernel_rfl
theorem ss_l3Form:Sound Tryz.prog 103 mss_l3Form Fs_l3Form := by
 refine fn_gen goods_l3Form (by kernel_rfl) .std (fn := Tryz.f103) (c := (Tryz.f103.body.getD .skip)) (o := Os_l3Form_1) (k := 1) (by kernel_rfl) (by kernel_rfl) (by kernel_rfl) (by kernel_rfl) (by decide) ks_l3Form_1 ?_
 intro ys r outs h
 unfold Fs_l3Form at h
 split at h
 ·exact (vs_l3Form _ _).trans h
 ·cases h
noncomputable def Es_PlcOk:Env where
 tt := mkTI Tryz.prog
 fn := fun f => match f with
  | 59 => some (mss_l1In,FSem.wk mss_l1In Fs_l1In)
  | 102 => some (mss_StoOk,FSem.wk mss_StoOk Fs_StoOk)
  | 103 => some (mss_l3Form,FSem.wk mss_l3Form Fs_l3Form)
  | _ => none
 bxf := fun _ => none
 mv := []
 keep := fun _ => []
 keepB := fun _ => []
 keepX := fun _ => []
 keepXB := fun _ => []
theorem goodFs_PlcOk:∀ f ms F,Es_PlcOk.fn f = some (ms,F) → Sound Tryz.prog f ms F := fun f ms F h => by
 unfold Es_PlcOk at h
 dsimp only at h
 split at h
 ·injection h with h; injection h with e1 e2; subst e1 e2; exact Sound.wk ss_l1In
 ·injection h with h; injection h with e1 e2; subst e1 e2; exact Sound.wk ss_StoOk
 ·injection h with h; injection h with e1 e2; subst e1 e2; exact Sound.wk ss_l3Form
 ·cases h
theorem goodBs_PlcOk:∀ f ms F,Es_PlcOk.bxf f = some (ms,F) → SoundB Tryz.prog f ms F := fun f ms F h => by cases h
theorem goods_PlcOk:Good Tryz.prog Es_PlcOk := ⟨rfl,goodFs_PlcOk,goodBs_PlcOk⟩
noncomputable def Os_PlcOk_0:Orc := fun _ _ => none
noncomputable def mss_PlcOk:List PM := [.own,.rd]
noncomputable def lss_PlcOk:List (Nat×Code) := loopsAll 0 (Tryz.f57.body.getD .skip)
theorem ks_PlcOk_0:OrcOk Es_PlcOk Os_PlcOk_0 lss_PlcOk 0 := orcOk_none
noncomputable def g_As_PlcOk (a0:Int) (a1:List (ByteArray×(List Int))):Bool := g_As_l1In a0 (1:Int) (3:Int)&&(!g_Vs_l1In_0 a0 (1:Int) (3:Int) || g_As_StoOk a1&&(!g_Vs_StoOk_0 a1 || g_As_l3Form a0 a1))
noncomputable def g_Vs_PlcOk_0 (a0:Int) (a1:List (ByteArray×(List Int))):Bool := bif g_Vs_l1In_0 a0 (1:Int) (3:Int) then bif g_Vs_StoOk_0 a1 then g_Vs_l3Form_0 a0 a1 else false else false
noncomputable def Fs_PlcOk:FSem := fun ys => match ys with
 | [.val false [.int .i64 a0],.val true [.sl .any 49 (.pair .str (.sl 3 (.int .i64))) a1]] => some ((g_As_PlcOk a0 a1),.val false [.bool (g_Vs_PlcOk_0 a0 a1)],[])
 | _ => none
theorem vs_PlcOk (a0:Int) (a1:List (ByteArray×(List Int))):collapseH .std Es_PlcOk Os_PlcOk_0 (execFn Es_PlcOk Tryz.f57 mss_PlcOk [.val false [.int .i64 a0],.val true [.sl .any 49 (.pair .str (.sl 3 (.int .i64))) a1]]) = some ((g_As_PlcOk a0 a1),.val false [.bool (g_Vs_PlcOk_0 a0 a1)],[]) := by kernel_rfl
theorem ss_PlcOk:Sound Tryz.prog 57 mss_PlcOk Fs_PlcOk := by
 refine fn_gen goods_PlcOk (by kernel_rfl) .std (fn := Tryz.f57) (c := (Tryz.f57.body.getD .skip)) (o := Os_PlcOk_0) (k := 0) (by kernel_rfl) (by kernel_rfl) (by kernel_rfl) (by kernel_rfl) (by decide) ks_PlcOk_0 ?_
 intro ys r outs h
 unfold Fs_PlcOk at h
 split at h
 ·exact (vs_PlcOk _ _).trans h
 ·cases h
noncomputable def Es_GloOk:Env where
 tt := mkTI Tryz.prog
 fn := fun f => match f with
  | 57 => some (mss_PlcOk,FSem.wk mss_PlcOk Fs_PlcOk)
  | _ => none
 bxf := fun _ => none
 mv := []
 keep := fun b => match b with
  | 0 => [(0,false),(3,false)]
  | _ => []
 keepB := fun b => match b with
  | 0 => []
  | _ => []
 keepX := fun b => match b with
  | 0 => [(2,false)]
  | _ => []
 keepXB := fun b => match b with
  | 0 => []
  | _ => []
theorem goodFs_GloOk:∀ f ms F,Es_GloOk.fn f = some (ms,F) → Sound Tryz.prog f ms F := fun f ms F h => by
 unfold Es_GloOk at h
 dsimp only at h
 split at h
 ·injection h with h; injection h with e1 e2; subst e1 e2; exact Sound.wk ss_PlcOk
 ·cases h
theorem goodBs_GloOk:∀ f ms F,Es_GloOk.bxf f = some (ms,F) → SoundB Tryz.prog f ms F := fun f ms F h => by cases h
theorem goods_GloOk:Good Tryz.prog Es_GloOk := ⟨rfl,goodFs_GloOk,goodBs_GloOk⟩
noncomputable def Os_GloOk_0:Orc := fun _ _ => none
noncomputable def mss_GloOk:List PM := [.rd]
noncomputable def lss_GloOk:List (Nat×Code) := loopsAll 0 (Tryz.f16.body.getD .skip)
noncomputable def cs_GloOk_0:Code := (loopOf 0 (Tryz.f16.body.getD .skip)).getD .skip
theorem lseqs_GloOk:lss_GloOk = [(0,cs_GloOk_0)] := by kernel_rfl
theorem ms_GloOk_0:∀ p,p ∈ lss_GloOk → p.1 = 0 → p.2 = cs_GloOk_0 := by
 intro p hp
 rw [lseqs_GloOk] at hp
 simp only [List.mem_cons,List.not_mem_nil,or_false] at hp
 subst hp; simp
theorem ks_GloOk_0:OrcOk Es_GloOk Os_GloOk_0 lss_GloOk 0 := orcOk_none
noncomputable def hs_GloOk_0 (y0:List (List (ByteArray×(List Int)))) (y1:Int):List (Pl×LV) := [(.T 0,.t (.val false [.sl .any 25 (.sl 49 (.pair .str (.sl 3 (.int .i64)))) y0])),(.T 3,.t (.val false [.int .i64 y1]))]
noncomputable def g_Ss_GloOk_0 (y0:List (List (ByteArray×(List Int)))):(Int) → RT (Int) ((Bool) ⊕ (Unit))
 | y1 => .br (true) (.br (decide (y1 < (↑(List.length y0):Int))) (.br (true) (.br (decide ((0:Int) ≤ y1 ∧ y1 < (↑(List.length y0):Int))) (.br (g_As_PlcOk (IntKind.wrap IntKind.i64 (y1 + (1:Int))) (at_ (Ty.sl (nat_lit 49) (Ty.pair Ty.str (Ty.sl (nat_lit 3) (Ty.int IntKind.i64)))) y0 (Int.toNat y1))) (.br (!g_Vs_PlcOk_0 (IntKind.wrap IntKind.i64 (y1 + (1:Int))) (at_ (Ty.sl (nat_lit 49) (Ty.pair Ty.str (Ty.sl (nat_lit 3) (Ty.int IntKind.i64)))) y0 (Int.toNat y1))) (.out (.inl false)) (.br (true) (.go (IntKind.wrap IntKind.i64 (y1 + (1:Int)))) .bad)) .bad) .bad) .bad) (.out (.inr (())))) .bad
noncomputable def g_Ls_GloOk_0 (y0:List (List (ByteArray×(List Int)))) (x:Int):Option ((Bool) ⊕ (Unit)) := loopO (g_Ss_GloOk_0 y0) x
noncomputable def xs_GloOk_0 (y0:List (List (ByteArray×(List Int)))):((Bool) ⊕ (Unit)) → Ex×List (Pl×LV) := fun
 | .inl r => (.ret,[(.T 2,.t (.val false [.bool r]))])
 | .inr (r) => (.exit 0,[(.T 2,.t (.val false [.undef]))])
noncomputable def Os_GloOk_1:Orc := fun b h => match b,h with
 | 0,[(.T 0,.t (.val false [.sl .any 25 (.sl 49 (.pair .str (.sl 3 (.int .i64)))) y0])),(.T 3,.t (.val false [.int .i64 y1]))] => some (okO (g_Ls_GloOk_0 y0 y1),(.br (isL (valO (g_Ls_GloOk_0 y0 y1))) (.leaf .ret [(.T 2,.t (.val false [.bool (getL (valO (g_Ls_GloOk_0 y0 y1)))]))]) (.leaf (.exit 0) [(.T 2,.t (.val false [.undef]))])))
 | b,h => Os_GloOk_0 b h
theorem bs_GloOk_0 (y0:List (List (ByteArray×(List Int)))) (y1:Int):Tr.bt Es_GloOk Os_GloOk_0 (exec Es_GloOk 0 cs_GloOk_0 (St.of (hs_GloOk_0 y0 y1)) (leafRd Es_GloOk 0)) = (g_Ss_GloOk_0 y0 y1).bt (fun (y1:Int) => (hs_GloOk_0 y0 y1)) (xs_GloOk_0 y0) := by kernel_rfl
theorem ks_GloOk_1:OrcOk Es_GloOk Os_GloOk_1 lss_GloOk 1 := orc_add ks_GloOk_0 (fun n p hp h ex h' ho => by
 obtain ⟨b,c⟩ := p
 obtain ⟨xt,h1,h2⟩ := ho
 have h1:Os_GloOk_1 b h = some (true,xt) := h1
 unfold Os_GloOk_1 at h1
 split at h1
 ·injection h1 with h1
  injection h1 with e1 e2
  subst e2
  have hc:c = cs_GloOk_0 := ms_GloOk_0 _ hp rfl
  subst hc
  right
  rename_i y0 y1
  have key := LT_step ks_GloOk_0 hp (fun q hq => loopsAll_in _ _ _ _ hp hq) (fun (y1:Int) => (hs_GloOk_0 y0 y1)) (xs_GloOk_0 y0) (g_Ss_GloOk_0 y0) (fun x => by first | exact bs_GloOk_0 y0 x) n (x := y1) (okO_some e1)
  have hx:∀ r,XT.sel (.br (isL r) (.leaf .ret [(.T 2,.t (.val false [.bool (getL r)]))]) (.leaf (.exit 0) [(.T 2,.t (.val false [.undef]))])) = xs_GloOk_0 y0 r := fun r => by first | rfl | (rcases r with r | r <;> rfl) | (rcases r with r | r | r <;> rfl) | (rcases r with r | r | r | r <;> rfl)
  have h3 := (hx (valO (g_Ls_GloOk_0 y0 y1))).symm.trans h2
  have e3 := congrArg Prod.fst h3
  have e4 := congrArg Prod.snd h3
  simp only at e3 e4
  rw [← e3,← e4]
  exact key
 ·exact .inl ⟨xt,h1,h2⟩)
noncomputable def g_As_GloOk (a0:List (List (ByteArray×(List Int)))):Bool := (↑(List.length a0):Int) != (3:Int) || okO (g_Ls_GloOk_0 a0 (0:Int))
noncomputable def g_Vs_GloOk_0 (a0:List (List (ByteArray×(List Int)))):Bool := bif (↑(List.length a0):Int) != (3:Int) then false else bif isL (valO (g_Ls_GloOk_0 a0 (0:Int))) then getL (valO (g_Ls_GloOk_0 a0 (0:Int))) else true
noncomputable def Fs_GloOk:FSem := fun ys => match ys with
 | [.val false [.sl .any 25 (.sl 49 (.pair .str (.sl 3 (.int .i64)))) a0]] => some ((g_As_GloOk a0),.val false [.bool (g_Vs_GloOk_0 a0)],[])
 | _ => none
theorem vs_GloOk (a0:List (List (ByteArray×(List Int)))):collapseH .std Es_GloOk Os_GloOk_1 (execFn Es_GloOk Tryz.f16 mss_GloOk [.val false [.sl .any 25 (.sl 49 (.pair .str (.sl 3 (.int .i64)))) a0]]) = some ((g_As_GloOk a0),.val false [.bool (g_Vs_GloOk_0 a0)],[]) := by kernel_rfl
theorem ss_GloOk:Sound Tryz.prog 16 mss_GloOk Fs_GloOk := by
 refine fn_gen goods_GloOk (by kernel_rfl) .std (fn := Tryz.f16) (c := (Tryz.f16.body.getD .skip)) (o := Os_GloOk_1) (k := 1) (by kernel_rfl) (by kernel_rfl) (by kernel_rfl) (by kernel_rfl) (by decide) ks_GloOk_1 ?_
 intro ys r outs h
 unfold Fs_GloOk at h
 split at h
 ·exact (vs_GloOk _).trans h
 ·cases h
end Go.Proofs.YtjoggjjjlafdmaaGreatDoor.E
