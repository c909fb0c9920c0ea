/- What the functions that are reached do, by the engine: for the proof (laws.FnExactDiskFold): part 3. No conditions. -/
import Derived.Test.YtjoggjjjlafdmaaGreatDoorGb
import Derived.Test.YtjoggjjjlafdmaaGreatDoorProg
set_option linter.all false
namespace Go.Proofs.YtjoggjjjlafdmaaGreatDoor.E
open Go
set_option maxRecDepth 100000
set_option maxHeartbeats 0
noncomputable def Ew_markStoItemS : Env where
 tt := mkTI Tryz.prog
 fn := fun f => match f with
  | 123 => some (msw_markText, FSem.wk msw_markText Fw_markText)
  | 124 => some (msw_markIntS, FSem.wk msw_markIntS Fw_markIntS)
  | _ => none
 bxf := fun _ => none
 mv := []
 keep := fun b => match b with
  | 0 => [(0, false), (1, false), (5, false)]
  | _ => []
 keepB := fun b => match b with
  | 0 => []
  | _ => []
 keepX := fun b => match b with
  | 0 => [(0, false), (1, false)]
  | _ => []
 keepXB := fun b => match b with
  | 0 => []
  | _ => []
 nest := [24]
theorem goodFw_markStoItemS : ∀ f ms F, Ew_markStoItemS.fn f = some (ms, F) → Sound Tryz.prog f ms F := fun f ms F h => by
 unfold Ew_markStoItemS at h
 dsimp only at h
 split at h
 ·injection h with h; injection h with e1 e2; subst e1 e2; exact Sound.wk sw_markText
 ·injection h with h; injection h with e1 e2; subst e1 e2; exact Sound.wk sw_markIntS
 ·cases h
theorem goodBw_markStoItemS : ∀ f ms F, Ew_markStoItemS.bxf f = some (ms, F) → SoundB Tryz.prog f ms F := fun f ms F h => by cases h
theorem goodw_markStoItemS : Good Tryz.prog Ew_markStoItemS := ⟨rfl, goodFw_markStoItemS, goodBw_markStoItemS⟩
noncomputable def Ow_markStoItemS_0 : Orc := fun _ _ => none
noncomputable def msw_markStoItemS : List PM := [.«mut», .own]
noncomputable def lsw_markStoItemS : List (Nat × Code) := loopsAll 0 (Tryz.f74.body.getD .skip)
noncomputable def cw_markStoItemS_0 : Code := (loopOf 0 (Tryz.f74.body.getD .skip)).getD .skip
theorem lseqw_markStoItemS : lsw_markStoItemS = [(0, cw_markStoItemS_0)] := by kernel_rfl
theorem mw_markStoItemS_0 : ∀ p, p ∈ lsw_markStoItemS → p.1 = 0 → p.2 = cw_markStoItemS_0 := by
 intro p hp
 rw [lseqw_markStoItemS] at hp
 simp only [List.mem_cons, List.not_mem_nil, or_false] at hp
 subst hp; simp
theorem kw_markStoItemS_0 : OrcOk Ew_markStoItemS Ow_markStoItemS_0 lsw_markStoItemS 0 := orcOk_none
noncomputable def hw_markStoItemS_0 (y0 : List (ByteArray × (List Int))) (y1 : Int) (y2 : Int) : List (Pl × LV) := [(.T 0, .t (.val false [.row 0 0 0])), (.R 0 0, .r 0 (some ⟨false, .any, true, 49, (.pair .str (.sl 3 (.int .i64))), y0⟩)), (.T 1, .t (.val false [.int .i64 y1])), (.T 5, .t (.val false [.int .i64 y2]))]
noncomputable def g_Sw_markStoItemS_0 : ((List (ByteArray × (List Int))) × Int × Int) → RT ((List (ByteArray × (List Int))) × Int × Int) (((List (ByteArray × (List Int))) × Int))
 | (y0, y1, y2) => .br (true) (.br (decide (y2 < (↑(List.length y0) : Int))) (.br (g_Aw_markText y1) (.br (decide ((0 : Int) ≤ y2 ∧ y2 < (↑(List.length y0) : Int))) (.br (decide (Int.toNat y2 < List.length y0)) (.br (true) (.br (decide ((0 : Int) ≤ y2 ∧ y2 < (↑(List.length (updE (Ty.pair Ty.str (Ty.sl (nat_lit 3) (Ty.int IntKind.i64))) y0 (Int.toNat y2) fun x => (g_Vw_markText_0 y1, x.2))) : Int))) (.br (decide (Int.toNat y2 < List.length (updE (Ty.pair Ty.str (Ty.sl (nat_lit 3) (Ty.int IntKind.i64))) y0 (Int.toNat y2) fun x => (g_Vw_markText_0 y1, x.2)))) (.br (g_Aw_markIntS (at_ (Ty.pair Ty.str (Ty.sl (nat_lit 3) (Ty.int IntKind.i64))) (updE (Ty.pair Ty.str (Ty.sl (nat_lit 3) (Ty.int IntKind.i64))) y0 (Int.toNat y2) fun x => (g_Vw_markText_0 y1, x.2)) (Int.toNat y2)).2 (IntKind.wrap IntKind.i64 (y1 + (1 : Int)))) (.br (true) (.go ((List.set (updE (Ty.pair Ty.str (Ty.sl (nat_lit 3) (Ty.int IntKind.i64))) y0 (Int.toNat y2) fun x => (g_Vw_markText_0 y1, x.2)) (Int.toNat y2) ((at_ (Ty.pair Ty.str (Ty.sl (nat_lit 3) (Ty.int IntKind.i64))) (updE (Ty.pair Ty.str (Ty.sl (nat_lit 3) (Ty.int IntKind.i64))) y0 (Int.toNat y2) fun x => (g_Vw_markText_0 y1, x.2)) (Int.toNat y2)).1, g_Vw_markIntS_1 (at_ (Ty.pair Ty.str (Ty.sl (nat_lit 3) (Ty.int IntKind.i64))) (updE (Ty.pair Ty.str (Ty.sl (nat_lit 3) (Ty.int IntKind.i64))) y0 (Int.toNat y2) fun x => (g_Vw_markText_0 y1, x.2)) (Int.toNat y2)).2 (IntKind.wrap IntKind.i64 (y1 + (1 : Int)))), g_Vw_markIntS_0 (at_ (Ty.pair Ty.str (Ty.sl (nat_lit 3) (Ty.int IntKind.i64))) (updE (Ty.pair Ty.str (Ty.sl (nat_lit 3) (Ty.int IntKind.i64))) y0 (Int.toNat y2) fun x => (g_Vw_markText_0 y1, x.2)) (Int.toNat y2)).2 (IntKind.wrap IntKind.i64 (y1 + (1 : Int))), IntKind.wrap IntKind.i64 (y2 + (1 : Int))))) (.bad)) (.bad)) (.bad)) (.bad)) (.bad)) (.bad)) (.bad)) (.bad)) (.out ((y0, y1)))) (.bad)
noncomputable def g_Lw_markStoItemS_0 (x : (List (ByteArray × (List Int))) × Int × Int) : Option (((List (ByteArray × (List Int))) × Int)) := loopO (g_Sw_markStoItemS_0) x
noncomputable def xw_markStoItemS_0 : (((List (ByteArray × (List Int))) × Int)) → Ex × List (Pl × LV) := fun r => (.exit 0, [(.T 0, .t (.val false [.row 0 0 0])), (.R 0 0, .r 0 (some ⟨false, .any, true, 49, (.pair .str (.sl 3 (.int .i64))), r.1⟩)), (.T 1, .t (.val false [.int .i64 r.2]))])
noncomputable def Ow_markStoItemS_1 : Orc := fun b h => match b, h with
 | 0, [(.T 0, .t (.val false [.row 0 0 0])), (.R 0 0, .r 0 (some ⟨false, .any, true, 49, (.pair .str (.sl 3 (.int .i64))), y0⟩)), (.T 1, .t (.val false [.int .i64 y1])), (.T 5, .t (.val false [.int .i64 y2]))] => some (okO (g_Lw_markStoItemS_0 (y0, y1, y2)), (.leaf (.exit 0) [(.T 0, .t (.val false [.row 0 0 0])), (.R 0 0, .r 0 (some ⟨false, .any, true, 49, (.pair .str (.sl 3 (.int .i64))), (valO (g_Lw_markStoItemS_0 (y0, y1, y2))).1⟩)), (.T 1, .t (.val false [.int .i64 (valO (g_Lw_markStoItemS_0 (y0, y1, y2))).2]))]))
 | b, h => Ow_markStoItemS_0 b h
theorem bw_markStoItemS_0 (y0 : List (ByteArray × (List Int))) (y1 : Int) (y2 : Int) : Tr.bt Ew_markStoItemS Ow_markStoItemS_0 (exec Ew_markStoItemS 0 cw_markStoItemS_0 (St.of (hw_markStoItemS_0 y0 y1 y2)) (leafRd Ew_markStoItemS 0)) = (g_Sw_markStoItemS_0 (y0, y1, y2)).bt (fun ((y0, y1, y2) : (List (ByteArray × (List Int))) × Int × Int) => (hw_markStoItemS_0 y0 y1 y2)) (xw_markStoItemS_0) := by kernel_rfl
theorem kw_markStoItemS_1 : OrcOk Ew_markStoItemS Ow_markStoItemS_1 lsw_markStoItemS 1 := orc_add kw_markStoItemS_0 (fun n p hp h ex h' ho => by
 obtain ⟨b, c⟩ := p
 obtain ⟨xt, h1, h2⟩ := ho
 have h1 : Ow_markStoItemS_1 b h = some (true, xt) := h1
 unfold Ow_markStoItemS_1 at h1
 split at h1
 ·injection h1 with h1
  injection h1 with e1 e2
  subst e2
  have hc : c = cw_markStoItemS_0 := mw_markStoItemS_0 _ hp rfl
  subst hc
  right
  rename_i y0 y1 y2
  have key := LT_step kw_markStoItemS_0 hp (fun q hq => loopsAll_in _ _ _ _ hp hq) (fun ((y0, y1, y2) : (List (ByteArray × (List Int))) × Int × Int) => (hw_markStoItemS_0 y0 y1 y2)) (xw_markStoItemS_0) (g_Sw_markStoItemS_0) (fun x => by first | exact bw_markStoItemS_0 x.1 x.2.1 x.2.2) n (x := (y0, y1, y2)) (okO_some e1)
  have hx : ∀ r, XT.sel (.leaf (.exit 0) [(.T 0, .t (.val false [.row 0 0 0])), (.R 0 0, .r 0 (some ⟨false, .any, true, 49, (.pair .str (.sl 3 (.int .i64))), r.1⟩)), (.T 1, .t (.val false [.int .i64 r.2]))]) = xw_markStoItemS_0 r := fun r => by first | rfl | (rcases r with r | r <;> rfl) | (rcases r with r | r | r <;> rfl) | (rcases r with r | r | r | r <;> rfl)
  have h3 := (hx (valO (g_Lw_markStoItemS_0 (y0, y1, y2)))).symm.trans h2
  have e3 := congrArg Prod.fst h3
  have e4 := congrArg Prod.snd h3
  simp only at e3 e4
  rw [← e3, ← e4]
  exact key
 ·exact .inl ⟨xt, h1, h2⟩)
noncomputable def g_Aw_markStoItemS (a0 : List (ByteArray × (List Int))) (a1 : Int) : Bool := okO (g_Lw_markStoItemS_0 (a0, a1, (0 : Int)))
noncomputable def g_Vw_markStoItemS_0 (a0 : List (ByteArray × (List Int))) (a1 : Int) : Int := (valO (g_Lw_markStoItemS_0 (a0, a1, (0 : Int)))).2
noncomputable def g_Vw_markStoItemS_1 (a0 : List (ByteArray × (List Int))) (a1 : Int) : List (ByteArray × (List Int)) := (valO (g_Lw_markStoItemS_0 (a0, a1, (0 : Int)))).1
noncomputable def Fw_markStoItemS : FSem := fun ys => match ys with
 | [.val false [.own .any true 49 (.pair .str (.sl 3 (.int .i64))) a0], .val false [.int .i64 a1]] => some ((g_Aw_markStoItemS a0 a1), .val false [.int .i64 (g_Vw_markStoItemS_0 a0 a1)], [[.own .any true 49 (.pair .str (.sl 3 (.int .i64))) (g_Vw_markStoItemS_1 a0 a1)]])
 | _ => none
theorem vw_markStoItemS (a0 : List (ByteArray × (List Int))) (a1 : Int) : collapseH .std Ew_markStoItemS Ow_markStoItemS_1 (execFn Ew_markStoItemS Tryz.f74 msw_markStoItemS [.val false [.own .any true 49 (.pair .str (.sl 3 (.int .i64))) a0], .val false [.int .i64 a1]]) = some ((g_Aw_markStoItemS a0 a1), .val false [.int .i64 (g_Vw_markStoItemS_0 a0 a1)], [[.own .any true 49 (.pair .str (.sl 3 (.int .i64))) (g_Vw_markStoItemS_1 a0 a1)]]) := by kernel_rfl
theorem sw_markStoItemS : Sound Tryz.prog 74 msw_markStoItemS Fw_markStoItemS := by
 refine fn_gen goodw_markStoItemS (by kernel_rfl) .std (fn := Tryz.f74) (c := (Tryz.f74.body.getD .skip)) (o := Ow_markStoItemS_1) (k := 1) (by kernel_rfl) (by kernel_rfl) (by kernel_rfl) (by kernel_rfl) (by decide) kw_markStoItemS_1 ?_
 intro ys r outs h
 unfold Fw_markStoItemS at h
 split at h
 ·exact (vw_markStoItemS _ _).trans h
 ·cases h
noncomputable def Ew_markStoStore : Env where
 tt := mkTI Tryz.prog
 fn := fun f => match f with
  | 74 => some (msw_markStoItemS, FSem.wk msw_markStoItemS Fw_markStoItemS)
  | _ => none
 bxf := fun _ => none
 mv := []
 keep := fun _ => []
 keepB := fun _ => []
 keepX := fun _ => []
 keepXB := fun _ => []
theorem goodFw_markStoStore : ∀ f ms F, Ew_markStoStore.fn f = some (ms, F) → Sound Tryz.prog f ms F := fun f ms F h => by
 unfold Ew_markStoStore at h
 dsimp only at h
 split at h
 ·injection h with h; injection h with e1 e2; subst e1 e2; exact Sound.wk sw_markStoItemS
 ·cases h
theorem goodBw_markStoStore : ∀ f ms F, Ew_markStoStore.bxf f = some (ms, F) → SoundB Tryz.prog f ms F := fun f ms F h => by cases h
theorem goodw_markStoStore : Good Tryz.prog Ew_markStoStore := ⟨rfl, goodFw_markStoStore, goodBw_markStoStore⟩
noncomputable def Ow_markStoStore_0 : Orc := fun _ _ => none
noncomputable def msw_markStoStore : List PM := [.«mut», .own]
noncomputable def lsw_markStoStore : List (Nat × Code) := loopsAll 0 (Tryz.f29.body.getD .skip)
theorem kw_markStoStore_0 : OrcOk Ew_markStoStore Ow_markStoStore_0 lsw_markStoStore 0 := orcOk_none
noncomputable def g_Aw_markStoStore (a0 : List (ByteArray × (List Int))) (a1 : Int) : Bool := g_Aw_markStoItemS a0 a1
noncomputable def Fw_markStoStore : FSem := fun ys => match ys with
 | [.val true [.own .any true 49 (.pair .str (.sl 3 (.int .i64))) a0], .val false [.int .i64 a1]] => some ((g_Aw_markStoStore a0 a1), .val false [.int .i64 (g_Vw_markStoItemS_0 a0 a1)], [[.own .any true 49 (.pair .str (.sl 3 (.int .i64))) (g_Vw_markStoItemS_1 a0 a1)]])
 | _ => none
theorem vw_markStoStore (a0 : List (ByteArray × (List Int))) (a1 : Int) : collapseH .std Ew_markStoStore Ow_markStoStore_0 (execFn Ew_markStoStore Tryz.f29 msw_markStoStore [.val true [.own .any true 49 (.pair .str (.sl 3 (.int .i64))) a0], .val false [.int .i64 a1]]) = some ((g_Aw_markStoStore a0 a1), .val false [.int .i64 (g_Vw_markStoItemS_0 a0 a1)], [[.own .any true 49 (.pair .str (.sl 3 (.int .i64))) (g_Vw_markStoItemS_1 a0 a1)]]) := by kernel_rfl
theorem sw_markStoStore : Sound Tryz.prog 29 msw_markStoStore Fw_markStoStore := by
 refine fn_gen goodw_markStoStore (by kernel_rfl) .std (fn := Tryz.f29) (c := (Tryz.f29.body.getD .skip)) (o := Ow_markStoStore_0) (k := 0) (by kernel_rfl) (by kernel_rfl) (by kernel_rfl) (by kernel_rfl) (by decide) kw_markStoStore_0 ?_
 intro ys r outs h
 unfold Fw_markStoStore at h
 split at h
 ·exact (vw_markStoStore _ _).trans h
 ·cases h
noncomputable def Ew_szIntS : Env where
 tt := mkTI Tryz.prog
 fn := fun _ => none
 bxf := fun _ => none
 mv := []
 keep := fun _ => []
 keepB := fun _ => []
 keepX := fun _ => []
 keepXB := fun _ => []
theorem goodFw_szIntS : ∀ f ms F, Ew_szIntS.fn f = some (ms, F) → Sound Tryz.prog f ms F := fun f ms F h => by cases h
theorem goodBw_szIntS : ∀ f ms F, Ew_szIntS.bxf f = some (ms, F) → SoundB Tryz.prog f ms F := fun f ms F h => by cases h
theorem goodw_szIntS : Good Tryz.prog Ew_szIntS := ⟨rfl, goodFw_szIntS, goodBw_szIntS⟩
noncomputable def Ow_szIntS_0 : Orc := fun _ _ => none
noncomputable def msw_szIntS : List PM := [.rd, .own]
noncomputable def lsw_szIntS : List (Nat × Code) := loopsAll 0 (Tryz.f196.body.getD .skip)
theorem kw_szIntS_0 : OrcOk Ew_szIntS Ow_szIntS_0 lsw_szIntS 0 := orcOk_none
noncomputable def g_Vw_szIntS_0 (a0 : List Int) (a1 : Int) : Int := bif decide (IntKind.wrap IntKind.i64 (a1 - (↑(List.length a0) : Int)) < (0 : Int)) then (-1 : Int) else IntKind.wrap IntKind.i64 (a1 - (↑(List.length a0) : Int))
noncomputable def Fw_szIntS : FSem := fun ys => match ys with
 | [.val false [.sl .any 3 (.int .i64) a0], .val false [.int .i64 a1]] => some (true, .val false [.int .i64 (g_Vw_szIntS_0 a0 a1)], [])
 | _ => none
theorem vw_szIntS (a0 : List Int) (a1 : Int) : collapseH .std Ew_szIntS Ow_szIntS_0 (execFn Ew_szIntS Tryz.f196 msw_szIntS [.val false [.sl .any 3 (.int .i64) a0], .val false [.int .i64 a1]]) = some (true, .val false [.int .i64 (g_Vw_szIntS_0 a0 a1)], []) := by kernel_rfl
theorem sw_szIntS : Sound Tryz.prog 196 msw_szIntS Fw_szIntS := by
 refine fn_gen goodw_szIntS (by kernel_rfl) .std (fn := Tryz.f196) (c := (Tryz.f196.body.getD .skip)) (o := Ow_szIntS_0) (k := 0) (by kernel_rfl) (by kernel_rfl) (by kernel_rfl) (by kernel_rfl) (by decide) kw_szIntS_0 ?_
 intro ys r outs h
 unfold Fw_szIntS at h
 split at h
 ·exact (vw_szIntS _ _).trans h
 ·cases h
noncomputable def Ew_szStoWrite : Env where
 tt := mkTI Tryz.prog
 fn := fun f => match f with
  | 196 => some (msw_szIntS, FSem.wk msw_szIntS Fw_szIntS)
  | _ => none
 bxf := fun _ => none
 mv := []
 keep := fun _ => []
 keepB := fun _ => []
 keepX := fun _ => []
 keepXB := fun _ => []
theorem goodFw_szStoWrite : ∀ f ms F, Ew_szStoWrite.fn f = some (ms, F) → Sound Tryz.prog f ms F := fun f ms F h => by
 unfold Ew_szStoWrite at h
 dsimp only at h
 split at h
 ·injection h with h; injection h with e1 e2; subst e1 e2; exact Sound.wk sw_szIntS
 ·cases h
theorem goodBw_szStoWrite : ∀ f ms F, Ew_szStoWrite.bxf f = some (ms, F) → SoundB Tryz.prog f ms F := fun f ms F h => by cases h
theorem goodw_szStoWrite : Good Tryz.prog Ew_szStoWrite := ⟨rfl, goodFw_szStoWrite, goodBw_szStoWrite⟩
noncomputable def Ow_szStoWrite_0 : Orc := fun _ _ => none
noncomputable def msw_szStoWrite : List PM := [.rd, .own]
noncomputable def lsw_szStoWrite : List (Nat × Code) := loopsAll 0 (Tryz.f183.body.getD .skip)
theorem kw_szStoWrite_0 : OrcOk Ew_szStoWrite Ow_szStoWrite_0 lsw_szStoWrite 0 := orcOk_none
noncomputable def g_Aw_szStoWrite (a0 : ByteArray) (a1 : Bool) (a2 : List Int) (a3 : Int) : Bool := decide (IntKind.wrap IntKind.i64 (a3 - (↑(ByteArray.size a0) : Int)) < (0 : Int)) || true
noncomputable def g_Vw_szStoWrite_0 (a0 : ByteArray) (a1 : Bool) (a2 : List Int) (a3 : Int) : Int := bif decide (IntKind.wrap IntKind.i64 (a3 - (↑(ByteArray.size a0) : Int)) < (0 : Int)) then (-1 : Int) else bif decide (g_Vw_szIntS_0 a2 (IntKind.wrap IntKind.i64 (a3 - (↑(ByteArray.size a0) : Int))) < (0 : Int)) then (-1 : Int) else g_Vw_szIntS_0 a2 (IntKind.wrap IntKind.i64 (a3 - (↑(ByteArray.size a0) : Int)))
noncomputable def Fw_szStoWrite : FSem := fun ys => match ys with
 | [.val true [.str a0, .bool a1, .sl .any 3 (.int .i64) a2], .val false [.int .i64 a3]] => some ((g_Aw_szStoWrite a0 a1 a2 a3), .val false [.int .i64 (g_Vw_szStoWrite_0 a0 a1 a2 a3)], [])
 | _ => none
theorem vw_szStoWrite (a0 : ByteArray) (a1 : Bool) (a2 : List Int) (a3 : Int) : collapseH .std Ew_szStoWrite Ow_szStoWrite_0 (execFn Ew_szStoWrite Tryz.f183 msw_szStoWrite [.val true [.str a0, .bool a1, .sl .any 3 (.int .i64) a2], .val false [.int .i64 a3]]) = some ((g_Aw_szStoWrite a0 a1 a2 a3), .val false [.int .i64 (g_Vw_szStoWrite_0 a0 a1 a2 a3)], []) := by kernel_rfl
theorem sw_szStoWrite : Sound Tryz.prog 183 msw_szStoWrite Fw_szStoWrite := by
 refine fn_gen goodw_szStoWrite (by kernel_rfl) .std (fn := Tryz.f183) (c := (Tryz.f183.body.getD .skip)) (o := Ow_szStoWrite_0) (k := 0) (by kernel_rfl) (by kernel_rfl) (by kernel_rfl) (by kernel_rfl) (by decide) kw_szStoWrite_0 ?_
 intro ys r outs h
 unfold Fw_szStoWrite at h
 split at h
 ·exact (vw_szStoWrite _ _ _ _).trans h
 ·cases h
noncomputable def Ew_szStoWriteS : Env where
 tt := mkTI Tryz.prog
 fn := fun f => match f with
  | 183 => some (msw_szStoWrite, FSem.wk msw_szStoWrite Fw_szStoWrite)
  | _ => none
 bxf := fun _ => none
 mv := []
 keep := fun b => match b with
  | 0 => [(0, false), (1, false), (5, false)]
  | _ => []
 keepB := fun b => match b with
  | 0 => []
  | _ => []
 keepX := fun b => match b with
  | 0 => [(1, false), (4, false)]
  | _ => []
 keepXB := fun b => match b with
  | 0 => []
  | _ => []
theorem goodFw_szStoWriteS : ∀ f ms F, Ew_szStoWriteS.fn f = some (ms, F) → Sound Tryz.prog f ms F := fun f ms F h => by
 unfold Ew_szStoWriteS at h
 dsimp only at h
 split at h
 ·injection h with h; injection h with e1 e2; subst e1 e2; exact Sound.wk sw_szStoWrite
 ·cases h
theorem goodBw_szStoWriteS : ∀ f ms F, Ew_szStoWriteS.bxf f = some (ms, F) → SoundB Tryz.prog f ms F := fun f ms F h => by cases h
theorem goodw_szStoWriteS : Good Tryz.prog Ew_szStoWriteS := ⟨rfl, goodFw_szStoWriteS, goodBw_szStoWriteS⟩
noncomputable def Ow_szStoWriteS_0 : Orc := fun _ _ => none
noncomputable def msw_szStoWriteS : List PM := [.rd, .own]
noncomputable def lsw_szStoWriteS : List (Nat × Code) := loopsAll 0 (Tryz.f156.body.getD .skip)
noncomputable def cw_szStoWriteS_0 : Code := (loopOf 0 (Tryz.f156.body.getD .skip)).getD .skip
theorem lseqw_szStoWriteS : lsw_szStoWriteS = [(0, cw_szStoWriteS_0)] := by kernel_rfl
theorem mw_szStoWriteS_0 : ∀ p, p ∈ lsw_szStoWriteS → p.1 = 0 → p.2 = cw_szStoWriteS_0 := by
 intro p hp
 rw [lseqw_szStoWriteS] at hp
 simp only [List.mem_cons, List.not_mem_nil, or_false] at hp
 subst hp; simp
theorem kw_szStoWriteS_0 : OrcOk Ew_szStoWriteS Ow_szStoWriteS_0 lsw_szStoWriteS 0 := orcOk_none
noncomputable def hw_szStoWriteS_0 (y0 : List (ByteArray × (Bool × (List Int)))) (y1 : Int) (y2 : Int) : List (Pl × LV) := [(.T 0, .t (.val false [.sl .any 185 (.pair .str (.pair .bool (.sl 3 (.int .i64)))) y0])), (.T 1, .t (.val false [.int .i64 y1])), (.T 5, .t (.val false [.int .i64 y2]))]
noncomputable def g_Sw_szStoWriteS_0 (y0 : List (ByteArray × (Bool × (List Int)))) : (Int × Int) → RT (Int × Int) ((Int × Int) ⊕ (Int))
 | (y1, y2) => .br (true) (.br (decide (y2 < (↑(List.length y0) : Int))) (.br (decide ((0 : Int) ≤ y2 ∧ y2 < (↑(List.length y0) : Int))) (.br (g_Aw_szStoWrite (at_ (Ty.pair Ty.str (Ty.pair Ty.bool (Ty.sl (nat_lit 3) (Ty.int IntKind.i64)))) y0 (Int.toNat y2)).1 (at_ (Ty.pair Ty.str (Ty.pair Ty.bool (Ty.sl (nat_lit 3) (Ty.int IntKind.i64)))) y0 (Int.toNat y2)).2.1 (at_ (Ty.pair Ty.str (Ty.pair Ty.bool (Ty.sl (nat_lit 3) (Ty.int IntKind.i64)))) y0 (Int.toNat y2)).2.2 y1) (.br (true) (.br (decide (g_Vw_szStoWrite_0 (at_ (Ty.pair Ty.str (Ty.pair Ty.bool (Ty.sl (nat_lit 3) (Ty.int IntKind.i64)))) y0 (Int.toNat y2)).1 (at_ (Ty.pair Ty.str (Ty.pair Ty.bool (Ty.sl (nat_lit 3) (Ty.int IntKind.i64)))) y0 (Int.toNat y2)).2.1 (at_ (Ty.pair Ty.str (Ty.pair Ty.bool (Ty.sl (nat_lit 3) (Ty.int IntKind.i64)))) y0 (Int.toNat y2)).2.2 y1 < (0 : Int))) (.out (.inl ((g_Vw_szStoWrite_0 (at_ (Ty.pair Ty.str (Ty.pair Ty.bool (Ty.sl (nat_lit 3) (Ty.int IntKind.i64)))) y0 (Int.toNat y2)).1 (at_ (Ty.pair Ty.str (Ty.pair Ty.bool (Ty.sl (nat_lit 3) (Ty.int IntKind.i64)))) y0 (Int.toNat y2)).2.1 (at_ (Ty.pair Ty.str (Ty.pair Ty.bool (Ty.sl (nat_lit 3) (Ty.int IntKind.i64)))) y0 (Int.toNat y2)).2.2 y1, (-1 : Int))))) (.br (true) (.go ((g_Vw_szStoWrite_0 (at_ (Ty.pair Ty.str (Ty.pair Ty.bool (Ty.sl (nat_lit 3) (Ty.int IntKind.i64)))) y0 (Int.toNat y2)).1 (at_ (Ty.pair Ty.str (Ty.pair Ty.bool (Ty.sl (nat_lit 3) (Ty.int IntKind.i64)))) y0 (Int.toNat y2)).2.1 (at_ (Ty.pair Ty.str (Ty.pair Ty.bool (Ty.sl (nat_lit 3) (Ty.int IntKind.i64)))) y0 (Int.toNat y2)).2.2 y1, IntKind.wrap IntKind.i64 (y2 + (1 : Int))))) (.bad))) (.bad)) (.bad)) (.bad)) (.out (.inr (y1)))) (.bad)
noncomputable def g_Lw_szStoWriteS_0 (y0 : List (ByteArray × (Bool × (List Int)))) (x : Int × Int) : Option ((Int × Int) ⊕ (Int)) := loopO (g_Sw_szStoWriteS_0 y0) x
noncomputable def xw_szStoWriteS_0 (y0 : List (ByteArray × (Bool × (List Int)))) : ((Int × Int) ⊕ (Int)) → Ex × List (Pl × LV) := fun
 | .inl r => (.ret, [(.T 1, .t (.val false [.int .i64 r.1])), (.T 4, .t (.val false [.int .i64 r.2]))])
 | .inr (r) => (.exit 0, [(.T 1, .t (.val false [.int .i64 r])), (.T 4, .t (.val false [.undef]))])
noncomputable def Ow_szStoWriteS_1 : Orc := fun b h => match b, h with
 | 0, [(.T 0, .t (.val false [.sl .any 185 (.pair .str (.pair .bool (.sl 3 (.int .i64)))) y0])), (.T 1, .t (.val false [.int .i64 y1])), (.T 5, .t (.val false [.int .i64 y2]))] => some (okO (g_Lw_szStoWriteS_0 y0 (y1, y2)), (.br (isL (valO (g_Lw_szStoWriteS_0 y0 (y1, y2)))) (.leaf .ret [(.T 1, .t (.val false [.int .i64 (getL (valO (g_Lw_szStoWriteS_0 y0 (y1, y2)))).1])), (.T 4, .t (.val false [.int .i64 (getL (valO (g_Lw_szStoWriteS_0 y0 (y1, y2)))).2]))]) (.leaf (.exit 0) [(.T 1, .t (.val false [.int .i64 (getR (valO (g_Lw_szStoWriteS_0 y0 (y1, y2))))])), (.T 4, .t (.val false [.undef]))])))
 | b, h => Ow_szStoWriteS_0 b h
theorem bw_szStoWriteS_0 (y0 : List (ByteArray × (Bool × (List Int)))) (y1 : Int) (y2 : Int) : Tr.bt Ew_szStoWriteS Ow_szStoWriteS_0 (exec Ew_szStoWriteS 0 cw_szStoWriteS_0 (St.of (hw_szStoWriteS_0 y0 y1 y2)) (leafRd Ew_szStoWriteS 0)) = (g_Sw_szStoWriteS_0 y0 (y1, y2)).bt (fun ((y1, y2) : Int × Int) => (hw_szStoWriteS_0 y0 y1 y2)) (xw_szStoWriteS_0 y0) := by kernel_rfl
theorem kw_szStoWriteS_1 : OrcOk Ew_szStoWriteS Ow_szStoWriteS_1 lsw_szStoWriteS 1 := orc_add kw_szStoWriteS_0 (fun n p hp h ex h' ho => by
 obtain ⟨b, c⟩ := p
 obtain ⟨xt, h1, h2⟩ := ho
 have h1 : Ow_szStoWriteS_1 b h = some (true, xt) := h1
 unfold Ow_szStoWriteS_1 at h1
 split at h1
 ·injection h1 with h1
  injection h1 with e1 e2
  subst e2
  have hc : c = cw_szStoWriteS_0 := mw_szStoWriteS_0 _ hp rfl
  subst hc
  right
  rename_i y0 y1 y2
  have key := LT_step kw_szStoWriteS_0 hp (fun q hq => loopsAll_in _ _ _ _ hp hq) (fun ((y1, y2) : Int × Int) => (hw_szStoWriteS_0 y0 y1 y2)) (xw_szStoWriteS_0 y0) (g_Sw_szStoWriteS_0 y0) (fun x => by first | exact bw_szStoWriteS_0 y0 x.1 x.2) n (x := (y1, y2)) (okO_some e1)
  have hx : ∀ r, XT.sel (.br (isL r) (.leaf .ret [(.T 1, .t (.val false [.int .i64 (getL r).1])), (.T 4, .t (.val false [.int .i64 (getL r).2]))]) (.leaf (.exit 0) [(.T 1, .t (.val false [.int .i64 (getR r)])), (.T 4, .t (.val false [.undef]))])) = xw_szStoWriteS_0 y0 r := fun r => by first | rfl | (rcases r with r | r <;> rfl) | (rcases r with r | r | r <;> rfl) | (rcases r with r | r | r | r <;> rfl)
  have h3 := (hx (valO (g_Lw_szStoWriteS_0 y0 (y1, y2)))).symm.trans h2
  have e3 := congrArg Prod.fst h3
  have e4 := congrArg Prod.snd h3
  simp only at e3 e4
  rw [← e3, ← e4]
  exact key
 ·exact .inl ⟨xt, h1, h2⟩)
noncomputable def g_Aw_szStoWriteS (a0 : List (ByteArray × (Bool × (List Int)))) (a1 : Int) : Bool := decide (IntKind.wrap IntKind.i64 (a1 - (↑(List.length a0) : Int)) < (0 : Int)) || okO (g_Lw_szStoWriteS_0 a0 (IntKind.wrap IntKind.i64 (a1 - (↑(List.length a0) : Int)), (0 : Int)))
noncomputable def g_Vw_szStoWriteS_0 (a0 : List (ByteArray × (Bool × (List Int)))) (a1 : Int) : Int := bif decide (IntKind.wrap IntKind.i64 (a1 - (↑(List.length a0) : Int)) < (0 : Int)) then (-1 : Int) else bif isL (valO (g_Lw_szStoWriteS_0 a0 (IntKind.wrap IntKind.i64 (a1 - (↑(List.length a0) : Int)), (0 : Int)))) then (getL (valO (g_Lw_szStoWriteS_0 a0 (IntKind.wrap IntKind.i64 (a1 - (↑(List.length a0) : Int)), (0 : Int))))).2 else getR (valO (g_Lw_szStoWriteS_0 a0 (IntKind.wrap IntKind.i64 (a1 - (↑(List.length a0) : Int)), (0 : Int))))
noncomputable def Fw_szStoWriteS : FSem := fun ys => match ys with
 | [.val false [.sl .any 185 (.pair .str (.pair .bool (.sl 3 (.int .i64)))) a0], .val false [.int .i64 a1]] => some ((g_Aw_szStoWriteS a0 a1), .val false [.int .i64 (g_Vw_szStoWriteS_0 a0 a1)], [])
 | _ => none
theorem vw_szStoWriteS (a0 : List (ByteArray × (Bool × (List Int)))) (a1 : Int) : collapseH .std Ew_szStoWriteS Ow_szStoWriteS_1 (execFn Ew_szStoWriteS Tryz.f156 msw_szStoWriteS [.val false [.sl .any 185 (.pair .str (.pair .bool (.sl 3 (.int .i64)))) a0], .val false [.int .i64 a1]]) = some ((g_Aw_szStoWriteS a0 a1), .val false [.int .i64 (g_Vw_szStoWriteS_0 a0 a1)], []) := by kernel_rfl
theorem sw_szStoWriteS : Sound Tryz.prog 156 msw_szStoWriteS Fw_szStoWriteS := by
 refine fn_gen goodw_szStoWriteS (by kernel_rfl) .std (fn := Tryz.f156) (c := (Tryz.f156.body.getD .skip)) (o := Ow_szStoWriteS_1) (k := 1) (by kernel_rfl) (by kernel_rfl) (by kernel_rfl) (by kernel_rfl) (by decide) kw_szStoWriteS_1 ?_
 intro ys r outs h
 unfold Fw_szStoWriteS at h
 split at h
 ·exact (vw_szStoWriteS _ _).trans h
 ·cases h
noncomputable def Ew_szStringS : Env where
 tt := mkTI Tryz.prog
 fn := fun _ => none
 bxf := fun _ => none
 mv := []
 keep := fun b => match b with
  | 0 => [(0, false), (1, false), (5, false)]
  | _ => []
 keepB := fun b => match b with
  | 0 => []
  | _ => []
 keepX := fun b => match b with
  | 0 => [(1, false), (4, false)]
  | _ => []
 keepXB := fun b => match b with
  | 0 => []
  | _ => []
theorem goodFw_szStringS : ∀ f ms F, Ew_szStringS.fn f = some (ms, F) → Sound Tryz.prog f ms F := fun f ms F h => by cases h
theorem goodBw_szStringS : ∀ f ms F, Ew_szStringS.bxf f = some (ms, F) → SoundB Tryz.prog f ms F := fun f ms F h => by cases h
theorem goodw_szStringS : Good Tryz.prog Ew_szStringS := ⟨rfl, goodFw_szStringS, goodBw_szStringS⟩
noncomputable def Ow_szStringS_0 : Orc := fun _ _ => none
noncomputable def msw_szStringS : List PM := [.rd, .own]
noncomputable def lsw_szStringS : List (Nat × Code) := loopsAll 0 (Tryz.f155.body.getD .skip)
noncomputable def cw_szStringS_0 : Code := (loopOf 0 (Tryz.f155.body.getD .skip)).getD .skip
theorem lseqw_szStringS : lsw_szStringS = [(0, cw_szStringS_0)] := by kernel_rfl
theorem mw_szStringS_0 : ∀ p, p ∈ lsw_szStringS → p.1 = 0 → p.2 = cw_szStringS_0 := by
 intro p hp
 rw [lseqw_szStringS] at hp
 simp only [List.mem_cons, List.not_mem_nil, or_false] at hp
 subst hp; simp
theorem kw_szStringS_0 : OrcOk Ew_szStringS Ow_szStringS_0 lsw_szStringS 0 := orcOk_none
noncomputable def hw_szStringS_0 (y0 : List ByteArray) (y1 : Int) (y2 : Int) : List (Pl × LV) := [(.T 0, .t (.val false [.sl .any 9 .str y0])), (.T 1, .t (.val false [.int .i64 y1])), (.T 5, .t (.val false [.int .i64 y2]))]
noncomputable def g_Sw_szStringS_0 (y0 : List ByteArray) : (Int × Int) → RT (Int × Int) ((Int × Int) ⊕ (Int))
 | (y1, y2) => .br (true) (.br (decide (y2 < (↑(List.length y0) : Int))) (.br (decide ((0 : Int) ≤ y2 ∧ y2 < (↑(List.length y0) : Int))) (.br (true) (.br (true) (.br (decide (IntKind.wrap IntKind.i64 (y1 - (↑(ByteArray.size (at_ Ty.str y0 (Int.toNat y2))) : Int)) < (0 : Int))) (.out (.inl ((IntKind.wrap IntKind.i64 (y1 - (↑(ByteArray.size (at_ Ty.str y0 (Int.toNat y2))) : Int)), (-1 : Int))))) (.br (true) (.go ((IntKind.wrap IntKind.i64 (y1 - (↑(ByteArray.size (at_ Ty.str y0 (Int.toNat y2))) : Int)), IntKind.wrap IntKind.i64 (y2 + (1 : Int))))) (.bad))) (.bad)) (.bad)) (.bad)) (.out (.inr (y1)))) (.bad)
noncomputable def g_Lw_szStringS_0 (y0 : List ByteArray) (x : Int × Int) : Option ((Int × Int) ⊕ (Int)) := loopO (g_Sw_szStringS_0 y0) x
noncomputable def xw_szStringS_0 (y0 : List ByteArray) : ((Int × Int) ⊕ (Int)) → Ex × List (Pl × LV) := fun
 | .inl r => (.ret, [(.T 1, .t (.val false [.int .i64 r.1])), (.T 4, .t (.val false [.int .i64 r.2]))])
 | .inr (r) => (.exit 0, [(.T 1, .t (.val false [.int .i64 r])), (.T 4, .t (.val false [.undef]))])
noncomputable def Ow_szStringS_1 : Orc := fun b h => match b, h with
 | 0, [(.T 0, .t (.val false [.sl .any 9 .str y0])), (.T 1, .t (.val false [.int .i64 y1])), (.T 5, .t (.val false [.int .i64 y2]))] => some (okO (g_Lw_szStringS_0 y0 (y1, y2)), (.br (isL (valO (g_Lw_szStringS_0 y0 (y1, y2)))) (.leaf .ret [(.T 1, .t (.val false [.int .i64 (getL (valO (g_Lw_szStringS_0 y0 (y1, y2)))).1])), (.T 4, .t (.val false [.int .i64 (getL (valO (g_Lw_szStringS_0 y0 (y1, y2)))).2]))]) (.leaf (.exit 0) [(.T 1, .t (.val false [.int .i64 (getR (valO (g_Lw_szStringS_0 y0 (y1, y2))))])), (.T 4, .t (.val false [.undef]))])))
 | b, h => Ow_szStringS_0 b h
theorem bw_szStringS_0 (y0 : List ByteArray) (y1 : Int) (y2 : Int) : Tr.bt Ew_szStringS Ow_szStringS_0 (exec Ew_szStringS 0 cw_szStringS_0 (St.of (hw_szStringS_0 y0 y1 y2)) (leafRd Ew_szStringS 0)) = (g_Sw_szStringS_0 y0 (y1, y2)).bt (fun ((y1, y2) : Int × Int) => (hw_szStringS_0 y0 y1 y2)) (xw_szStringS_0 y0) := by kernel_rfl
theorem kw_szStringS_1 : OrcOk Ew_szStringS Ow_szStringS_1 lsw_szStringS 1 := orc_add kw_szStringS_0 (fun n p hp h ex h' ho => by
 obtain ⟨b, c⟩ := p
 obtain ⟨xt, h1, h2⟩ := ho
 have h1 : Ow_szStringS_1 b h = some (true, xt) := h1
 unfold Ow_szStringS_1 at h1
 split at h1
 ·injection h1 with h1
  injection h1 with e1 e2
  subst e2
  have hc : c = cw_szStringS_0 := mw_szStringS_0 _ hp rfl
  subst hc
  right
  rename_i y0 y1 y2
  have key := LT_step kw_szStringS_0 hp (fun q hq => loopsAll_in _ _ _ _ hp hq) (fun ((y1, y2) : Int × Int) => (hw_szStringS_0 y0 y1 y2)) (xw_szStringS_0 y0) (g_Sw_szStringS_0 y0) (fun x => by first | exact bw_szStringS_0 y0 x.1 x.2) n (x := (y1, y2)) (okO_some e1)
  have hx : ∀ r, XT.sel (.br (isL r) (.leaf .ret [(.T 1, .t (.val false [.int .i64 (getL r).1])), (.T 4, .t (.val false [.int .i64 (getL r).2]))]) (.leaf (.exit 0) [(.T 1, .t (.val false [.int .i64 (getR r)])), (.T 4, .t (.val false [.undef]))])) = xw_szStringS_0 y0 r := fun r => by first | rfl | (rcases r with r | r <;> rfl) | (rcases r with r | r | r <;> rfl) | (rcases r with r | r | r | r <;> rfl)
  have h3 := (hx (valO (g_Lw_szStringS_0 y0 (y1, y2)))).symm.trans h2
  have e3 := congrArg Prod.fst h3
  have e4 := congrArg Prod.snd h3
  simp only at e3 e4
  rw [← e3, ← e4]
  exact key
 ·exact .inl ⟨xt, h1, h2⟩)
noncomputable def g_Aw_szStringS (a0 : List ByteArray) (a1 : Int) : Bool := decide (IntKind.wrap IntKind.i64 (a1 - (↑(List.length a0) : Int)) < (0 : Int)) || okO (g_Lw_szStringS_0 a0 (IntKind.wrap IntKind.i64 (a1 - (↑(List.length a0) : Int)), (0 : Int)))
noncomputable def g_Vw_szStringS_0 (a0 : List ByteArray) (a1 : Int) : Int := bif decide (IntKind.wrap IntKind.i64 (a1 - (↑(List.length a0) : Int)) < (0 : Int)) then (-1 : Int) else bif isL (valO (g_Lw_szStringS_0 a0 (IntKind.wrap IntKind.i64 (a1 - (↑(List.length a0) : Int)), (0 : Int)))) then (getL (valO (g_Lw_szStringS_0 a0 (IntKind.wrap IntKind.i64 (a1 - (↑(List.length a0) : Int)), (0 : Int))))).2 else getR (valO (g_Lw_szStringS_0 a0 (IntKind.wrap IntKind.i64 (a1 - (↑(List.length a0) : Int)), (0 : Int))))
noncomputable def Fw_szStringS : FSem := fun ys => match ys with
 | [.val false [.sl .any 9 .str a0], .val false [.int .i64 a1]] => some ((g_Aw_szStringS a0 a1), .val false [.int .i64 (g_Vw_szStringS_0 a0 a1)], [])
 | _ => none
theorem vw_szStringS (a0 : List ByteArray) (a1 : Int) : collapseH .std Ew_szStringS Ow_szStringS_1 (execFn Ew_szStringS Tryz.f155 msw_szStringS [.val false [.sl .any 9 .str a0], .val false [.int .i64 a1]]) = some ((g_Aw_szStringS a0 a1), .val false [.int .i64 (g_Vw_szStringS_0 a0 a1)], []) := by kernel_rfl
theorem sw_szStringS : Sound Tryz.prog 155 msw_szStringS Fw_szStringS := by
 refine fn_gen goodw_szStringS (by kernel_rfl) .std (fn := Tryz.f155) (c := (Tryz.f155.body.getD .skip)) (o := Ow_szStringS_1) (k := 1) (by kernel_rfl) (by kernel_rfl) (by kernel_rfl) (by kernel_rfl) (by decide) kw_szStringS_1 ?_
 intro ys r outs h
 unfold Fw_szStringS at h
 split at h
 ·exact (vw_szStringS _ _).trans h
 ·cases h
noncomputable def Ew_szLogNote : Env where
 tt := mkTI Tryz.prog
 fn := fun f => match f with
  | 155 => some (msw_szStringS, FSem.wk msw_szStringS Fw_szStringS)
  | 156 => some (msw_szStoWriteS, FSem.wk msw_szStoWriteS Fw_szStoWriteS)
  | _ => none
 bxf := fun _ => none
 mv := []
 keep := fun _ => []
 keepB := fun _ => []
 keepX := fun _ => []
 keepXB := fun _ => []
theorem goodFw_szLogNote : ∀ f ms F, Ew_szLogNote.fn f = some (ms, F) → Sound Tryz.prog f ms F := fun f ms F h => by
 unfold Ew_szLogNote at h
 dsimp only at h
 split at h
 ·injection h with h; injection h with e1 e2; subst e1 e2; exact Sound.wk sw_szStringS
 ·injection h with h; injection h with e1 e2; subst e1 e2; exact Sound.wk sw_szStoWriteS
 ·cases h
theorem goodBw_szLogNote : ∀ f ms F, Ew_szLogNote.bxf f = some (ms, F) → SoundB Tryz.prog f ms F := fun f ms F h => by cases h
theorem goodw_szLogNote : Good Tryz.prog Ew_szLogNote := ⟨rfl, goodFw_szLogNote, goodBw_szLogNote⟩
noncomputable def Ow_szLogNote_0 : Orc := fun _ _ => none
noncomputable def msw_szLogNote : List PM := [.rd, .own]
noncomputable def lsw_szLogNote : List (Nat × Code) := loopsAll 0 (Tryz.f111.body.getD .skip)
theorem kw_szLogNote_0 : OrcOk Ew_szLogNote Ow_szLogNote_0 lsw_szLogNote 0 := orcOk_none
noncomputable def g_Aw_szLogNote (a0 : Int) (a1 : Int) (a2 : List ByteArray) (a3 : List (ByteArray × (Bool × (List Int)))) (a4 : Int) : Bool := g_Aw_szStringS a2 a4 && (decide (g_Vw_szStringS_0 a2 a4 < (0 : Int)) || g_Aw_szStoWriteS a3 (g_Vw_szStringS_0 a2 a4) && true)
noncomputable def g_Vw_szLogNote_0 (a0 : Int) (a1 : Int) (a2 : List ByteArray) (a3 : List (ByteArray × (Bool × (List Int)))) (a4 : Int) : Int := bif decide (g_Vw_szStringS_0 a2 a4 < (0 : Int)) then (-1 : Int) else bif decide (g_Vw_szStoWriteS_0 a3 (g_Vw_szStringS_0 a2 a4) < (0 : Int)) then (-1 : Int) else g_Vw_szStoWriteS_0 a3 (g_Vw_szStringS_0 a2 a4)
noncomputable def Fw_szLogNote : FSem := fun ys => match ys with
 | [.val true [.int .i64 a0, .int .i64 a1, .sl .any 9 .str a2, .sl .any 185 (.pair .str (.pair .bool (.sl 3 (.int .i64)))) a3], .val false [.int .i64 a4]] => some ((g_Aw_szLogNote a0 a1 a2 a3 a4), .val false [.int .i64 (g_Vw_szLogNote_0 a0 a1 a2 a3 a4)], [])
 | _ => none
theorem vw_szLogNote (a0 : Int) (a1 : Int) (a2 : List ByteArray) (a3 : List (ByteArray × (Bool × (List Int)))) (a4 : Int) : collapseH .std Ew_szLogNote Ow_szLogNote_0 (execFn Ew_szLogNote Tryz.f111 msw_szLogNote [.val true [.int .i64 a0, .int .i64 a1, .sl .any 9 .str a2, .sl .any 185 (.pair .str (.pair .bool (.sl 3 (.int .i64)))) a3], .val false [.int .i64 a4]]) = some ((g_Aw_szLogNote a0 a1 a2 a3 a4), .val false [.int .i64 (g_Vw_szLogNote_0 a0 a1 a2 a3 a4)], []) := by kernel_rfl
theorem sw_szLogNote : Sound Tryz.prog 111 msw_szLogNote Fw_szLogNote := by
 refine fn_gen goodw_szLogNote (by kernel_rfl) .std (fn := Tryz.f111) (c := (Tryz.f111.body.getD .skip)) (o := Ow_szLogNote_0) (k := 0) (by kernel_rfl) (by kernel_rfl) (by kernel_rfl) (by kernel_rfl) (by decide) kw_szLogNote_0 ?_
 intro ys r outs h
 unfold Fw_szLogNote at h
 split at h
 ·exact (vw_szLogNote _ _ _ _ _).trans h
 ·cases h
noncomputable def Ew_szLogNoteS : Env where
 tt := mkTI Tryz.prog
 fn := fun f => match f with
  | 111 => some (msw_szLogNote, FSem.wk msw_szLogNote Fw_szLogNote)
  | _ => none
 bxf := fun _ => none
 mv := []
 keep := fun b => match b with
  | 0 => [(0, false), (1, false), (5, false)]
  | _ => []
 keepB := fun b => match b with
  | 0 => []
  | _ => []
 keepX := fun b => match b with
  | 0 => [(1, false), (4, false)]
  | _ => []
 keepXB := fun b => match b with
  | 0 => []
  | _ => []
theorem goodFw_szLogNoteS : ∀ f ms F, Ew_szLogNoteS.fn f = some (ms, F) → Sound Tryz.prog f ms F := fun f ms F h => by
 unfold Ew_szLogNoteS at h
 dsimp only at h
 split at h
 ·injection h with h; injection h with e1 e2; subst e1 e2; exact Sound.wk sw_szLogNote
 ·cases h
theorem goodBw_szLogNoteS : ∀ f ms F, Ew_szLogNoteS.bxf f = some (ms, F) → SoundB Tryz.prog f ms F := fun f ms F h => by cases h
theorem goodw_szLogNoteS : Good Tryz.prog Ew_szLogNoteS := ⟨rfl, goodFw_szLogNoteS, goodBw_szLogNoteS⟩
noncomputable def Ow_szLogNoteS_0 : Orc := fun _ _ => none
noncomputable def msw_szLogNoteS : List PM := [.rd, .own]
noncomputable def lsw_szLogNoteS : List (Nat × Code) := loopsAll 0 (Tryz.f65.body.getD .skip)
noncomputable def cw_szLogNoteS_0 : Code := (loopOf 0 (Tryz.f65.body.getD .skip)).getD .skip
theorem lseqw_szLogNoteS : lsw_szLogNoteS = [(0, cw_szLogNoteS_0)] := by kernel_rfl
theorem mw_szLogNoteS_0 : ∀ p, p ∈ lsw_szLogNoteS → p.1 = 0 → p.2 = cw_szLogNoteS_0 := by
 intro p hp
 rw [lseqw_szLogNoteS] at hp
 simp only [List.mem_cons, List.not_mem_nil, or_false] at hp
 subst hp; simp
theorem kw_szLogNoteS_0 : OrcOk Ew_szLogNoteS Ow_szLogNoteS_0 lsw_szLogNoteS 0 := orcOk_none
noncomputable def hw_szLogNoteS_0 (y0 : List (Int × (Int × ((List ByteArray) × (List (ByteArray × (Bool × (List Int)))))))) (y1 : Int) (y2 : Int) : List (Pl × LV) := [(.T 0, .t (.val false [.sl .any 133 (.pair (.int .i64) (.pair (.int .i64) (.pair (.sl 9 .str) (.sl 185 (.pair .str (.pair .bool (.sl 3 (.int .i64)))))))) y0])), (.T 1, .t (.val false [.int .i64 y1])), (.T 5, .t (.val false [.int .i64 y2]))]
noncomputable def g_Sw_szLogNoteS_0 (y0 : List (Int × (Int × ((List ByteArray) × (List (ByteArray × (Bool × (List Int)))))))) : (Int × Int) → RT (Int × Int) ((Int × Int) ⊕ (Int))
 | (y1, y2) => .br (true) (.br (decide (y2 < (↑(List.length y0) : Int))) (.br (decide ((0 : Int) ≤ y2 ∧ y2 < (↑(List.length y0) : Int))) (.br (g_Aw_szLogNote (at_ (Ty.pair (Ty.int IntKind.i64) (Ty.pair (Ty.int IntKind.i64) (Ty.pair (Ty.sl (nat_lit 9) Ty.str) (Ty.sl (nat_lit 185) (Ty.pair Ty.str (Ty.pair Ty.bool (Ty.sl (nat_lit 3) (Ty.int IntKind.i64)))))))) y0 (Int.toNat y2)).1 (at_ (Ty.pair (Ty.int IntKind.i64) (Ty.pair (Ty.int IntKind.i64) (Ty.pair (Ty.sl (nat_lit 9) Ty.str) (Ty.sl (nat_lit 185) (Ty.pair Ty.str (Ty.pair Ty.bool (Ty.sl (nat_lit 3) (Ty.int IntKind.i64)))))))) y0 (Int.toNat y2)).2.1 (at_ (Ty.pair (Ty.int IntKind.i64) (Ty.pair (Ty.int IntKind.i64) (Ty.pair (Ty.sl (nat_lit 9) Ty.str) (Ty.sl (nat_lit 185) (Ty.pair Ty.str (Ty.pair Ty.bool (Ty.sl (nat_lit 3) (Ty.int IntKind.i64)))))))) y0 (Int.toNat y2)).2.2.1 (at_ (Ty.pair (Ty.int IntKind.i64) (Ty.pair (Ty.int IntKind.i64) (Ty.pair (Ty.sl (nat_lit 9) Ty.str) (Ty.sl (nat_lit 185) (Ty.pair Ty.str (Ty.pair Ty.bool (Ty.sl (nat_lit 3) (Ty.int IntKind.i64)))))))) y0 (Int.toNat y2)).2.2.2 y1) (.br (true) (.br (decide (g_Vw_szLogNote_0 (at_ (Ty.pair (Ty.int IntKind.i64) (Ty.pair (Ty.int IntKind.i64) (Ty.pair (Ty.sl (nat_lit 9) Ty.str) (Ty.sl (nat_lit 185) (Ty.pair Ty.str (Ty.pair Ty.bool (Ty.sl (nat_lit 3) (Ty.int IntKind.i64)))))))) y0 (Int.toNat y2)).1 (at_ (Ty.pair (Ty.int IntKind.i64) (Ty.pair (Ty.int IntKind.i64) (Ty.pair (Ty.sl (nat_lit 9) Ty.str) (Ty.sl (nat_lit 185) (Ty.pair Ty.str (Ty.pair Ty.bool (Ty.sl (nat_lit 3) (Ty.int IntKind.i64)))))))) y0 (Int.toNat y2)).2.1 (at_ (Ty.pair (Ty.int IntKind.i64) (Ty.pair (Ty.int IntKind.i64) (Ty.pair (Ty.sl (nat_lit 9) Ty.str) (Ty.sl (nat_lit 185) (Ty.pair Ty.str (Ty.pair Ty.bool (Ty.sl (nat_lit 3) (Ty.int IntKind.i64)))))))) y0 (Int.toNat y2)).2.2.1 (at_ (Ty.pair (Ty.int IntKind.i64) (Ty.pair (Ty.int IntKind.i64) (Ty.pair (Ty.sl (nat_lit 9) Ty.str) (Ty.sl (nat_lit 185) (Ty.pair Ty.str (Ty.pair Ty.bool (Ty.sl (nat_lit 3) (Ty.int IntKind.i64)))))))) y0 (Int.toNat y2)).2.2.2 y1 < (0 : Int))) (.out (.inl ((g_Vw_szLogNote_0 (at_ (Ty.pair (Ty.int IntKind.i64) (Ty.pair (Ty.int IntKind.i64) (Ty.pair (Ty.sl (nat_lit 9) Ty.str) (Ty.sl (nat_lit 185) (Ty.pair Ty.str (Ty.pair Ty.bool (Ty.sl (nat_lit 3) (Ty.int IntKind.i64)))))))) y0 (Int.toNat y2)).1 (at_ (Ty.pair (Ty.int IntKind.i64) (Ty.pair (Ty.int IntKind.i64) (Ty.pair (Ty.sl (nat_lit 9) Ty.str) (Ty.sl (nat_lit 185) (Ty.pair Ty.str (Ty.pair Ty.bool (Ty.sl (nat_lit 3) (Ty.int IntKind.i64)))))))) y0 (Int.toNat y2)).2.1 (at_ (Ty.pair (Ty.int IntKind.i64) (Ty.pair (Ty.int IntKind.i64) (Ty.pair (Ty.sl (nat_lit 9) Ty.str) (Ty.sl (nat_lit 185) (Ty.pair Ty.str (Ty.pair Ty.bool (Ty.sl (nat_lit 3) (Ty.int IntKind.i64)))))))) y0 (Int.toNat y2)).2.2.1 (at_ (Ty.pair (Ty.int IntKind.i64) (Ty.pair (Ty.int IntKind.i64) (Ty.pair (Ty.sl (nat_lit 9) Ty.str) (Ty.sl (nat_lit 185) (Ty.pair Ty.str (Ty.pair Ty.bool (Ty.sl (nat_lit 3) (Ty.int IntKind.i64)))))))) y0 (Int.toNat y2)).2.2.2 y1, (-1 : Int))))) (.br (true) (.go ((g_Vw_szLogNote_0 (at_ (Ty.pair (Ty.int IntKind.i64) (Ty.pair (Ty.int IntKind.i64) (Ty.pair (Ty.sl (nat_lit 9) Ty.str) (Ty.sl (nat_lit 185) (Ty.pair Ty.str (Ty.pair Ty.bool (Ty.sl (nat_lit 3) (Ty.int IntKind.i64)))))))) y0 (Int.toNat y2)).1 (at_ (Ty.pair (Ty.int IntKind.i64) (Ty.pair (Ty.int IntKind.i64) (Ty.pair (Ty.sl (nat_lit 9) Ty.str) (Ty.sl (nat_lit 185) (Ty.pair Ty.str (Ty.pair Ty.bool (Ty.sl (nat_lit 3) (Ty.int IntKind.i64)))))))) y0 (Int.toNat y2)).2.1 (at_ (Ty.pair (Ty.int IntKind.i64) (Ty.pair (Ty.int IntKind.i64) (Ty.pair (Ty.sl (nat_lit 9) Ty.str) (Ty.sl (nat_lit 185) (Ty.pair Ty.str (Ty.pair Ty.bool (Ty.sl (nat_lit 3) (Ty.int IntKind.i64)))))))) y0 (Int.toNat y2)).2.2.1 (at_ (Ty.pair (Ty.int IntKind.i64) (Ty.pair (Ty.int IntKind.i64) (Ty.pair (Ty.sl (nat_lit 9) Ty.str) (Ty.sl (nat_lit 185) (Ty.pair Ty.str (Ty.pair Ty.bool (Ty.sl (nat_lit 3) (Ty.int IntKind.i64)))))))) y0 (Int.toNat y2)).2.2.2 y1, IntKind.wrap IntKind.i64 (y2 + (1 : Int))))) (.bad))) (.bad)) (.bad)) (.bad)) (.out (.inr (y1)))) (.bad)
noncomputable def g_Lw_szLogNoteS_0 (y0 : List (Int × (Int × ((List ByteArray) × (List (ByteArray × (Bool × (List Int)))))))) (x : Int × Int) : Option ((Int × Int) ⊕ (Int)) := loopO (g_Sw_szLogNoteS_0 y0) x
noncomputable def xw_szLogNoteS_0 (y0 : List (Int × (Int × ((List ByteArray) × (List (ByteArray × (Bool × (List Int)))))))) : ((Int × Int) ⊕ (Int)) → Ex × List (Pl × LV) := fun
 | .inl r => (.ret, [(.T 1, .t (.val false [.int .i64 r.1])), (.T 4, .t (.val false [.int .i64 r.2]))])
 | .inr (r) => (.exit 0, [(.T 1, .t (.val false [.int .i64 r])), (.T 4, .t (.val false [.undef]))])
noncomputable def Ow_szLogNoteS_1 : Orc := fun b h => match b, h with
 | 0, [(.T 0, .t (.val false [.sl .any 133 (.pair (.int .i64) (.pair (.int .i64) (.pair (.sl 9 .str) (.sl 185 (.pair .str (.pair .bool (.sl 3 (.int .i64)))))))) y0])), (.T 1, .t (.val false [.int .i64 y1])), (.T 5, .t (.val false [.int .i64 y2]))] => some (okO (g_Lw_szLogNoteS_0 y0 (y1, y2)), (.br (isL (valO (g_Lw_szLogNoteS_0 y0 (y1, y2)))) (.leaf .ret [(.T 1, .t (.val false [.int .i64 (getL (valO (g_Lw_szLogNoteS_0 y0 (y1, y2)))).1])), (.T 4, .t (.val false [.int .i64 (getL (valO (g_Lw_szLogNoteS_0 y0 (y1, y2)))).2]))]) (.leaf (.exit 0) [(.T 1, .t (.val false [.int .i64 (getR (valO (g_Lw_szLogNoteS_0 y0 (y1, y2))))])), (.T 4, .t (.val false [.undef]))])))
 | b, h => Ow_szLogNoteS_0 b h
theorem bw_szLogNoteS_0 (y0 : List (Int × (Int × ((List ByteArray) × (List (ByteArray × (Bool × (List Int)))))))) (y1 : Int) (y2 : Int) : Tr.bt Ew_szLogNoteS Ow_szLogNoteS_0 (exec Ew_szLogNoteS 0 cw_szLogNoteS_0 (St.of (hw_szLogNoteS_0 y0 y1 y2)) (leafRd Ew_szLogNoteS 0)) = (g_Sw_szLogNoteS_0 y0 (y1, y2)).bt (fun ((y1, y2) : Int × Int) => (hw_szLogNoteS_0 y0 y1 y2)) (xw_szLogNoteS_0 y0) := by kernel_rfl
theorem kw_szLogNoteS_1 : OrcOk Ew_szLogNoteS Ow_szLogNoteS_1 lsw_szLogNoteS 1 := orc_add kw_szLogNoteS_0 (fun n p hp h ex h' ho => by
 obtain ⟨b, c⟩ := p
 obtain ⟨xt, h1, h2⟩ := ho
 have h1 : Ow_szLogNoteS_1 b h = some (true, xt) := h1
 unfold Ow_szLogNoteS_1 at h1
 split at h1
 ·injection h1 with h1
  injection h1 with e1 e2
  subst e2
  have hc : c = cw_szLogNoteS_0 := mw_szLogNoteS_0 _ hp rfl
  subst hc
  right
  rename_i y0 y1 y2
  have key := LT_step kw_szLogNoteS_0 hp (fun q hq => loopsAll_in _ _ _ _ hp hq) (fun ((y1, y2) : Int × Int) => (hw_szLogNoteS_0 y0 y1 y2)) (xw_szLogNoteS_0 y0) (g_Sw_szLogNoteS_0 y0) (fun x => by first | exact bw_szLogNoteS_0 y0 x.1 x.2) n (x := (y1, y2)) (okO_some e1)
  have hx : ∀ r, XT.sel (.br (isL r) (.leaf .ret [(.T 1, .t (.val false [.int .i64 (getL r).1])), (.T 4, .t (.val false [.int .i64 (getL r).2]))]) (.leaf (.exit 0) [(.T 1, .t (.val false [.int .i64 (getR r)])), (.T 4, .t (.val false [.undef]))])) = xw_szLogNoteS_0 y0 r := fun r => by first | rfl | (rcases r with r | r <;> rfl) | (rcases r with r | r | r <;> rfl) | (rcases r with r | r | r | r <;> rfl)
  have h3 := (hx (valO (g_Lw_szLogNoteS_0 y0 (y1, y2)))).symm.trans h2
  have e3 := congrArg Prod.fst h3
  have e4 := congrArg Prod.snd h3
  simp only at e3 e4
  rw [← e3, ← e4]
  exact key
 ·exact .inl ⟨xt, h1, h2⟩)
noncomputable def g_Aw_szLogNoteS (a0 : List (Int × (Int × ((List ByteArray) × (List (ByteArray × (Bool × (List Int)))))))) (a1 : Int) : Bool := decide (IntKind.wrap IntKind.i64 (a1 - (↑(List.length a0) : Int)) < (0 : Int)) || okO (g_Lw_szLogNoteS_0 a0 (IntKind.wrap IntKind.i64 (a1 - (↑(List.length a0) : Int)), (0 : Int)))
noncomputable def g_Vw_szLogNoteS_0 (a0 : List (Int × (Int × ((List ByteArray) × (List (ByteArray × (Bool × (List Int)))))))) (a1 : Int) : Int := bif decide (IntKind.wrap IntKind.i64 (a1 - (↑(List.length a0) : Int)) < (0 : Int)) then (-1 : Int) else bif isL (valO (g_Lw_szLogNoteS_0 a0 (IntKind.wrap IntKind.i64 (a1 - (↑(List.length a0) : Int)), (0 : Int)))) then (getL (valO (g_Lw_szLogNoteS_0 a0 (IntKind.wrap IntKind.i64 (a1 - (↑(List.length a0) : Int)), (0 : Int))))).2 else getR (valO (g_Lw_szLogNoteS_0 a0 (IntKind.wrap IntKind.i64 (a1 - (↑(List.length a0) : Int)), (0 : Int))))
noncomputable def Fw_szLogNoteS : FSem := fun ys => match ys with
 | [.val false [.sl .any 133 (.pair (.int .i64) (.pair (.int .i64) (.pair (.sl 9 .str) (.sl 185 (.pair .str (.pair .bool (.sl 3 (.int .i64)))))))) a0], .val false [.int .i64 a1]] => some ((g_Aw_szLogNoteS a0 a1), .val false [.int .i64 (g_Vw_szLogNoteS_0 a0 a1)], [])
 | _ => none
theorem vw_szLogNoteS (a0 : List (Int × (Int × ((List ByteArray) × (List (ByteArray × (Bool × (List Int)))))))) (a1 : Int) : collapseH .std Ew_szLogNoteS Ow_szLogNoteS_1 (execFn Ew_szLogNoteS Tryz.f65 msw_szLogNoteS [.val false [.sl .any 133 (.pair (.int .i64) (.pair (.int .i64) (.pair (.sl 9 .str) (.sl 185 (.pair .str (.pair .bool (.sl 3 (.int .i64)))))))) a0], .val false [.int .i64 a1]]) = some ((g_Aw_szLogNoteS a0 a1), .val false [.int .i64 (g_Vw_szLogNoteS_0 a0 a1)], []) := by kernel_rfl
theorem sw_szLogNoteS : Sound Tryz.prog 65 msw_szLogNoteS Fw_szLogNoteS := by
 refine fn_gen goodw_szLogNoteS (by kernel_rfl) .std (fn := Tryz.f65) (c := (Tryz.f65.body.getD .skip)) (o := Ow_szLogNoteS_1) (k := 1) (by kernel_rfl) (by kernel_rfl) (by kernel_rfl) (by kernel_rfl) (by decide) kw_szLogNoteS_1 ?_
 intro ys r outs h
 unfold Fw_szLogNoteS at h
 split at h
 ·exact (vw_szLogNoteS _ _).trans h
 ·cases h
noncomputable def Ew_szLogDisk : Env where
 tt := mkTI Tryz.prog
 fn := fun f => match f with
  | 65 => some (msw_szLogNoteS, FSem.wk msw_szLogNoteS Fw_szLogNoteS)
  | _ => none
 bxf := fun _ => none
 mv := []
 keep := fun _ => []
 keepB := fun _ => []
 keepX := fun _ => []
 keepXB := fun _ => []
theorem goodFw_szLogDisk : ∀ f ms F, Ew_szLogDisk.fn f = some (ms, F) → Sound Tryz.prog f ms F := fun f ms F h => by
 unfold Ew_szLogDisk at h
 dsimp only at h
 split at h
 ·injection h with h; injection h with e1 e2; subst e1 e2; exact Sound.wk sw_szLogNoteS
 ·cases h
theorem goodBw_szLogDisk : ∀ f ms F, Ew_szLogDisk.bxf f = some (ms, F) → SoundB Tryz.prog f ms F := fun f ms F h => by cases h
theorem goodw_szLogDisk : Good Tryz.prog Ew_szLogDisk := ⟨rfl, goodFw_szLogDisk, goodBw_szLogDisk⟩
noncomputable def Ow_szLogDisk_0 : Orc := fun _ _ => none
noncomputable def msw_szLogDisk : List PM := [.rd, .own]
noncomputable def lsw_szLogDisk : List (Nat × Code) := loopsAll 0 (Tryz.f22.body.getD .skip)
theorem kw_szLogDisk_0 : OrcOk Ew_szLogDisk Ow_szLogDisk_0 lsw_szLogDisk 0 := orcOk_none
noncomputable def g_Aw_szLogDisk (a0 : List (Int × (Int × ((List ByteArray) × (List (ByteArray × (Bool × (List Int)))))))) (a1 : Int) (a2 : Int) : Bool := g_Aw_szLogNoteS a0 a2 && true
noncomputable def g_Vw_szLogDisk_0 (a0 : List (Int × (Int × ((List ByteArray) × (List (ByteArray × (Bool × (List Int)))))))) (a1 : Int) (a2 : Int) : Int := bif decide (g_Vw_szLogNoteS_0 a0 a2 < (0 : Int)) then (-1 : Int) else g_Vw_szLogNoteS_0 a0 a2
noncomputable def Fw_szLogDisk : FSem := fun ys => match ys with
 | [.val true [.sl .any 133 (.pair (.int .i64) (.pair (.int .i64) (.pair (.sl 9 .str) (.sl 185 (.pair .str (.pair .bool (.sl 3 (.int .i64)))))))) a0, .int .i64 a1], .val false [.int .i64 a2]] => some ((g_Aw_szLogDisk a0 a1 a2), .val false [.int .i64 (g_Vw_szLogDisk_0 a0 a1 a2)], [])
 | _ => none
theorem vw_szLogDisk (a0 : List (Int × (Int × ((List ByteArray) × (List (ByteArray × (Bool × (List Int)))))))) (a1 : Int) (a2 : Int) : collapseH .std Ew_szLogDisk Ow_szLogDisk_0 (execFn Ew_szLogDisk Tryz.f22 msw_szLogDisk [.val true [.sl .any 133 (.pair (.int .i64) (.pair (.int .i64) (.pair (.sl 9 .str) (.sl 185 (.pair .str (.pair .bool (.sl 3 (.int .i64)))))))) a0, .int .i64 a1], .val false [.int .i64 a2]]) = some ((g_Aw_szLogDisk a0 a1 a2), .val false [.int .i64 (g_Vw_szLogDisk_0 a0 a1 a2)], []) := by kernel_rfl
theorem sw_szLogDisk : Sound Tryz.prog 22 msw_szLogDisk Fw_szLogDisk := by
 refine fn_gen goodw_szLogDisk (by kernel_rfl) .std (fn := Tryz.f22) (c := (Tryz.f22.body.getD .skip)) (o := Ow_szLogDisk_0) (k := 0) (by kernel_rfl) (by kernel_rfl) (by kernel_rfl) (by kernel_rfl) (by decide) kw_szLogDisk_0 ?_
 intro ys r outs h
 unfold Fw_szLogDisk at h
 split at h
 ·exact (vw_szLogDisk _ _ _).trans h
 ·cases h
noncomputable def Ew_toIntS : Env where
 tt := mkTI Tryz.prog
 fn := fun _ => none
 bxf := fun _ => none
 mv := []
 keep := fun b => match b with
  | 0 => [(0, false), (3, false), (4, false)]
  | _ => []
 keepB := fun b => match b with
  | 0 => []
  | _ => []
 keepX := fun b => match b with
  | 0 => [(3, false)]
  | _ => []
 keepXB := fun b => match b with
  | 0 => []
  | _ => []
theorem goodFw_toIntS : ∀ f ms F, Ew_toIntS.fn f = some (ms, F) → Sound Tryz.prog f ms F := fun f ms F h => by cases h
theorem goodBw_toIntS : ∀ f ms F, Ew_toIntS.bxf f = some (ms, F) → SoundB Tryz.prog f ms F := fun f ms F h => by cases h
theorem goodw_toIntS : Good Tryz.prog Ew_toIntS := ⟨rfl, goodFw_toIntS, goodBw_toIntS⟩
noncomputable def Ow_toIntS_0 : Orc := fun _ _ => none
noncomputable def msw_toIntS : List PM := [.rd]
noncomputable def lsw_toIntS : List (Nat × Code) := loopsAll 0 (Tryz.f197.body.getD .skip)
noncomputable def cw_toIntS_0 : Code := (loopOf 0 (Tryz.f197.body.getD .skip)).getD .skip
theorem lseqw_toIntS : lsw_toIntS = [(0, cw_toIntS_0)] := by kernel_rfl
theorem mw_toIntS_0 : ∀ p, p ∈ lsw_toIntS → p.1 = 0 → p.2 = cw_toIntS_0 := by
 intro p hp
 rw [lseqw_toIntS] at hp
 simp only [List.mem_cons, List.not_mem_nil, or_false] at hp
 subst hp; simp
theorem kw_toIntS_0 : OrcOk Ew_toIntS Ow_toIntS_0 lsw_toIntS 0 := orcOk_none
noncomputable def hw_toIntS_0 (y0 : List Int) (y1 : List Int) (y2 : Int) : List (Pl × LV) := [(.T 0, .t (.val false [.sl .any 3 (.int .i64) y0])), (.T 3, .t (.val false [.row 3 0 0])), (.R 3 0, .r 0 (some ⟨false, .non, true, 3, (.int .i64), y1⟩)), (.T 4, .t (.val false [.int .i64 y2]))]
noncomputable def g_Sw_toIntS_0 (y0 : List Int) : ((List Int) × Int) → RT ((List Int) × Int) (((List Int)))
 | (y1, y2) => .br (true) (.br (decide (y2 < (↑(List.length y0) : Int))) (.br (decide ((0 : Int) ≤ y2 ∧ y2 < (↑(List.length y0) : Int))) (.br (decide ((0 : Int) ≤ y2 ∧ y2 < (↑(List.length y1) : Int))) (.br (decide (Int.toNat y2 < List.length y1)) (.br (true) (.go ((List.set y1 (Int.toNat y2) (at_ (Ty.int IntKind.i64) y0 (Int.toNat y2)), IntKind.wrap IntKind.i64 (y2 + (1 : Int))))) (.bad)) (.bad)) (.bad)) (.bad)) (.out (y1))) (.bad)
noncomputable def g_Lw_toIntS_0 (y0 : List Int) (x : (List Int) × Int) : Option (((List Int))) := loopO (g_Sw_toIntS_0 y0) x
noncomputable def xw_toIntS_0 (y0 : List Int) : (((List Int))) → Ex × List (Pl × LV) := fun r => (.exit 0, [(.T 3, .t (.val false [.row 3 0 0])), (.R 3 0, .r 0 (some ⟨false, .non, true, 3, (.int .i64), r⟩))])
noncomputable def Ow_toIntS_1 : Orc := fun b h => match b, h with
 | 0, [(.T 0, .t (.val false [.sl .any 3 (.int .i64) y0])), (.T 3, .t (.val false [.row 3 0 0])), (.R 3 0, .r 0 (some ⟨false, .non, true, 3, (.int .i64), y1⟩)), (.T 4, .t (.val false [.int .i64 y2]))] => some (okO (g_Lw_toIntS_0 y0 (y1, y2)), (.leaf (.exit 0) [(.T 3, .t (.val false [.row 3 0 0])), (.R 3 0, .r 0 (some ⟨false, .non, true, 3, (.int .i64), (valO (g_Lw_toIntS_0 y0 (y1, y2)))⟩))]))
 | b, h => Ow_toIntS_0 b h
theorem bw_toIntS_0 (y0 : List Int) (y1 : List Int) (y2 : Int) : Tr.bt Ew_toIntS Ow_toIntS_0 (exec Ew_toIntS 0 cw_toIntS_0 (St.of (hw_toIntS_0 y0 y1 y2)) (leafRd Ew_toIntS 0)) = (g_Sw_toIntS_0 y0 (y1, y2)).bt (fun ((y1, y2) : (List Int) × Int) => (hw_toIntS_0 y0 y1 y2)) (xw_toIntS_0 y0) := by kernel_rfl
theorem kw_toIntS_1 : OrcOk Ew_toIntS Ow_toIntS_1 lsw_toIntS 1 := orc_add kw_toIntS_0 (fun n p hp h ex h' ho => by
 obtain ⟨b, c⟩ := p
 obtain ⟨xt, h1, h2⟩ := ho
 have h1 : Ow_toIntS_1 b h = some (true, xt) := h1
 unfold Ow_toIntS_1 at h1
 split at h1
 ·injection h1 with h1
  injection h1 with e1 e2
  subst e2
  have hc : c = cw_toIntS_0 := mw_toIntS_0 _ hp rfl
  subst hc
  right
  rename_i y0 y1 y2
  have key := LT_step kw_toIntS_0 hp (fun q hq => loopsAll_in _ _ _ _ hp hq) (fun ((y1, y2) : (List Int) × Int) => (hw_toIntS_0 y0 y1 y2)) (xw_toIntS_0 y0) (g_Sw_toIntS_0 y0) (fun x => by first | exact bw_toIntS_0 y0 x.1 x.2) n (x := (y1, y2)) (okO_some e1)
  have hx : ∀ r, XT.sel (.leaf (.exit 0) [(.T 3, .t (.val false [.row 3 0 0])), (.R 3 0, .r 0 (some ⟨false, .non, true, 3, (.int .i64), r⟩))]) = xw_toIntS_0 y0 r := fun r => by first | rfl | (rcases r with r | r <;> rfl) | (rcases r with r | r | r <;> rfl) | (rcases r with r | r | r | r <;> rfl)
  have h3 := (hx (valO (g_Lw_toIntS_0 y0 (y1, y2)))).symm.trans h2
  have e3 := congrArg Prod.fst h3
  have e4 := congrArg Prod.snd h3
  simp only at e3 e4
  rw [← e3, ← e4]
  exact key
 ·exact .inl ⟨xt, h1, h2⟩)
noncomputable def g_Aw_toIntS (a0 : List Int) : Bool := decide ((↑(List.length a0) : Int) = (↑(List.length a0) : Int) ∧ (0 : Int) ≤ (↑(List.length a0) : Int) ∧ (↑(List.length a0) : Int) ≤ (9223372036854775807 : Int) ∧ (8 : Int) * (↑(List.length a0) : Int) ≤ (281474976710656 : Int)) && okO (g_Lw_toIntS_0 a0 (List.replicate (Int.toNat (↑(List.length a0) : Int)) (0 : Int), (0 : Int)))
noncomputable def g_Vw_toIntS_0 (a0 : List Int) : List Int := valO (g_Lw_toIntS_0 a0 (List.replicate (Int.toNat (↑(List.length a0) : Int)) (0 : Int), (0 : Int)))
noncomputable def Fw_toIntS : FSem := fun ys => match ys with
 | [.val false [.sl .any 3 (.int .i64) a0]] => some ((g_Aw_toIntS a0), .val false [.own .any true 3 (.int .i64) (g_Vw_toIntS_0 a0)], [])
 | _ => none
theorem vw_toIntS (a0 : List Int) : collapseH .std Ew_toIntS Ow_toIntS_1 (execFn Ew_toIntS Tryz.f197 msw_toIntS [.val false [.sl .any 3 (.int .i64) a0]]) = some ((g_Aw_toIntS a0), .val false [.own .any true 3 (.int .i64) (g_Vw_toIntS_0 a0)], []) := by kernel_rfl
theorem sw_toIntS : Sound Tryz.prog 197 msw_toIntS Fw_toIntS := by
 refine fn_gen goodw_toIntS (by kernel_rfl) .std (fn := Tryz.f197) (c := (Tryz.f197.body.getD .skip)) (o := Ow_toIntS_1) (k := 1) (by kernel_rfl) (by kernel_rfl) (by kernel_rfl) (by kernel_rfl) (by decide) kw_toIntS_1 ?_
 intro ys r outs h
 unfold Fw_toIntS at h
 split at h
 ·exact (vw_toIntS _).trans h
 ·cases h
noncomputable def Ew_toStoWrite : Env where
 tt := mkTI Tryz.prog
 fn := fun f => match f with
  | 197 => some (msw_toIntS, FSem.wk msw_toIntS Fw_toIntS)
  | _ => none
 bxf := fun _ => none
 mv := []
 keep := fun _ => []
 keepB := fun _ => []
 keepX := fun _ => []
 keepXB := fun _ => []
theorem goodFw_toStoWrite : ∀ f ms F, Ew_toStoWrite.fn f = some (ms, F) → Sound Tryz.prog f ms F := fun f ms F h => by
 unfold Ew_toStoWrite at h
 dsimp only at h
 split at h
 ·injection h with h; injection h with e1 e2; subst e1 e2; exact Sound.wk sw_toIntS
 ·cases h
theorem goodBw_toStoWrite : ∀ f ms F, Ew_toStoWrite.bxf f = some (ms, F) → SoundB Tryz.prog f ms F := fun f ms F h => by cases h
theorem goodw_toStoWrite : Good Tryz.prog Ew_toStoWrite := ⟨rfl, goodFw_toStoWrite, goodBw_toStoWrite⟩
noncomputable def Ow_toStoWrite_0 : Orc := fun _ _ => none
noncomputable def msw_toStoWrite : List PM := [.rd]
noncomputable def lsw_toStoWrite : List (Nat × Code) := loopsAll 0 (Tryz.f184.body.getD .skip)
theorem kw_toStoWrite_0 : OrcOk Ew_toStoWrite Ow_toStoWrite_0 lsw_toStoWrite 0 := orcOk_none
noncomputable def g_Aw_toStoWrite (a0 : ByteArray) (a1 : Bool) (a2 : List Int) : Bool := g_Aw_toIntS a2
noncomputable def Fw_toStoWrite : FSem := fun ys => match ys with
 | [.val true [.str a0, .bool a1, .sl .any 3 (.int .i64) a2]] => some ((g_Aw_toStoWrite a0 a1 a2), .val true [.str a0, .bool a1, .own .any true 3 (.int .i64) (g_Vw_toIntS_0 a2)], [])
 | _ => none
theorem vw_toStoWrite (a0 : ByteArray) (a1 : Bool) (a2 : List Int) : collapseH .std Ew_toStoWrite Ow_toStoWrite_0 (execFn Ew_toStoWrite Tryz.f184 msw_toStoWrite [.val true [.str a0, .bool a1, .sl .any 3 (.int .i64) a2]]) = some ((g_Aw_toStoWrite a0 a1 a2), .val true [.str a0, .bool a1, .own .any true 3 (.int .i64) (g_Vw_toIntS_0 a2)], []) := by kernel_rfl
theorem sw_toStoWrite : Sound Tryz.prog 184 msw_toStoWrite Fw_toStoWrite := by
 refine fn_gen goodw_toStoWrite (by kernel_rfl) .std (fn := Tryz.f184) (c := (Tryz.f184.body.getD .skip)) (o := Ow_toStoWrite_0) (k := 0) (by kernel_rfl) (by kernel_rfl) (by kernel_rfl) (by kernel_rfl) (by decide) kw_toStoWrite_0 ?_
 intro ys r outs h
 unfold Fw_toStoWrite at h
 split at h
 ·exact (vw_toStoWrite _ _ _).trans h
 ·cases h
noncomputable def Ew_toStoWriteS : Env where
 tt := mkTI Tryz.prog
 fn := fun f => match f with
  | 184 => some (msw_toStoWrite, FSem.wk msw_toStoWrite Fw_toStoWrite)
  | _ => none
 bxf := fun _ => none
 mv := []
 keep := fun b => match b with
  | 0 => [(0, false), (3, false), (4, false)]
  | _ => []
 keepB := fun b => match b with
  | 0 => []
  | _ => []
 keepX := fun b => match b with
  | 0 => [(3, false)]
  | _ => []
 keepXB := fun b => match b with
  | 0 => []
  | _ => []
theorem goodFw_toStoWriteS : ∀ f ms F, Ew_toStoWriteS.fn f = some (ms, F) → Sound Tryz.prog f ms F := fun f ms F h => by
 unfold Ew_toStoWriteS at h
 dsimp only at h
 split at h
 ·injection h with h; injection h with e1 e2; subst e1 e2; exact Sound.wk sw_toStoWrite
 ·cases h
theorem goodBw_toStoWriteS : ∀ f ms F, Ew_toStoWriteS.bxf f = some (ms, F) → SoundB Tryz.prog f ms F := fun f ms F h => by cases h
theorem goodw_toStoWriteS : Good Tryz.prog Ew_toStoWriteS := ⟨rfl, goodFw_toStoWriteS, goodBw_toStoWriteS⟩
noncomputable def Ow_toStoWriteS_0 : Orc := fun _ _ => none
noncomputable def msw_toStoWriteS : List PM := [.rd]
noncomputable def lsw_toStoWriteS : List (Nat × Code) := loopsAll 0 (Tryz.f158.body.getD .skip)
noncomputable def cw_toStoWriteS_0 : Code := (loopOf 0 (Tryz.f158.body.getD .skip)).getD .skip
theorem lseqw_toStoWriteS : lsw_toStoWriteS = [(0, cw_toStoWriteS_0)] := by kernel_rfl
theorem mw_toStoWriteS_0 : ∀ p, p ∈ lsw_toStoWriteS → p.1 = 0 → p.2 = cw_toStoWriteS_0 := by
 intro p hp
 rw [lseqw_toStoWriteS] at hp
 simp only [List.mem_cons, List.not_mem_nil, or_false] at hp
 subst hp; simp
theorem kw_toStoWriteS_0 : OrcOk Ew_toStoWriteS Ow_toStoWriteS_0 lsw_toStoWriteS 0 := orcOk_none
noncomputable def hw_toStoWriteS_0 (y0 : List (ByteArray × (Bool × (List Int)))) (y1 : List (ByteArray × (Bool × (List Int)))) (y2 : Int) : List (Pl × LV) := [(.T 0, .t (.val false [.sl .any 185 (.pair .str (.pair .bool (.sl 3 (.int .i64)))) y0])), (.T 3, .t (.val false [.row 3 0 0])), (.R 3 0, .r 0 (some ⟨false, .non, true, 39, (.pair .str (.pair .bool (.sl 3 (.int .i64)))), y1⟩)), (.T 4, .t (.val false [.int .i64 y2]))]
noncomputable def g_Sw_toStoWriteS_0 (y0 : List (ByteArray × (Bool × (List Int)))) : ((List (ByteArray × (Bool × (List Int)))) × Int) → RT ((List (ByteArray × (Bool × (List Int)))) × Int) (((List (ByteArray × (Bool × (List Int))))))
 | (y1, y2) => .br (true) (.br (decide (y2 < (↑(List.length y0) : Int))) (.br (decide ((0 : Int) ≤ y2 ∧ y2 < (↑(List.length y0) : Int))) (.br (g_Aw_toStoWrite (at_ (Ty.pair Ty.str (Ty.pair Ty.bool (Ty.sl (nat_lit 3) (Ty.int IntKind.i64)))) y0 (Int.toNat y2)).1 (at_ (Ty.pair Ty.str (Ty.pair Ty.bool (Ty.sl (nat_lit 3) (Ty.int IntKind.i64)))) y0 (Int.toNat y2)).2.1 (at_ (Ty.pair Ty.str (Ty.pair Ty.bool (Ty.sl (nat_lit 3) (Ty.int IntKind.i64)))) y0 (Int.toNat y2)).2.2) (.br (decide ((0 : Int) ≤ y2 ∧ y2 < (↑(List.length y1) : Int))) (.br (decide (Int.toNat y2 < List.length y1)) (.br (true) (.go ((List.set y1 (Int.toNat y2) ((at_ (Ty.pair Ty.str (Ty.pair Ty.bool (Ty.sl (nat_lit 3) (Ty.int IntKind.i64)))) y0 (Int.toNat y2)).1, (at_ (Ty.pair Ty.str (Ty.pair Ty.bool (Ty.sl (nat_lit 3) (Ty.int IntKind.i64)))) y0 (Int.toNat y2)).2.1, g_Vw_toIntS_0 (at_ (Ty.pair Ty.str (Ty.pair Ty.bool (Ty.sl (nat_lit 3) (Ty.int IntKind.i64)))) y0 (Int.toNat y2)).2.2), IntKind.wrap IntKind.i64 (y2 + (1 : Int))))) (.bad)) (.bad)) (.bad)) (.bad)) (.bad)) (.out (y1))) (.bad)
noncomputable def g_Lw_toStoWriteS_0 (y0 : List (ByteArray × (Bool × (List Int)))) (x : (List (ByteArray × (Bool × (List Int)))) × Int) : Option (((List (ByteArray × (Bool × (List Int)))))) := loopO (g_Sw_toStoWriteS_0 y0) x
noncomputable def xw_toStoWriteS_0 (y0 : List (ByteArray × (Bool × (List Int)))) : (((List (ByteArray × (Bool × (List Int)))))) → Ex × List (Pl × LV) := fun r => (.exit 0, [(.T 3, .t (.val false [.row 3 0 0])), (.R 3 0, .r 0 (some ⟨false, .non, true, 39, (.pair .str (.pair .bool (.sl 3 (.int .i64)))), r⟩))])
noncomputable def Ow_toStoWriteS_1 : Orc := fun b h => match b, h with
 | 0, [(.T 0, .t (.val false [.sl .any 185 (.pair .str (.pair .bool (.sl 3 (.int .i64)))) y0])), (.T 3, .t (.val false [.row 3 0 0])), (.R 3 0, .r 0 (some ⟨false, .non, true, 39, (.pair .str (.pair .bool (.sl 3 (.int .i64)))), y1⟩)), (.T 4, .t (.val false [.int .i64 y2]))] => some (okO (g_Lw_toStoWriteS_0 y0 (y1, y2)), (.leaf (.exit 0) [(.T 3, .t (.val false [.row 3 0 0])), (.R 3 0, .r 0 (some ⟨false, .non, true, 39, (.pair .str (.pair .bool (.sl 3 (.int .i64)))), (valO (g_Lw_toStoWriteS_0 y0 (y1, y2)))⟩))]))
 | b, h => Ow_toStoWriteS_0 b h
theorem bw_toStoWriteS_0 (y0 : List (ByteArray × (Bool × (List Int)))) (y1 : List (ByteArray × (Bool × (List Int)))) (y2 : Int) : Tr.bt Ew_toStoWriteS Ow_toStoWriteS_0 (exec Ew_toStoWriteS 0 cw_toStoWriteS_0 (St.of (hw_toStoWriteS_0 y0 y1 y2)) (leafRd Ew_toStoWriteS 0)) = (g_Sw_toStoWriteS_0 y0 (y1, y2)).bt (fun ((y1, y2) : (List (ByteArray × (Bool × (List Int)))) × Int) => (hw_toStoWriteS_0 y0 y1 y2)) (xw_toStoWriteS_0 y0) := by kernel_rfl
theorem kw_toStoWriteS_1 : OrcOk Ew_toStoWriteS Ow_toStoWriteS_1 lsw_toStoWriteS 1 := orc_add kw_toStoWriteS_0 (fun n p hp h ex h' ho => by
 obtain ⟨b, c⟩ := p
 obtain ⟨xt, h1, h2⟩ := ho
 have h1 : Ow_toStoWriteS_1 b h = some (true, xt) := h1
 unfold Ow_toStoWriteS_1 at h1
 split at h1
 ·injection h1 with h1
  injection h1 with e1 e2
  subst e2
  have hc : c = cw_toStoWriteS_0 := mw_toStoWriteS_0 _ hp rfl
  subst hc
  right
  rename_i y0 y1 y2
  have key := LT_step kw_toStoWriteS_0 hp (fun q hq => loopsAll_in _ _ _ _ hp hq) (fun ((y1, y2) : (List (ByteArray × (Bool × (List Int)))) × Int) => (hw_toStoWriteS_0 y0 y1 y2)) (xw_toStoWriteS_0 y0) (g_Sw_toStoWriteS_0 y0) (fun x => by first | exact bw_toStoWriteS_0 y0 x.1 x.2) n (x := (y1, y2)) (okO_some e1)
  have hx : ∀ r, XT.sel (.leaf (.exit 0) [(.T 3, .t (.val false [.row 3 0 0])), (.R 3 0, .r 0 (some ⟨false, .non, true, 39, (.pair .str (.pair .bool (.sl 3 (.int .i64)))), r⟩))]) = xw_toStoWriteS_0 y0 r := fun r => by first | rfl | (rcases r with r | r <;> rfl) | (rcases r with r | r | r <;> rfl) | (rcases r with r | r | r | r <;> rfl)
  have h3 := (hx (valO (g_Lw_toStoWriteS_0 y0 (y1, y2)))).symm.trans h2
  have e3 := congrArg Prod.fst h3
  have e4 := congrArg Prod.snd h3
  simp only at e3 e4
  rw [← e3, ← e4]
  exact key
 ·exact .inl ⟨xt, h1, h2⟩)
noncomputable def g_Aw_toStoWriteS (a0 : List (ByteArray × (Bool × (List Int)))) : Bool := decide ((↑(List.length a0) : Int) = (↑(List.length a0) : Int) ∧ (0 : Int) ≤ (↑(List.length a0) : Int) ∧ (↑(List.length a0) : Int) ≤ (9223372036854775807 : Int) ∧ (48 : Int) * (↑(List.length a0) : Int) ≤ (281474976710656 : Int)) && okO (g_Lw_toStoWriteS_0 a0 (List.replicate (Int.toNat (↑(List.length a0) : Int)) (lit [], false, []), (0 : Int)))
noncomputable def g_Vw_toStoWriteS_0 (a0 : List (ByteArray × (Bool × (List Int)))) : List (ByteArray × (Bool × (List Int))) := valO (g_Lw_toStoWriteS_0 a0 (List.replicate (Int.toNat (↑(List.length a0) : Int)) (lit [], false, []), (0 : Int)))
noncomputable def Fw_toStoWriteS : FSem := fun ys => match ys with
 | [.val false [.sl .any 185 (.pair .str (.pair .bool (.sl 3 (.int .i64)))) a0]] => some ((g_Aw_toStoWriteS a0), .val false [.own .any true 39 (.pair .str (.pair .bool (.sl 3 (.int .i64)))) (g_Vw_toStoWriteS_0 a0)], [])
 | _ => none
theorem vw_toStoWriteS (a0 : List (ByteArray × (Bool × (List Int)))) : collapseH .std Ew_toStoWriteS Ow_toStoWriteS_1 (execFn Ew_toStoWriteS Tryz.f158 msw_toStoWriteS [.val false [.sl .any 185 (.pair .str (.pair .bool (.sl 3 (.int .i64)))) a0]]) = some ((g_Aw_toStoWriteS a0), .val false [.own .any true 39 (.pair .str (.pair .bool (.sl 3 (.int .i64)))) (g_Vw_toStoWriteS_0 a0)], []) := by kernel_rfl
theorem sw_toStoWriteS : Sound Tryz.prog 158 msw_toStoWriteS Fw_toStoWriteS := by
 refine fn_gen goodw_toStoWriteS (by kernel_rfl) .std (fn := Tryz.f158) (c := (Tryz.f158.body.getD .skip)) (o := Ow_toStoWriteS_1) (k := 1) (by kernel_rfl) (by kernel_rfl) (by kernel_rfl) (by kernel_rfl) (by decide) kw_toStoWriteS_1 ?_
 intro ys r outs h
 unfold Fw_toStoWriteS at h
 split at h
 ·exact (vw_toStoWriteS _).trans h
 ·cases h
noncomputable def Ew_toStringS : Env where
 tt := mkTI Tryz.prog
 fn := fun _ => none
 bxf := fun _ => none
 mv := []
 keep := fun b => match b with
  | 0 => [(0, false), (3, false), (4, false)]
  | _ => []
 keepB := fun b => match b with
  | 0 => []
  | _ => []
 keepX := fun b => match b with
  | 0 => [(3, false)]
  | _ => []
 keepXB := fun b => match b with
  | 0 => []
  | _ => []
theorem goodFw_toStringS : ∀ f ms F, Ew_toStringS.fn f = some (ms, F) → Sound Tryz.prog f ms F := fun f ms F h => by cases h
theorem goodBw_toStringS : ∀ f ms F, Ew_toStringS.bxf f = some (ms, F) → SoundB Tryz.prog f ms F := fun f ms F h => by cases h
theorem goodw_toStringS : Good Tryz.prog Ew_toStringS := ⟨rfl, goodFw_toStringS, goodBw_toStringS⟩
noncomputable def Ow_toStringS_0 : Orc := fun _ _ => none
noncomputable def msw_toStringS : List PM := [.rd]
noncomputable def lsw_toStringS : List (Nat × Code) := loopsAll 0 (Tryz.f157.body.getD .skip)
noncomputable def cw_toStringS_0 : Code := (loopOf 0 (Tryz.f157.body.getD .skip)).getD .skip
theorem lseqw_toStringS : lsw_toStringS = [(0, cw_toStringS_0)] := by kernel_rfl
theorem mw_toStringS_0 : ∀ p, p ∈ lsw_toStringS → p.1 = 0 → p.2 = cw_toStringS_0 := by
 intro p hp
 rw [lseqw_toStringS] at hp
 simp only [List.mem_cons, List.not_mem_nil, or_false] at hp
 subst hp; simp
theorem kw_toStringS_0 : OrcOk Ew_toStringS Ow_toStringS_0 lsw_toStringS 0 := orcOk_none
noncomputable def hw_toStringS_0 (y0 : List ByteArray) (y1 : List ByteArray) (y2 : Int) : List (Pl × LV) := [(.T 0, .t (.val false [.sl .any 9 .str y0])), (.T 3, .t (.val false [.row 3 0 0])), (.R 3 0, .r 0 (some ⟨false, .non, true, 9, .str, y1⟩)), (.T 4, .t (.val false [.int .i64 y2]))]
noncomputable def g_Sw_toStringS_0 (y0 : List ByteArray) : ((List ByteArray) × Int) → RT ((List ByteArray) × Int) (((List ByteArray)))
 | (y1, y2) => .br (true) (.br (decide (y2 < (↑(List.length y0) : Int))) (.br (decide ((0 : Int) ≤ y2 ∧ y2 < (↑(List.length y0) : Int))) (.br (decide ((0 : Int) ≤ y2 ∧ y2 < (↑(List.length y1) : Int))) (.br (decide (Int.toNat y2 < List.length y1)) (.br (true) (.go ((List.set y1 (Int.toNat y2) (at_ Ty.str y0 (Int.toNat y2)), IntKind.wrap IntKind.i64 (y2 + (1 : Int))))) (.bad)) (.bad)) (.bad)) (.bad)) (.out (y1))) (.bad)
noncomputable def g_Lw_toStringS_0 (y0 : List ByteArray) (x : (List ByteArray) × Int) : Option (((List ByteArray))) := loopO (g_Sw_toStringS_0 y0) x
noncomputable def xw_toStringS_0 (y0 : List ByteArray) : (((List ByteArray))) → Ex × List (Pl × LV) := fun r => (.exit 0, [(.T 3, .t (.val false [.row 3 0 0])), (.R 3 0, .r 0 (some ⟨false, .non, true, 9, .str, r⟩))])
noncomputable def Ow_toStringS_1 : Orc := fun b h => match b, h with
 | 0, [(.T 0, .t (.val false [.sl .any 9 .str y0])), (.T 3, .t (.val false [.row 3 0 0])), (.R 3 0, .r 0 (some ⟨false, .non, true, 9, .str, y1⟩)), (.T 4, .t (.val false [.int .i64 y2]))] => some (okO (g_Lw_toStringS_0 y0 (y1, y2)), (.leaf (.exit 0) [(.T 3, .t (.val false [.row 3 0 0])), (.R 3 0, .r 0 (some ⟨false, .non, true, 9, .str, (valO (g_Lw_toStringS_0 y0 (y1, y2)))⟩))]))
 | b, h => Ow_toStringS_0 b h
theorem bw_toStringS_0 (y0 : List ByteArray) (y1 : List ByteArray) (y2 : Int) : Tr.bt Ew_toStringS Ow_toStringS_0 (exec Ew_toStringS 0 cw_toStringS_0 (St.of (hw_toStringS_0 y0 y1 y2)) (leafRd Ew_toStringS 0)) = (g_Sw_toStringS_0 y0 (y1, y2)).bt (fun ((y1, y2) : (List ByteArray) × Int) => (hw_toStringS_0 y0 y1 y2)) (xw_toStringS_0 y0) := by kernel_rfl
theorem kw_toStringS_1 : OrcOk Ew_toStringS Ow_toStringS_1 lsw_toStringS 1 := orc_add kw_toStringS_0 (fun n p hp h ex h' ho => by
 obtain ⟨b, c⟩ := p
 obtain ⟨xt, h1, h2⟩ := ho
 have h1 : Ow_toStringS_1 b h = some (true, xt) := h1
 unfold Ow_toStringS_1 at h1
 split at h1
 ·injection h1 with h1
  injection h1 with e1 e2
  subst e2
  have hc : c = cw_toStringS_0 := mw_toStringS_0 _ hp rfl
  subst hc
  right
  rename_i y0 y1 y2
  have key := LT_step kw_toStringS_0 hp (fun q hq => loopsAll_in _ _ _ _ hp hq) (fun ((y1, y2) : (List ByteArray) × Int) => (hw_toStringS_0 y0 y1 y2)) (xw_toStringS_0 y0) (g_Sw_toStringS_0 y0) (fun x => by first | exact bw_toStringS_0 y0 x.1 x.2) n (x := (y1, y2)) (okO_some e1)
  have hx : ∀ r, XT.sel (.leaf (.exit 0) [(.T 3, .t (.val false [.row 3 0 0])), (.R 3 0, .r 0 (some ⟨false, .non, true, 9, .str, r⟩))]) = xw_toStringS_0 y0 r := fun r => by first | rfl | (rcases r with r | r <;> rfl) | (rcases r with r | r | r <;> rfl) | (rcases r with r | r | r | r <;> rfl)
  have h3 := (hx (valO (g_Lw_toStringS_0 y0 (y1, y2)))).symm.trans h2
  have e3 := congrArg Prod.fst h3
  have e4 := congrArg Prod.snd h3
  simp only at e3 e4
  rw [← e3, ← e4]
  exact key
 ·exact .inl ⟨xt, h1, h2⟩)
noncomputable def g_Aw_toStringS (a0 : List ByteArray) : Bool := decide ((↑(List.length a0) : Int) = (↑(List.length a0) : Int) ∧ (0 : Int) ≤ (↑(List.length a0) : Int) ∧ (↑(List.length a0) : Int) ≤ (9223372036854775807 : Int) ∧ (16 : Int) * (↑(List.length a0) : Int) ≤ (281474976710656 : Int)) && okO (g_Lw_toStringS_0 a0 (List.replicate (Int.toNat (↑(List.length a0) : Int)) (lit []), (0 : Int)))
noncomputable def g_Vw_toStringS_0 (a0 : List ByteArray) : List ByteArray := valO (g_Lw_toStringS_0 a0 (List.replicate (Int.toNat (↑(List.length a0) : Int)) (lit []), (0 : Int)))
noncomputable def Fw_toStringS : FSem := fun ys => match ys with
 | [.val false [.sl .any 9 .str a0]] => some ((g_Aw_toStringS a0), .val false [.own .any true 9 .str (g_Vw_toStringS_0 a0)], [])
 | _ => none
theorem vw_toStringS (a0 : List ByteArray) : collapseH .std Ew_toStringS Ow_toStringS_1 (execFn Ew_toStringS Tryz.f157 msw_toStringS [.val false [.sl .any 9 .str a0]]) = some ((g_Aw_toStringS a0), .val false [.own .any true 9 .str (g_Vw_toStringS_0 a0)], []) := by kernel_rfl
theorem sw_toStringS : Sound Tryz.prog 157 msw_toStringS Fw_toStringS := by
 refine fn_gen goodw_toStringS (by kernel_rfl) .std (fn := Tryz.f157) (c := (Tryz.f157.body.getD .skip)) (o := Ow_toStringS_1) (k := 1) (by kernel_rfl) (by kernel_rfl) (by kernel_rfl) (by kernel_rfl) (by decide) kw_toStringS_1 ?_
 intro ys r outs h
 unfold Fw_toStringS at h
 split at h
 ·exact (vw_toStringS _).trans h
 ·cases h
noncomputable def Ew_toLogNote : Env where
 tt := mkTI Tryz.prog
 fn := fun f => match f with
  | 157 => some (msw_toStringS, FSem.wk msw_toStringS Fw_toStringS)
  | 158 => some (msw_toStoWriteS, FSem.wk msw_toStoWriteS Fw_toStoWriteS)
  | _ => none
 bxf := fun _ => none
 mv := []
 keep := fun _ => []
 keepB := fun _ => []
 keepX := fun _ => []
 keepXB := fun _ => []
theorem goodFw_toLogNote : ∀ f ms F, Ew_toLogNote.fn f = some (ms, F) → Sound Tryz.prog f ms F := fun f ms F h => by
 unfold Ew_toLogNote at h
 dsimp only at h
 split at h
 ·injection h with h; injection h with e1 e2; subst e1 e2; exact Sound.wk sw_toStringS
 ·injection h with h; injection h with e1 e2; subst e1 e2; exact Sound.wk sw_toStoWriteS
 ·cases h
theorem goodBw_toLogNote : ∀ f ms F, Ew_toLogNote.bxf f = some (ms, F) → SoundB Tryz.prog f ms F := fun f ms F h => by cases h
theorem goodw_toLogNote : Good Tryz.prog Ew_toLogNote := ⟨rfl, goodFw_toLogNote, goodBw_toLogNote⟩
noncomputable def Ow_toLogNote_0 : Orc := fun _ _ => none
noncomputable def msw_toLogNote : List PM := [.rd]
noncomputable def lsw_toLogNote : List (Nat × Code) := loopsAll 0 (Tryz.f115.body.getD .skip)
theorem kw_toLogNote_0 : OrcOk Ew_toLogNote Ow_toLogNote_0 lsw_toLogNote 0 := orcOk_none
noncomputable def g_Aw_toLogNote (a0 : Int) (a1 : Int) (a2 : List ByteArray) (a3 : List (ByteArray × (Bool × (List Int)))) : Bool := g_Aw_toStringS a2 && g_Aw_toStoWriteS a3
noncomputable def Fw_toLogNote : FSem := fun ys => match ys with
 | [.val true [.int .i64 a0, .int .i64 a1, .sl .any 9 .str a2, .sl .any 185 (.pair .str (.pair .bool (.sl 3 (.int .i64)))) a3]] => some ((g_Aw_toLogNote a0 a1 a2 a3), .val true [.int .i64 a0, .int .i64 a1, .own .any true 9 .str (g_Vw_toStringS_0 a2), .own .any true 39 (.pair .str (.pair .bool (.sl 3 (.int .i64)))) (g_Vw_toStoWriteS_0 a3)], [])
 | _ => none
theorem vw_toLogNote (a0 : Int) (a1 : Int) (a2 : List ByteArray) (a3 : List (ByteArray × (Bool × (List Int)))) : collapseH .std Ew_toLogNote Ow_toLogNote_0 (execFn Ew_toLogNote Tryz.f115 msw_toLogNote [.val true [.int .i64 a0, .int .i64 a1, .sl .any 9 .str a2, .sl .any 185 (.pair .str (.pair .bool (.sl 3 (.int .i64)))) a3]]) = some ((g_Aw_toLogNote a0 a1 a2 a3), .val true [.int .i64 a0, .int .i64 a1, .own .any true 9 .str (g_Vw_toStringS_0 a2), .own .any true 39 (.pair .str (.pair .bool (.sl 3 (.int .i64)))) (g_Vw_toStoWriteS_0 a3)], []) := by kernel_rfl
theorem sw_toLogNote : Sound Tryz.prog 115 msw_toLogNote Fw_toLogNote := by
 refine fn_gen goodw_toLogNote (by kernel_rfl) .std (fn := Tryz.f115) (c := (Tryz.f115.body.getD .skip)) (o := Ow_toLogNote_0) (k := 0) (by kernel_rfl) (by kernel_rfl) (by kernel_rfl) (by kernel_rfl) (by decide) kw_toLogNote_0 ?_
 intro ys r outs h
 unfold Fw_toLogNote at h
 split at h
 ·exact (vw_toLogNote _ _ _ _).trans h
 ·cases h
noncomputable def Ew_toLogNoteS : Env where
 tt := mkTI Tryz.prog
 fn := fun f => match f with
  | 115 => some (msw_toLogNote, FSem.wk msw_toLogNote Fw_toLogNote)
  | _ => none
 bxf := fun _ => none
 mv := []
 keep := fun b => match b with
  | 0 => [(0, false), (3, false), (4, false)]
  | _ => []
 keepB := fun b => match b with
  | 0 => []
  | _ => []
 keepX := fun b => match b with
  | 0 => [(3, false)]
  | _ => []
 keepXB := fun b => match b with
  | 0 => []
  | _ => []
theorem goodFw_toLogNoteS : ∀ f ms F, Ew_toLogNoteS.fn f = some (ms, F) → Sound Tryz.prog f ms F := fun f ms F h => by
 unfold Ew_toLogNoteS at h
 dsimp only at h
 split at h
 ·injection h with h; injection h with e1 e2; subst e1 e2; exact Sound.wk sw_toLogNote
 ·cases h
theorem goodBw_toLogNoteS : ∀ f ms F, Ew_toLogNoteS.bxf f = some (ms, F) → SoundB Tryz.prog f ms F := fun f ms F h => by cases h
theorem goodw_toLogNoteS : Good Tryz.prog Ew_toLogNoteS := ⟨rfl, goodFw_toLogNoteS, goodBw_toLogNoteS⟩
noncomputable def Ow_toLogNoteS_0 : Orc := fun _ _ => none
noncomputable def msw_toLogNoteS : List PM := [.rd]
noncomputable def lsw_toLogNoteS : List (Nat × Code) := loopsAll 0 (Tryz.f68.body.getD .skip)
noncomputable def cw_toLogNoteS_0 : Code := (loopOf 0 (Tryz.f68.body.getD .skip)).getD .skip
theorem lseqw_toLogNoteS : lsw_toLogNoteS = [(0, cw_toLogNoteS_0)] := by kernel_rfl
theorem mw_toLogNoteS_0 : ∀ p, p ∈ lsw_toLogNoteS → p.1 = 0 → p.2 = cw_toLogNoteS_0 := by
 intro p hp
 rw [lseqw_toLogNoteS] at hp
 simp only [List.mem_cons, List.not_mem_nil, or_false] at hp
 subst hp; simp
theorem kw_toLogNoteS_0 : OrcOk Ew_toLogNoteS Ow_toLogNoteS_0 lsw_toLogNoteS 0 := orcOk_none
noncomputable def hw_toLogNoteS_0 (y0 : List (Int × (Int × ((List ByteArray) × (List (ByteArray × (Bool × (List Int)))))))) (y1 : List (Int × (Int × ((List ByteArray) × (List (ByteArray × (Bool × (List Int)))))))) (y2 : Int) : List (Pl × LV) := [(.T 0, .t (.val false [.sl .any 133 (.pair (.int .i64) (.pair (.int .i64) (.pair (.sl 9 .str) (.sl 185 (.pair .str (.pair .bool (.sl 3 (.int .i64)))))))) y0])), (.T 3, .t (.val false [.row 3 0 0])), (.R 3 0, .r 0 (some ⟨false, .non, true, 72, (.pair (.int .i64) (.pair (.int .i64) (.pair (.sl 9 .str) (.sl 39 (.pair .str (.pair .bool (.sl 3 (.int .i64)))))))), y1⟩)), (.T 4, .t (.val false [.int .i64 y2]))]
noncomputable def g_Sw_toLogNoteS_0 (y0 : List (Int × (Int × ((List ByteArray) × (List (ByteArray × (Bool × (List Int)))))))) : ((List (Int × (Int × ((List ByteArray) × (List (ByteArray × (Bool × (List Int)))))))) × Int) → RT ((List (Int × (Int × ((List ByteArray) × (List (ByteArray × (Bool × (List Int)))))))) × Int) (((List (Int × (Int × ((List ByteArray) × (List (ByteArray × (Bool × (List Int))))))))))
 | (y1, y2) => .br (true) (.br (decide (y2 < (↑(List.length y0) : Int))) (.br (decide ((0 : Int) ≤ y2 ∧ y2 < (↑(List.length y0) : Int))) (.br (g_Aw_toLogNote (at_ (Ty.pair (Ty.int IntKind.i64) (Ty.pair (Ty.int IntKind.i64) (Ty.pair (Ty.sl (nat_lit 9) Ty.str) (Ty.sl (nat_lit 185) (Ty.pair Ty.str (Ty.pair Ty.bool (Ty.sl (nat_lit 3) (Ty.int IntKind.i64)))))))) y0 (Int.toNat y2)).1 (at_ (Ty.pair (Ty.int IntKind.i64) (Ty.pair (Ty.int IntKind.i64) (Ty.pair (Ty.sl (nat_lit 9) Ty.str) (Ty.sl (nat_lit 185) (Ty.pair Ty.str (Ty.pair Ty.bool (Ty.sl (nat_lit 3) (Ty.int IntKind.i64)))))))) y0 (Int.toNat y2)).2.1 (at_ (Ty.pair (Ty.int IntKind.i64) (Ty.pair (Ty.int IntKind.i64) (Ty.pair (Ty.sl (nat_lit 9) Ty.str) (Ty.sl (nat_lit 185) (Ty.pair Ty.str (Ty.pair Ty.bool (Ty.sl (nat_lit 3) (Ty.int IntKind.i64)))))))) y0 (Int.toNat y2)).2.2.1 (at_ (Ty.pair (Ty.int IntKind.i64) (Ty.pair (Ty.int IntKind.i64) (Ty.pair (Ty.sl (nat_lit 9) Ty.str) (Ty.sl (nat_lit 185) (Ty.pair Ty.str (Ty.pair Ty.bool (Ty.sl (nat_lit 3) (Ty.int IntKind.i64)))))))) y0 (Int.toNat y2)).2.2.2) (.br (decide ((0 : Int) ≤ y2 ∧ y2 < (↑(List.length y1) : Int))) (.br (decide (Int.toNat y2 < List.length y1)) (.br (true) (.go ((List.set y1 (Int.toNat y2) ((at_ (Ty.pair (Ty.int IntKind.i64) (Ty.pair (Ty.int IntKind.i64) (Ty.pair (Ty.sl (nat_lit 9) Ty.str) (Ty.sl (nat_lit 185) (Ty.pair Ty.str (Ty.pair Ty.bool (Ty.sl (nat_lit 3) (Ty.int IntKind.i64)))))))) y0 (Int.toNat y2)).1, (at_ (Ty.pair (Ty.int IntKind.i64) (Ty.pair (Ty.int IntKind.i64) (Ty.pair (Ty.sl (nat_lit 9) Ty.str) (Ty.sl (nat_lit 185) (Ty.pair Ty.str (Ty.pair Ty.bool (Ty.sl (nat_lit 3) (Ty.int IntKind.i64)))))))) y0 (Int.toNat y2)).2.1, g_Vw_toStringS_0 (at_ (Ty.pair (Ty.int IntKind.i64) (Ty.pair (Ty.int IntKind.i64) (Ty.pair (Ty.sl (nat_lit 9) Ty.str) (Ty.sl (nat_lit 185) (Ty.pair Ty.str (Ty.pair Ty.bool (Ty.sl (nat_lit 3) (Ty.int IntKind.i64)))))))) y0 (Int.toNat y2)).2.2.1, g_Vw_toStoWriteS_0 (at_ (Ty.pair (Ty.int IntKind.i64) (Ty.pair (Ty.int IntKind.i64) (Ty.pair (Ty.sl (nat_lit 9) Ty.str) (Ty.sl (nat_lit 185) (Ty.pair Ty.str (Ty.pair Ty.bool (Ty.sl (nat_lit 3) (Ty.int IntKind.i64)))))))) y0 (Int.toNat y2)).2.2.2), IntKind.wrap IntKind.i64 (y2 + (1 : Int))))) (.bad)) (.bad)) (.bad)) (.bad)) (.bad)) (.out (y1))) (.bad)
noncomputable def g_Lw_toLogNoteS_0 (y0 : List (Int × (Int × ((List ByteArray) × (List (ByteArray × (Bool × (List Int)))))))) (x : (List (Int × (Int × ((List ByteArray) × (List (ByteArray × (Bool × (List Int)))))))) × Int) : Option (((List (Int × (Int × ((List ByteArray) × (List (ByteArray × (Bool × (List Int)))))))))) := loopO (g_Sw_toLogNoteS_0 y0) x
noncomputable def xw_toLogNoteS_0 (y0 : List (Int × (Int × ((List ByteArray) × (List (ByteArray × (Bool × (List Int)))))))) : (((List (Int × (Int × ((List ByteArray) × (List (ByteArray × (Bool × (List Int)))))))))) → Ex × List (Pl × LV) := fun r => (.exit 0, [(.T 3, .t (.val false [.row 3 0 0])), (.R 3 0, .r 0 (some ⟨false, .non, true, 72, (.pair (.int .i64) (.pair (.int .i64) (.pair (.sl 9 .str) (.sl 39 (.pair .str (.pair .bool (.sl 3 (.int .i64)))))))), r⟩))])
noncomputable def Ow_toLogNoteS_1 : Orc := fun b h => match b, h with
 | 0, [(.T 0, .t (.val false [.sl .any 133 (.pair (.int .i64) (.pair (.int .i64) (.pair (.sl 9 .str) (.sl 185 (.pair .str (.pair .bool (.sl 3 (.int .i64)))))))) y0])), (.T 3, .t (.val false [.row 3 0 0])), (.R 3 0, .r 0 (some ⟨false, .non, true, 72, (.pair (.int .i64) (.pair (.int .i64) (.pair (.sl 9 .str) (.sl 39 (.pair .str (.pair .bool (.sl 3 (.int .i64)))))))), y1⟩)), (.T 4, .t (.val false [.int .i64 y2]))] => some (okO (g_Lw_toLogNoteS_0 y0 (y1, y2)), (.leaf (.exit 0) [(.T 3, .t (.val false [.row 3 0 0])), (.R 3 0, .r 0 (some ⟨false, .non, true, 72, (.pair (.int .i64) (.pair (.int .i64) (.pair (.sl 9 .str) (.sl 39 (.pair .str (.pair .bool (.sl 3 (.int .i64)))))))), (valO (g_Lw_toLogNoteS_0 y0 (y1, y2)))⟩))]))
 | b, h => Ow_toLogNoteS_0 b h
theorem bw_toLogNoteS_0 (y0 : List (Int × (Int × ((List ByteArray) × (List (ByteArray × (Bool × (List Int)))))))) (y1 : List (Int × (Int × ((List ByteArray) × (List (ByteArray × (Bool × (List Int)))))))) (y2 : Int) : Tr.bt Ew_toLogNoteS Ow_toLogNoteS_0 (exec Ew_toLogNoteS 0 cw_toLogNoteS_0 (St.of (hw_toLogNoteS_0 y0 y1 y2)) (leafRd Ew_toLogNoteS 0)) = (g_Sw_toLogNoteS_0 y0 (y1, y2)).bt (fun ((y1, y2) : (List (Int × (Int × ((List ByteArray) × (List (ByteArray × (Bool × (List Int)))))))) × Int) => (hw_toLogNoteS_0 y0 y1 y2)) (xw_toLogNoteS_0 y0) := by kernel_rfl
theorem kw_toLogNoteS_1 : OrcOk Ew_toLogNoteS Ow_toLogNoteS_1 lsw_toLogNoteS 1 := orc_add kw_toLogNoteS_0 (fun n p hp h ex h' ho => by
 obtain ⟨b, c⟩ := p
 obtain ⟨xt, h1, h2⟩ := ho
 have h1 : Ow_toLogNoteS_1 b h = some (true, xt) := h1
 unfold Ow_toLogNoteS_1 at h1
 split at h1
 ·injection h1 with h1
  injection h1 with e1 e2
  subst e2
  have hc : c = cw_toLogNoteS_0 := mw_toLogNoteS_0 _ hp rfl
  subst hc
  right
  rename_i y0 y1 y2
  have key := LT_step kw_toLogNoteS_0 hp (fun q hq => loopsAll_in _ _ _ _ hp hq) (fun ((y1, y2) : (List (Int × (Int × ((List ByteArray) × (List (ByteArray × (Bool × (List Int)))))))) × Int) => (hw_toLogNoteS_0 y0 y1 y2)) (xw_toLogNoteS_0 y0) (g_Sw_toLogNoteS_0 y0) (fun x => by first | exact bw_toLogNoteS_0 y0 x.1 x.2) n (x := (y1, y2)) (okO_some e1)
  have hx : ∀ r, XT.sel (.leaf (.exit 0) [(.T 3, .t (.val false [.row 3 0 0])), (.R 3 0, .r 0 (some ⟨false, .non, true, 72, (.pair (.int .i64) (.pair (.int .i64) (.pair (.sl 9 .str) (.sl 39 (.pair .str (.pair .bool (.sl 3 (.int .i64)))))))), r⟩))]) = xw_toLogNoteS_0 y0 r := fun r => by first | rfl | (rcases r with r | r <;> rfl) | (rcases r with r | r | r <;> rfl) | (rcases r with r | r | r | r <;> rfl)
  have h3 := (hx (valO (g_Lw_toLogNoteS_0 y0 (y1, y2)))).symm.trans h2
  have e3 := congrArg Prod.fst h3
  have e4 := congrArg Prod.snd h3
  simp only at e3 e4
  rw [← e3, ← e4]
  exact key
 ·exact .inl ⟨xt, h1, h2⟩)
noncomputable def g_Aw_toLogNoteS (a0 : List (Int × (Int × ((List ByteArray) × (List (ByteArray × (Bool × (List Int)))))))) : Bool := decide ((↑(List.length a0) : Int) = (↑(List.length a0) : Int) ∧ (0 : Int) ≤ (↑(List.length a0) : Int) ∧ (↑(List.length a0) : Int) ≤ (9223372036854775807 : Int) ∧ (64 : Int) * (↑(List.length a0) : Int) ≤ (281474976710656 : Int)) && okO (g_Lw_toLogNoteS_0 a0 (List.replicate (Int.toNat (↑(List.length a0) : Int)) ((0 : Int), (0 : Int), [], []), (0 : Int)))
noncomputable def g_Vw_toLogNoteS_0 (a0 : List (Int × (Int × ((List ByteArray) × (List (ByteArray × (Bool × (List Int)))))))) : List (Int × (Int × ((List ByteArray) × (List (ByteArray × (Bool × (List Int))))))) := valO (g_Lw_toLogNoteS_0 a0 (List.replicate (Int.toNat (↑(List.length a0) : Int)) ((0 : Int), (0 : Int), [], []), (0 : Int)))
noncomputable def Fw_toLogNoteS : FSem := fun ys => match ys with
 | [.val false [.sl .any 133 (.pair (.int .i64) (.pair (.int .i64) (.pair (.sl 9 .str) (.sl 185 (.pair .str (.pair .bool (.sl 3 (.int .i64)))))))) a0]] => some ((g_Aw_toLogNoteS a0), .val false [.own .any true 72 (.pair (.int .i64) (.pair (.int .i64) (.pair (.sl 9 .str) (.sl 39 (.pair .str (.pair .bool (.sl 3 (.int .i64)))))))) (g_Vw_toLogNoteS_0 a0)], [])
 | _ => none
theorem vw_toLogNoteS (a0 : List (Int × (Int × ((List ByteArray) × (List (ByteArray × (Bool × (List Int)))))))) : collapseH .std Ew_toLogNoteS Ow_toLogNoteS_1 (execFn Ew_toLogNoteS Tryz.f68 msw_toLogNoteS [.val false [.sl .any 133 (.pair (.int .i64) (.pair (.int .i64) (.pair (.sl 9 .str) (.sl 185 (.pair .str (.pair .bool (.sl 3 (.int .i64)))))))) a0]]) = some ((g_Aw_toLogNoteS a0), .val false [.own .any true 72 (.pair (.int .i64) (.pair (.int .i64) (.pair (.sl 9 .str) (.sl 39 (.pair .str (.pair .bool (.sl 3 (.int .i64)))))))) (g_Vw_toLogNoteS_0 a0)], []) := by kernel_rfl
theorem sw_toLogNoteS : Sound Tryz.prog 68 msw_toLogNoteS Fw_toLogNoteS := by
 refine fn_gen goodw_toLogNoteS (by kernel_rfl) .std (fn := Tryz.f68) (c := (Tryz.f68.body.getD .skip)) (o := Ow_toLogNoteS_1) (k := 1) (by kernel_rfl) (by kernel_rfl) (by kernel_rfl) (by kernel_rfl) (by decide) kw_toLogNoteS_1 ?_
 intro ys r outs h
 unfold Fw_toLogNoteS at h
 split at h
 ·exact (vw_toLogNoteS _).trans h
 ·cases h
noncomputable def Ew_toLogDisk : Env where
 tt := mkTI Tryz.prog
 fn := fun f => match f with
  | 68 => some (msw_toLogNoteS, FSem.wk msw_toLogNoteS Fw_toLogNoteS)
  | _ => none
 bxf := fun _ => none
 mv := []
 keep := fun _ => []
 keepB := fun _ => []
 keepX := fun _ => []
 keepXB := fun _ => []
theorem goodFw_toLogDisk : ∀ f ms F, Ew_toLogDisk.fn f = some (ms, F) → Sound Tryz.prog f ms F := fun f ms F h => by
 unfold Ew_toLogDisk at h
 dsimp only at h
 split at h
 ·injection h with h; injection h with e1 e2; subst e1 e2; exact Sound.wk sw_toLogNoteS
 ·cases h
theorem goodBw_toLogDisk : ∀ f ms F, Ew_toLogDisk.bxf f = some (ms, F) → SoundB Tryz.prog f ms F := fun f ms F h => by cases h
theorem goodw_toLogDisk : Good Tryz.prog Ew_toLogDisk := ⟨rfl, goodFw_toLogDisk, goodBw_toLogDisk⟩
noncomputable def Ow_toLogDisk_0 : Orc := fun _ _ => none
noncomputable def msw_toLogDisk : List PM := [.rd]
noncomputable def lsw_toLogDisk : List (Nat × Code) := loopsAll 0 (Tryz.f24.body.getD .skip)
theorem kw_toLogDisk_0 : OrcOk Ew_toLogDisk Ow_toLogDisk_0 lsw_toLogDisk 0 := orcOk_none
noncomputable def g_Aw_toLogDisk (a0 : List (Int × (Int × ((List ByteArray) × (List (ByteArray × (Bool × (List Int)))))))) (a1 : Int) : Bool := g_Aw_toLogNoteS a0
noncomputable def Fw_toLogDisk : FSem := fun ys => match ys with
 | [.val true [.sl .any 133 (.pair (.int .i64) (.pair (.int .i64) (.pair (.sl 9 .str) (.sl 185 (.pair .str (.pair .bool (.sl 3 (.int .i64)))))))) a0, .int .i64 a1]] => some ((g_Aw_toLogDisk a0 a1), .val true [.own .any true 72 (.pair (.int .i64) (.pair (.int .i64) (.pair (.sl 9 .str) (.sl 39 (.pair .str (.pair .bool (.sl 3 (.int .i64)))))))) (g_Vw_toLogNoteS_0 a0), .int .i64 a1], [])
 | _ => none
theorem vw_toLogDisk (a0 : List (Int × (Int × ((List ByteArray) × (List (ByteArray × (Bool × (List Int)))))))) (a1 : Int) : collapseH .std Ew_toLogDisk Ow_toLogDisk_0 (execFn Ew_toLogDisk Tryz.f24 msw_toLogDisk [.val true [.sl .any 133 (.pair (.int .i64) (.pair (.int .i64) (.pair (.sl 9 .str) (.sl 185 (.pair .str (.pair .bool (.sl 3 (.int .i64)))))))) a0, .int .i64 a1]]) = some ((g_Aw_toLogDisk a0 a1), .val true [.own .any true 72 (.pair (.int .i64) (.pair (.int .i64) (.pair (.sl 9 .str) (.sl 39 (.pair .str (.pair .bool (.sl 3 (.int .i64)))))))) (g_Vw_toLogNoteS_0 a0), .int .i64 a1], []) := by kernel_rfl
theorem sw_toLogDisk : Sound Tryz.prog 24 msw_toLogDisk Fw_toLogDisk := by
 refine fn_gen goodw_toLogDisk (by kernel_rfl) .std (fn := Tryz.f24) (c := (Tryz.f24.body.getD .skip)) (o := Ow_toLogDisk_0) (k := 0) (by kernel_rfl) (by kernel_rfl) (by kernel_rfl) (by kernel_rfl) (by decide) kw_toLogDisk_0 ?_
 intro ys r outs h
 unfold Fw_toLogDisk at h
 split at h
 ·exact (vw_toLogDisk _ _).trans h
 ·cases h
noncomputable def Ew_FnExactDiskFold : Env where
 tt := mkTI Tryz.prog
 fn := fun f => match f with
  | 22 => some (msw_szLogDisk, FSem.wk msw_szLogDisk Fw_szLogDisk)
  | 23 => some (mss_DiskFold, FSem.wk mss_DiskFold Fs_DiskFold)
  | 24 => some (msw_toLogDisk, FSem.wk msw_toLogDisk Fw_toLogDisk)
  | 25 => some (msi_DiskFold, FSem.wk msi_DiskFold Fi_DiskFold)
  | 26 => some (msw_eqStoStore, FSem.wk msw_eqStoStore Fw_eqStoStore)
  | 27 => some (msw_eqLogDisk, FSem.wk msw_eqLogDisk Fw_eqLogDisk)
  | 28 => some (msw_markLogDisk, FSem.wk msw_markLogDisk Fw_markLogDisk)
  | 29 => some (msw_markStoStore, FSem.wk msw_markStoStore Fw_markStoStore)
  | 30 => some (msw_heldStoStore, FSem.wk msw_heldStoStore Fw_heldStoStore)
  | _ => none
 bxf := fun _ => none
 mv := []
 keep := fun _ => []
 keepB := fun _ => []
 keepX := fun _ => []
 keepXB := fun _ => []
theorem goodFw_FnExactDiskFold : ∀ f ms F, Ew_FnExactDiskFold.fn f = some (ms, F) → Sound Tryz.prog f ms F := fun f ms F h => by
 unfold Ew_FnExactDiskFold at h
 dsimp only at h
 split at h
 ·injection h with h; injection h with e1 e2; subst e1 e2; exact Sound.wk sw_szLogDisk
 ·injection h with h; injection h with e1 e2; subst e1 e2; exact Sound.wk ss_DiskFold
 ·injection h with h; injection h with e1 e2; subst e1 e2; exact Sound.wk sw_toLogDisk
 ·injection h with h; injection h with e1 e2; subst e1 e2; exact Sound.wk si_DiskFold
 ·injection h with h; injection h with e1 e2; subst e1 e2; exact Sound.wk sw_eqStoStore
 ·injection h with h; injection h with e1 e2; subst e1 e2; exact Sound.wk sw_eqLogDisk
 ·injection h with h; injection h with e1 e2; subst e1 e2; exact Sound.wk sw_markLogDisk
 ·injection h with h; injection h with e1 e2; subst e1 e2; exact Sound.wk sw_markStoStore
 ·injection h with h; injection h with e1 e2; subst e1 e2; exact Sound.wk sw_heldStoStore
 ·cases h
theorem goodBw_FnExactDiskFold : ∀ f ms F, Ew_FnExactDiskFold.bxf f = some (ms, F) → SoundB Tryz.prog f ms F := fun f ms F h => by cases h
theorem goodw_FnExactDiskFold : Good Tryz.prog Ew_FnExactDiskFold := ⟨rfl, goodFw_FnExactDiskFold, goodBw_FnExactDiskFold⟩
noncomputable def Ow_FnExactDiskFold_0 : Orc := fun _ _ => none
noncomputable def msw_FnExactDiskFold : List PM := [.rd]
noncomputable def lsw_FnExactDiskFold : List (Nat × Code) := loopsAll 0 (Tryz.f7.body.getD .skip)
theorem kw_FnExactDiskFold_0 : OrcOk Ew_FnExactDiskFold Ow_FnExactDiskFold_0 lsw_FnExactDiskFold 0 := orcOk_none
noncomputable def g_Aw_FnExactDiskFold (a0 : List (Int × (Int × ((List ByteArray) × (List (ByteArray × (Bool × (List Int)))))))) (a1 : Int) : Bool := g_Aw_szLogDisk a0 a1 (1048576 : Int) && (decide (g_Vw_szLogDisk_0 a0 a1 (1048576 : Int) < (0 : Int)) || g_Aw_toLogDisk a0 a1 && (g_As_DiskFold (g_Vw_toLogNoteS_0 a0) a1 && (g_Aw_toLogDisk a0 a1 && (g_Ai_DiskFold (g_Vw_toLogNoteS_0 a0) a1 && (g_Aw_eqStoStore (g_Vi_DiskFold_0 (g_Vw_toLogNoteS_0 a0) a1) (g_Vs_DiskFold_0 (g_Vw_toLogNoteS_0 a0) a1) && (!g_Vw_eqStoStore_0 (g_Vi_DiskFold_0 (g_Vw_toLogNoteS_0 a0) a1) (g_Vs_DiskFold_0 (g_Vw_toLogNoteS_0 a0) a1) || g_Aw_toLogDisk a0 a1 && (g_Aw_eqLogDisk (g_Vw_toLogNoteS_0 a0) a1 (g_Vw_toLogNoteS_0 a0) a1 && (!g_Vw_eqLogDisk_0 (g_Vw_toLogNoteS_0 a0) a1 (g_Vw_toLogNoteS_0 a0) a1 || g_Aw_markLogDisk (g_Vw_toLogNoteS_0 a0) a1 (1 : Int) && (decide (g_Vw_markLogNoteS_0 (g_Vw_toLogNoteS_0 a0) (1 : Int) < (0 : Int)) || g_Aw_eqStoStore (g_Vi_DiskFold_0 (g_Vw_toLogNoteS_0 a0) a1) (g_Vs_DiskFold_0 (g_Vw_toLogNoteS_0 a0) a1) && (!g_Vw_eqStoStore_0 (g_Vi_DiskFold_0 (g_Vw_toLogNoteS_0 a0) a1) (g_Vs_DiskFold_0 (g_Vw_toLogNoteS_0 a0) a1) || g_Aw_markStoStore (g_Vi_DiskFold_0 (g_Vw_toLogNoteS_0 a0) a1) (1 : Int) && (g_Aw_heldStoStore (g_Vw_markStoItemS_1 (g_Vi_DiskFold_0 (g_Vw_toLogNoteS_0 a0) a1) (1 : Int)) (1 : Int) && (decide (g_Vw_heldStoStore_0 (g_Vw_markStoItemS_1 (g_Vi_DiskFold_0 (g_Vw_toLogNoteS_0 a0) a1) (1 : Int)) (1 : Int) < (0 : Int)) || (g_Vw_heldStoStore_0 (g_Vw_markStoItemS_1 (g_Vi_DiskFold_0 (g_Vw_toLogNoteS_0 a0) a1) (1 : Int)) (1 : Int) != g_Vw_markStoItemS_0 (g_Vi_DiskFold_0 (g_Vw_toLogNoteS_0 a0) a1) (1 : Int) || g_Aw_toLogDisk a0 a1 && (g_Ai_DiskFold (g_Vw_toLogNoteS_0 a0) a1 && (g_Aw_eqStoStore (g_Vi_DiskFold_0 (g_Vw_toLogNoteS_0 a0) a1) (g_Vs_DiskFold_0 (g_Vw_toLogNoteS_0 a0) a1) && (!g_Vw_eqStoStore_0 (g_Vi_DiskFold_0 (g_Vw_toLogNoteS_0 a0) a1) (g_Vs_DiskFold_0 (g_Vw_toLogNoteS_0 a0) a1) || g_Aw_heldStoStore (g_Vw_markStoItemS_1 (g_Vi_DiskFold_0 (g_Vw_toLogNoteS_0 a0) a1) (1 : Int)) (1 : Int) && (decide (g_Vw_heldStoStore_0 (g_Vw_markStoItemS_1 (g_Vi_DiskFold_0 (g_Vw_toLogNoteS_0 a0) a1) (1 : Int)) (1 : Int) < (0 : Int)) || true)))))))))))))))))
noncomputable def g_Vw_FnExactDiskFold_0 (a0 : List (Int × (Int × ((List ByteArray) × (List (ByteArray × (Bool × (List Int)))))))) (a1 : Int) : Bool := bif decide (g_Vw_szLogDisk_0 a0 a1 (1048576 : Int) < (0 : Int)) then true else bif !g_Vw_eqStoStore_0 (g_Vi_DiskFold_0 (g_Vw_toLogNoteS_0 a0) a1) (g_Vs_DiskFold_0 (g_Vw_toLogNoteS_0 a0) a1) then false else bif !g_Vw_eqLogDisk_0 (g_Vw_toLogNoteS_0 a0) a1 (g_Vw_toLogNoteS_0 a0) a1 then false else bif decide (g_Vw_markLogNoteS_0 (g_Vw_toLogNoteS_0 a0) (1 : Int) < (0 : Int)) then false else bif !g_Vw_eqStoStore_0 (g_Vi_DiskFold_0 (g_Vw_toLogNoteS_0 a0) a1) (g_Vs_DiskFold_0 (g_Vw_toLogNoteS_0 a0) a1) then false else bif decide (g_Vw_heldStoStore_0 (g_Vw_markStoItemS_1 (g_Vi_DiskFold_0 (g_Vw_toLogNoteS_0 a0) a1) (1 : Int)) (1 : Int) < (0 : Int)) then false else bif g_Vw_heldStoStore_0 (g_Vw_markStoItemS_1 (g_Vi_DiskFold_0 (g_Vw_toLogNoteS_0 a0) a1) (1 : Int)) (1 : Int) != g_Vw_markStoItemS_0 (g_Vi_DiskFold_0 (g_Vw_toLogNoteS_0 a0) a1) (1 : Int) then false else bif !g_Vw_eqStoStore_0 (g_Vi_DiskFold_0 (g_Vw_toLogNoteS_0 a0) a1) (g_Vs_DiskFold_0 (g_Vw_toLogNoteS_0 a0) a1) then false else bif decide (g_Vw_heldStoStore_0 (g_Vw_markStoItemS_1 (g_Vi_DiskFold_0 (g_Vw_toLogNoteS_0 a0) a1) (1 : Int)) (1 : Int) < (0 : Int)) then false else bif g_Vw_heldStoStore_0 (g_Vw_markStoItemS_1 (g_Vi_DiskFold_0 (g_Vw_toLogNoteS_0 a0) a1) (1 : Int)) (1 : Int) != g_Vw_markStoItemS_0 (g_Vi_DiskFold_0 (g_Vw_toLogNoteS_0 a0) a1) (1 : Int) then false else true
noncomputable def Fw_FnExactDiskFold : FSem := fun ys => match ys with
 | [.val true [.sl .any 133 (.pair (.int .i64) (.pair (.int .i64) (.pair (.sl 9 .str) (.sl 185 (.pair .str (.pair .bool (.sl 3 (.int .i64)))))))) a0, .int .i64 a1]] => some ((g_Aw_FnExactDiskFold a0 a1), .val false [.bool (g_Vw_FnExactDiskFold_0 a0 a1)], [])
 | _ => none
theorem vw_FnExactDiskFold (a0 : List (Int × (Int × ((List ByteArray) × (List (ByteArray × (Bool × (List Int)))))))) (a1 : Int) : collapseH .std Ew_FnExactDiskFold Ow_FnExactDiskFold_0 (execFn Ew_FnExactDiskFold Tryz.f7 msw_FnExactDiskFold [.val true [.sl .any 133 (.pair (.int .i64) (.pair (.int .i64) (.pair (.sl 9 .str) (.sl 185 (.pair .str (.pair .bool (.sl 3 (.int .i64)))))))) a0, .int .i64 a1]]) = some ((g_Aw_FnExactDiskFold a0 a1), .val false [.bool (g_Vw_FnExactDiskFold_0 a0 a1)], []) := by kernel_rfl
theorem sw_FnExactDiskFold : Sound Tryz.prog 7 msw_FnExactDiskFold Fw_FnExactDiskFold := by
 refine fn_gen goodw_FnExactDiskFold (by kernel_rfl) .std (fn := Tryz.f7) (c := (Tryz.f7.body.getD .skip)) (o := Ow_FnExactDiskFold_0) (k := 0) (by kernel_rfl) (by kernel_rfl) (by kernel_rfl) (by kernel_rfl) (by decide) kw_FnExactDiskFold_0 ?_
 intro ys r outs h
 unfold Fw_FnExactDiskFold at h
 split at h
 ·exact (vw_FnExactDiskFold _ _).trans h
 ·cases h
end Go.Proofs.YtjoggjjjlafdmaaGreatDoor.E
