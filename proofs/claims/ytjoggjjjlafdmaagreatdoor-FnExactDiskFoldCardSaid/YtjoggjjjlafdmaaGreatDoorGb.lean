/- What the functions that are reached do, by the engine: for the proof (laws.FnExactDiskFold): part 2. No conditions. -/
import Derived.Test.YtjoggjjjlafdmaaGreatDoorGa
import Derived.Test.YtjoggjjjlafdmaaGreatDoorProg
set_option linter.all false
namespace Go.Proofs.YtjoggjjjlafdmaaGreatDoor.E
open Go
set_option maxRecDepth 100000
set_option maxHeartbeats 0
noncomputable def Es_l1In : Env where
 tt := mkTI Tryz.prog
 fn := fun _ => none
 bxf := fun _ => none
 mv := []
 keep := fun _ => []
 keepB := fun _ => []
 keepX := fun _ => []
 keepXB := fun _ => []
theorem goodFs_l1In : ∀ f ms F, Es_l1In.fn f = some (ms, F) → Sound Tryz.prog f ms F := fun f ms F h => by cases h
theorem goodBs_l1In : ∀ f ms F, Es_l1In.bxf f = some (ms, F) → SoundB Tryz.prog f ms F := fun f ms F h => by cases h
theorem goods_l1In : Good Tryz.prog Es_l1In := ⟨rfl, goodFs_l1In, goodBs_l1In⟩
noncomputable def Os_l1In_0 : Orc := fun _ _ => none
noncomputable def mss_l1In : List PM := [.own, .own, .own]
noncomputable def lss_l1In : List (Nat × Code) := loopsAll 0 (Tryz.f59.body.getD .skip)
theorem ks_l1In_0 : OrcOk Es_l1In Os_l1In_0 lss_l1In 0 := orcOk_none
noncomputable def g_As_l1In (a0 : Int) (a1 : Int) (a2 : Int) : Bool := !decide (a0 ≥ a1) || true
noncomputable def g_Vs_l1In_0 (a0 : Int) (a1 : Int) (a2 : Int) : Bool := bif decide (a0 ≥ a1) then decide (a0 ≤ a2) else false
noncomputable def Fs_l1In : FSem := fun ys => match ys with
 | [.val false [.int .i64 a0], .val false [.int .i64 a1], .val false [.int .i64 a2]] => some ((g_As_l1In a0 a1 a2), .val false [.bool (g_Vs_l1In_0 a0 a1 a2)], [])
 | _ => none
theorem vs_l1In (a0 : Int) (a1 : Int) (a2 : Int) : collapseH .std Es_l1In Os_l1In_0 (execFn Es_l1In Tryz.f59 mss_l1In [.val false [.int .i64 a0], .val false [.int .i64 a1], .val false [.int .i64 a2]]) = some ((g_As_l1In a0 a1 a2), .val false [.bool (g_Vs_l1In_0 a0 a1 a2)], []) := by kernel_rfl
theorem ss_l1In : Sound Tryz.prog 59 mss_l1In Fs_l1In := by
 refine fn_gen goods_l1In (by kernel_rfl) .std (fn := Tryz.f59) (c := (Tryz.f59.body.getD .skip)) (o := Os_l1In_0) (k := 0) (by kernel_rfl) (by kernel_rfl) (by kernel_rfl) (by kernel_rfl) (by decide) ks_l1In_0 ?_
 intro ys r outs h
 unfold Fs_l1In at h
 split at h
 ·exact (vs_l1In _ _ _).trans h
 ·cases h
noncomputable def Es_l1Key : Env where
 tt := mkTI Tryz.prog
 fn := fun f => match f with
  | 59 => some (mss_l1In, FSem.wk mss_l1In Fs_l1In)
  | _ => none
 bxf := fun _ => none
 mv := []
 keep := fun b => match b with
  | 0 => [(0, false), (3, false)]
  | _ => []
 keepB := fun b => match b with
  | 0 => []
  | _ => []
 keepX := fun b => match b with
  | 0 => [(2, false)]
  | _ => []
 keepXB := fun b => match b with
  | 0 => []
  | _ => []
theorem goodFs_l1Key : ∀ f ms F, Es_l1Key.fn f = some (ms, F) → Sound Tryz.prog f ms F := fun f ms F h => by
 unfold Es_l1Key at h
 dsimp only at h
 split at h
 ·injection h with h; injection h with e1 e2; subst e1 e2; exact Sound.wk ss_l1In
 ·cases h
theorem goodBs_l1Key : ∀ f ms F, Es_l1Key.bxf f = some (ms, F) → SoundB Tryz.prog f ms F := fun f ms F h => by cases h
theorem goods_l1Key : Good Tryz.prog Es_l1Key := ⟨rfl, goodFs_l1Key, goodBs_l1Key⟩
noncomputable def Os_l1Key_0 : Orc := fun _ _ => none
noncomputable def mss_l1Key : List PM := [.own]
noncomputable def lss_l1Key : List (Nat × Code) := loopsAll 0 (Tryz.f128.body.getD .skip)
noncomputable def cs_l1Key_0 : Code := (loopOf 0 (Tryz.f128.body.getD .skip)).getD .skip
theorem lseqs_l1Key : lss_l1Key = [(0, cs_l1Key_0)] := by kernel_rfl
theorem ms_l1Key_0 : ∀ p, p ∈ lss_l1Key → p.1 = 0 → p.2 = cs_l1Key_0 := by
 intro p hp
 rw [lseqs_l1Key] at hp
 simp only [List.mem_cons, List.not_mem_nil, or_false] at hp
 subst hp; simp
theorem ks_l1Key_0 : OrcOk Es_l1Key Os_l1Key_0 lss_l1Key 0 := orcOk_none
noncomputable def hs_l1Key_0 (y0 : ByteArray) (y1 : Int) : List (Pl × LV) := [(.T 0, .t (.val false [.str y0])), (.T 3, .t (.val false [.int .i64 y1]))]
noncomputable def g_Ss_l1Key_0 (y0 : ByteArray) : (Int) → RT (Int) ((Bool) ⊕ (Unit))
 | y1 => .br (true) (.br (decide (y1 < (↑(ByteArray.size y0) : Int))) (.br (decide ((0 : Int) ≤ y1 ∧ y1 < (↑(ByteArray.size y0) : Int))) (.br (true) (.br (decide (byteAt y0 (Int.toNat y1) < (48 : Int))) (.out (.inl false)) (.br (decide ((0 : Int) ≤ y1 ∧ y1 < (↑(ByteArray.size y0) : Int))) (.br (true) (.br (decide (byteAt y0 (Int.toNat y1) > (57 : Int))) (.out (.inl false)) (.br (true) (.go (IntKind.wrap IntKind.i64 (y1 + (1 : Int)))) (.bad))) (.bad)) (.bad))) (.bad)) (.bad)) (.out (.inr (())))) (.bad)
noncomputable def g_Ls_l1Key_0 (y0 : ByteArray) (x : Int) : Option ((Bool) ⊕ (Unit)) := loopO (g_Ss_l1Key_0 y0) x
noncomputable def xs_l1Key_0 (y0 : ByteArray) : ((Bool) ⊕ (Unit)) → Ex × List (Pl × LV) := fun
 | .inl r => (.ret, [(.T 2, .t (.val false [.bool r]))])
 | .inr (r) => (.exit 0, [(.T 2, .t (.val false [.undef]))])
noncomputable def Os_l1Key_1 : Orc := fun b h => match b, h with
 | 0, [(.T 0, .t (.val false [.str y0])), (.T 3, .t (.val false [.int .i64 y1]))] => some (okO (g_Ls_l1Key_0 y0 y1), (.br (isL (valO (g_Ls_l1Key_0 y0 y1))) (.leaf .ret [(.T 2, .t (.val false [.bool (getL (valO (g_Ls_l1Key_0 y0 y1)))]))]) (.leaf (.exit 0) [(.T 2, .t (.val false [.undef]))])))
 | b, h => Os_l1Key_0 b h
theorem bs_l1Key_0 (y0 : ByteArray) (y1 : Int) : Tr.bt Es_l1Key Os_l1Key_0 (exec Es_l1Key 0 cs_l1Key_0 (St.of (hs_l1Key_0 y0 y1)) (leafRd Es_l1Key 0)) = (g_Ss_l1Key_0 y0 y1).bt (fun (y1 : Int) => (hs_l1Key_0 y0 y1)) (xs_l1Key_0 y0) := by kernel_rfl
theorem ks_l1Key_1 : OrcOk Es_l1Key Os_l1Key_1 lss_l1Key 1 := orc_add ks_l1Key_0 (fun n p hp h ex h' ho => by
 obtain ⟨b, c⟩ := p
 obtain ⟨xt, h1, h2⟩ := ho
 have h1 : Os_l1Key_1 b h = some (true, xt) := h1
 unfold Os_l1Key_1 at h1
 split at h1
 ·injection h1 with h1
  injection h1 with e1 e2
  subst e2
  have hc : c = cs_l1Key_0 := ms_l1Key_0 _ hp rfl
  subst hc
  right
  rename_i y0 y1
  have key := LT_step ks_l1Key_0 hp (fun q hq => loopsAll_in _ _ _ _ hp hq) (fun (y1 : Int) => (hs_l1Key_0 y0 y1)) (xs_l1Key_0 y0) (g_Ss_l1Key_0 y0) (fun x => by first | exact bs_l1Key_0 y0 x) n (x := y1) (okO_some e1)
  have hx : ∀ r, XT.sel (.br (isL r) (.leaf .ret [(.T 2, .t (.val false [.bool (getL r)]))]) (.leaf (.exit 0) [(.T 2, .t (.val false [.undef]))])) = xs_l1Key_0 y0 r := fun r => by first | rfl | (rcases r with r | r <;> rfl) | (rcases r with r | r | r <;> rfl) | (rcases r with r | r | r | r <;> rfl)
  have h3 := (hx (valO (g_Ls_l1Key_0 y0 y1))).symm.trans h2
  have e3 := congrArg Prod.fst h3
  have e4 := congrArg Prod.snd h3
  simp only at e3 e4
  rw [← e3, ← e4]
  exact key
 ·exact .inl ⟨xt, h1, h2⟩)
noncomputable def g_As_l1Key (a0 : ByteArray) : Bool := g_As_l1In (↑(ByteArray.size a0) : Int) (2 : Int) (3 : Int) && (!g_Vs_l1In_0 (↑(ByteArray.size a0) : Int) (2 : Int) (3 : Int) || decide ((0 : Int) ≤ (0 : Int) ∧ (0 : Int) < (↑(ByteArray.size a0) : Int)) && (decide (byteAt a0 (nat_lit 0) < (97 : Int)) || decide ((0 : Int) ≤ (0 : Int) ∧ (0 : Int) < (↑(ByteArray.size a0) : Int)) && (decide (byteAt a0 (nat_lit 0) > (122 : Int)) || okO (g_Ls_l1Key_0 a0 (1 : Int)))))
noncomputable def g_Vs_l1Key_0 (a0 : ByteArray) : Bool := bif !g_Vs_l1In_0 (↑(ByteArray.size a0) : Int) (2 : Int) (3 : Int) then false else bif decide (byteAt a0 (nat_lit 0) < (97 : Int)) then false else bif decide (byteAt a0 (nat_lit 0) > (122 : Int)) then false else bif isL (valO (g_Ls_l1Key_0 a0 (1 : Int))) then getL (valO (g_Ls_l1Key_0 a0 (1 : Int))) else true
noncomputable def Fs_l1Key : FSem := fun ys => match ys with
 | [.val false [.str a0]] => some ((g_As_l1Key a0), .val false [.bool (g_Vs_l1Key_0 a0)], [])
 | _ => none
theorem vs_l1Key (a0 : ByteArray) : collapseH .std Es_l1Key Os_l1Key_1 (execFn Es_l1Key Tryz.f128 mss_l1Key [.val false [.str a0]]) = some ((g_As_l1Key a0), .val false [.bool (g_Vs_l1Key_0 a0)], []) := by kernel_rfl
theorem ss_l1Key : Sound Tryz.prog 128 mss_l1Key Fs_l1Key := by
 refine fn_gen goods_l1Key (by kernel_rfl) .std (fn := Tryz.f128) (c := (Tryz.f128.body.getD .skip)) (o := Os_l1Key_1) (k := 1) (by kernel_rfl) (by kernel_rfl) (by kernel_rfl) (by kernel_rfl) (by decide) ks_l1Key_1 ?_
 intro ys r outs h
 unfold Fs_l1Key at h
 split at h
 ·exact (vs_l1Key _).trans h
 ·cases h
noncomputable def Es_l1Val : Env where
 tt := mkTI Tryz.prog
 fn := fun f => match f with
  | 59 => some (mss_l1In, FSem.wk mss_l1In Fs_l1In)
  | _ => none
 bxf := fun _ => none
 mv := []
 keep := fun b => match b with
  | 0 => [(0, false), (3, false)]
  | _ => []
 keepB := fun b => match b with
  | 0 => []
  | _ => []
 keepX := fun b => match b with
  | 0 => [(0, false), (2, false)]
  | _ => []
 keepXB := fun b => match b with
  | 0 => []
  | _ => []
theorem goodFs_l1Val : ∀ f ms F, Es_l1Val.fn f = some (ms, F) → Sound Tryz.prog f ms F := fun f ms F h => by
 unfold Es_l1Val at h
 dsimp only at h
 split at h
 ·injection h with h; injection h with e1 e2; subst e1 e2; exact Sound.wk ss_l1In
 ·cases h
theorem goodBs_l1Val : ∀ f ms F, Es_l1Val.bxf f = some (ms, F) → SoundB Tryz.prog f ms F := fun f ms F h => by cases h
theorem goods_l1Val : Good Tryz.prog Es_l1Val := ⟨rfl, goodFs_l1Val, goodBs_l1Val⟩
noncomputable def Os_l1Val_0 : Orc := fun _ _ => none
noncomputable def mss_l1Val : List PM := [.rd]
noncomputable def lss_l1Val : List (Nat × Code) := loopsAll 0 (Tryz.f146.body.getD .skip)
noncomputable def cs_l1Val_0 : Code := (loopOf 0 (Tryz.f146.body.getD .skip)).getD .skip
theorem lseqs_l1Val : lss_l1Val = [(0, cs_l1Val_0)] := by kernel_rfl
theorem ms_l1Val_0 : ∀ p, p ∈ lss_l1Val → p.1 = 0 → p.2 = cs_l1Val_0 := by
 intro p hp
 rw [lseqs_l1Val] at hp
 simp only [List.mem_cons, List.not_mem_nil, or_false] at hp
 subst hp; simp
theorem ks_l1Val_0 : OrcOk Es_l1Val Os_l1Val_0 lss_l1Val 0 := orcOk_none
noncomputable def hs_l1Val_0 (y0 : List Int) (y1 : Int) : List (Pl × LV) := [(.T 0, .t (.val false [.sl .any 3 (.int .i64) y0])), (.T 3, .t (.val false [.int .i64 y1]))]
noncomputable def g_Ss_l1Val_0 (y0 : List Int) : (Int) → RT (Int) ((Bool) ⊕ (Unit))
 | y1 => .br (true) (.br (decide (y1 < (↑(List.length y0) : Int))) (.br (decide ((0 : Int) ≤ y1 ∧ y1 < (↑(List.length y0) : Int))) (.br (g_As_l1In (at_ (Ty.int IntKind.i64) y0 (Int.toNat y1)) (0 : Int) (9999 : Int)) (.br (!g_Vs_l1In_0 (at_ (Ty.int IntKind.i64) y0 (Int.toNat y1)) (0 : Int) (9999 : Int)) (.out (.inl false)) (.br (true) (.go (IntKind.wrap IntKind.i64 (y1 + (1 : Int)))) (.bad))) (.bad)) (.bad)) (.out (.inr (())))) (.bad)
noncomputable def g_Ls_l1Val_0 (y0 : List Int) (x : Int) : Option ((Bool) ⊕ (Unit)) := loopO (g_Ss_l1Val_0 y0) x
noncomputable def xs_l1Val_0 (y0 : List Int) : ((Bool) ⊕ (Unit)) → Ex × List (Pl × LV) := fun
 | .inl r => (.ret, [(.T 0, .t (.val false [.sl .any 3 (.int .i64) y0])), (.T 2, .t (.val false [.bool r]))])
 | .inr (r) => (.exit 0, [(.T 0, .t (.val false [.sl .any 3 (.int .i64) y0])), (.T 2, .t (.val false [.undef]))])
noncomputable def Os_l1Val_1 : Orc := fun b h => match b, h with
 | 0, [(.T 0, .t (.val false [.sl .any 3 (.int .i64) y0])), (.T 3, .t (.val false [.int .i64 y1]))] => some (okO (g_Ls_l1Val_0 y0 y1), (.br (isL (valO (g_Ls_l1Val_0 y0 y1))) (.leaf .ret [(.T 0, .t (.val false [.sl .any 3 (.int .i64) y0])), (.T 2, .t (.val false [.bool (getL (valO (g_Ls_l1Val_0 y0 y1)))]))]) (.leaf (.exit 0) [(.T 0, .t (.val false [.sl .any 3 (.int .i64) y0])), (.T 2, .t (.val false [.undef]))])))
 | b, h => Os_l1Val_0 b h
theorem bs_l1Val_0 (y0 : List Int) (y1 : Int) : Tr.bt Es_l1Val Os_l1Val_0 (exec Es_l1Val 0 cs_l1Val_0 (St.of (hs_l1Val_0 y0 y1)) (leafRd Es_l1Val 0)) = (g_Ss_l1Val_0 y0 y1).bt (fun (y1 : Int) => (hs_l1Val_0 y0 y1)) (xs_l1Val_0 y0) := by kernel_rfl
theorem ks_l1Val_1 : OrcOk Es_l1Val Os_l1Val_1 lss_l1Val 1 := orc_add ks_l1Val_0 (fun n p hp h ex h' ho => by
 obtain ⟨b, c⟩ := p
 obtain ⟨xt, h1, h2⟩ := ho
 have h1 : Os_l1Val_1 b h = some (true, xt) := h1
 unfold Os_l1Val_1 at h1
 split at h1
 ·injection h1 with h1
  injection h1 with e1 e2
  subst e2
  have hc : c = cs_l1Val_0 := ms_l1Val_0 _ hp rfl
  subst hc
  right
  rename_i y0 y1
  have key := LT_step ks_l1Val_0 hp (fun q hq => loopsAll_in _ _ _ _ hp hq) (fun (y1 : Int) => (hs_l1Val_0 y0 y1)) (xs_l1Val_0 y0) (g_Ss_l1Val_0 y0) (fun x => by first | exact bs_l1Val_0 y0 x) n (x := y1) (okO_some e1)
  have hx : ∀ r, XT.sel (.br (isL r) (.leaf .ret [(.T 0, .t (.val false [.sl .any 3 (.int .i64) y0])), (.T 2, .t (.val false [.bool (getL r)]))]) (.leaf (.exit 0) [(.T 0, .t (.val false [.sl .any 3 (.int .i64) y0])), (.T 2, .t (.val false [.undef]))])) = xs_l1Val_0 y0 r := fun r => by first | rfl | (rcases r with r | r <;> rfl) | (rcases r with r | r | r <;> rfl) | (rcases r with r | r | r | r <;> rfl)
  have h3 := (hx (valO (g_Ls_l1Val_0 y0 y1))).symm.trans h2
  have e3 := congrArg Prod.fst h3
  have e4 := congrArg Prod.snd h3
  simp only at e3 e4
  rw [← e3, ← e4]
  exact key
 ·exact .inl ⟨xt, h1, h2⟩)
noncomputable def g_As_l1Val (a0 : List Int) : Bool := okO (g_Ls_l1Val_0 a0 (0 : Int)) && (isL (valO (g_Ls_l1Val_0 a0 (0 : Int))) || g_As_l1In (↑(List.length a0) : Int) (1 : Int) (3 : Int))
noncomputable def g_Vs_l1Val_0 (a0 : List Int) : Bool := bif isL (valO (g_Ls_l1Val_0 a0 (0 : Int))) then getL (valO (g_Ls_l1Val_0 a0 (0 : Int))) else g_Vs_l1In_0 (↑(List.length a0) : Int) (1 : Int) (3 : Int)
noncomputable def Fs_l1Val : FSem := fun ys => match ys with
 | [.val false [.sl .any 3 (.int .i64) a0]] => some ((g_As_l1Val a0), .val false [.bool (g_Vs_l1Val_0 a0)], [])
 | _ => none
theorem vs_l1Val (a0 : List Int) : collapseH .std Es_l1Val Os_l1Val_1 (execFn Es_l1Val Tryz.f146 mss_l1Val [.val false [.sl .any 3 (.int .i64) a0]]) = some ((g_As_l1Val a0), .val false [.bool (g_Vs_l1Val_0 a0)], []) := by kernel_rfl
theorem ss_l1Val : Sound Tryz.prog 146 mss_l1Val Fs_l1Val := by
 refine fn_gen goods_l1Val (by kernel_rfl) .std (fn := Tryz.f146) (c := (Tryz.f146.body.getD .skip)) (o := Os_l1Val_1) (k := 1) (by kernel_rfl) (by kernel_rfl) (by kernel_rfl) (by kernel_rfl) (by decide) ks_l1Val_1 ?_
 intro ys r outs h
 unfold Fs_l1Val at h
 split at h
 ·exact (vs_l1Val _).trans h
 ·cases h
noncomputable def Es_WrtOk : Env where
 tt := mkTI Tryz.prog
 fn := fun f => match f with
  | 128 => some (mss_l1Key, FSem.wk mss_l1Key Fs_l1Key)
  | 146 => some (mss_l1Val, FSem.wk mss_l1Val Fs_l1Val)
  | _ => none
 bxf := fun _ => none
 mv := []
 keep := fun _ => []
 keepB := fun _ => []
 keepX := fun _ => []
 keepXB := fun _ => []
theorem goodFs_WrtOk : ∀ f ms F, Es_WrtOk.fn f = some (ms, F) → Sound Tryz.prog f ms F := fun f ms F h => by
 unfold Es_WrtOk at h
 dsimp only at h
 split at h
 ·injection h with h; injection h with e1 e2; subst e1 e2; exact Sound.wk ss_l1Key
 ·injection h with h; injection h with e1 e2; subst e1 e2; exact Sound.wk ss_l1Val
 ·cases h
theorem goodBs_WrtOk : ∀ f ms F, Es_WrtOk.bxf f = some (ms, F) → SoundB Tryz.prog f ms F := fun f ms F h => by cases h
theorem goods_WrtOk : Good Tryz.prog Es_WrtOk := ⟨rfl, goodFs_WrtOk, goodBs_WrtOk⟩
noncomputable def Os_WrtOk_0 : Orc := fun _ _ => none
noncomputable def mss_WrtOk : List PM := [.rd]
noncomputable def lss_WrtOk : List (Nat × Code) := loopsAll 0 (Tryz.f113.body.getD .skip)
theorem ks_WrtOk_0 : OrcOk Es_WrtOk Os_WrtOk_0 lss_WrtOk 0 := orcOk_none
noncomputable def g_As_WrtOk (a0 : ByteArray) (a1 : Bool) (a2 : List Int) : Bool := bif a1 then g_As_l1Key a0 && (!g_Vs_l1Key_0 a0 || true) else g_As_l1Key a0 && (!g_Vs_l1Key_0 a0 || g_As_l1Val a2)
noncomputable def g_Vs_WrtOk_0 (a0 : ByteArray) (a1 : Bool) (a2 : List Int) : Bool := bif a1 then bif g_Vs_l1Key_0 a0 then (↑(List.length a2) : Int) == (0 : Int) else false else bif g_Vs_l1Key_0 a0 then g_Vs_l1Val_0 a2 else false
noncomputable def Fs_WrtOk : FSem := fun ys => match ys with
 | [.val true [.str a0, .bool a1, .sl .any 3 (.int .i64) a2]] => some ((g_As_WrtOk a0 a1 a2), .val false [.bool (g_Vs_WrtOk_0 a0 a1 a2)], [])
 | _ => none
theorem vs_WrtOk (a0 : ByteArray) (a1 : Bool) (a2 : List Int) : collapseH .std Es_WrtOk Os_WrtOk_0 (execFn Es_WrtOk Tryz.f113 mss_WrtOk [.val true [.str a0, .bool a1, .sl .any 3 (.int .i64) a2]]) = some ((g_As_WrtOk a0 a1 a2), .val false [.bool (g_Vs_WrtOk_0 a0 a1 a2)], []) := by kernel_rfl
theorem ss_WrtOk : Sound Tryz.prog 113 mss_WrtOk Fs_WrtOk := by
 refine fn_gen goods_WrtOk (by kernel_rfl) .std (fn := Tryz.f113) (c := (Tryz.f113.body.getD .skip)) (o := Os_WrtOk_0) (k := 0) (by kernel_rfl) (by kernel_rfl) (by kernel_rfl) (by kernel_rfl) (by decide) ks_WrtOk_0 ?_
 intro ys r outs h
 unfold Fs_WrtOk at h
 split at h
 ·exact (vs_WrtOk _ _ _).trans h
 ·cases h
noncomputable def Es_l2Has : Env where
 tt := mkTI Tryz.prog
 fn := fun _ => none
 bxf := fun _ => none
 mv := []
 keep := fun b => match b with
  | 0 => [(0, false), (1, false), (5, false)]
  | _ => []
 keepB := fun b => match b with
  | 0 => []
  | _ => []
 keepX := fun b => match b with
  | 0 => [(4, false)]
  | _ => []
 keepXB := fun b => match b with
  | 0 => []
  | _ => []
theorem goodFs_l2Has : ∀ f ms F, Es_l2Has.fn f = some (ms, F) → Sound Tryz.prog f ms F := fun f ms F h => by cases h
theorem goodBs_l2Has : ∀ f ms F, Es_l2Has.bxf f = some (ms, F) → SoundB Tryz.prog f ms F := fun f ms F h => by cases h
theorem goods_l2Has : Good Tryz.prog Es_l2Has := ⟨rfl, goodFs_l2Has, goodBs_l2Has⟩
noncomputable def Os_l2Has_0 : Orc := fun _ _ => none
noncomputable def mss_l2Has : List PM := [.rd, .own]
noncomputable def lss_l2Has : List (Nat × Code) := loopsAll 0 (Tryz.f129.body.getD .skip)
noncomputable def cs_l2Has_0 : Code := (loopOf 0 (Tryz.f129.body.getD .skip)).getD .skip
theorem lseqs_l2Has : lss_l2Has = [(0, cs_l2Has_0)] := by kernel_rfl
theorem ms_l2Has_0 : ∀ p, p ∈ lss_l2Has → p.1 = 0 → p.2 = cs_l2Has_0 := by
 intro p hp
 rw [lseqs_l2Has] at hp
 simp only [List.mem_cons, List.not_mem_nil, or_false] at hp
 subst hp; simp
theorem ks_l2Has_0 : OrcOk Es_l2Has Os_l2Has_0 lss_l2Has 0 := orcOk_none
noncomputable def hs_l2Has_0 (y0 : List ByteArray) (y1 : ByteArray) (y2 : Int) : List (Pl × LV) := [(.T 0, .t (.val false [.sl .any 9 .str y0])), (.T 1, .t (.val false [.str y1])), (.T 5, .t (.val false [.int .i64 y2]))]
noncomputable def g_Ss_l2Has_0 (y0 : List ByteArray) (y1 : ByteArray) : (Int) → RT (Int) ((Bool) ⊕ (Unit))
 | y2 => .br (true) (.br (decide (y2 < (↑(List.length y0) : Int))) (.br (decide ((0 : Int) ≤ y2 ∧ y2 < (↑(List.length y0) : Int))) (.br (true) (.br (ByteArray.toList (at_ Ty.str y0 (Int.toNat y2)) == ByteArray.toList y1) (.out (.inl true)) (.br (true) (.go (IntKind.wrap IntKind.i64 (y2 + (1 : Int)))) (.bad))) (.bad)) (.bad)) (.out (.inr (())))) (.bad)
noncomputable def g_Ls_l2Has_0 (y0 : List ByteArray) (y1 : ByteArray) (x : Int) : Option ((Bool) ⊕ (Unit)) := loopO (g_Ss_l2Has_0 y0 y1) x
noncomputable def xs_l2Has_0 (y0 : List ByteArray) (y1 : ByteArray) : ((Bool) ⊕ (Unit)) → Ex × List (Pl × LV) := fun
 | .inl r => (.ret, [(.T 4, .t (.val false [.bool r]))])
 | .inr (r) => (.exit 0, [(.T 4, .t (.val false [.undef]))])
noncomputable def Os_l2Has_1 : Orc := fun b h => match b, h with
 | 0, [(.T 0, .t (.val false [.sl .any 9 .str y0])), (.T 1, .t (.val false [.str y1])), (.T 5, .t (.val false [.int .i64 y2]))] => some (okO (g_Ls_l2Has_0 y0 y1 y2), (.br (isL (valO (g_Ls_l2Has_0 y0 y1 y2))) (.leaf .ret [(.T 4, .t (.val false [.bool (getL (valO (g_Ls_l2Has_0 y0 y1 y2)))]))]) (.leaf (.exit 0) [(.T 4, .t (.val false [.undef]))])))
 | b, h => Os_l2Has_0 b h
theorem bs_l2Has_0 (y0 : List ByteArray) (y1 : ByteArray) (y2 : Int) : Tr.bt Es_l2Has Os_l2Has_0 (exec Es_l2Has 0 cs_l2Has_0 (St.of (hs_l2Has_0 y0 y1 y2)) (leafRd Es_l2Has 0)) = (g_Ss_l2Has_0 y0 y1 y2).bt (fun (y2 : Int) => (hs_l2Has_0 y0 y1 y2)) (xs_l2Has_0 y0 y1) := by kernel_rfl
theorem ks_l2Has_1 : OrcOk Es_l2Has Os_l2Has_1 lss_l2Has 1 := orc_add ks_l2Has_0 (fun n p hp h ex h' ho => by
 obtain ⟨b, c⟩ := p
 obtain ⟨xt, h1, h2⟩ := ho
 have h1 : Os_l2Has_1 b h = some (true, xt) := h1
 unfold Os_l2Has_1 at h1
 split at h1
 ·injection h1 with h1
  injection h1 with e1 e2
  subst e2
  have hc : c = cs_l2Has_0 := ms_l2Has_0 _ hp rfl
  subst hc
  right
  rename_i y0 y1 y2
  have key := LT_step ks_l2Has_0 hp (fun q hq => loopsAll_in _ _ _ _ hp hq) (fun (y2 : Int) => (hs_l2Has_0 y0 y1 y2)) (xs_l2Has_0 y0 y1) (g_Ss_l2Has_0 y0 y1) (fun x => by first | exact bs_l2Has_0 y0 y1 x) n (x := y2) (okO_some e1)
  have hx : ∀ r, XT.sel (.br (isL r) (.leaf .ret [(.T 4, .t (.val false [.bool (getL r)]))]) (.leaf (.exit 0) [(.T 4, .t (.val false [.undef]))])) = xs_l2Has_0 y0 y1 r := fun r => by first | rfl | (rcases r with r | r <;> rfl) | (rcases r with r | r | r <;> rfl) | (rcases r with r | r | r | r <;> rfl)
  have h3 := (hx (valO (g_Ls_l2Has_0 y0 y1 y2))).symm.trans h2
  have e3 := congrArg Prod.fst h3
  have e4 := congrArg Prod.snd h3
  simp only at e3 e4
  rw [← e3, ← e4]
  exact key
 ·exact .inl ⟨xt, h1, h2⟩)
noncomputable def g_As_l2Has (a0 : List ByteArray) (a1 : ByteArray) : Bool := okO (g_Ls_l2Has_0 a0 a1 (0 : Int))
noncomputable def g_Vs_l2Has_0 (a0 : List ByteArray) (a1 : ByteArray) : Bool := bif isL (valO (g_Ls_l2Has_0 a0 a1 (0 : Int))) then getL (valO (g_Ls_l2Has_0 a0 a1 (0 : Int))) else false
noncomputable def Fs_l2Has : FSem := fun ys => match ys with
 | [.val false [.sl .any 9 .str a0], .val false [.str a1]] => some ((g_As_l2Has a0 a1), .val false [.bool (g_Vs_l2Has_0 a0 a1)], [])
 | _ => none
theorem vs_l2Has (a0 : List ByteArray) (a1 : ByteArray) : collapseH .std Es_l2Has Os_l2Has_1 (execFn Es_l2Has Tryz.f129 mss_l2Has [.val false [.sl .any 9 .str a0], .val false [.str a1]]) = some ((g_As_l2Has a0 a1), .val false [.bool (g_Vs_l2Has_0 a0 a1)], []) := by kernel_rfl
theorem ss_l2Has : Sound Tryz.prog 129 mss_l2Has Fs_l2Has := by
 refine fn_gen goods_l2Has (by kernel_rfl) .std (fn := Tryz.f129) (c := (Tryz.f129.body.getD .skip)) (o := Os_l2Has_1) (k := 1) (by kernel_rfl) (by kernel_rfl) (by kernel_rfl) (by kernel_rfl) (by decide) ks_l2Has_1 ?_
 intro ys r outs h
 unfold Fs_l2Has at h
 split at h
 ·exact (vs_l2Has _ _).trans h
 ·cases h
noncomputable def Es_NoteOk : Env where
 tt := mkTI Tryz.prog
 fn := fun f => match f with
  | 59 => some (mss_l1In, FSem.wk mss_l1In Fs_l1In)
  | 113 => some (mss_WrtOk, FSem.wk mss_WrtOk Fs_WrtOk)
  | 128 => some (mss_l1Key, FSem.wk mss_l1Key Fs_l1Key)
  | 129 => some (mss_l2Has, FSem.wk mss_l2Has Fs_l2Has)
  | _ => none
 bxf := fun _ => none
 mv := []
 keep := fun b => match b with
  | 0 => [(1, false), (3, false)]
  | 2 => [(1, false), (4, false)]
  | _ => []
 keepB := fun b => match b with
  | 0 => [(1, false)]
  | 2 => [(1, false)]
  | _ => []
 keepX := fun b => match b with
  | 0 => [(1, false), (2, false)]
  | 2 => [(1, false), (2, false)]
  | _ => []
 keepXB := fun b => match b with
  | 0 => [(1, false)]
  | 2 => [(1, false)]
  | _ => []
theorem goodFs_NoteOk : ∀ f ms F, Es_NoteOk.fn f = some (ms, F) → Sound Tryz.prog f ms F := fun f ms F h => by
 unfold Es_NoteOk at h
 dsimp only at h
 split at h
 ·injection h with h; injection h with e1 e2; subst e1 e2; exact Sound.wk ss_l1In
 ·injection h with h; injection h with e1 e2; subst e1 e2; exact Sound.wk ss_WrtOk
 ·injection h with h; injection h with e1 e2; subst e1 e2; exact Sound.wk ss_l1Key
 ·injection h with h; injection h with e1 e2; subst e1 e2; exact Sound.wk ss_l2Has
 ·cases h
theorem goodBs_NoteOk : ∀ f ms F, Es_NoteOk.bxf f = some (ms, F) → SoundB Tryz.prog f ms F := fun f ms F h => by cases h
theorem goods_NoteOk : Good Tryz.prog Es_NoteOk := ⟨rfl, goodFs_NoteOk, goodBs_NoteOk⟩
noncomputable def Os_NoteOk_0 : Orc := fun _ _ => none
noncomputable def mss_NoteOk : List PM := [.rd]
noncomputable def lss_NoteOk : List (Nat × Code) := loopsAll 0 (Tryz.f77.body.getD .skip)
noncomputable def cs_NoteOk_0 : Code := (loopOf 0 (Tryz.f77.body.getD .skip)).getD .skip
noncomputable def cs_NoteOk_2 : Code := (loopOf 2 (Tryz.f77.body.getD .skip)).getD .skip
theorem lseqs_NoteOk : lss_NoteOk = [(0, cs_NoteOk_0), (2, cs_NoteOk_2)] := by kernel_rfl
theorem ms_NoteOk_0 : ∀ p, p ∈ lss_NoteOk → p.1 = 0 → p.2 = cs_NoteOk_0 := by
 intro p hp
 rw [lseqs_NoteOk] at hp
 simp only [List.mem_cons, List.not_mem_nil, or_false] at hp
 rcases hp with rfl | rfl <;> simp
theorem ms_NoteOk_2 : ∀ p, p ∈ lss_NoteOk → p.1 = 2 → p.2 = cs_NoteOk_2 := by
 intro p hp
 rw [lseqs_NoteOk] at hp
 simp only [List.mem_cons, List.not_mem_nil, or_false] at hp
 rcases hp with rfl | rfl <;> simp
theorem ks_NoteOk_0 : OrcOk Es_NoteOk Os_NoteOk_0 lss_NoteOk 0 := orcOk_none
noncomputable def hs_NoteOk_0 (y0 : Int) (y1 : Int) (y2 : Int) (y3 : List ByteArray) (y4 : List (ByteArray × (Bool × (List Int)))) : List (Pl × LV) := [(.T 1, .t (.val false [.ptr 1 0 0])), (.T 3, .t (.val false [.int .i64 y0])), (.B 1, .b 0 false [.int .i64 y1, .int .i64 y2, .sl .any 9 .str y3, .sl .any 39 (.pair .str (.pair .bool (.sl 3 (.int .i64)))) y4])]
noncomputable def g_Ss_NoteOk_0 (y1 : Int) (y2 : Int) (y3 : List ByteArray) (y4 : List (ByteArray × (Bool × (List Int)))) : (Int) → RT (Int) ((Bool) ⊕ (Unit))
 | y0 => .br (true) (.br (decide (y0 < (↑(List.length y3) : Int))) (.br (decide ((0 : Int) ≤ y0 ∧ y0 < (↑(List.length y3) : Int))) (.br (g_As_l1Key (at_ Ty.str y3 (Int.toNat y0))) (.br (!g_Vs_l1Key_0 (at_ Ty.str y3 (Int.toNat y0))) (.out (.inl false)) (.br (true) (.go (IntKind.wrap IntKind.i64 (y0 + (1 : Int)))) (.bad))) (.bad)) (.bad)) (.out (.inr (())))) (.bad)
noncomputable def g_Ls_NoteOk_0 (y1 : Int) (y2 : Int) (y3 : List ByteArray) (y4 : List (ByteArray × (Bool × (List Int)))) (x : Int) : Option ((Bool) ⊕ (Unit)) := loopO (g_Ss_NoteOk_0 y1 y2 y3 y4) x
noncomputable def xs_NoteOk_0 (y1 : Int) (y2 : Int) (y3 : List ByteArray) (y4 : List (ByteArray × (Bool × (List Int)))) : ((Bool) ⊕ (Unit)) → Ex × List (Pl × LV) := fun
 | .inl r => (.ret, [(.T 1, .t (.val false [.ptr 1 0 0])), (.T 2, .t (.val false [.bool r])), (.B 1, .b 0 false [.int .i64 y1, .int .i64 y2, .sl .any 9 .str y3, .sl .any 39 (.pair .str (.pair .bool (.sl 3 (.int .i64)))) y4])])
 | .inr (r) => (.exit 0, [(.T 1, .t (.val false [.ptr 1 0 0])), (.T 2, .t (.val false [.undef])), (.B 1, .b 0 false [.int .i64 y1, .int .i64 y2, .sl .any 9 .str y3, .sl .any 39 (.pair .str (.pair .bool (.sl 3 (.int .i64)))) y4])])
noncomputable def Os_NoteOk_1 : Orc := fun b h => match b, h with
 | 0, [(.T 1, .t (.val false [.ptr 1 0 0])), (.T 3, .t (.val false [.int .i64 y0])), (.B 1, .b 0 false [.int .i64 y1, .int .i64 y2, .sl .any 9 .str y3, .sl .any 39 (.pair .str (.pair .bool (.sl 3 (.int .i64)))) y4])] => some (okO (g_Ls_NoteOk_0 y1 y2 y3 y4 y0), (.br (isL (valO (g_Ls_NoteOk_0 y1 y2 y3 y4 y0))) (.leaf .ret [(.T 1, .t (.val false [.ptr 1 0 0])), (.T 2, .t (.val false [.bool (getL (valO (g_Ls_NoteOk_0 y1 y2 y3 y4 y0)))])), (.B 1, .b 0 false [.int .i64 y1, .int .i64 y2, .sl .any 9 .str y3, .sl .any 39 (.pair .str (.pair .bool (.sl 3 (.int .i64)))) y4])]) (.leaf (.exit 0) [(.T 1, .t (.val false [.ptr 1 0 0])), (.T 2, .t (.val false [.undef])), (.B 1, .b 0 false [.int .i64 y1, .int .i64 y2, .sl .any 9 .str y3, .sl .any 39 (.pair .str (.pair .bool (.sl 3 (.int .i64)))) y4])])))
 | b, h => Os_NoteOk_0 b h
theorem bs_NoteOk_0 (y0 : Int) (y1 : Int) (y2 : Int) (y3 : List ByteArray) (y4 : List (ByteArray × (Bool × (List Int)))) : Tr.bt Es_NoteOk Os_NoteOk_0 (exec Es_NoteOk 0 cs_NoteOk_0 (St.of (hs_NoteOk_0 y0 y1 y2 y3 y4)) (leafRd Es_NoteOk 0)) = (g_Ss_NoteOk_0 y1 y2 y3 y4 y0).bt (fun (y0 : Int) => (hs_NoteOk_0 y0 y1 y2 y3 y4)) (xs_NoteOk_0 y1 y2 y3 y4) := by kernel_rfl
theorem ks_NoteOk_1 : OrcOk Es_NoteOk Os_NoteOk_1 lss_NoteOk 1 := orc_add ks_NoteOk_0 (fun n p hp h ex h' ho => by
 obtain ⟨b, c⟩ := p
 obtain ⟨xt, h1, h2⟩ := ho
 have h1 : Os_NoteOk_1 b h = some (true, xt) := h1
 unfold Os_NoteOk_1 at h1
 split at h1
 ·injection h1 with h1
  injection h1 with e1 e2
  subst e2
  have hc : c = cs_NoteOk_0 := ms_NoteOk_0 _ hp rfl
  subst hc
  right
  rename_i y0 y1 y2 y3 y4
  have key := LT_step ks_NoteOk_0 hp (fun q hq => loopsAll_in _ _ _ _ hp hq) (fun (y0 : Int) => (hs_NoteOk_0 y0 y1 y2 y3 y4)) (xs_NoteOk_0 y1 y2 y3 y4) (g_Ss_NoteOk_0 y1 y2 y3 y4) (fun x => by first | exact bs_NoteOk_0 x y1 y2 y3 y4) n (x := y0) (okO_some e1)
  have hx : ∀ r, XT.sel (.br (isL r) (.leaf .ret [(.T 1, .t (.val false [.ptr 1 0 0])), (.T 2, .t (.val false [.bool (getL r)])), (.B 1, .b 0 false [.int .i64 y1, .int .i64 y2, .sl .any 9 .str y3, .sl .any 39 (.pair .str (.pair .bool (.sl 3 (.int .i64)))) y4])]) (.leaf (.exit 0) [(.T 1, .t (.val false [.ptr 1 0 0])), (.T 2, .t (.val false [.undef])), (.B 1, .b 0 false [.int .i64 y1, .int .i64 y2, .sl .any 9 .str y3, .sl .any 39 (.pair .str (.pair .bool (.sl 3 (.int .i64)))) y4])])) = xs_NoteOk_0 y1 y2 y3 y4 r := fun r => by first | rfl | (rcases r with r | r <;> rfl) | (rcases r with r | r | r <;> rfl) | (rcases r with r | r | r | r <;> rfl)
  have h3 := (hx (valO (g_Ls_NoteOk_0 y1 y2 y3 y4 y0))).symm.trans h2
  have e3 := congrArg Prod.fst h3
  have e4 := congrArg Prod.snd h3
  simp only at e3 e4
  rw [← e3, ← e4]
  exact key
 ·exact .inl ⟨xt, h1, h2⟩)
noncomputable def hs_NoteOk_2 (y0 : Int) (y1 : Int) (y2 : Int) (y3 : List ByteArray) (y4 : List (ByteArray × (Bool × (List Int)))) : List (Pl × LV) := [(.T 1, .t (.val false [.ptr 1 0 0])), (.T 4, .t (.val false [.int .i64 y0])), (.B 1, .b 0 false [.int .i64 y1, .int .i64 y2, .sl .any 9 .str y3, .sl .any 39 (.pair .str (.pair .bool (.sl 3 (.int .i64)))) y4])]
noncomputable def g_Ss_NoteOk_2 (y1 : Int) (y2 : Int) (y3 : List ByteArray) (y4 : List (ByteArray × (Bool × (List Int)))) : (Int) → RT (Int) ((Bool) ⊕ (Unit))
 | y0 => .br (true) (.br (decide (y0 < (↑(List.length y4) : Int))) (.br (decide ((0 : Int) ≤ y0 ∧ y0 < (↑(List.length y4) : Int))) (.br (g_As_WrtOk (at_ (Ty.pair Ty.str (Ty.pair Ty.bool (Ty.sl (nat_lit 3) (Ty.int IntKind.i64)))) y4 (Int.toNat y0)).1 (at_ (Ty.pair Ty.str (Ty.pair Ty.bool (Ty.sl (nat_lit 3) (Ty.int IntKind.i64)))) y4 (Int.toNat y0)).2.1 (at_ (Ty.pair Ty.str (Ty.pair Ty.bool (Ty.sl (nat_lit 3) (Ty.int IntKind.i64)))) y4 (Int.toNat y0)).2.2) (.br (!g_Vs_WrtOk_0 (at_ (Ty.pair Ty.str (Ty.pair Ty.bool (Ty.sl (nat_lit 3) (Ty.int IntKind.i64)))) y4 (Int.toNat y0)).1 (at_ (Ty.pair Ty.str (Ty.pair Ty.bool (Ty.sl (nat_lit 3) (Ty.int IntKind.i64)))) y4 (Int.toNat y0)).2.1 (at_ (Ty.pair Ty.str (Ty.pair Ty.bool (Ty.sl (nat_lit 3) (Ty.int IntKind.i64)))) y4 (Int.toNat y0)).2.2) (.out (.inl false)) (.br (decide ((0 : Int) ≤ y0 ∧ y0 < (↑(List.length y4) : Int))) (.br (g_As_l2Has y3 (at_ (Ty.pair Ty.str (Ty.pair Ty.bool (Ty.sl (nat_lit 3) (Ty.int IntKind.i64)))) y4 (Int.toNat y0)).1) (.br (!g_Vs_l2Has_0 y3 (at_ (Ty.pair Ty.str (Ty.pair Ty.bool (Ty.sl (nat_lit 3) (Ty.int IntKind.i64)))) y4 (Int.toNat y0)).1) (.out (.inl false)) (.br (true) (.go (IntKind.wrap IntKind.i64 (y0 + (1 : Int)))) (.bad))) (.bad)) (.bad))) (.bad)) (.bad)) (.out (.inr (())))) (.bad)
noncomputable def g_Ls_NoteOk_2 (y1 : Int) (y2 : Int) (y3 : List ByteArray) (y4 : List (ByteArray × (Bool × (List Int)))) (x : Int) : Option ((Bool) ⊕ (Unit)) := loopO (g_Ss_NoteOk_2 y1 y2 y3 y4) x
noncomputable def xs_NoteOk_2 (y1 : Int) (y2 : Int) (y3 : List ByteArray) (y4 : List (ByteArray × (Bool × (List Int)))) : ((Bool) ⊕ (Unit)) → Ex × List (Pl × LV) := fun
 | .inl r => (.ret, [(.T 1, .t (.val false [.ptr 1 0 0])), (.T 2, .t (.val false [.bool r])), (.B 1, .b 0 false [.int .i64 y1, .int .i64 y2, .sl .any 9 .str y3, .sl .any 39 (.pair .str (.pair .bool (.sl 3 (.int .i64)))) y4])])
 | .inr (r) => (.exit 2, [(.T 1, .t (.val false [.ptr 1 0 0])), (.T 2, .t (.val false [.undef])), (.B 1, .b 0 false [.int .i64 y1, .int .i64 y2, .sl .any 9 .str y3, .sl .any 39 (.pair .str (.pair .bool (.sl 3 (.int .i64)))) y4])])
noncomputable def Os_NoteOk_2 : Orc := fun b h => match b, h with
 | 2, [(.T 1, .t (.val false [.ptr 1 0 0])), (.T 4, .t (.val false [.int .i64 y0])), (.B 1, .b 0 false [.int .i64 y1, .int .i64 y2, .sl .any 9 .str y3, .sl .any 39 (.pair .str (.pair .bool (.sl 3 (.int .i64)))) y4])] => some (okO (g_Ls_NoteOk_2 y1 y2 y3 y4 y0), (.br (isL (valO (g_Ls_NoteOk_2 y1 y2 y3 y4 y0))) (.leaf .ret [(.T 1, .t (.val false [.ptr 1 0 0])), (.T 2, .t (.val false [.bool (getL (valO (g_Ls_NoteOk_2 y1 y2 y3 y4 y0)))])), (.B 1, .b 0 false [.int .i64 y1, .int .i64 y2, .sl .any 9 .str y3, .sl .any 39 (.pair .str (.pair .bool (.sl 3 (.int .i64)))) y4])]) (.leaf (.exit 2) [(.T 1, .t (.val false [.ptr 1 0 0])), (.T 2, .t (.val false [.undef])), (.B 1, .b 0 false [.int .i64 y1, .int .i64 y2, .sl .any 9 .str y3, .sl .any 39 (.pair .str (.pair .bool (.sl 3 (.int .i64)))) y4])])))
 | b, h => Os_NoteOk_1 b h
theorem bs_NoteOk_2 (y0 : Int) (y1 : Int) (y2 : Int) (y3 : List ByteArray) (y4 : List (ByteArray × (Bool × (List Int)))) : Tr.bt Es_NoteOk Os_NoteOk_1 (exec Es_NoteOk 2 cs_NoteOk_2 (St.of (hs_NoteOk_2 y0 y1 y2 y3 y4)) (leafRd Es_NoteOk 2)) = (g_Ss_NoteOk_2 y1 y2 y3 y4 y0).bt (fun (y0 : Int) => (hs_NoteOk_2 y0 y1 y2 y3 y4)) (xs_NoteOk_2 y1 y2 y3 y4) := by kernel_rfl
theorem ks_NoteOk_2 : OrcOk Es_NoteOk Os_NoteOk_2 lss_NoteOk 2 := orc_add ks_NoteOk_1 (fun n p hp h ex h' ho => by
 obtain ⟨b, c⟩ := p
 obtain ⟨xt, h1, h2⟩ := ho
 have h1 : Os_NoteOk_2 b h = some (true, xt) := h1
 unfold Os_NoteOk_2 at h1
 split at h1
 ·injection h1 with h1
  injection h1 with e1 e2
  subst e2
  have hc : c = cs_NoteOk_2 := ms_NoteOk_2 _ hp rfl
  subst hc
  right
  rename_i y0 y1 y2 y3 y4
  have key := LT_step ks_NoteOk_1 hp (fun q hq => loopsAll_in _ _ _ _ hp hq) (fun (y0 : Int) => (hs_NoteOk_2 y0 y1 y2 y3 y4)) (xs_NoteOk_2 y1 y2 y3 y4) (g_Ss_NoteOk_2 y1 y2 y3 y4) (fun x => by first | exact bs_NoteOk_2 x y1 y2 y3 y4) n (x := y0) (okO_some e1)
  have hx : ∀ r, XT.sel (.br (isL r) (.leaf .ret [(.T 1, .t (.val false [.ptr 1 0 0])), (.T 2, .t (.val false [.bool (getL r)])), (.B 1, .b 0 false [.int .i64 y1, .int .i64 y2, .sl .any 9 .str y3, .sl .any 39 (.pair .str (.pair .bool (.sl 3 (.int .i64)))) y4])]) (.leaf (.exit 2) [(.T 1, .t (.val false [.ptr 1 0 0])), (.T 2, .t (.val false [.undef])), (.B 1, .b 0 false [.int .i64 y1, .int .i64 y2, .sl .any 9 .str y3, .sl .any 39 (.pair .str (.pair .bool (.sl 3 (.int .i64)))) y4])])) = xs_NoteOk_2 y1 y2 y3 y4 r := fun r => by first | rfl | (rcases r with r | r <;> rfl) | (rcases r with r | r | r <;> rfl) | (rcases r with r | r | r | r <;> rfl)
  have h3 := (hx (valO (g_Ls_NoteOk_2 y1 y2 y3 y4 y0))).symm.trans h2
  have e3 := congrArg Prod.fst h3
  have e4 := congrArg Prod.snd h3
  simp only at e3 e4
  rw [← e3, ← e4]
  exact key
 ·exact .inl ⟨xt, h1, h2⟩)
noncomputable def g_As_NoteOk (a0 : Int) (a1 : Int) (a2 : List ByteArray) (a3 : List (ByteArray × (Bool × (List Int)))) : Bool := g_As_l1In a0 (1 : Int) (4 : Int) && (!g_Vs_l1In_0 a0 (1 : Int) (4 : Int) || g_As_l1In a1 (0 : Int) (29 : Int) && (!g_Vs_l1In_0 a1 (0 : Int) (29 : Int) || (decide ((↑(List.length a2) : Int) > (12 : Int)) || (decide ((↑(List.length a3) : Int) > (12 : Int)) || okO (g_Ls_NoteOk_0 a0 a1 a2 a3 (0 : Int)) && (isL (valO (g_Ls_NoteOk_0 a0 a1 a2 a3 (0 : Int))) || okO (g_Ls_NoteOk_2 a0 a1 a2 a3 (0 : Int)) && (isL (valO (g_Ls_NoteOk_2 a0 a1 a2 a3 (0 : Int))) || (a0 == (1 : Int) || true)))))))
noncomputable def g_Vs_NoteOk_0 (a0 : Int) (a1 : Int) (a2 : List ByteArray) (a3 : List (ByteArray × (Bool × (List Int)))) : Bool := bif !g_Vs_l1In_0 a0 (1 : Int) (4 : Int) then false else bif !g_Vs_l1In_0 a1 (0 : Int) (29 : Int) then false else bif decide ((↑(List.length a2) : Int) > (12 : Int)) then false else bif decide ((↑(List.length a3) : Int) > (12 : Int)) then false else bif isL (valO (g_Ls_NoteOk_0 a0 a1 a2 a3 (0 : Int))) then getL (valO (g_Ls_NoteOk_0 a0 a1 a2 a3 (0 : Int))) else bif isL (valO (g_Ls_NoteOk_2 a0 a1 a2 a3 (0 : Int))) then getL (valO (g_Ls_NoteOk_2 a0 a1 a2 a3 (0 : Int))) else bif a0 == (1 : Int) then true else IntKind.wrap IntKind.i64 ((↑(List.length a2) : Int) + (↑(List.length a3) : Int)) == (0 : Int)
noncomputable def Fs_NoteOk : FSem := fun ys => match ys with
 | [.val true [.int .i64 a0, .int .i64 a1, .sl .any 9 .str a2, .sl .any 39 (.pair .str (.pair .bool (.sl 3 (.int .i64)))) a3]] => some ((g_As_NoteOk a0 a1 a2 a3), .val false [.bool (g_Vs_NoteOk_0 a0 a1 a2 a3)], [])
 | _ => none
theorem vs_NoteOk (a0 : Int) (a1 : Int) (a2 : List ByteArray) (a3 : List (ByteArray × (Bool × (List Int)))) : collapseH .std Es_NoteOk Os_NoteOk_2 (execFn Es_NoteOk Tryz.f77 mss_NoteOk [.val true [.int .i64 a0, .int .i64 a1, .sl .any 9 .str a2, .sl .any 39 (.pair .str (.pair .bool (.sl 3 (.int .i64)))) a3]]) = some ((g_As_NoteOk a0 a1 a2 a3), .val false [.bool (g_Vs_NoteOk_0 a0 a1 a2 a3)], []) := by kernel_rfl
theorem ss_NoteOk : Sound Tryz.prog 77 mss_NoteOk Fs_NoteOk := by
 refine fn_gen goods_NoteOk (by kernel_rfl) .std (fn := Tryz.f77) (c := (Tryz.f77.body.getD .skip)) (o := Os_NoteOk_2) (k := 2) (by kernel_rfl) (by kernel_rfl) (by kernel_rfl) (by kernel_rfl) (by decide) ks_NoteOk_2 ?_
 intro ys r outs h
 unfold Fs_NoteOk at h
 split at h
 ·exact (vs_NoteOk _ _ _ _).trans h
 ·cases h
noncomputable def Es_DiskOk : Env where
 tt := mkTI Tryz.prog
 fn := fun f => match f with
  | 59 => some (mss_l1In, FSem.wk mss_l1In Fs_l1In)
  | 77 => some (mss_NoteOk, FSem.wk mss_NoteOk Fs_NoteOk)
  | _ => none
 bxf := fun _ => none
 mv := []
 keep := fun b => match b with
  | 0 => [(1, false), (3, false)]
  | _ => []
 keepB := fun b => match b with
  | 0 => [(1, false)]
  | _ => []
 keepX := fun b => match b with
  | 0 => [(2, false)]
  | _ => []
 keepXB := fun b => match b with
  | 0 => []
  | _ => []
theorem goodFs_DiskOk : ∀ f ms F, Es_DiskOk.fn f = some (ms, F) → Sound Tryz.prog f ms F := fun f ms F h => by
 unfold Es_DiskOk at h
 dsimp only at h
 split at h
 ·injection h with h; injection h with e1 e2; subst e1 e2; exact Sound.wk ss_l1In
 ·injection h with h; injection h with e1 e2; subst e1 e2; exact Sound.wk ss_NoteOk
 ·cases h
theorem goodBs_DiskOk : ∀ f ms F, Es_DiskOk.bxf f = some (ms, F) → SoundB Tryz.prog f ms F := fun f ms F h => by cases h
theorem goods_DiskOk : Good Tryz.prog Es_DiskOk := ⟨rfl, goodFs_DiskOk, goodBs_DiskOk⟩
noncomputable def Os_DiskOk_0 : Orc := fun _ _ => none
noncomputable def mss_DiskOk : List PM := [.rd]
noncomputable def lss_DiskOk : List (Nat × Code) := loopsAll 0 (Tryz.f33.body.getD .skip)
noncomputable def cs_DiskOk_0 : Code := (loopOf 0 (Tryz.f33.body.getD .skip)).getD .skip
theorem lseqs_DiskOk : lss_DiskOk = [(0, cs_DiskOk_0)] := by kernel_rfl
theorem ms_DiskOk_0 : ∀ p, p ∈ lss_DiskOk → p.1 = 0 → p.2 = cs_DiskOk_0 := by
 intro p hp
 rw [lseqs_DiskOk] at hp
 simp only [List.mem_cons, List.not_mem_nil, or_false] at hp
 subst hp; simp
theorem ks_DiskOk_0 : OrcOk Es_DiskOk Os_DiskOk_0 lss_DiskOk 0 := orcOk_none
noncomputable def hs_DiskOk_0 (y0 : Int) (y1 : List (Int × (Int × ((List ByteArray) × (List (ByteArray × (Bool × (List Int)))))))) (y2 : Int) : List (Pl × LV) := [(.T 1, .t (.val false [.ptr 1 0 0])), (.T 3, .t (.val false [.int .i64 y0])), (.B 1, .b 0 false [.sl .any 72 (.pair (.int .i64) (.pair (.int .i64) (.pair (.sl 9 .str) (.sl 39 (.pair .str (.pair .bool (.sl 3 (.int .i64)))))))) y1, .int .i64 y2])]
noncomputable def g_Ss_DiskOk_0 (y1 : List (Int × (Int × ((List ByteArray) × (List (ByteArray × (Bool × (List Int)))))))) (y2 : Int) : (Int) → RT (Int) ((Bool) ⊕ (Unit))
 | y0 => .br (true) (.br (decide (y0 < (↑(List.length y1) : Int))) (.br (decide ((0 : Int) ≤ y0 ∧ y0 < (↑(List.length y1) : Int))) (.br (g_As_NoteOk (at_ (Ty.pair (Ty.int IntKind.i64) (Ty.pair (Ty.int IntKind.i64) (Ty.pair (Ty.sl (nat_lit 9) Ty.str) (Ty.sl (nat_lit 39) (Ty.pair Ty.str (Ty.pair Ty.bool (Ty.sl (nat_lit 3) (Ty.int IntKind.i64)))))))) y1 (Int.toNat y0)).1 (at_ (Ty.pair (Ty.int IntKind.i64) (Ty.pair (Ty.int IntKind.i64) (Ty.pair (Ty.sl (nat_lit 9) Ty.str) (Ty.sl (nat_lit 39) (Ty.pair Ty.str (Ty.pair Ty.bool (Ty.sl (nat_lit 3) (Ty.int IntKind.i64)))))))) y1 (Int.toNat y0)).2.1 (at_ (Ty.pair (Ty.int IntKind.i64) (Ty.pair (Ty.int IntKind.i64) (Ty.pair (Ty.sl (nat_lit 9) Ty.str) (Ty.sl (nat_lit 39) (Ty.pair Ty.str (Ty.pair Ty.bool (Ty.sl (nat_lit 3) (Ty.int IntKind.i64)))))))) y1 (Int.toNat y0)).2.2.1 (at_ (Ty.pair (Ty.int IntKind.i64) (Ty.pair (Ty.int IntKind.i64) (Ty.pair (Ty.sl (nat_lit 9) Ty.str) (Ty.sl (nat_lit 39) (Ty.pair Ty.str (Ty.pair Ty.bool (Ty.sl (nat_lit 3) (Ty.int IntKind.i64)))))))) y1 (Int.toNat y0)).2.2.2) (.br (!g_Vs_NoteOk_0 (at_ (Ty.pair (Ty.int IntKind.i64) (Ty.pair (Ty.int IntKind.i64) (Ty.pair (Ty.sl (nat_lit 9) Ty.str) (Ty.sl (nat_lit 39) (Ty.pair Ty.str (Ty.pair Ty.bool (Ty.sl (nat_lit 3) (Ty.int IntKind.i64)))))))) y1 (Int.toNat y0)).1 (at_ (Ty.pair (Ty.int IntKind.i64) (Ty.pair (Ty.int IntKind.i64) (Ty.pair (Ty.sl (nat_lit 9) Ty.str) (Ty.sl (nat_lit 39) (Ty.pair Ty.str (Ty.pair Ty.bool (Ty.sl (nat_lit 3) (Ty.int IntKind.i64)))))))) y1 (Int.toNat y0)).2.1 (at_ (Ty.pair (Ty.int IntKind.i64) (Ty.pair (Ty.int IntKind.i64) (Ty.pair (Ty.sl (nat_lit 9) Ty.str) (Ty.sl (nat_lit 39) (Ty.pair Ty.str (Ty.pair Ty.bool (Ty.sl (nat_lit 3) (Ty.int IntKind.i64)))))))) y1 (Int.toNat y0)).2.2.1 (at_ (Ty.pair (Ty.int IntKind.i64) (Ty.pair (Ty.int IntKind.i64) (Ty.pair (Ty.sl (nat_lit 9) Ty.str) (Ty.sl (nat_lit 39) (Ty.pair Ty.str (Ty.pair Ty.bool (Ty.sl (nat_lit 3) (Ty.int IntKind.i64)))))))) y1 (Int.toNat y0)).2.2.2) (.out (.inl false)) (.br (true) (.go (IntKind.wrap IntKind.i64 (y0 + (1 : Int)))) (.bad))) (.bad)) (.bad)) (.out (.inr (())))) (.bad)
noncomputable def g_Ls_DiskOk_0 (y1 : List (Int × (Int × ((List ByteArray) × (List (ByteArray × (Bool × (List Int)))))))) (y2 : Int) (x : Int) : Option ((Bool) ⊕ (Unit)) := loopO (g_Ss_DiskOk_0 y1 y2) x
noncomputable def xs_DiskOk_0 (y1 : List (Int × (Int × ((List ByteArray) × (List (ByteArray × (Bool × (List Int)))))))) (y2 : Int) : ((Bool) ⊕ (Unit)) → Ex × List (Pl × LV) := fun
 | .inl r => (.ret, [(.T 2, .t (.val false [.bool r]))])
 | .inr (r) => (.exit 0, [(.T 2, .t (.val false [.undef]))])
noncomputable def Os_DiskOk_1 : Orc := fun b h => match b, h with
 | 0, [(.T 1, .t (.val false [.ptr 1 0 0])), (.T 3, .t (.val false [.int .i64 y0])), (.B 1, .b 0 false [.sl .any 72 (.pair (.int .i64) (.pair (.int .i64) (.pair (.sl 9 .str) (.sl 39 (.pair .str (.pair .bool (.sl 3 (.int .i64)))))))) y1, .int .i64 y2])] => some (okO (g_Ls_DiskOk_0 y1 y2 y0), (.br (isL (valO (g_Ls_DiskOk_0 y1 y2 y0))) (.leaf .ret [(.T 2, .t (.val false [.bool (getL (valO (g_Ls_DiskOk_0 y1 y2 y0)))]))]) (.leaf (.exit 0) [(.T 2, .t (.val false [.undef]))])))
 | b, h => Os_DiskOk_0 b h
theorem bs_DiskOk_0 (y0 : Int) (y1 : List (Int × (Int × ((List ByteArray) × (List (ByteArray × (Bool × (List Int)))))))) (y2 : Int) : Tr.bt Es_DiskOk Os_DiskOk_0 (exec Es_DiskOk 0 cs_DiskOk_0 (St.of (hs_DiskOk_0 y0 y1 y2)) (leafRd Es_DiskOk 0)) = (g_Ss_DiskOk_0 y1 y2 y0).bt (fun (y0 : Int) => (hs_DiskOk_0 y0 y1 y2)) (xs_DiskOk_0 y1 y2) := by kernel_rfl
theorem ks_DiskOk_1 : OrcOk Es_DiskOk Os_DiskOk_1 lss_DiskOk 1 := orc_add ks_DiskOk_0 (fun n p hp h ex h' ho => by
 obtain ⟨b, c⟩ := p
 obtain ⟨xt, h1, h2⟩ := ho
 have h1 : Os_DiskOk_1 b h = some (true, xt) := h1
 unfold Os_DiskOk_1 at h1
 split at h1
 ·injection h1 with h1
  injection h1 with e1 e2
  subst e2
  have hc : c = cs_DiskOk_0 := ms_DiskOk_0 _ hp rfl
  subst hc
  right
  rename_i y0 y1 y2
  have key := LT_step ks_DiskOk_0 hp (fun q hq => loopsAll_in _ _ _ _ hp hq) (fun (y0 : Int) => (hs_DiskOk_0 y0 y1 y2)) (xs_DiskOk_0 y1 y2) (g_Ss_DiskOk_0 y1 y2) (fun x => by first | exact bs_DiskOk_0 x y1 y2) n (x := y0) (okO_some e1)
  have hx : ∀ r, XT.sel (.br (isL r) (.leaf .ret [(.T 2, .t (.val false [.bool (getL r)]))]) (.leaf (.exit 0) [(.T 2, .t (.val false [.undef]))])) = xs_DiskOk_0 y1 y2 r := fun r => by first | rfl | (rcases r with r | r <;> rfl) | (rcases r with r | r | r <;> rfl) | (rcases r with r | r | r | r <;> rfl)
  have h3 := (hx (valO (g_Ls_DiskOk_0 y1 y2 y0))).symm.trans h2
  have e3 := congrArg Prod.fst h3
  have e4 := congrArg Prod.snd h3
  simp only at e3 e4
  rw [← e3, ← e4]
  exact key
 ·exact .inl ⟨xt, h1, h2⟩)
noncomputable def g_As_DiskOk (a0 : List (Int × (Int × ((List ByteArray) × (List (ByteArray × (Bool × (List Int)))))))) (a1 : Int) : Bool := decide ((↑(List.length a0) : Int) > (120 : Int)) || g_As_l1In a1 (0 : Int) (↑(List.length a0) : Int) && (!g_Vs_l1In_0 a1 (0 : Int) (↑(List.length a0) : Int) || okO (g_Ls_DiskOk_0 a0 a1 (0 : Int)))
noncomputable def g_Vs_DiskOk_0 (a0 : List (Int × (Int × ((List ByteArray) × (List (ByteArray × (Bool × (List Int)))))))) (a1 : Int) : Bool := bif decide ((↑(List.length a0) : Int) > (120 : Int)) then false else bif !g_Vs_l1In_0 a1 (0 : Int) (↑(List.length a0) : Int) then false else bif isL (valO (g_Ls_DiskOk_0 a0 a1 (0 : Int))) then getL (valO (g_Ls_DiskOk_0 a0 a1 (0 : Int))) else true
noncomputable def Fs_DiskOk : FSem := fun ys => match ys with
 | [.val true [.sl .any 72 (.pair (.int .i64) (.pair (.int .i64) (.pair (.sl 9 .str) (.sl 39 (.pair .str (.pair .bool (.sl 3 (.int .i64)))))))) a0, .int .i64 a1]] => some ((g_As_DiskOk a0 a1), .val false [.bool (g_Vs_DiskOk_0 a0 a1)], [])
 | _ => none
theorem vs_DiskOk (a0 : List (Int × (Int × ((List ByteArray) × (List (ByteArray × (Bool × (List Int)))))))) (a1 : Int) : collapseH .std Es_DiskOk Os_DiskOk_1 (execFn Es_DiskOk Tryz.f33 mss_DiskOk [.val true [.sl .any 72 (.pair (.int .i64) (.pair (.int .i64) (.pair (.sl 9 .str) (.sl 39 (.pair .str (.pair .bool (.sl 3 (.int .i64)))))))) a0, .int .i64 a1]]) = some ((g_As_DiskOk a0 a1), .val false [.bool (g_Vs_DiskOk_0 a0 a1)], []) := by kernel_rfl
theorem ss_DiskOk : Sound Tryz.prog 33 mss_DiskOk Fs_DiskOk := by
 refine fn_gen goods_DiskOk (by kernel_rfl) .std (fn := Tryz.f33) (c := (Tryz.f33.body.getD .skip)) (o := Os_DiskOk_1) (k := 1) (by kernel_rfl) (by kernel_rfl) (by kernel_rfl) (by kernel_rfl) (by decide) ks_DiskOk_1 ?_
 intro ys r outs h
 unfold Fs_DiskOk at h
 split at h
 ·exact (vs_DiskOk _ _).trans h
 ·cases h
noncomputable def Es_StoOk : Env where
 tt := mkTI Tryz.prog
 fn := fun f => match f with
  | 128 => some (mss_l1Key, FSem.wk mss_l1Key Fs_l1Key)
  | 146 => some (mss_l1Val, FSem.wk mss_l1Val Fs_l1Val)
  | _ => none
 bxf := fun _ => none
 mv := []
 keep := fun b => match b with
  | 0 => [(1, false), (3, false)]
  | _ => []
 keepB := fun b => match b with
  | 0 => [(1, false)]
  | _ => []
 keepX := fun b => match b with
  | 0 => [(2, false)]
  | _ => []
 keepXB := fun b => match b with
  | 0 => []
  | _ => []
theorem goodFs_StoOk : ∀ f ms F, Es_StoOk.fn f = some (ms, F) → Sound Tryz.prog f ms F := fun f ms F h => by
 unfold Es_StoOk at h
 dsimp only at h
 split at h
 ·injection h with h; injection h with e1 e2; subst e1 e2; exact Sound.wk ss_l1Key
 ·injection h with h; injection h with e1 e2; subst e1 e2; exact Sound.wk ss_l1Val
 ·cases h
theorem goodBs_StoOk : ∀ f ms F, Es_StoOk.bxf f = some (ms, F) → SoundB Tryz.prog f ms F := fun f ms F h => by cases h
theorem goods_StoOk : Good Tryz.prog Es_StoOk := ⟨rfl, goodFs_StoOk, goodBs_StoOk⟩
noncomputable def Os_StoOk_0 : Orc := fun _ _ => none
noncomputable def mss_StoOk : List PM := [.rd]
noncomputable def lss_StoOk : List (Nat × Code) := loopsAll 0 (Tryz.f102.body.getD .skip)
noncomputable def cs_StoOk_0 : Code := (loopOf 0 (Tryz.f102.body.getD .skip)).getD .skip
theorem lseqs_StoOk : lss_StoOk = [(0, cs_StoOk_0)] := by kernel_rfl
theorem ms_StoOk_0 : ∀ p, p ∈ lss_StoOk → p.1 = 0 → p.2 = cs_StoOk_0 := by
 intro p hp
 rw [lseqs_StoOk] at hp
 simp only [List.mem_cons, List.not_mem_nil, or_false] at hp
 subst hp; simp
theorem ks_StoOk_0 : OrcOk Es_StoOk Os_StoOk_0 lss_StoOk 0 := orcOk_none
noncomputable def hs_StoOk_0 (y0 : Int) (y1 : List (ByteArray × (List Int))) : List (Pl × LV) := [(.T 1, .t (.val false [.ptr 1 0 0])), (.T 3, .t (.val false [.int .i64 y0])), (.B 1, .b 0 false [.sl .any 49 (.pair .str (.sl 3 (.int .i64))) y1])]
noncomputable def g_Ss_StoOk_0 (y1 : List (ByteArray × (List Int))) : (Int) → RT (Int) ((Bool) ⊕ (Unit))
 | y0 => .br (true) (.br (decide (y0 < (↑(List.length y1) : Int))) (.br (decide ((0 : Int) ≤ y0 ∧ y0 < (↑(List.length y1) : Int))) (.br (g_As_l1Key (at_ (Ty.pair Ty.str (Ty.sl (nat_lit 3) (Ty.int IntKind.i64))) y1 (Int.toNat y0)).1) (.br (!g_Vs_l1Key_0 (at_ (Ty.pair Ty.str (Ty.sl (nat_lit 3) (Ty.int IntKind.i64))) y1 (Int.toNat y0)).1) (.out (.inl false)) (.br (decide ((0 : Int) ≤ y0 ∧ y0 < (↑(List.length y1) : Int))) (.br (g_As_l1Val (at_ (Ty.pair Ty.str (Ty.sl (nat_lit 3) (Ty.int IntKind.i64))) y1 (Int.toNat y0)).2) (.br (!g_Vs_l1Val_0 (at_ (Ty.pair Ty.str (Ty.sl (nat_lit 3) (Ty.int IntKind.i64))) y1 (Int.toNat y0)).2) (.out (.inl false)) (.br (true) (.br (decide (y0 > (0 : Int))) (.br (true) (.br (decide ((0 : Int) ≤ IntKind.wrap IntKind.i64 (y0 - (1 : Int)) ∧ IntKind.wrap IntKind.i64 (y0 - (1 : Int)) < (↑(List.length y1) : Int))) (.br (decide ((0 : Int) ≤ y0 ∧ y0 < (↑(List.length y1) : Int))) (.br (true) (.br (!Op.bytesLess (ByteArray.toList (at_ (Ty.pair Ty.str (Ty.sl (nat_lit 3) (Ty.int IntKind.i64))) y1 (Int.toNat (IntKind.wrap IntKind.i64 (y0 - (1 : Int))))).1) (ByteArray.toList (at_ (Ty.pair Ty.str (Ty.sl (nat_lit 3) (Ty.int IntKind.i64))) y1 (Int.toNat y0)).1)) (.out (.inl false)) (.br (true) (.go (IntKind.wrap IntKind.i64 (y0 + (1 : Int)))) (.bad))) (.bad)) (.bad)) (.bad)) (.bad)) (.br (true) (.go (IntKind.wrap IntKind.i64 (y0 + (1 : Int)))) (.bad))) (.bad))) (.bad)) (.bad))) (.bad)) (.bad)) (.out (.inr (())))) (.bad)
noncomputable def g_Ls_StoOk_0 (y1 : List (ByteArray × (List Int))) (x : Int) : Option ((Bool) ⊕ (Unit)) := loopO (g_Ss_StoOk_0 y1) x
noncomputable def xs_StoOk_0 (y1 : List (ByteArray × (List Int))) : ((Bool) ⊕ (Unit)) → Ex × List (Pl × LV) := fun
 | .inl r => (.ret, [(.T 2, .t (.val false [.bool r]))])
 | .inr (r) => (.exit 0, [(.T 2, .t (.val false [.undef]))])
noncomputable def Os_StoOk_1 : Orc := fun b h => match b, h with
 | 0, [(.T 1, .t (.val false [.ptr 1 0 0])), (.T 3, .t (.val false [.int .i64 y0])), (.B 1, .b 0 false [.sl .any 49 (.pair .str (.sl 3 (.int .i64))) y1])] => some (okO (g_Ls_StoOk_0 y1 y0), (.br (isL (valO (g_Ls_StoOk_0 y1 y0))) (.leaf .ret [(.T 2, .t (.val false [.bool (getL (valO (g_Ls_StoOk_0 y1 y0)))]))]) (.leaf (.exit 0) [(.T 2, .t (.val false [.undef]))])))
 | b, h => Os_StoOk_0 b h
theorem bs_StoOk_0 (y0 : Int) (y1 : List (ByteArray × (List Int))) : Tr.bt Es_StoOk Os_StoOk_0 (exec Es_StoOk 0 cs_StoOk_0 (St.of (hs_StoOk_0 y0 y1)) (leafRd Es_StoOk 0)) = (g_Ss_StoOk_0 y1 y0).bt (fun (y0 : Int) => (hs_StoOk_0 y0 y1)) (xs_StoOk_0 y1) := by kernel_rfl
theorem ks_StoOk_1 : OrcOk Es_StoOk Os_StoOk_1 lss_StoOk 1 := orc_add ks_StoOk_0 (fun n p hp h ex h' ho => by
 obtain ⟨b, c⟩ := p
 obtain ⟨xt, h1, h2⟩ := ho
 have h1 : Os_StoOk_1 b h = some (true, xt) := h1
 unfold Os_StoOk_1 at h1
 split at h1
 ·injection h1 with h1
  injection h1 with e1 e2
  subst e2
  have hc : c = cs_StoOk_0 := ms_StoOk_0 _ hp rfl
  subst hc
  right
  rename_i y0 y1
  have key := LT_step ks_StoOk_0 hp (fun q hq => loopsAll_in _ _ _ _ hp hq) (fun (y0 : Int) => (hs_StoOk_0 y0 y1)) (xs_StoOk_0 y1) (g_Ss_StoOk_0 y1) (fun x => by first | exact bs_StoOk_0 x y1) n (x := y0) (okO_some e1)
  have hx : ∀ r, XT.sel (.br (isL r) (.leaf .ret [(.T 2, .t (.val false [.bool (getL r)]))]) (.leaf (.exit 0) [(.T 2, .t (.val false [.undef]))])) = xs_StoOk_0 y1 r := fun r => by first | rfl | (rcases r with r | r <;> rfl) | (rcases r with r | r | r <;> rfl) | (rcases r with r | r | r | r <;> rfl)
  have h3 := (hx (valO (g_Ls_StoOk_0 y1 y0))).symm.trans h2
  have e3 := congrArg Prod.fst h3
  have e4 := congrArg Prod.snd h3
  simp only at e3 e4
  rw [← e3, ← e4]
  exact key
 ·exact .inl ⟨xt, h1, h2⟩)
noncomputable def g_As_StoOk (a0 : List (ByteArray × (List Int))) : Bool := decide ((↑(List.length a0) : Int) > (40 : Int)) || okO (g_Ls_StoOk_0 a0 (0 : Int))
noncomputable def g_Vs_StoOk_0 (a0 : List (ByteArray × (List Int))) : Bool := bif decide ((↑(List.length a0) : Int) > (40 : Int)) then false else bif isL (valO (g_Ls_StoOk_0 a0 (0 : Int))) then getL (valO (g_Ls_StoOk_0 a0 (0 : Int))) else true
noncomputable def Fs_StoOk : FSem := fun ys => match ys with
 | [.val true [.sl .any 49 (.pair .str (.sl 3 (.int .i64))) a0]] => some ((g_As_StoOk a0), .val false [.bool (g_Vs_StoOk_0 a0)], [])
 | _ => none
theorem vs_StoOk (a0 : List (ByteArray × (List Int))) : collapseH .std Es_StoOk Os_StoOk_1 (execFn Es_StoOk Tryz.f102 mss_StoOk [.val true [.sl .any 49 (.pair .str (.sl 3 (.int .i64))) a0]]) = some ((g_As_StoOk a0), .val false [.bool (g_Vs_StoOk_0 a0)], []) := by kernel_rfl
theorem ss_StoOk : Sound Tryz.prog 102 mss_StoOk Fs_StoOk := by
 refine fn_gen goods_StoOk (by kernel_rfl) .std (fn := Tryz.f102) (c := (Tryz.f102.body.getD .skip)) (o := Os_StoOk_1) (k := 1) (by kernel_rfl) (by kernel_rfl) (by kernel_rfl) (by kernel_rfl) (by decide) ks_StoOk_1 ?_
 intro ys r outs h
 unfold Fs_StoOk at h
 split at h
 ·exact (vs_StoOk _).trans h
 ·cases h
noncomputable def Es_l1Copy : Env where
 tt := mkTI Tryz.prog
 fn := fun _ => none
 bxf := fun _ => none
 mv := []
 keep := fun b => match b with
  | 0 => [(1, false), (2, false), (3, false), (4, false)]
  | _ => []
 keepB := fun b => match b with
  | 0 => [(1, false), (2, false), (3, false)]
  | _ => []
 keepX := fun b => match b with
  | 0 => [(2, false), (3, false)]
  | _ => []
 keepXB := fun b => match b with
  | 0 => [(2, false), (3, false)]
  | _ => []
theorem goodFs_l1Copy : ∀ f ms F, Es_l1Copy.fn f = some (ms, F) → Sound Tryz.prog f ms F := fun f ms F h => by cases h
theorem goodBs_l1Copy : ∀ f ms F, Es_l1Copy.bxf f = some (ms, F) → SoundB Tryz.prog f ms F := fun f ms F h => by cases h
theorem goods_l1Copy : Good Tryz.prog Es_l1Copy := ⟨rfl, goodFs_l1Copy, goodBs_l1Copy⟩
noncomputable def Os_l1Copy_0 : Orc := fun _ _ => none
noncomputable def mss_l1Copy : List PM := [.rd]
noncomputable def lss_l1Copy : List (Nat × Code) := loopsAll 0 (Tryz.f112.body.getD .skip)
noncomputable def cs_l1Copy_0 : Code := (loopOf 0 (Tryz.f112.body.getD .skip)).getD .skip
theorem lseqs_l1Copy : lss_l1Copy = [(0, cs_l1Copy_0)] := by kernel_rfl
theorem ms_l1Copy_0 : ∀ p, p ∈ lss_l1Copy → p.1 = 0 → p.2 = cs_l1Copy_0 := by
 intro p hp
 rw [lseqs_l1Copy] at hp
 simp only [List.mem_cons, List.not_mem_nil, or_false] at hp
 subst hp; simp
theorem ks_l1Copy_0 : OrcOk Es_l1Copy Os_l1Copy_0 lss_l1Copy 0 := orcOk_none
noncomputable def hs_l1Copy_0 (y0 : Int) (y1 : List (ByteArray × (List Int))) (y2 : List (ByteArray × (List Int))) (y3 : List (ByteArray × (List Int))) : List (Pl × LV) := [(.T 1, .t (.val false [.ptr 1 0 0])), (.T 2, .t (.val false [.ptr 2 0 0])), (.T 3, .t (.val false [.ptr 3 0 0])), (.T 4, .t (.val false [.int .i64 y0])), (.B 1, .b 0 false [.sl .any 49 (.pair .str (.sl 3 (.int .i64))) y1]), (.B 2, .b 0 false [.row 2 1 0]), (.R 2 1, .r 0 (some ⟨false, .any, true, 49, (.pair .str (.sl 3 (.int .i64))), y2⟩)), (.B 3, .b 0 false [.row 3 1 0]), (.R 3 1, .r 0 (some ⟨false, .any, true, 49, (.pair .str (.sl 3 (.int .i64))), y3⟩))]
noncomputable def g_Ss_l1Copy_0 (y1 : List (ByteArray × (List Int))) (y2 : List (ByteArray × (List Int))) : (Int × (List (ByteArray × (List Int)))) → RT (Int × (List (ByteArray × (List Int)))) (((List (ByteArray × (List Int)))))
 | (y0, y3) => .br (true) (.br (decide (y0 < (↑(List.length y1) : Int))) (.br (decide ((0 : Int) ≤ y0 ∧ y0 < (↑(List.length y1) : Int))) (.br (decide ((0 : Int) ≤ y0 ∧ y0 < (↑(List.length y1) : Int))) (.br (decide ((nat_lit 0 + List.length (at_ (Ty.pair Ty.str (Ty.sl (nat_lit 3) (Ty.int IntKind.i64))) y1 (Int.toNat y0)).2) * nat_lit 8 ≤ nat_lit 140737488355328 ∧ nat_lit 0 + List.length (at_ (Ty.pair Ty.str (Ty.sl (nat_lit 3) (Ty.int IntKind.i64))) y1 (Int.toNat y0)).2 ≤ nat_lit 9223372036854775807)) (.br (decide ((List.length y3 + List.length [((at_ (Ty.pair Ty.str (Ty.sl (nat_lit 3) (Ty.int IntKind.i64))) y1 (Int.toNat y0)).1, [] ++ (at_ (Ty.pair Ty.str (Ty.sl (nat_lit 3) (Ty.int IntKind.i64))) y1 (Int.toNat y0)).2)]) * nat_lit 40 ≤ nat_lit 140737488355328 ∧ List.length y3 + List.length [((at_ (Ty.pair Ty.str (Ty.sl (nat_lit 3) (Ty.int IntKind.i64))) y1 (Int.toNat y0)).1, [] ++ (at_ (Ty.pair Ty.str (Ty.sl (nat_lit 3) (Ty.int IntKind.i64))) y1 (Int.toNat y0)).2)] ≤ nat_lit 9223372036854775807)) (.br (true) (.go ((IntKind.wrap IntKind.i64 (y0 + (1 : Int)), y3 ++ [((at_ (Ty.pair Ty.str (Ty.sl (nat_lit 3) (Ty.int IntKind.i64))) y1 (Int.toNat y0)).1, [] ++ (at_ (Ty.pair Ty.str (Ty.sl (nat_lit 3) (Ty.int IntKind.i64))) y1 (Int.toNat y0)).2)]))) (.bad)) (.bad)) (.bad)) (.bad)) (.bad)) (.out (y3))) (.bad)
noncomputable def g_Ls_l1Copy_0 (y1 : List (ByteArray × (List Int))) (y2 : List (ByteArray × (List Int))) (x : Int × (List (ByteArray × (List Int)))) : Option (((List (ByteArray × (List Int))))) := loopO (g_Ss_l1Copy_0 y1 y2) x
noncomputable def xs_l1Copy_0 (y1 : List (ByteArray × (List Int))) (y2 : List (ByteArray × (List Int))) : (((List (ByteArray × (List Int))))) → Ex × List (Pl × LV) := fun r => (.exit 0, [(.T 2, .t (.val false [.ptr 2 0 0])), (.T 3, .t (.val false [.ptr 3 0 0])), (.B 2, .b 0 false [.row 2 1 0]), (.R 2 1, .r 0 (some ⟨false, .any, true, 49, (.pair .str (.sl 3 (.int .i64))), y2⟩)), (.B 3, .b 0 false [.row 3 1 0]), (.R 3 1, .r 0 (some ⟨false, .any, true, 49, (.pair .str (.sl 3 (.int .i64))), r⟩))])
noncomputable def Os_l1Copy_1 : Orc := fun b h => match b, h with
 | 0, [(.T 1, .t (.val false [.ptr 1 0 0])), (.T 2, .t (.val false [.ptr 2 0 0])), (.T 3, .t (.val false [.ptr 3 0 0])), (.T 4, .t (.val false [.int .i64 y0])), (.B 1, .b 0 false [.sl .any 49 (.pair .str (.sl 3 (.int .i64))) y1]), (.B 2, .b 0 false [.row 2 1 0]), (.R 2 1, .r 0 (some ⟨false, .any, true, 49, (.pair .str (.sl 3 (.int .i64))), y2⟩)), (.B 3, .b 0 false [.row 3 1 0]), (.R 3 1, .r 0 (some ⟨false, .any, true, 49, (.pair .str (.sl 3 (.int .i64))), y3⟩))] => some (okO (g_Ls_l1Copy_0 y1 y2 (y0, y3)), (.leaf (.exit 0) [(.T 2, .t (.val false [.ptr 2 0 0])), (.T 3, .t (.val false [.ptr 3 0 0])), (.B 2, .b 0 false [.row 2 1 0]), (.R 2 1, .r 0 (some ⟨false, .any, true, 49, (.pair .str (.sl 3 (.int .i64))), y2⟩)), (.B 3, .b 0 false [.row 3 1 0]), (.R 3 1, .r 0 (some ⟨false, .any, true, 49, (.pair .str (.sl 3 (.int .i64))), (valO (g_Ls_l1Copy_0 y1 y2 (y0, y3)))⟩))]))
 | b, h => Os_l1Copy_0 b h
theorem bs_l1Copy_0 (y0 : Int) (y1 : List (ByteArray × (List Int))) (y2 : List (ByteArray × (List Int))) (y3 : List (ByteArray × (List Int))) : Tr.bt Es_l1Copy Os_l1Copy_0 (exec Es_l1Copy 0 cs_l1Copy_0 (St.of (hs_l1Copy_0 y0 y1 y2 y3)) (leafRd Es_l1Copy 0)) = (g_Ss_l1Copy_0 y1 y2 (y0, y3)).bt (fun ((y0, y3) : Int × (List (ByteArray × (List Int)))) => (hs_l1Copy_0 y0 y1 y2 y3)) (xs_l1Copy_0 y1 y2) := by kernel_rfl
theorem ks_l1Copy_1 : OrcOk Es_l1Copy Os_l1Copy_1 lss_l1Copy 1 := orc_add ks_l1Copy_0 (fun n p hp h ex h' ho => by
 obtain ⟨b, c⟩ := p
 obtain ⟨xt, h1, h2⟩ := ho
 have h1 : Os_l1Copy_1 b h = some (true, xt) := h1
 unfold Os_l1Copy_1 at h1
 split at h1
 ·injection h1 with h1
  injection h1 with e1 e2
  subst e2
  have hc : c = cs_l1Copy_0 := ms_l1Copy_0 _ hp rfl
  subst hc
  right
  rename_i y0 y1 y2 y3
  have key := LT_step ks_l1Copy_0 hp (fun q hq => loopsAll_in _ _ _ _ hp hq) (fun ((y0, y3) : Int × (List (ByteArray × (List Int)))) => (hs_l1Copy_0 y0 y1 y2 y3)) (xs_l1Copy_0 y1 y2) (g_Ss_l1Copy_0 y1 y2) (fun x => by first | exact bs_l1Copy_0 x.1 y1 y2 x.2) n (x := (y0, y3)) (okO_some e1)
  have hx : ∀ r, XT.sel (.leaf (.exit 0) [(.T 2, .t (.val false [.ptr 2 0 0])), (.T 3, .t (.val false [.ptr 3 0 0])), (.B 2, .b 0 false [.row 2 1 0]), (.R 2 1, .r 0 (some ⟨false, .any, true, 49, (.pair .str (.sl 3 (.int .i64))), y2⟩)), (.B 3, .b 0 false [.row 3 1 0]), (.R 3 1, .r 0 (some ⟨false, .any, true, 49, (.pair .str (.sl 3 (.int .i64))), r⟩))]) = xs_l1Copy_0 y1 y2 r := fun r => by first | rfl | (rcases r with r | r <;> rfl) | (rcases r with r | r | r <;> rfl) | (rcases r with r | r | r | r <;> rfl)
  have h3 := (hx (valO (g_Ls_l1Copy_0 y1 y2 (y0, y3)))).symm.trans h2
  have e3 := congrArg Prod.fst h3
  have e4 := congrArg Prod.snd h3
  simp only at e3 e4
  rw [← e3, ← e4]
  exact key
 ·exact .inl ⟨xt, h1, h2⟩)
noncomputable def g_As_l1Copy (a0 : List (ByteArray × (List Int))) : Bool := okO (g_Ls_l1Copy_0 a0 [] ((0 : Int), []))
noncomputable def g_Vs_l1Copy_0 (a0 : List (ByteArray × (List Int))) : List (ByteArray × (List Int)) := valO (g_Ls_l1Copy_0 a0 [] ((0 : Int), []))
noncomputable def Fs_l1Copy : FSem := fun ys => match ys with
 | [.val true [.sl .any 49 (.pair .str (.sl 3 (.int .i64))) a0]] => some ((g_As_l1Copy a0), .val true [.own .any true 49 (.pair .str (.sl 3 (.int .i64))) (g_Vs_l1Copy_0 a0)], [])
 | _ => none
theorem vs_l1Copy (a0 : List (ByteArray × (List Int))) : collapseH .std Es_l1Copy Os_l1Copy_1 (execFn Es_l1Copy Tryz.f112 mss_l1Copy [.val true [.sl .any 49 (.pair .str (.sl 3 (.int .i64))) a0]]) = some ((g_As_l1Copy a0), .val true [.own .any true 49 (.pair .str (.sl 3 (.int .i64))) (g_Vs_l1Copy_0 a0)], []) := by kernel_rfl
theorem ss_l1Copy : Sound Tryz.prog 112 mss_l1Copy Fs_l1Copy := by
 refine fn_gen goods_l1Copy (by kernel_rfl) .std (fn := Tryz.f112) (c := (Tryz.f112.body.getD .skip)) (o := Os_l1Copy_1) (k := 1) (by kernel_rfl) (by kernel_rfl) (by kernel_rfl) (by kernel_rfl) (by decide) ks_l1Copy_1 ?_
 intro ys r outs h
 unfold Fs_l1Copy at h
 split at h
 ·exact (vs_l1Copy _).trans h
 ·cases h
noncomputable def Es_l1Write : Env where
 tt := mkTI Tryz.prog
 fn := fun _ => none
 bxf := fun _ => none
 mv := []
 keep := fun b => match b with
  | 0 => [(2, false), (3, false), (4, false), (5, true), (6, false), (7, false)]
  | _ => []
 keepB := fun b => match b with
  | 0 => [(2, false), (3, false), (4, false), (5, true)]
  | _ => []
 keepX := fun b => match b with
  | 0 => [(3, false), (4, false), (5, true), (6, false)]
  | _ => []
 keepXB := fun b => match b with
  | 0 => [(3, false), (4, false), (5, true)]
  | _ => []
theorem goodFs_l1Write : ∀ f ms F, Es_l1Write.fn f = some (ms, F) → Sound Tryz.prog f ms F := fun f ms F h => by cases h
theorem goodBs_l1Write : ∀ f ms F, Es_l1Write.bxf f = some (ms, F) → SoundB Tryz.prog f ms F := fun f ms F h => by cases h
theorem goods_l1Write : Good Tryz.prog Es_l1Write := ⟨rfl, goodFs_l1Write, goodBs_l1Write⟩
noncomputable def Os_l1Write_0 : Orc := fun _ _ => none
noncomputable def mss_l1Write : List PM := [.fz, .fz]
noncomputable def lss_l1Write : List (Nat × Code) := loopsAll 0 (Tryz.f114.body.getD .skip)
noncomputable def cs_l1Write_0 : Code := (loopOf 0 (Tryz.f114.body.getD .skip)).getD .skip
theorem lseqs_l1Write : lss_l1Write = [(0, cs_l1Write_0)] := by kernel_rfl
theorem ms_l1Write_0 : ∀ p, p ∈ lss_l1Write → p.1 = 0 → p.2 = cs_l1Write_0 := by
 intro p hp
 rw [lseqs_l1Write] at hp
 simp only [List.mem_cons, List.not_mem_nil, or_false] at hp
 subst hp; simp
theorem ks_l1Write_0 : OrcOk Es_l1Write Os_l1Write_0 lss_l1Write 0 := orcOk_none
noncomputable def hs_l1Write_0 (y0 : Bool) (y1 : Int) (y2 : List (ByteArray × (List Int))) (y3 : ByteArray) (y4 : Bool) (y5 : List Int) (y6 : List (ByteArray × (List Int))) (y7 : List (ByteArray × (List Int))) : List (Pl × LV) := [(.T 2, .t (.val false [.ptr 2 0 0])), (.T 3, .t (.val false [.ptr 3 0 0])), (.T 4, .t (.val false [.ptr 4 0 0])), (.T 5, .t (.val false [.ptr 5 0 0])), (.T 6, .t (.val false [.bool y0])), (.T 7, .t (.val false [.int .i64 y1])), (.B 2, .b 0 false [.sl .any 49 (.pair .str (.sl 3 (.int .i64))) y2]), (.B 3, .b 0 false [.str y3, .bool y4, .sl .any 3 (.int .i64) y5]), (.B 4, .b 0 false [.row 4 1 0]), (.R 4 1, .r 0 (some ⟨false, .any, true, 49, (.pair .str (.sl 3 (.int .i64))), y6⟩)), (.B 5, .b 0 false [.row 5 1 0]), (.R 5 1, .r 0 (some ⟨false, .any, false, 49, (.pair .str (.sl 3 (.int .i64))), y7⟩))]
noncomputable def g_Ss_l1Write_0 (y2 : List (ByteArray × (List Int))) (y3 : ByteArray) (y4 : Bool) (y5 : List Int) (y6 : List (ByteArray × (List Int))) : (Bool × Int × (List (ByteArray × (List Int)))) → RT (Bool × Int × (List (ByteArray × (List Int)))) ((Bool × (List (ByteArray × (List Int)))))
 | (y0, y1, y7) => .br (true) (.br (decide (y1 < (↑(List.length y2) : Int))) (.br (decide ((0 : Int) ≤ y1 ∧ y1 < (↑(List.length y2) : Int))) (.br (!y0) (.br (true) (.br (Op.bytesLess (ByteArray.toList y3) (ByteArray.toList (at_ (Ty.pair Ty.str (Ty.sl (nat_lit 3) (Ty.int IntKind.i64))) y2 (Int.toNat y1)).1)) (.br (decide ((nat_lit 0 + List.length y5) * nat_lit 8 ≤ nat_lit 140737488355328 ∧ nat_lit 0 + List.length y5 ≤ nat_lit 9223372036854775807)) (.br (decide ((List.length y7 + List.length [(y3, [] ++ y5)]) * nat_lit 40 ≤ nat_lit 140737488355328 ∧ List.length y7 + List.length [(y3, [] ++ y5)] ≤ nat_lit 9223372036854775807)) (.br (true) (.br (!ByteArray.toList (at_ (Ty.pair Ty.str (Ty.sl (nat_lit 3) (Ty.int IntKind.i64))) y2 (Int.toNat y1)).1 == ByteArray.toList y3) (.br (decide ((List.length (y7 ++ [(y3, [] ++ y5)]) + List.length [((at_ (Ty.pair Ty.str (Ty.sl (nat_lit 3) (Ty.int IntKind.i64))) y2 (Int.toNat y1)).1, (at_ (Ty.pair Ty.str (Ty.sl (nat_lit 3) (Ty.int IntKind.i64))) y2 (Int.toNat y1)).2)]) * nat_lit 40 ≤ nat_lit 140737488355328 ∧ List.length (y7 ++ [(y3, [] ++ y5)]) + List.length [((at_ (Ty.pair Ty.str (Ty.sl (nat_lit 3) (Ty.int IntKind.i64))) y2 (Int.toNat y1)).1, (at_ (Ty.pair Ty.str (Ty.sl (nat_lit 3) (Ty.int IntKind.i64))) y2 (Int.toNat y1)).2)] ≤ nat_lit 9223372036854775807)) (.br (true) (.go ((true, IntKind.wrap IntKind.i64 (y1 + (1 : Int)), y7 ++ [(y3, [] ++ y5)] ++ [((at_ (Ty.pair Ty.str (Ty.sl (nat_lit 3) (Ty.int IntKind.i64))) y2 (Int.toNat y1)).1, (at_ (Ty.pair Ty.str (Ty.sl (nat_lit 3) (Ty.int IntKind.i64))) y2 (Int.toNat y1)).2)]))) (.bad)) (.bad)) (.br (!y4) (.br (decide ((nat_lit 0 + List.length y5) * nat_lit 8 ≤ nat_lit 140737488355328 ∧ nat_lit 0 + List.length y5 ≤ nat_lit 9223372036854775807)) (.br (decide ((List.length (y7 ++ [(y3, [] ++ y5)]) + List.length [(y3, [] ++ y5)]) * nat_lit 40 ≤ nat_lit 140737488355328 ∧ List.length (y7 ++ [(y3, [] ++ y5)]) + List.length [(y3, [] ++ y5)] ≤ nat_lit 9223372036854775807)) (.br (true) (.go ((true, IntKind.wrap IntKind.i64 (y1 + (1 : Int)), y7 ++ [(y3, [] ++ y5)] ++ [(y3, [] ++ y5)]))) (.bad)) (.bad)) (.bad)) (.br (true) (.go ((true, IntKind.wrap IntKind.i64 (y1 + (1 : Int)), y7 ++ [(y3, [] ++ y5)]))) (.bad)))) (.bad)) (.bad)) (.bad)) (.br (true) (.br (!ByteArray.toList (at_ (Ty.pair Ty.str (Ty.sl (nat_lit 3) (Ty.int IntKind.i64))) y2 (Int.toNat y1)).1 == ByteArray.toList y3) (.br (decide ((List.length y7 + List.length [((at_ (Ty.pair Ty.str (Ty.sl (nat_lit 3) (Ty.int IntKind.i64))) y2 (Int.toNat y1)).1, (at_ (Ty.pair Ty.str (Ty.sl (nat_lit 3) (Ty.int IntKind.i64))) y2 (Int.toNat y1)).2)]) * nat_lit 40 ≤ nat_lit 140737488355328 ∧ List.length y7 + List.length [((at_ (Ty.pair Ty.str (Ty.sl (nat_lit 3) (Ty.int IntKind.i64))) y2 (Int.toNat y1)).1, (at_ (Ty.pair Ty.str (Ty.sl (nat_lit 3) (Ty.int IntKind.i64))) y2 (Int.toNat y1)).2)] ≤ nat_lit 9223372036854775807)) (.br (true) (.go ((y0, IntKind.wrap IntKind.i64 (y1 + (1 : Int)), y7 ++ [((at_ (Ty.pair Ty.str (Ty.sl (nat_lit 3) (Ty.int IntKind.i64))) y2 (Int.toNat y1)).1, (at_ (Ty.pair Ty.str (Ty.sl (nat_lit 3) (Ty.int IntKind.i64))) y2 (Int.toNat y1)).2)]))) (.bad)) (.bad)) (.br (!y4) (.br (decide ((nat_lit 0 + List.length y5) * nat_lit 8 ≤ nat_lit 140737488355328 ∧ nat_lit 0 + List.length y5 ≤ nat_lit 9223372036854775807)) (.br (decide ((List.length y7 + List.length [(y3, [] ++ y5)]) * nat_lit 40 ≤ nat_lit 140737488355328 ∧ List.length y7 + List.length [(y3, [] ++ y5)] ≤ nat_lit 9223372036854775807)) (.br (true) (.go ((true, IntKind.wrap IntKind.i64 (y1 + (1 : Int)), y7 ++ [(y3, [] ++ y5)]))) (.bad)) (.bad)) (.bad)) (.br (true) (.go ((y0, IntKind.wrap IntKind.i64 (y1 + (1 : Int)), y7))) (.bad)))) (.bad))) (.bad)) (.br (true) (.br (!ByteArray.toList (at_ (Ty.pair Ty.str (Ty.sl (nat_lit 3) (Ty.int IntKind.i64))) y2 (Int.toNat y1)).1 == ByteArray.toList y3) (.br (decide ((List.length y7 + List.length [((at_ (Ty.pair Ty.str (Ty.sl (nat_lit 3) (Ty.int IntKind.i64))) y2 (Int.toNat y1)).1, (at_ (Ty.pair Ty.str (Ty.sl (nat_lit 3) (Ty.int IntKind.i64))) y2 (Int.toNat y1)).2)]) * nat_lit 40 ≤ nat_lit 140737488355328 ∧ List.length y7 + List.length [((at_ (Ty.pair Ty.str (Ty.sl (nat_lit 3) (Ty.int IntKind.i64))) y2 (Int.toNat y1)).1, (at_ (Ty.pair Ty.str (Ty.sl (nat_lit 3) (Ty.int IntKind.i64))) y2 (Int.toNat y1)).2)] ≤ nat_lit 9223372036854775807)) (.br (true) (.go ((y0, IntKind.wrap IntKind.i64 (y1 + (1 : Int)), y7 ++ [((at_ (Ty.pair Ty.str (Ty.sl (nat_lit 3) (Ty.int IntKind.i64))) y2 (Int.toNat y1)).1, (at_ (Ty.pair Ty.str (Ty.sl (nat_lit 3) (Ty.int IntKind.i64))) y2 (Int.toNat y1)).2)]))) (.bad)) (.bad)) (.br (!y4) (.br (decide ((nat_lit 0 + List.length y5) * nat_lit 8 ≤ nat_lit 140737488355328 ∧ nat_lit 0 + List.length y5 ≤ nat_lit 9223372036854775807)) (.br (decide ((List.length y7 + List.length [(y3, [] ++ y5)]) * nat_lit 40 ≤ nat_lit 140737488355328 ∧ List.length y7 + List.length [(y3, [] ++ y5)] ≤ nat_lit 9223372036854775807)) (.br (true) (.go ((true, IntKind.wrap IntKind.i64 (y1 + (1 : Int)), y7 ++ [(y3, [] ++ y5)]))) (.bad)) (.bad)) (.bad)) (.br (true) (.go ((y0, IntKind.wrap IntKind.i64 (y1 + (1 : Int)), y7))) (.bad)))) (.bad))) (.bad)) (.out ((y0, y7)))) (.bad)
noncomputable def g_Ls_l1Write_0 (y2 : List (ByteArray × (List Int))) (y3 : ByteArray) (y4 : Bool) (y5 : List Int) (y6 : List (ByteArray × (List Int))) (x : Bool × Int × (List (ByteArray × (List Int)))) : Option ((Bool × (List (ByteArray × (List Int))))) := loopO (g_Ss_l1Write_0 y2 y3 y4 y5 y6) x
noncomputable def xs_l1Write_0 (y2 : List (ByteArray × (List Int))) (y3 : ByteArray) (y4 : Bool) (y5 : List Int) (y6 : List (ByteArray × (List Int))) : ((Bool × (List (ByteArray × (List Int))))) → Ex × List (Pl × LV) := fun r => (.exit 0, [(.T 3, .t (.val false [.ptr 3 0 0])), (.T 4, .t (.val false [.ptr 4 0 0])), (.T 5, .t (.val false [.ptr 5 0 0])), (.T 6, .t (.val false [.bool r.1])), (.B 3, .b 0 false [.str y3, .bool y4, .sl .any 3 (.int .i64) y5]), (.B 4, .b 0 false [.row 4 1 0]), (.R 4 1, .r 0 (some ⟨false, .any, true, 49, (.pair .str (.sl 3 (.int .i64))), y6⟩)), (.B 5, .b 0 false [.row 5 1 0]), (.R 5 1, .r 0 (some ⟨false, .any, false, 49, (.pair .str (.sl 3 (.int .i64))), r.2⟩))])
noncomputable def Os_l1Write_1 : Orc := fun b h => match b, h with
 | 0, [(.T 2, .t (.val false [.ptr 2 0 0])), (.T 3, .t (.val false [.ptr 3 0 0])), (.T 4, .t (.val false [.ptr 4 0 0])), (.T 5, .t (.val false [.ptr 5 0 0])), (.T 6, .t (.val false [.bool y0])), (.T 7, .t (.val false [.int .i64 y1])), (.B 2, .b 0 false [.sl .any 49 (.pair .str (.sl 3 (.int .i64))) y2]), (.B 3, .b 0 false [.str y3, .bool y4, .sl .any 3 (.int .i64) y5]), (.B 4, .b 0 false [.row 4 1 0]), (.R 4 1, .r 0 (some ⟨false, .any, true, 49, (.pair .str (.sl 3 (.int .i64))), y6⟩)), (.B 5, .b 0 false [.row 5 1 0]), (.R 5 1, .r 0 (some ⟨false, .any, false, 49, (.pair .str (.sl 3 (.int .i64))), y7⟩))] => some (okO (g_Ls_l1Write_0 y2 y3 y4 y5 y6 (y0, y1, y7)), (.leaf (.exit 0) [(.T 3, .t (.val false [.ptr 3 0 0])), (.T 4, .t (.val false [.ptr 4 0 0])), (.T 5, .t (.val false [.ptr 5 0 0])), (.T 6, .t (.val false [.bool (valO (g_Ls_l1Write_0 y2 y3 y4 y5 y6 (y0, y1, y7))).1])), (.B 3, .b 0 false [.str y3, .bool y4, .sl .any 3 (.int .i64) y5]), (.B 4, .b 0 false [.row 4 1 0]), (.R 4 1, .r 0 (some ⟨false, .any, true, 49, (.pair .str (.sl 3 (.int .i64))), y6⟩)), (.B 5, .b 0 false [.row 5 1 0]), (.R 5 1, .r 0 (some ⟨false, .any, false, 49, (.pair .str (.sl 3 (.int .i64))), (valO (g_Ls_l1Write_0 y2 y3 y4 y5 y6 (y0, y1, y7))).2⟩))]))
 | b, h => Os_l1Write_0 b h
theorem bs_l1Write_0 (y0 : Bool) (y1 : Int) (y2 : List (ByteArray × (List Int))) (y3 : ByteArray) (y4 : Bool) (y5 : List Int) (y6 : List (ByteArray × (List Int))) (y7 : List (ByteArray × (List Int))) : Tr.bt Es_l1Write Os_l1Write_0 (exec Es_l1Write 0 cs_l1Write_0 (St.of (hs_l1Write_0 y0 y1 y2 y3 y4 y5 y6 y7)) (leafRd Es_l1Write 0)) = (g_Ss_l1Write_0 y2 y3 y4 y5 y6 (y0, y1, y7)).bt (fun ((y0, y1, y7) : Bool × Int × (List (ByteArray × (List Int)))) => (hs_l1Write_0 y0 y1 y2 y3 y4 y5 y6 y7)) (xs_l1Write_0 y2 y3 y4 y5 y6) := by kernel_rfl
theorem ks_l1Write_1 : OrcOk Es_l1Write Os_l1Write_1 lss_l1Write 1 := orc_add ks_l1Write_0 (fun n p hp h ex h' ho => by
 obtain ⟨b, c⟩ := p
 obtain ⟨xt, h1, h2⟩ := ho
 have h1 : Os_l1Write_1 b h = some (true, xt) := h1
 unfold Os_l1Write_1 at h1
 split at h1
 ·injection h1 with h1
  injection h1 with e1 e2
  subst e2
  have hc : c = cs_l1Write_0 := ms_l1Write_0 _ hp rfl
  subst hc
  right
  rename_i y0 y1 y2 y3 y4 y5 y6 y7
  have key := LT_step ks_l1Write_0 hp (fun q hq => loopsAll_in _ _ _ _ hp hq) (fun ((y0, y1, y7) : Bool × Int × (List (ByteArray × (List Int)))) => (hs_l1Write_0 y0 y1 y2 y3 y4 y5 y6 y7)) (xs_l1Write_0 y2 y3 y4 y5 y6) (g_Ss_l1Write_0 y2 y3 y4 y5 y6) (fun x => by first | exact bs_l1Write_0 x.1 x.2.1 y2 y3 y4 y5 y6 x.2.2) n (x := (y0, y1, y7)) (okO_some e1)
  have hx : ∀ r, XT.sel (.leaf (.exit 0) [(.T 3, .t (.val false [.ptr 3 0 0])), (.T 4, .t (.val false [.ptr 4 0 0])), (.T 5, .t (.val false [.ptr 5 0 0])), (.T 6, .t (.val false [.bool r.1])), (.B 3, .b 0 false [.str y3, .bool y4, .sl .any 3 (.int .i64) y5]), (.B 4, .b 0 false [.row 4 1 0]), (.R 4 1, .r 0 (some ⟨false, .any, true, 49, (.pair .str (.sl 3 (.int .i64))), y6⟩)), (.B 5, .b 0 false [.row 5 1 0]), (.R 5 1, .r 0 (some ⟨false, .any, false, 49, (.pair .str (.sl 3 (.int .i64))), r.2⟩))]) = xs_l1Write_0 y2 y3 y4 y5 y6 r := fun r => by first | rfl | (rcases r with r | r <;> rfl) | (rcases r with r | r | r <;> rfl) | (rcases r with r | r | r | r <;> rfl)
  have h3 := (hx (valO (g_Ls_l1Write_0 y2 y3 y4 y5 y6 (y0, y1, y7)))).symm.trans h2
  have e3 := congrArg Prod.fst h3
  have e4 := congrArg Prod.snd h3
  simp only at e3 e4
  rw [← e3, ← e4]
  exact key
 ·exact .inl ⟨xt, h1, h2⟩)
noncomputable def g_As_l1Write (a0 : List (ByteArray × (List Int))) (a1 : ByteArray) (a2 : Bool) (a3 : List Int) : Bool := okO (g_Ls_l1Write_0 a0 a1 a2 a3 [] (a2, (0 : Int), [])) && (!!(valO (g_Ls_l1Write_0 a0 a1 a2 a3 [] (a2, (0 : Int), []))).1 || decide ((nat_lit 0 + List.length a3) * nat_lit 8 ≤ nat_lit 140737488355328 ∧ nat_lit 0 + List.length a3 ≤ nat_lit 9223372036854775807) && decide ((List.length (valO (g_Ls_l1Write_0 a0 a1 a2 a3 [] (a2, (0 : Int), []))).2 + List.length [(a1, [] ++ a3)]) * nat_lit 40 ≤ nat_lit 140737488355328 ∧ List.length (valO (g_Ls_l1Write_0 a0 a1 a2 a3 [] (a2, (0 : Int), []))).2 + List.length [(a1, [] ++ a3)] ≤ nat_lit 9223372036854775807))
noncomputable def g_Vs_l1Write_0 (a0 : List (ByteArray × (List Int))) (a1 : ByteArray) (a2 : Bool) (a3 : List Int) : List (ByteArray × (List Int)) := bif !(valO (g_Ls_l1Write_0 a0 a1 a2 a3 [] (a2, (0 : Int), []))).1 then (valO (g_Ls_l1Write_0 a0 a1 a2 a3 [] (a2, (0 : Int), []))).2 ++ [(a1, [] ++ a3)] else (valO (g_Ls_l1Write_0 a0 a1 a2 a3 [] (a2, (0 : Int), []))).2
noncomputable def Fs_l1Write : FSem := fun ys => match ys with
 | [.val true [.sl .any 49 (.pair .str (.sl 3 (.int .i64))) a0], .val true [.str a1, .bool a2, .sl .any 3 (.int .i64) a3]] => some ((g_As_l1Write a0 a1 a2 a3), .val true [.own .any false 49 (.pair .str (.sl 3 (.int .i64))) (g_Vs_l1Write_0 a0 a1 a2 a3)], [])
 | _ => none
theorem vs_l1Write (a0 : List (ByteArray × (List Int))) (a1 : ByteArray) (a2 : Bool) (a3 : List Int) : collapseH .std Es_l1Write Os_l1Write_1 (execFn Es_l1Write Tryz.f114 mss_l1Write [.val true [.sl .any 49 (.pair .str (.sl 3 (.int .i64))) a0], .val true [.str a1, .bool a2, .sl .any 3 (.int .i64) a3]]) = some ((g_As_l1Write a0 a1 a2 a3), .val true [.own .any false 49 (.pair .str (.sl 3 (.int .i64))) (g_Vs_l1Write_0 a0 a1 a2 a3)], []) := by kernel_rfl
theorem ss_l1Write : Sound Tryz.prog 114 mss_l1Write Fs_l1Write := by
 refine fn_gen goods_l1Write (by kernel_rfl) .std (fn := Tryz.f114) (c := (Tryz.f114.body.getD .skip)) (o := Os_l1Write_1) (k := 1) (by kernel_rfl) (by kernel_rfl) (by kernel_rfl) (by kernel_rfl) (by decide) ks_l1Write_1 ?_
 intro ys r outs h
 unfold Fs_l1Write at h
 split at h
 ·exact (vs_l1Write _ _ _ _).trans h
 ·cases h
noncomputable def Es_StoDo : Env where
 tt := mkTI Tryz.prog
 fn := fun f => match f with
  | 102 => some (mss_StoOk, FSem.wk mss_StoOk Fs_StoOk)
  | 112 => some (mss_l1Copy, FSem.wk mss_l1Copy Fs_l1Copy)
  | 113 => some (mss_WrtOk, FSem.wk mss_WrtOk Fs_WrtOk)
  | 114 => some (mss_l1Write, FSem.wk mss_l1Write Fs_l1Write)
  | _ => none
 bxf := fun _ => none
 mv := []
 keep := fun b => match b with
  | 0 => [(1, false), (4, false), (5, true), (6, false)]
  | _ => []
 keepB := fun b => match b with
  | 0 => [(4, false), (5, true)]
  | _ => []
 keepX := fun b => match b with
  | 0 => [(4, false), (5, true)]
  | _ => []
 keepXB := fun b => match b with
  | 0 => [(4, false), (5, true)]
  | _ => []
theorem goodFs_StoDo : ∀ f ms F, Es_StoDo.fn f = some (ms, F) → Sound Tryz.prog f ms F := fun f ms F h => by
 unfold Es_StoDo at h
 dsimp only at h
 split at h
 ·injection h with h; injection h with e1 e2; subst e1 e2; exact Sound.wk ss_StoOk
 ·injection h with h; injection h with e1 e2; subst e1 e2; exact Sound.wk ss_l1Copy
 ·injection h with h; injection h with e1 e2; subst e1 e2; exact Sound.wk ss_WrtOk
 ·injection h with h; injection h with e1 e2; subst e1 e2; exact Sound.wk ss_l1Write
 ·cases h
theorem goodBs_StoDo : ∀ f ms F, Es_StoDo.bxf f = some (ms, F) → SoundB Tryz.prog f ms F := fun f ms F h => by cases h
theorem goods_StoDo : Good Tryz.prog Es_StoDo := ⟨rfl, goodFs_StoDo, goodBs_StoDo⟩
noncomputable def Os_StoDo_0 : Orc := fun _ _ => none
noncomputable def mss_StoDo : List PM := [.rd, .rd]
noncomputable def lss_StoDo : List (Nat × Code) := loopsAll 0 (Tryz.f67.body.getD .skip)
noncomputable def cs_StoDo_0 : Code := (loopOf 0 (Tryz.f67.body.getD .skip)).getD .skip
theorem lseqs_StoDo : lss_StoDo = [(0, cs_StoDo_0)] := by kernel_rfl
theorem ms_StoDo_0 : ∀ p, p ∈ lss_StoDo → p.1 = 0 → p.2 = cs_StoDo_0 := by
 intro p hp
 rw [lseqs_StoDo] at hp
 simp only [List.mem_cons, List.not_mem_nil, or_false] at hp
 subst hp; simp
theorem ks_StoDo_0 : OrcOk Es_StoDo Os_StoDo_0 lss_StoDo 0 := orcOk_none
noncomputable def hs_StoDo_0 (y0 : List (ByteArray × (Bool × (List Int)))) (y1 : Int) (y2 : List (ByteArray × (List Int))) (y3 : List (ByteArray × (List Int))) : List (Pl × LV) := [(.T 1, .t (.val false [.sl .any 39 (.pair .str (.pair .bool (.sl 3 (.int .i64)))) y0])), (.T 4, .t (.val false [.ptr 4 0 0])), (.T 5, .t (.val false [.ptr 5 0 0])), (.T 6, .t (.val false [.int .i64 y1])), (.B 4, .b 0 false [.row 4 1 0]), (.R 4 1, .r 0 (some ⟨false, .any, true, 49, (.pair .str (.sl 3 (.int .i64))), y2⟩)), (.B 5, .b 0 false [.row 5 1 0]), (.R 5 1, .r 0 (some ⟨false, .any, false, 49, (.pair .str (.sl 3 (.int .i64))), y3⟩))]
noncomputable def g_Ss_StoDo_0 (y0 : List (ByteArray × (Bool × (List Int)))) (y2 : List (ByteArray × (List Int))) : (Int × (List (ByteArray × (List Int)))) → RT (Int × (List (ByteArray × (List Int)))) (((List (ByteArray × (List Int))) × (List (ByteArray × (List Int)))) ⊕ ((List (ByteArray × (List Int)))))
 | (y1, y3) => .br (true) (.br (decide (y1 < (↑(List.length y0) : Int))) (.br (decide ((0 : Int) ≤ y1 ∧ y1 < (↑(List.length y0) : Int))) (.br (g_As_WrtOk (at_ (Ty.pair Ty.str (Ty.pair Ty.bool (Ty.sl (nat_lit 3) (Ty.int IntKind.i64)))) y0 (Int.toNat y1)).1 (at_ (Ty.pair Ty.str (Ty.pair Ty.bool (Ty.sl (nat_lit 3) (Ty.int IntKind.i64)))) y0 (Int.toNat y1)).2.1 (at_ (Ty.pair Ty.str (Ty.pair Ty.bool (Ty.sl (nat_lit 3) (Ty.int IntKind.i64)))) y0 (Int.toNat y1)).2.2) (.br (!g_Vs_WrtOk_0 (at_ (Ty.pair Ty.str (Ty.pair Ty.bool (Ty.sl (nat_lit 3) (Ty.int IntKind.i64)))) y0 (Int.toNat y1)).1 (at_ (Ty.pair Ty.str (Ty.pair Ty.bool (Ty.sl (nat_lit 3) (Ty.int IntKind.i64)))) y0 (Int.toNat y1)).2.1 (at_ (Ty.pair Ty.str (Ty.pair Ty.bool (Ty.sl (nat_lit 3) (Ty.int IntKind.i64)))) y0 (Int.toNat y1)).2.2) (.out (.inl (([], y3)))) (.br (decide ((0 : Int) ≤ y1 ∧ y1 < (↑(List.length y0) : Int))) (.br (g_As_l1Write y3 (at_ (Ty.pair Ty.str (Ty.pair Ty.bool (Ty.sl (nat_lit 3) (Ty.int IntKind.i64)))) y0 (Int.toNat y1)).1 (at_ (Ty.pair Ty.str (Ty.pair Ty.bool (Ty.sl (nat_lit 3) (Ty.int IntKind.i64)))) y0 (Int.toNat y1)).2.1 (at_ (Ty.pair Ty.str (Ty.pair Ty.bool (Ty.sl (nat_lit 3) (Ty.int IntKind.i64)))) y0 (Int.toNat y1)).2.2) (.br (true) (.br (decide ((↑(List.length (g_Vs_l1Write_0 y3 (at_ (Ty.pair Ty.str (Ty.pair Ty.bool (Ty.sl (nat_lit 3) (Ty.int IntKind.i64)))) y0 (Int.toNat y1)).1 (at_ (Ty.pair Ty.str (Ty.pair Ty.bool (Ty.sl (nat_lit 3) (Ty.int IntKind.i64)))) y0 (Int.toNat y1)).2.1 (at_ (Ty.pair Ty.str (Ty.pair Ty.bool (Ty.sl (nat_lit 3) (Ty.int IntKind.i64)))) y0 (Int.toNat y1)).2.2)) : Int) > (40 : Int))) (.out (.inl (([], g_Vs_l1Write_0 y3 (at_ (Ty.pair Ty.str (Ty.pair Ty.bool (Ty.sl (nat_lit 3) (Ty.int IntKind.i64)))) y0 (Int.toNat y1)).1 (at_ (Ty.pair Ty.str (Ty.pair Ty.bool (Ty.sl (nat_lit 3) (Ty.int IntKind.i64)))) y0 (Int.toNat y1)).2.1 (at_ (Ty.pair Ty.str (Ty.pair Ty.bool (Ty.sl (nat_lit 3) (Ty.int IntKind.i64)))) y0 (Int.toNat y1)).2.2)))) (.br (true) (.go ((IntKind.wrap IntKind.i64 (y1 + (1 : Int)), g_Vs_l1Write_0 y3 (at_ (Ty.pair Ty.str (Ty.pair Ty.bool (Ty.sl (nat_lit 3) (Ty.int IntKind.i64)))) y0 (Int.toNat y1)).1 (at_ (Ty.pair Ty.str (Ty.pair Ty.bool (Ty.sl (nat_lit 3) (Ty.int IntKind.i64)))) y0 (Int.toNat y1)).2.1 (at_ (Ty.pair Ty.str (Ty.pair Ty.bool (Ty.sl (nat_lit 3) (Ty.int IntKind.i64)))) y0 (Int.toNat y1)).2.2))) (.bad))) (.bad)) (.bad)) (.bad))) (.bad)) (.bad)) (.out (.inr (y3)))) (.bad)
noncomputable def g_Ls_StoDo_0 (y0 : List (ByteArray × (Bool × (List Int)))) (y2 : List (ByteArray × (List Int))) (x : Int × (List (ByteArray × (List Int)))) : Option (((List (ByteArray × (List Int))) × (List (ByteArray × (List Int)))) ⊕ ((List (ByteArray × (List Int))))) := loopO (g_Ss_StoDo_0 y0 y2) x
noncomputable def xs_StoDo_0 (y0 : List (ByteArray × (Bool × (List Int)))) (y2 : List (ByteArray × (List Int))) : (((List (ByteArray × (List Int))) × (List (ByteArray × (List Int)))) ⊕ ((List (ByteArray × (List Int))))) → Ex × List (Pl × LV) := fun
 | .inl r => (.ret, [(.T 4, .t (.val false [.ptr 4 0 0])), (.T 5, .t (.val false [.ptr 5 0 0])), (.B 4, .b 0 false [.row 4 1 0]), (.R 4 1, .r 0 (some ⟨false, .any, true, 49, (.pair .str (.sl 3 (.int .i64))), r.1⟩)), (.B 5, .b 0 false [.row 5 1 0]), (.R 5 1, .r 0 (some ⟨false, .any, false, 49, (.pair .str (.sl 3 (.int .i64))), r.2⟩))])
 | .inr (r) => (.exit 0, [(.T 4, .t (.val false [.ptr 4 0 0])), (.T 5, .t (.val false [.ptr 5 0 0])), (.B 4, .b 0 false [.row 4 1 0]), (.R 4 1, .r 0 (some ⟨false, .any, true, 49, (.pair .str (.sl 3 (.int .i64))), y2⟩)), (.B 5, .b 0 false [.row 5 1 0]), (.R 5 1, .r 0 (some ⟨false, .any, false, 49, (.pair .str (.sl 3 (.int .i64))), r⟩))])
noncomputable def Os_StoDo_1 : Orc := fun b h => match b, h with
 | 0, [(.T 1, .t (.val false [.sl .any 39 (.pair .str (.pair .bool (.sl 3 (.int .i64)))) y0])), (.T 4, .t (.val false [.ptr 4 0 0])), (.T 5, .t (.val false [.ptr 5 0 0])), (.T 6, .t (.val false [.int .i64 y1])), (.B 4, .b 0 false [.row 4 1 0]), (.R 4 1, .r 0 (some ⟨false, .any, true, 49, (.pair .str (.sl 3 (.int .i64))), y2⟩)), (.B 5, .b 0 false [.row 5 1 0]), (.R 5 1, .r 0 (some ⟨false, .any, false, 49, (.pair .str (.sl 3 (.int .i64))), y3⟩))] => some (okO (g_Ls_StoDo_0 y0 y2 (y1, y3)), (.br (isL (valO (g_Ls_StoDo_0 y0 y2 (y1, y3)))) (.leaf .ret [(.T 4, .t (.val false [.ptr 4 0 0])), (.T 5, .t (.val false [.ptr 5 0 0])), (.B 4, .b 0 false [.row 4 1 0]), (.R 4 1, .r 0 (some ⟨false, .any, true, 49, (.pair .str (.sl 3 (.int .i64))), (getL (valO (g_Ls_StoDo_0 y0 y2 (y1, y3)))).1⟩)), (.B 5, .b 0 false [.row 5 1 0]), (.R 5 1, .r 0 (some ⟨false, .any, false, 49, (.pair .str (.sl 3 (.int .i64))), (getL (valO (g_Ls_StoDo_0 y0 y2 (y1, y3)))).2⟩))]) (.leaf (.exit 0) [(.T 4, .t (.val false [.ptr 4 0 0])), (.T 5, .t (.val false [.ptr 5 0 0])), (.B 4, .b 0 false [.row 4 1 0]), (.R 4 1, .r 0 (some ⟨false, .any, true, 49, (.pair .str (.sl 3 (.int .i64))), y2⟩)), (.B 5, .b 0 false [.row 5 1 0]), (.R 5 1, .r 0 (some ⟨false, .any, false, 49, (.pair .str (.sl 3 (.int .i64))), (getR (valO (g_Ls_StoDo_0 y0 y2 (y1, y3))))⟩))])))
 | b, h => Os_StoDo_0 b h
theorem bs_StoDo_0 (y0 : List (ByteArray × (Bool × (List Int)))) (y1 : Int) (y2 : List (ByteArray × (List Int))) (y3 : List (ByteArray × (List Int))) : Tr.bt Es_StoDo Os_StoDo_0 (exec Es_StoDo 0 cs_StoDo_0 (St.of (hs_StoDo_0 y0 y1 y2 y3)) (leafRd Es_StoDo 0)) = (g_Ss_StoDo_0 y0 y2 (y1, y3)).bt (fun ((y1, y3) : Int × (List (ByteArray × (List Int)))) => (hs_StoDo_0 y0 y1 y2 y3)) (xs_StoDo_0 y0 y2) := by kernel_rfl
theorem ks_StoDo_1 : OrcOk Es_StoDo Os_StoDo_1 lss_StoDo 1 := orc_add ks_StoDo_0 (fun n p hp h ex h' ho => by
 obtain ⟨b, c⟩ := p
 obtain ⟨xt, h1, h2⟩ := ho
 have h1 : Os_StoDo_1 b h = some (true, xt) := h1
 unfold Os_StoDo_1 at h1
 split at h1
 ·injection h1 with h1
  injection h1 with e1 e2
  subst e2
  have hc : c = cs_StoDo_0 := ms_StoDo_0 _ hp rfl
  subst hc
  right
  rename_i y0 y1 y2 y3
  have key := LT_step ks_StoDo_0 hp (fun q hq => loopsAll_in _ _ _ _ hp hq) (fun ((y1, y3) : Int × (List (ByteArray × (List Int)))) => (hs_StoDo_0 y0 y1 y2 y3)) (xs_StoDo_0 y0 y2) (g_Ss_StoDo_0 y0 y2) (fun x => by first | exact bs_StoDo_0 y0 x.1 y2 x.2) n (x := (y1, y3)) (okO_some e1)
  have hx : ∀ r, XT.sel (.br (isL r) (.leaf .ret [(.T 4, .t (.val false [.ptr 4 0 0])), (.T 5, .t (.val false [.ptr 5 0 0])), (.B 4, .b 0 false [.row 4 1 0]), (.R 4 1, .r 0 (some ⟨false, .any, true, 49, (.pair .str (.sl 3 (.int .i64))), (getL r).1⟩)), (.B 5, .b 0 false [.row 5 1 0]), (.R 5 1, .r 0 (some ⟨false, .any, false, 49, (.pair .str (.sl 3 (.int .i64))), (getL r).2⟩))]) (.leaf (.exit 0) [(.T 4, .t (.val false [.ptr 4 0 0])), (.T 5, .t (.val false [.ptr 5 0 0])), (.B 4, .b 0 false [.row 4 1 0]), (.R 4 1, .r 0 (some ⟨false, .any, true, 49, (.pair .str (.sl 3 (.int .i64))), y2⟩)), (.B 5, .b 0 false [.row 5 1 0]), (.R 5 1, .r 0 (some ⟨false, .any, false, 49, (.pair .str (.sl 3 (.int .i64))), (getR r)⟩))])) = xs_StoDo_0 y0 y2 r := fun r => by first | rfl | (rcases r with r | r <;> rfl) | (rcases r with r | r | r <;> rfl) | (rcases r with r | r | r | r <;> rfl)
  have h3 := (hx (valO (g_Ls_StoDo_0 y0 y2 (y1, y3)))).symm.trans h2
  have e3 := congrArg Prod.fst h3
  have e4 := congrArg Prod.snd h3
  simp only at e3 e4
  rw [← e3, ← e4]
  exact key
 ·exact .inl ⟨xt, h1, h2⟩)
noncomputable def g_As_StoDo (a0 : List (ByteArray × (List Int))) (a1 : List (ByteArray × (Bool × (List Int)))) : Bool := g_As_StoOk a0 && (!g_Vs_StoOk_0 a0 || g_As_l1Copy a0 && (okO (g_Ls_StoDo_0 a1 [] ((0 : Int), g_Vs_l1Copy_0 a0)) && (isL (valO (g_Ls_StoDo_0 a1 [] ((0 : Int), g_Vs_l1Copy_0 a0))) || g_As_l1Copy (getR (valO (g_Ls_StoDo_0 a1 [] ((0 : Int), g_Vs_l1Copy_0 a0)))))))
noncomputable def g_Vs_StoDo_0 (a0 : List (ByteArray × (List Int))) (a1 : List (ByteArray × (Bool × (List Int)))) : List (ByteArray × (List Int)) := bif !g_Vs_StoOk_0 a0 then [] else bif isL (valO (g_Ls_StoDo_0 a1 [] ((0 : Int), g_Vs_l1Copy_0 a0))) then (getL (valO (g_Ls_StoDo_0 a1 [] ((0 : Int), g_Vs_l1Copy_0 a0)))).1 else g_Vs_l1Copy_0 (getR (valO (g_Ls_StoDo_0 a1 [] ((0 : Int), g_Vs_l1Copy_0 a0))))
noncomputable def Fs_StoDo : FSem := fun ys => match ys with
 | [.val true [.sl .any 49 (.pair .str (.sl 3 (.int .i64))) a0], .val false [.sl .any 39 (.pair .str (.pair .bool (.sl 3 (.int .i64)))) a1]] => some ((g_As_StoDo a0 a1), .val true [.own .any true 49 (.pair .str (.sl 3 (.int .i64))) (g_Vs_StoDo_0 a0 a1)], [])
 | _ => none
theorem vs_StoDo (a0 : List (ByteArray × (List Int))) (a1 : List (ByteArray × (Bool × (List Int)))) : collapseH .std Es_StoDo Os_StoDo_1 (execFn Es_StoDo Tryz.f67 mss_StoDo [.val true [.sl .any 49 (.pair .str (.sl 3 (.int .i64))) a0], .val false [.sl .any 39 (.pair .str (.pair .bool (.sl 3 (.int .i64)))) a1]]) = some ((g_As_StoDo a0 a1), .val true [.own .any true 49 (.pair .str (.sl 3 (.int .i64))) (g_Vs_StoDo_0 a0 a1)], []) := by kernel_rfl
theorem ss_StoDo : Sound Tryz.prog 67 mss_StoDo Fs_StoDo := by
 refine fn_gen goods_StoDo (by kernel_rfl) .std (fn := Tryz.f67) (c := (Tryz.f67.body.getD .skip)) (o := Os_StoDo_1) (k := 1) (by kernel_rfl) (by kernel_rfl) (by kernel_rfl) (by kernel_rfl) (by decide) ks_StoDo_1 ?_
 intro ys r outs h
 unfold Fs_StoDo at h
 split at h
 ·exact (vs_StoDo _ _).trans h
 ·cases h
noncomputable def Es_l2Ready : Env where
 tt := mkTI Tryz.prog
 fn := fun _ => none
 bxf := fun _ => none
 mv := []
 keep := fun b => match b with
  | 0 => [(0, false), (1, false), (4, false), (6, false)]
  | _ => []
 keepB := fun b => match b with
  | 0 => [(4, false)]
  | _ => []
 keepX := fun b => match b with
  | 0 => [(4, false), (5, false)]
  | _ => []
 keepXB := fun b => match b with
  | 0 => [(4, false)]
  | _ => []
theorem goodFs_l2Ready : ∀ f ms F, Es_l2Ready.fn f = some (ms, F) → Sound Tryz.prog f ms F := fun f ms F h => by cases h
theorem goodBs_l2Ready : ∀ f ms F, Es_l2Ready.bxf f = some (ms, F) → SoundB Tryz.prog f ms F := fun f ms F h => by cases h
theorem goods_l2Ready : Good Tryz.prog Es_l2Ready := ⟨rfl, goodFs_l2Ready, goodBs_l2Ready⟩
noncomputable def Os_l2Ready_0 : Orc := fun _ _ => none
noncomputable def mss_l2Ready : List PM := [.fz, .own]
noncomputable def lss_l2Ready : List (Nat × Code) := loopsAll 0 (Tryz.f66.body.getD .skip)
noncomputable def cs_l2Ready_0 : Code := (loopOf 0 (Tryz.f66.body.getD .skip)).getD .skip
theorem lseqs_l2Ready : lss_l2Ready = [(0, cs_l2Ready_0)] := by kernel_rfl
theorem ms_l2Ready_0 : ∀ p, p ∈ lss_l2Ready → p.1 = 0 → p.2 = cs_l2Ready_0 := by
 intro p hp
 rw [lseqs_l2Ready] at hp
 simp only [List.mem_cons, List.not_mem_nil, or_false] at hp
 subst hp; simp
theorem ks_l2Ready_0 : OrcOk Es_l2Ready Os_l2Ready_0 lss_l2Ready 0 := orcOk_none
noncomputable def hs_l2Ready_0 (y0 : List (Int × (Int × ((List ByteArray) × (List (ByteArray × (Bool × (List Int)))))))) (y1 : Int) (y2 : Int) (y3 : Int) (y4 : Int) (y5 : List ByteArray) (y6 : List (ByteArray × (Bool × (List Int)))) : List (Pl × LV) := [(.T 0, .t (.val false [.sl .any 72 (.pair (.int .i64) (.pair (.int .i64) (.pair (.sl 9 .str) (.sl 39 (.pair .str (.pair .bool (.sl 3 (.int .i64)))))))) y0])), (.T 1, .t (.val false [.int .i64 y1])), (.T 4, .t (.val false [.ptr 4 0 0])), (.T 6, .t (.val false [.int .i64 y2])), (.B 4, .b 0 false [.int .i64 y3, .int .i64 y4, .row 4 5 0, .row 4 7 0]), (.R 4 5, .r 0 (some ⟨false, .any, true, 9, .str, y5⟩)), (.R 4 7, .r 0 (some ⟨false, .any, true, 39, (.pair .str (.pair .bool (.sl 3 (.int .i64)))), y6⟩))]
noncomputable def g_Ss_l2Ready_0 (y0 : List (Int × (Int × ((List ByteArray) × (List (ByteArray × (Bool × (List Int)))))))) (y1 : Int) (y3 : Int) (y4 : Int) (y5 : List ByteArray) (y6 : List (ByteArray × (Bool × (List Int)))) : (Int) → RT (Int) ((Bool × Int × Int × (List ByteArray) × (List (ByteArray × (Bool × (List Int))))) ⊕ (Unit))
 | y2 => .br (true) (.br (decide (y2 ≥ (0 : Int))) (.br (decide ((0 : Int) ≤ y2 ∧ y2 < (↑(List.length y0) : Int))) (.br (true) (.br ((at_ (Ty.pair (Ty.int IntKind.i64) (Ty.pair (Ty.int IntKind.i64) (Ty.pair (Ty.sl (nat_lit 9) Ty.str) (Ty.sl (nat_lit 39) (Ty.pair Ty.str (Ty.pair Ty.bool (Ty.sl (nat_lit 3) (Ty.int IntKind.i64)))))))) y0 (Int.toNat y2)).1 == (1 : Int)) (.br (decide ((0 : Int) ≤ y2 ∧ y2 < (↑(List.length y0) : Int))) (.br (true) (.br ((at_ (Ty.pair (Ty.int IntKind.i64) (Ty.pair (Ty.int IntKind.i64) (Ty.pair (Ty.sl (nat_lit 9) Ty.str) (Ty.sl (nat_lit 39) (Ty.pair Ty.str (Ty.pair Ty.bool (Ty.sl (nat_lit 3) (Ty.int IntKind.i64)))))))) y0 (Int.toNat y2)).2.1 == y1) (.br (decide ((0 : Int) ≤ y2 ∧ y2 < (↑(List.length y0) : Int))) (.out (.inl ((true, (at_ (Ty.pair (Ty.int IntKind.i64) (Ty.pair (Ty.int IntKind.i64) (Ty.pair (Ty.sl (nat_lit 9) Ty.str) (Ty.sl (nat_lit 39) (Ty.pair Ty.str (Ty.pair Ty.bool (Ty.sl (nat_lit 3) (Ty.int IntKind.i64)))))))) y0 (Int.toNat y2)).1, (at_ (Ty.pair (Ty.int IntKind.i64) (Ty.pair (Ty.int IntKind.i64) (Ty.pair (Ty.sl (nat_lit 9) Ty.str) (Ty.sl (nat_lit 39) (Ty.pair Ty.str (Ty.pair Ty.bool (Ty.sl (nat_lit 3) (Ty.int IntKind.i64)))))))) y0 (Int.toNat y2)).2.1, (at_ (Ty.pair (Ty.int IntKind.i64) (Ty.pair (Ty.int IntKind.i64) (Ty.pair (Ty.sl (nat_lit 9) Ty.str) (Ty.sl (nat_lit 39) (Ty.pair Ty.str (Ty.pair Ty.bool (Ty.sl (nat_lit 3) (Ty.int IntKind.i64)))))))) y0 (Int.toNat y2)).2.2.1, (at_ (Ty.pair (Ty.int IntKind.i64) (Ty.pair (Ty.int IntKind.i64) (Ty.pair (Ty.sl (nat_lit 9) Ty.str) (Ty.sl (nat_lit 39) (Ty.pair Ty.str (Ty.pair Ty.bool (Ty.sl (nat_lit 3) (Ty.int IntKind.i64)))))))) y0 (Int.toNat y2)).2.2.2)))) (.bad)) (.br (true) (.go (IntKind.wrap IntKind.i64 (y2 - (1 : Int)))) (.bad))) (.bad)) (.bad)) (.br (true) (.go (IntKind.wrap IntKind.i64 (y2 - (1 : Int)))) (.bad))) (.bad)) (.bad)) (.out (.inr (())))) (.bad)
noncomputable def g_Ls_l2Ready_0 (y0 : List (Int × (Int × ((List ByteArray) × (List (ByteArray × (Bool × (List Int)))))))) (y1 : Int) (y3 : Int) (y4 : Int) (y5 : List ByteArray) (y6 : List (ByteArray × (Bool × (List Int)))) (x : Int) : Option ((Bool × Int × Int × (List ByteArray) × (List (ByteArray × (Bool × (List Int))))) ⊕ (Unit)) := loopO (g_Ss_l2Ready_0 y0 y1 y3 y4 y5 y6) x
noncomputable def xs_l2Ready_0 (y0 : List (Int × (Int × ((List ByteArray) × (List (ByteArray × (Bool × (List Int)))))))) (y1 : Int) (y3 : Int) (y4 : Int) (y5 : List ByteArray) (y6 : List (ByteArray × (Bool × (List Int)))) : ((Bool × Int × Int × (List ByteArray) × (List (ByteArray × (Bool × (List Int))))) ⊕ (Unit)) → Ex × List (Pl × LV) := fun
 | .inl r => (.ret, [(.T 4, .t (.val false [.ptr 4 0 0])), (.T 5, .t (.val false [.bool r.1])), (.B 4, .b 0 false [.int .i64 r.2.1, .int .i64 r.2.2.1, .sl .any 9 .str r.2.2.2.1, .sl .any 39 (.pair .str (.pair .bool (.sl 3 (.int .i64)))) r.2.2.2.2])])
 | .inr (r) => (.exit 0, [(.T 4, .t (.val false [.ptr 4 0 0])), (.T 5, .t (.val false [.undef])), (.B 4, .b 0 false [.int .i64 y3, .int .i64 y4, .row 4 5 0, .row 4 7 0]), (.R 4 5, .r 0 (some ⟨false, .any, true, 9, .str, y5⟩)), (.R 4 7, .r 0 (some ⟨false, .any, true, 39, (.pair .str (.pair .bool (.sl 3 (.int .i64)))), y6⟩))])
noncomputable def Os_l2Ready_1 : Orc := fun b h => match b, h with
 | 0, [(.T 0, .t (.val false [.sl .any 72 (.pair (.int .i64) (.pair (.int .i64) (.pair (.sl 9 .str) (.sl 39 (.pair .str (.pair .bool (.sl 3 (.int .i64)))))))) y0])), (.T 1, .t (.val false [.int .i64 y1])), (.T 4, .t (.val false [.ptr 4 0 0])), (.T 6, .t (.val false [.int .i64 y2])), (.B 4, .b 0 false [.int .i64 y3, .int .i64 y4, .row 4 5 0, .row 4 7 0]), (.R 4 5, .r 0 (some ⟨false, .any, true, 9, .str, y5⟩)), (.R 4 7, .r 0 (some ⟨false, .any, true, 39, (.pair .str (.pair .bool (.sl 3 (.int .i64)))), y6⟩))] => some (okO (g_Ls_l2Ready_0 y0 y1 y3 y4 y5 y6 y2), (.br (isL (valO (g_Ls_l2Ready_0 y0 y1 y3 y4 y5 y6 y2))) (.leaf .ret [(.T 4, .t (.val false [.ptr 4 0 0])), (.T 5, .t (.val false [.bool (getL (valO (g_Ls_l2Ready_0 y0 y1 y3 y4 y5 y6 y2))).1])), (.B 4, .b 0 false [.int .i64 (getL (valO (g_Ls_l2Ready_0 y0 y1 y3 y4 y5 y6 y2))).2.1, .int .i64 (getL (valO (g_Ls_l2Ready_0 y0 y1 y3 y4 y5 y6 y2))).2.2.1, .sl .any 9 .str (getL (valO (g_Ls_l2Ready_0 y0 y1 y3 y4 y5 y6 y2))).2.2.2.1, .sl .any 39 (.pair .str (.pair .bool (.sl 3 (.int .i64)))) (getL (valO (g_Ls_l2Ready_0 y0 y1 y3 y4 y5 y6 y2))).2.2.2.2])]) (.leaf (.exit 0) [(.T 4, .t (.val false [.ptr 4 0 0])), (.T 5, .t (.val false [.undef])), (.B 4, .b 0 false [.int .i64 y3, .int .i64 y4, .row 4 5 0, .row 4 7 0]), (.R 4 5, .r 0 (some ⟨false, .any, true, 9, .str, y5⟩)), (.R 4 7, .r 0 (some ⟨false, .any, true, 39, (.pair .str (.pair .bool (.sl 3 (.int .i64)))), y6⟩))])))
 | b, h => Os_l2Ready_0 b h
theorem bs_l2Ready_0 (y0 : List (Int × (Int × ((List ByteArray) × (List (ByteArray × (Bool × (List Int)))))))) (y1 : Int) (y2 : Int) (y3 : Int) (y4 : Int) (y5 : List ByteArray) (y6 : List (ByteArray × (Bool × (List Int)))) : Tr.bt Es_l2Ready Os_l2Ready_0 (exec Es_l2Ready 0 cs_l2Ready_0 (St.of (hs_l2Ready_0 y0 y1 y2 y3 y4 y5 y6)) (leafRd Es_l2Ready 0)) = (g_Ss_l2Ready_0 y0 y1 y3 y4 y5 y6 y2).bt (fun (y2 : Int) => (hs_l2Ready_0 y0 y1 y2 y3 y4 y5 y6)) (xs_l2Ready_0 y0 y1 y3 y4 y5 y6) := by kernel_rfl
theorem ks_l2Ready_1 : OrcOk Es_l2Ready Os_l2Ready_1 lss_l2Ready 1 := orc_add ks_l2Ready_0 (fun n p hp h ex h' ho => by
 obtain ⟨b, c⟩ := p
 obtain ⟨xt, h1, h2⟩ := ho
 have h1 : Os_l2Ready_1 b h = some (true, xt) := h1
 unfold Os_l2Ready_1 at h1
 split at h1
 ·injection h1 with h1
  injection h1 with e1 e2
  subst e2
  have hc : c = cs_l2Ready_0 := ms_l2Ready_0 _ hp rfl
  subst hc
  right
  rename_i y0 y1 y2 y3 y4 y5 y6
  have key := LT_step ks_l2Ready_0 hp (fun q hq => loopsAll_in _ _ _ _ hp hq) (fun (y2 : Int) => (hs_l2Ready_0 y0 y1 y2 y3 y4 y5 y6)) (xs_l2Ready_0 y0 y1 y3 y4 y5 y6) (g_Ss_l2Ready_0 y0 y1 y3 y4 y5 y6) (fun x => by first | exact bs_l2Ready_0 y0 y1 x y3 y4 y5 y6) n (x := y2) (okO_some e1)
  have hx : ∀ r, XT.sel (.br (isL r) (.leaf .ret [(.T 4, .t (.val false [.ptr 4 0 0])), (.T 5, .t (.val false [.bool (getL r).1])), (.B 4, .b 0 false [.int .i64 (getL r).2.1, .int .i64 (getL r).2.2.1, .sl .any 9 .str (getL r).2.2.2.1, .sl .any 39 (.pair .str (.pair .bool (.sl 3 (.int .i64)))) (getL r).2.2.2.2])]) (.leaf (.exit 0) [(.T 4, .t (.val false [.ptr 4 0 0])), (.T 5, .t (.val false [.undef])), (.B 4, .b 0 false [.int .i64 y3, .int .i64 y4, .row 4 5 0, .row 4 7 0]), (.R 4 5, .r 0 (some ⟨false, .any, true, 9, .str, y5⟩)), (.R 4 7, .r 0 (some ⟨false, .any, true, 39, (.pair .str (.pair .bool (.sl 3 (.int .i64)))), y6⟩))])) = xs_l2Ready_0 y0 y1 y3 y4 y5 y6 r := fun r => by first | rfl | (rcases r with r | r <;> rfl) | (rcases r with r | r | r <;> rfl) | (rcases r with r | r | r | r <;> rfl)
  have h3 := (hx (valO (g_Ls_l2Ready_0 y0 y1 y3 y4 y5 y6 y2))).symm.trans h2
  have e3 := congrArg Prod.fst h3
  have e4 := congrArg Prod.snd h3
  simp only at e3 e4
  rw [← e3, ← e4]
  exact key
 ·exact .inl ⟨xt, h1, h2⟩)
noncomputable def g_As_l2Ready (a0 : List (Int × (Int × ((List ByteArray) × (List (ByteArray × (Bool × (List Int)))))))) (a1 : Int) : Bool := okO (g_Ls_l2Ready_0 a0 a1 (0 : Int) (0 : Int) [] [] (IntKind.wrap IntKind.i64 ((↑(List.length a0) : Int) - (1 : Int))))
noncomputable def g_Vs_l2Ready_0 (a0 : List (Int × (Int × ((List ByteArray) × (List (ByteArray × (Bool × (List Int)))))))) (a1 : Int) : Int := bif isL (valO (g_Ls_l2Ready_0 a0 a1 (0 : Int) (0 : Int) [] [] (IntKind.wrap IntKind.i64 ((↑(List.length a0) : Int) - (1 : Int))))) then (getL (valO (g_Ls_l2Ready_0 a0 a1 (0 : Int) (0 : Int) [] [] (IntKind.wrap IntKind.i64 ((↑(List.length a0) : Int) - (1 : Int)))))).2.1 else (0 : Int)
noncomputable def g_Vs_l2Ready_1 (a0 : List (Int × (Int × ((List ByteArray) × (List (ByteArray × (Bool × (List Int)))))))) (a1 : Int) : Int := bif isL (valO (g_Ls_l2Ready_0 a0 a1 (0 : Int) (0 : Int) [] [] (IntKind.wrap IntKind.i64 ((↑(List.length a0) : Int) - (1 : Int))))) then (getL (valO (g_Ls_l2Ready_0 a0 a1 (0 : Int) (0 : Int) [] [] (IntKind.wrap IntKind.i64 ((↑(List.length a0) : Int) - (1 : Int)))))).2.2.1 else (0 : Int)
noncomputable def g_Vs_l2Ready_2 (a0 : List (Int × (Int × ((List ByteArray) × (List (ByteArray × (Bool × (List Int)))))))) (a1 : Int) : List ByteArray := bif isL (valO (g_Ls_l2Ready_0 a0 a1 (0 : Int) (0 : Int) [] [] (IntKind.wrap IntKind.i64 ((↑(List.length a0) : Int) - (1 : Int))))) then (getL (valO (g_Ls_l2Ready_0 a0 a1 (0 : Int) (0 : Int) [] [] (IntKind.wrap IntKind.i64 ((↑(List.length a0) : Int) - (1 : Int)))))).2.2.2.1 else []
noncomputable def g_Vs_l2Ready_3 (a0 : List (Int × (Int × ((List ByteArray) × (List (ByteArray × (Bool × (List Int)))))))) (a1 : Int) : List (ByteArray × (Bool × (List Int))) := bif isL (valO (g_Ls_l2Ready_0 a0 a1 (0 : Int) (0 : Int) [] [] (IntKind.wrap IntKind.i64 ((↑(List.length a0) : Int) - (1 : Int))))) then (getL (valO (g_Ls_l2Ready_0 a0 a1 (0 : Int) (0 : Int) [] [] (IntKind.wrap IntKind.i64 ((↑(List.length a0) : Int) - (1 : Int)))))).2.2.2.2 else []
noncomputable def g_Vs_l2Ready_4 (a0 : List (Int × (Int × ((List ByteArray) × (List (ByteArray × (Bool × (List Int)))))))) (a1 : Int) : Bool := bif isL (valO (g_Ls_l2Ready_0 a0 a1 (0 : Int) (0 : Int) [] [] (IntKind.wrap IntKind.i64 ((↑(List.length a0) : Int) - (1 : Int))))) then (getL (valO (g_Ls_l2Ready_0 a0 a1 (0 : Int) (0 : Int) [] [] (IntKind.wrap IntKind.i64 ((↑(List.length a0) : Int) - (1 : Int)))))).1 else false
noncomputable def Fs_l2Ready : FSem := fun ys => match ys with
 | [.val false [.sl .any 72 (.pair (.int .i64) (.pair (.int .i64) (.pair (.sl 9 .str) (.sl 39 (.pair .str (.pair .bool (.sl 3 (.int .i64)))))))) a0], .val false [.int .i64 a1]] => some ((g_As_l2Ready a0 a1), .tup [(true, [.int .i64 (g_Vs_l2Ready_0 a0 a1), .int .i64 (g_Vs_l2Ready_1 a0 a1), .sl .any 9 .str (g_Vs_l2Ready_2 a0 a1), .sl .any 39 (.pair .str (.pair .bool (.sl 3 (.int .i64)))) (g_Vs_l2Ready_3 a0 a1)]), (false, [.bool (g_Vs_l2Ready_4 a0 a1)])], [])
 | _ => none
theorem vs_l2Ready (a0 : List (Int × (Int × ((List ByteArray) × (List (ByteArray × (Bool × (List Int)))))))) (a1 : Int) : collapseH .fr Es_l2Ready Os_l2Ready_1 (execFn Es_l2Ready Tryz.f66 mss_l2Ready [.val false [.sl .any 72 (.pair (.int .i64) (.pair (.int .i64) (.pair (.sl 9 .str) (.sl 39 (.pair .str (.pair .bool (.sl 3 (.int .i64)))))))) a0], .val false [.int .i64 a1]]) = some ((g_As_l2Ready a0 a1), .tup [(true, [.int .i64 (g_Vs_l2Ready_0 a0 a1), .int .i64 (g_Vs_l2Ready_1 a0 a1), .sl .any 9 .str (g_Vs_l2Ready_2 a0 a1), .sl .any 39 (.pair .str (.pair .bool (.sl 3 (.int .i64)))) (g_Vs_l2Ready_3 a0 a1)]), (false, [.bool (g_Vs_l2Ready_4 a0 a1)])], []) := by kernel_rfl
theorem ss_l2Ready : Sound Tryz.prog 66 mss_l2Ready Fs_l2Ready := by
 refine fn_gen goods_l2Ready (by kernel_rfl) .fr (fn := Tryz.f66) (c := (Tryz.f66.body.getD .skip)) (o := Os_l2Ready_1) (k := 1) (by kernel_rfl) (by kernel_rfl) (by kernel_rfl) (by kernel_rfl) (by decide) ks_l2Ready_1 ?_
 intro ys r outs h
 unfold Fs_l2Ready at h
 split at h
 ·exact (vs_l2Ready _ _).trans h
 ·cases h
noncomputable def Es_DiskFold : Env where
 tt := mkTI Tryz.prog
 fn := fun f => match f with
  | 33 => some (mss_DiskOk, FSem.wk mss_DiskOk Fs_DiskOk)
  | 66 => some (mss_l2Ready, FSem.wk mss_l2Ready Fs_l2Ready)
  | 67 => some (mss_StoDo, FSem.wk mss_StoDo Fs_StoDo)
  | _ => none
 bxf := fun _ => none
 mv := []
 keep := fun b => match b with
  | 0 => [(1, false), (2, false), (3, false), (4, false)]
  | _ => []
 keepB := fun b => match b with
  | 0 => [(1, false), (2, false), (3, false)]
  | _ => []
 keepX := fun b => match b with
  | 0 => [(2, false), (3, false)]
  | _ => []
 keepXB := fun b => match b with
  | 0 => [(2, false), (3, false)]
  | _ => []
theorem goodFs_DiskFold : ∀ f ms F, Es_DiskFold.fn f = some (ms, F) → Sound Tryz.prog f ms F := fun f ms F h => by
 unfold Es_DiskFold at h
 dsimp only at h
 split at h
 ·injection h with h; injection h with e1 e2; subst e1 e2; exact Sound.wk ss_DiskOk
 ·injection h with h; injection h with e1 e2; subst e1 e2; exact Sound.wk ss_l2Ready
 ·injection h with h; injection h with e1 e2; subst e1 e2; exact Sound.wk ss_StoDo
 ·cases h
theorem goodBs_DiskFold : ∀ f ms F, Es_DiskFold.bxf f = some (ms, F) → SoundB Tryz.prog f ms F := fun f ms F h => by cases h
theorem goods_DiskFold : Good Tryz.prog Es_DiskFold := ⟨rfl, goodFs_DiskFold, goodBs_DiskFold⟩
noncomputable def Os_DiskFold_0 : Orc := fun _ _ => none
noncomputable def mss_DiskFold : List PM := [.rd]
noncomputable def lss_DiskFold : List (Nat × Code) := loopsAll 0 (Tryz.f23.body.getD .skip)
noncomputable def cs_DiskFold_0 : Code := (loopOf 0 (Tryz.f23.body.getD .skip)).getD .skip
theorem lseqs_DiskFold : lss_DiskFold = [(0, cs_DiskFold_0)] := by kernel_rfl
theorem ms_DiskFold_0 : ∀ p, p ∈ lss_DiskFold → p.1 = 0 → p.2 = cs_DiskFold_0 := by
 intro p hp
 rw [lseqs_DiskFold] at hp
 simp only [List.mem_cons, List.not_mem_nil, or_false] at hp
 subst hp; simp
theorem ks_DiskFold_0 : OrcOk Es_DiskFold Os_DiskFold_0 lss_DiskFold 0 := orcOk_none
noncomputable def hs_DiskFold_0 (y0 : Int) (y1 : List (Int × (Int × ((List ByteArray) × (List (ByteArray × (Bool × (List Int)))))))) (y2 : Int) (y3 : List (ByteArray × (List Int))) (y4 : List (ByteArray × (List Int))) : List (Pl × LV) := [(.T 1, .t (.val false [.ptr 1 0 0])), (.T 2, .t (.val false [.ptr 2 0 0])), (.T 3, .t (.val false [.ptr 3 0 0])), (.T 4, .t (.val false [.int .i64 y0])), (.B 1, .b 0 false [.sl .any 72 (.pair (.int .i64) (.pair (.int .i64) (.pair (.sl 9 .str) (.sl 39 (.pair .str (.pair .bool (.sl 3 (.int .i64)))))))) y1, .int .i64 y2]), (.B 2, .b 0 false [.row 2 1 0]), (.R 2 1, .r 0 (some ⟨false, .any, true, 49, (.pair .str (.sl 3 (.int .i64))), y3⟩)), (.B 3, .b 0 false [.row 3 1 0]), (.R 3 1, .r 0 (some ⟨false, .any, true, 49, (.pair .str (.sl 3 (.int .i64))), y4⟩))]
noncomputable def g_Ss_DiskFold_0 (y1 : List (Int × (Int × ((List ByteArray) × (List (ByteArray × (Bool × (List Int)))))))) (y2 : Int) (y3 : List (ByteArray × (List Int))) : (Int × (List (ByteArray × (List Int)))) → RT (Int × (List (ByteArray × (List Int)))) (((List (ByteArray × (List Int)))))
 | (y0, y4) => .br (true) (.br (decide (y0 < (↑(List.length y1) : Int))) (.br (decide ((0 : Int) ≤ y0 ∧ y0 < (↑(List.length y1) : Int))) (.br (true) (.br ((at_ (Ty.pair (Ty.int IntKind.i64) (Ty.pair (Ty.int IntKind.i64) (Ty.pair (Ty.sl (nat_lit 9) Ty.str) (Ty.sl (nat_lit 39) (Ty.pair Ty.str (Ty.pair Ty.bool (Ty.sl (nat_lit 3) (Ty.int IntKind.i64)))))))) y1 (Int.toNat y0)).1 != (2 : Int)) (.br (true) (.go ((IntKind.wrap IntKind.i64 (y0 + (1 : Int)), y4))) (.bad)) (.br (decide ((0 : Int) ≤ y0 ∧ y0 ≤ (↑(List.length y1) : Int))) (.br (decide ((0 : Int) ≤ y0 ∧ y0 < (↑(List.length y1) : Int))) (.br (g_As_l2Ready (List.drop (nat_lit 0) (List.take (Int.toNat y0) y1)) (at_ (Ty.pair (Ty.int IntKind.i64) (Ty.pair (Ty.int IntKind.i64) (Ty.pair (Ty.sl (nat_lit 9) Ty.str) (Ty.sl (nat_lit 39) (Ty.pair Ty.str (Ty.pair Ty.bool (Ty.sl (nat_lit 3) (Ty.int IntKind.i64)))))))) y1 (Int.toNat y0)).2.1) (.br (g_Vs_l2Ready_4 (List.drop (nat_lit 0) (List.take (Int.toNat y0) y1)) (at_ (Ty.pair (Ty.int IntKind.i64) (Ty.pair (Ty.int IntKind.i64) (Ty.pair (Ty.sl (nat_lit 9) Ty.str) (Ty.sl (nat_lit 39) (Ty.pair Ty.str (Ty.pair Ty.bool (Ty.sl (nat_lit 3) (Ty.int IntKind.i64)))))))) y1 (Int.toNat y0)).2.1) (.br (g_As_StoDo y4 (g_Vs_l2Ready_3 (List.drop (nat_lit 0) (List.take (Int.toNat y0) y1)) (at_ (Ty.pair (Ty.int IntKind.i64) (Ty.pair (Ty.int IntKind.i64) (Ty.pair (Ty.sl (nat_lit 9) Ty.str) (Ty.sl (nat_lit 39) (Ty.pair Ty.str (Ty.pair Ty.bool (Ty.sl (nat_lit 3) (Ty.int IntKind.i64)))))))) y1 (Int.toNat y0)).2.1)) (.br (true) (.go ((IntKind.wrap IntKind.i64 (y0 + (1 : Int)), g_Vs_StoDo_0 y4 (g_Vs_l2Ready_3 (List.drop (nat_lit 0) (List.take (Int.toNat y0) y1)) (at_ (Ty.pair (Ty.int IntKind.i64) (Ty.pair (Ty.int IntKind.i64) (Ty.pair (Ty.sl (nat_lit 9) Ty.str) (Ty.sl (nat_lit 39) (Ty.pair Ty.str (Ty.pair Ty.bool (Ty.sl (nat_lit 3) (Ty.int IntKind.i64)))))))) y1 (Int.toNat y0)).2.1)))) (.bad)) (.bad)) (.br (true) (.go ((IntKind.wrap IntKind.i64 (y0 + (1 : Int)), y4))) (.bad))) (.bad)) (.bad)) (.bad))) (.bad)) (.bad)) (.out (y4))) (.bad)
noncomputable def g_Ls_DiskFold_0 (y1 : List (Int × (Int × ((List ByteArray) × (List (ByteArray × (Bool × (List Int)))))))) (y2 : Int) (y3 : List (ByteArray × (List Int))) (x : Int × (List (ByteArray × (List Int)))) : Option (((List (ByteArray × (List Int))))) := loopO (g_Ss_DiskFold_0 y1 y2 y3) x
noncomputable def xs_DiskFold_0 (y1 : List (Int × (Int × ((List ByteArray) × (List (ByteArray × (Bool × (List Int)))))))) (y2 : Int) (y3 : List (ByteArray × (List Int))) : (((List (ByteArray × (List Int))))) → Ex × List (Pl × LV) := fun r => (.exit 0, [(.T 2, .t (.val false [.ptr 2 0 0])), (.T 3, .t (.val false [.ptr 3 0 0])), (.B 2, .b 0 false [.row 2 1 0]), (.R 2 1, .r 0 (some ⟨false, .any, true, 49, (.pair .str (.sl 3 (.int .i64))), y3⟩)), (.B 3, .b 0 false [.row 3 1 0]), (.R 3 1, .r 0 (some ⟨false, .any, true, 49, (.pair .str (.sl 3 (.int .i64))), r⟩))])
noncomputable def Os_DiskFold_1 : Orc := fun b h => match b, h with
 | 0, [(.T 1, .t (.val false [.ptr 1 0 0])), (.T 2, .t (.val false [.ptr 2 0 0])), (.T 3, .t (.val false [.ptr 3 0 0])), (.T 4, .t (.val false [.int .i64 y0])), (.B 1, .b 0 false [.sl .any 72 (.pair (.int .i64) (.pair (.int .i64) (.pair (.sl 9 .str) (.sl 39 (.pair .str (.pair .bool (.sl 3 (.int .i64)))))))) y1, .int .i64 y2]), (.B 2, .b 0 false [.row 2 1 0]), (.R 2 1, .r 0 (some ⟨false, .any, true, 49, (.pair .str (.sl 3 (.int .i64))), y3⟩)), (.B 3, .b 0 false [.row 3 1 0]), (.R 3 1, .r 0 (some ⟨false, .any, true, 49, (.pair .str (.sl 3 (.int .i64))), y4⟩))] => some (okO (g_Ls_DiskFold_0 y1 y2 y3 (y0, y4)), (.leaf (.exit 0) [(.T 2, .t (.val false [.ptr 2 0 0])), (.T 3, .t (.val false [.ptr 3 0 0])), (.B 2, .b 0 false [.row 2 1 0]), (.R 2 1, .r 0 (some ⟨false, .any, true, 49, (.pair .str (.sl 3 (.int .i64))), y3⟩)), (.B 3, .b 0 false [.row 3 1 0]), (.R 3 1, .r 0 (some ⟨false, .any, true, 49, (.pair .str (.sl 3 (.int .i64))), (valO (g_Ls_DiskFold_0 y1 y2 y3 (y0, y4)))⟩))]))
 | b, h => Os_DiskFold_0 b h
theorem bs_DiskFold_0 (y0 : Int) (y1 : List (Int × (Int × ((List ByteArray) × (List (ByteArray × (Bool × (List Int)))))))) (y2 : Int) (y3 : List (ByteArray × (List Int))) (y4 : List (ByteArray × (List Int))) : Tr.bt Es_DiskFold Os_DiskFold_0 (exec Es_DiskFold 0 cs_DiskFold_0 (St.of (hs_DiskFold_0 y0 y1 y2 y3 y4)) (leafRd Es_DiskFold 0)) = (g_Ss_DiskFold_0 y1 y2 y3 (y0, y4)).bt (fun ((y0, y4) : Int × (List (ByteArray × (List Int)))) => (hs_DiskFold_0 y0 y1 y2 y3 y4)) (xs_DiskFold_0 y1 y2 y3) := by kernel_rfl
theorem ks_DiskFold_1 : OrcOk Es_DiskFold Os_DiskFold_1 lss_DiskFold 1 := orc_add ks_DiskFold_0 (fun n p hp h ex h' ho => by
 obtain ⟨b, c⟩ := p
 obtain ⟨xt, h1, h2⟩ := ho
 have h1 : Os_DiskFold_1 b h = some (true, xt) := h1
 unfold Os_DiskFold_1 at h1
 split at h1
 ·injection h1 with h1
  injection h1 with e1 e2
  subst e2
  have hc : c = cs_DiskFold_0 := ms_DiskFold_0 _ hp rfl
  subst hc
  right
  rename_i y0 y1 y2 y3 y4
  have key := LT_step ks_DiskFold_0 hp (fun q hq => loopsAll_in _ _ _ _ hp hq) (fun ((y0, y4) : Int × (List (ByteArray × (List Int)))) => (hs_DiskFold_0 y0 y1 y2 y3 y4)) (xs_DiskFold_0 y1 y2 y3) (g_Ss_DiskFold_0 y1 y2 y3) (fun x => by first | exact bs_DiskFold_0 x.1 y1 y2 y3 x.2) n (x := (y0, y4)) (okO_some e1)
  have hx : ∀ r, XT.sel (.leaf (.exit 0) [(.T 2, .t (.val false [.ptr 2 0 0])), (.T 3, .t (.val false [.ptr 3 0 0])), (.B 2, .b 0 false [.row 2 1 0]), (.R 2 1, .r 0 (some ⟨false, .any, true, 49, (.pair .str (.sl 3 (.int .i64))), y3⟩)), (.B 3, .b 0 false [.row 3 1 0]), (.R 3 1, .r 0 (some ⟨false, .any, true, 49, (.pair .str (.sl 3 (.int .i64))), r⟩))]) = xs_DiskFold_0 y1 y2 y3 r := fun r => by first | rfl | (rcases r with r | r <;> rfl) | (rcases r with r | r | r <;> rfl) | (rcases r with r | r | r | r <;> rfl)
  have h3 := (hx (valO (g_Ls_DiskFold_0 y1 y2 y3 (y0, y4)))).symm.trans h2
  have e3 := congrArg Prod.fst h3
  have e4 := congrArg Prod.snd h3
  simp only at e3 e4
  rw [← e3, ← e4]
  exact key
 ·exact .inl ⟨xt, h1, h2⟩)
noncomputable def g_As_DiskFold (a0 : List (Int × (Int × ((List ByteArray) × (List (ByteArray × (Bool × (List Int)))))))) (a1 : Int) : Bool := g_As_DiskOk a0 a1 && (!g_Vs_DiskOk_0 a0 a1 || okO (g_Ls_DiskFold_0 a0 a1 [] ((0 : Int), [])))
noncomputable def g_Vs_DiskFold_0 (a0 : List (Int × (Int × ((List ByteArray) × (List (ByteArray × (Bool × (List Int)))))))) (a1 : Int) : List (ByteArray × (List Int)) := bif !g_Vs_DiskOk_0 a0 a1 then [] else valO (g_Ls_DiskFold_0 a0 a1 [] ((0 : Int), []))
noncomputable def Fs_DiskFold : FSem := fun ys => match ys with
 | [.val true [.sl .any 72 (.pair (.int .i64) (.pair (.int .i64) (.pair (.sl 9 .str) (.sl 39 (.pair .str (.pair .bool (.sl 3 (.int .i64)))))))) a0, .int .i64 a1]] => some ((g_As_DiskFold a0 a1), .val true [.own .any true 49 (.pair .str (.sl 3 (.int .i64))) (g_Vs_DiskFold_0 a0 a1)], [])
 | _ => none
theorem vs_DiskFold (a0 : List (Int × (Int × ((List ByteArray) × (List (ByteArray × (Bool × (List Int)))))))) (a1 : Int) : collapseH .std Es_DiskFold Os_DiskFold_1 (execFn Es_DiskFold Tryz.f23 mss_DiskFold [.val true [.sl .any 72 (.pair (.int .i64) (.pair (.int .i64) (.pair (.sl 9 .str) (.sl 39 (.pair .str (.pair .bool (.sl 3 (.int .i64)))))))) a0, .int .i64 a1]]) = some ((g_As_DiskFold a0 a1), .val true [.own .any true 49 (.pair .str (.sl 3 (.int .i64))) (g_Vs_DiskFold_0 a0 a1)], []) := by kernel_rfl
theorem ss_DiskFold : Sound Tryz.prog 23 mss_DiskFold Fs_DiskFold := by
 refine fn_gen goods_DiskFold (by kernel_rfl) .std (fn := Tryz.f23) (c := (Tryz.f23.body.getD .skip)) (o := Os_DiskFold_1) (k := 1) (by kernel_rfl) (by kernel_rfl) (by kernel_rfl) (by kernel_rfl) (by decide) ks_DiskFold_1 ?_
 intro ys r outs h
 unfold Fs_DiskFold at h
 split at h
 ·exact (vs_DiskFold _ _).trans h
 ·cases h
noncomputable def Ew_eqIntS : Env where
 tt := mkTI Tryz.prog
 fn := fun _ => none
 bxf := fun _ => none
 mv := []
 keep := fun b => match b with
  | 0 => [(0, false), (1, false), (5, false)]
  | _ => []
 keepB := fun b => match b with
  | 0 => []
  | _ => []
 keepX := fun b => match b with
  | 0 => [(4, false)]
  | _ => []
 keepXB := fun b => match b with
  | 0 => []
  | _ => []
theorem goodFw_eqIntS : ∀ f ms F, Ew_eqIntS.fn f = some (ms, F) → Sound Tryz.prog f ms F := fun f ms F h => by cases h
theorem goodBw_eqIntS : ∀ f ms F, Ew_eqIntS.bxf f = some (ms, F) → SoundB Tryz.prog f ms F := fun f ms F h => by cases h
theorem goodw_eqIntS : Good Tryz.prog Ew_eqIntS := ⟨rfl, goodFw_eqIntS, goodBw_eqIntS⟩
noncomputable def Ow_eqIntS_0 : Orc := fun _ _ => none
noncomputable def msw_eqIntS : List PM := [.rd, .rd]
noncomputable def lsw_eqIntS : List (Nat × Code) := loopsAll 0 (Tryz.f161.body.getD .skip)
noncomputable def cw_eqIntS_0 : Code := (loopOf 0 (Tryz.f161.body.getD .skip)).getD .skip
theorem lseqw_eqIntS : lsw_eqIntS = [(0, cw_eqIntS_0)] := by kernel_rfl
theorem mw_eqIntS_0 : ∀ p, p ∈ lsw_eqIntS → p.1 = 0 → p.2 = cw_eqIntS_0 := by
 intro p hp
 rw [lseqw_eqIntS] at hp
 simp only [List.mem_cons, List.not_mem_nil, or_false] at hp
 subst hp; simp
theorem kw_eqIntS_0 : OrcOk Ew_eqIntS Ow_eqIntS_0 lsw_eqIntS 0 := orcOk_none
noncomputable def hw_eqIntS_0 (y0 : List Int) (y1 : List Int) (y2 : Int) : List (Pl × LV) := [(.T 0, .t (.val false [.sl .any 3 (.int .i64) y0])), (.T 1, .t (.val false [.sl .any 3 (.int .i64) y1])), (.T 5, .t (.val false [.int .i64 y2]))]
noncomputable def g_Sw_eqIntS_0 (y0 : List Int) (y1 : List Int) : (Int) → RT (Int) ((Bool) ⊕ (Unit))
 | y2 => .br (true) (.br (decide (y2 < (↑(List.length y0) : Int))) (.br (decide ((0 : Int) ≤ y2 ∧ y2 < (↑(List.length y0) : Int))) (.br (decide ((0 : Int) ≤ y2 ∧ y2 < (↑(List.length y1) : Int))) (.br (true) (.br (at_ (Ty.int IntKind.i64) y0 (Int.toNat y2) != at_ (Ty.int IntKind.i64) y1 (Int.toNat y2)) (.out (.inl false)) (.br (true) (.go (IntKind.wrap IntKind.i64 (y2 + (1 : Int)))) (.bad))) (.bad)) (.bad)) (.bad)) (.out (.inr (())))) (.bad)
noncomputable def g_Lw_eqIntS_0 (y0 : List Int) (y1 : List Int) (x : Int) : Option ((Bool) ⊕ (Unit)) := loopO (g_Sw_eqIntS_0 y0 y1) x
noncomputable def xw_eqIntS_0 (y0 : List Int) (y1 : List Int) : ((Bool) ⊕ (Unit)) → Ex × List (Pl × LV) := fun
 | .inl r => (.ret, [(.T 4, .t (.val false [.bool r]))])
 | .inr (r) => (.exit 0, [(.T 4, .t (.val false [.undef]))])
noncomputable def Ow_eqIntS_1 : Orc := fun b h => match b, h with
 | 0, [(.T 0, .t (.val false [.sl .any 3 (.int .i64) y0])), (.T 1, .t (.val false [.sl .any 3 (.int .i64) y1])), (.T 5, .t (.val false [.int .i64 y2]))] => some (okO (g_Lw_eqIntS_0 y0 y1 y2), (.br (isL (valO (g_Lw_eqIntS_0 y0 y1 y2))) (.leaf .ret [(.T 4, .t (.val false [.bool (getL (valO (g_Lw_eqIntS_0 y0 y1 y2)))]))]) (.leaf (.exit 0) [(.T 4, .t (.val false [.undef]))])))
 | b, h => Ow_eqIntS_0 b h
theorem bw_eqIntS_0 (y0 : List Int) (y1 : List Int) (y2 : Int) : Tr.bt Ew_eqIntS Ow_eqIntS_0 (exec Ew_eqIntS 0 cw_eqIntS_0 (St.of (hw_eqIntS_0 y0 y1 y2)) (leafRd Ew_eqIntS 0)) = (g_Sw_eqIntS_0 y0 y1 y2).bt (fun (y2 : Int) => (hw_eqIntS_0 y0 y1 y2)) (xw_eqIntS_0 y0 y1) := by kernel_rfl
theorem kw_eqIntS_1 : OrcOk Ew_eqIntS Ow_eqIntS_1 lsw_eqIntS 1 := orc_add kw_eqIntS_0 (fun n p hp h ex h' ho => by
 obtain ⟨b, c⟩ := p
 obtain ⟨xt, h1, h2⟩ := ho
 have h1 : Ow_eqIntS_1 b h = some (true, xt) := h1
 unfold Ow_eqIntS_1 at h1
 split at h1
 ·injection h1 with h1
  injection h1 with e1 e2
  subst e2
  have hc : c = cw_eqIntS_0 := mw_eqIntS_0 _ hp rfl
  subst hc
  right
  rename_i y0 y1 y2
  have key := LT_step kw_eqIntS_0 hp (fun q hq => loopsAll_in _ _ _ _ hp hq) (fun (y2 : Int) => (hw_eqIntS_0 y0 y1 y2)) (xw_eqIntS_0 y0 y1) (g_Sw_eqIntS_0 y0 y1) (fun x => by first | exact bw_eqIntS_0 y0 y1 x) n (x := y2) (okO_some e1)
  have hx : ∀ r, XT.sel (.br (isL r) (.leaf .ret [(.T 4, .t (.val false [.bool (getL r)]))]) (.leaf (.exit 0) [(.T 4, .t (.val false [.undef]))])) = xw_eqIntS_0 y0 y1 r := fun r => by first | rfl | (rcases r with r | r <;> rfl) | (rcases r with r | r | r <;> rfl) | (rcases r with r | r | r | r <;> rfl)
  have h3 := (hx (valO (g_Lw_eqIntS_0 y0 y1 y2))).symm.trans h2
  have e3 := congrArg Prod.fst h3
  have e4 := congrArg Prod.snd h3
  simp only at e3 e4
  rw [← e3, ← e4]
  exact key
 ·exact .inl ⟨xt, h1, h2⟩)
noncomputable def g_Aw_eqIntS (a0 : List Int) (a1 : List Int) : Bool := (↑(List.length a0) : Int) != (↑(List.length a1) : Int) || okO (g_Lw_eqIntS_0 a0 a1 (0 : Int))
noncomputable def g_Vw_eqIntS_0 (a0 : List Int) (a1 : List Int) : Bool := bif (↑(List.length a0) : Int) != (↑(List.length a1) : Int) then false else bif isL (valO (g_Lw_eqIntS_0 a0 a1 (0 : Int))) then getL (valO (g_Lw_eqIntS_0 a0 a1 (0 : Int))) else true
noncomputable def Fw_eqIntS : FSem := fun ys => match ys with
 | [.val false [.sl .any 3 (.int .i64) a0], .val false [.sl .any 3 (.int .i64) a1]] => some ((g_Aw_eqIntS a0 a1), .val false [.bool (g_Vw_eqIntS_0 a0 a1)], [])
 | _ => none
theorem vw_eqIntS (a0 : List Int) (a1 : List Int) : collapseH .std Ew_eqIntS Ow_eqIntS_1 (execFn Ew_eqIntS Tryz.f161 msw_eqIntS [.val false [.sl .any 3 (.int .i64) a0], .val false [.sl .any 3 (.int .i64) a1]]) = some ((g_Aw_eqIntS a0 a1), .val false [.bool (g_Vw_eqIntS_0 a0 a1)], []) := by kernel_rfl
theorem sw_eqIntS : Sound Tryz.prog 161 msw_eqIntS Fw_eqIntS := by
 refine fn_gen goodw_eqIntS (by kernel_rfl) .std (fn := Tryz.f161) (c := (Tryz.f161.body.getD .skip)) (o := Ow_eqIntS_1) (k := 1) (by kernel_rfl) (by kernel_rfl) (by kernel_rfl) (by kernel_rfl) (by decide) kw_eqIntS_1 ?_
 intro ys r outs h
 unfold Fw_eqIntS at h
 split at h
 ·exact (vw_eqIntS _ _).trans h
 ·cases h
noncomputable def Ew_eqStoWrite : Env where
 tt := mkTI Tryz.prog
 fn := fun f => match f with
  | 161 => some (msw_eqIntS, FSem.wk msw_eqIntS Fw_eqIntS)
  | _ => none
 bxf := fun _ => none
 mv := []
 keep := fun _ => []
 keepB := fun _ => []
 keepX := fun _ => []
 keepXB := fun _ => []
theorem goodFw_eqStoWrite : ∀ f ms F, Ew_eqStoWrite.fn f = some (ms, F) → Sound Tryz.prog f ms F := fun f ms F h => by
 unfold Ew_eqStoWrite at h
 dsimp only at h
 split at h
 ·injection h with h; injection h with e1 e2; subst e1 e2; exact Sound.wk sw_eqIntS
 ·cases h
theorem goodBw_eqStoWrite : ∀ f ms F, Ew_eqStoWrite.bxf f = some (ms, F) → SoundB Tryz.prog f ms F := fun f ms F h => by cases h
theorem goodw_eqStoWrite : Good Tryz.prog Ew_eqStoWrite := ⟨rfl, goodFw_eqStoWrite, goodBw_eqStoWrite⟩
noncomputable def Ow_eqStoWrite_0 : Orc := fun _ _ => none
noncomputable def msw_eqStoWrite : List PM := [.rd, .rd]
noncomputable def lsw_eqStoWrite : List (Nat × Code) := loopsAll 0 (Tryz.f185.body.getD .skip)
theorem kw_eqStoWrite_0 : OrcOk Ew_eqStoWrite Ow_eqStoWrite_0 lsw_eqStoWrite 0 := orcOk_none
noncomputable def g_Aw_eqStoWrite (a0 : ByteArray) (a1 : Bool) (a2 : List Int) (a3 : ByteArray) (a4 : Bool) (a5 : List Int) : Bool := !ByteArray.toList a0 == ByteArray.toList a3 || (!a1 == a4 || g_Aw_eqIntS a2 a5)
noncomputable def g_Vw_eqStoWrite_0 (a0 : ByteArray) (a1 : Bool) (a2 : List Int) (a3 : ByteArray) (a4 : Bool) (a5 : List Int) : Bool := bif !ByteArray.toList a0 == ByteArray.toList a3 then false else bif !a1 == a4 then false else bif !g_Vw_eqIntS_0 a2 a5 then false else true
noncomputable def Fw_eqStoWrite : FSem := fun ys => match ys with
 | [.val true [.str a0, .bool a1, .sl .any 3 (.int .i64) a2], .val true [.str a3, .bool a4, .sl .any 3 (.int .i64) a5]] => some ((g_Aw_eqStoWrite a0 a1 a2 a3 a4 a5), .val false [.bool (g_Vw_eqStoWrite_0 a0 a1 a2 a3 a4 a5)], [])
 | _ => none
theorem vw_eqStoWrite (a0 : ByteArray) (a1 : Bool) (a2 : List Int) (a3 : ByteArray) (a4 : Bool) (a5 : List Int) : collapseH .std Ew_eqStoWrite Ow_eqStoWrite_0 (execFn Ew_eqStoWrite Tryz.f185 msw_eqStoWrite [.val true [.str a0, .bool a1, .sl .any 3 (.int .i64) a2], .val true [.str a3, .bool a4, .sl .any 3 (.int .i64) a5]]) = some ((g_Aw_eqStoWrite a0 a1 a2 a3 a4 a5), .val false [.bool (g_Vw_eqStoWrite_0 a0 a1 a2 a3 a4 a5)], []) := by kernel_rfl
theorem sw_eqStoWrite : Sound Tryz.prog 185 msw_eqStoWrite Fw_eqStoWrite := by
 refine fn_gen goodw_eqStoWrite (by kernel_rfl) .std (fn := Tryz.f185) (c := (Tryz.f185.body.getD .skip)) (o := Ow_eqStoWrite_0) (k := 0) (by kernel_rfl) (by kernel_rfl) (by kernel_rfl) (by kernel_rfl) (by decide) kw_eqStoWrite_0 ?_
 intro ys r outs h
 unfold Fw_eqStoWrite at h
 split at h
 ·exact (vw_eqStoWrite _ _ _ _ _ _).trans h
 ·cases h
noncomputable def Ew_eqStoWriteS : Env where
 tt := mkTI Tryz.prog
 fn := fun f => match f with
  | 185 => some (msw_eqStoWrite, FSem.wk msw_eqStoWrite Fw_eqStoWrite)
  | _ => none
 bxf := fun _ => none
 mv := []
 keep := fun b => match b with
  | 0 => [(0, false), (1, false), (5, false)]
  | _ => []
 keepB := fun b => match b with
  | 0 => []
  | _ => []
 keepX := fun b => match b with
  | 0 => [(4, false)]
  | _ => []
 keepXB := fun b => match b with
  | 0 => []
  | _ => []
theorem goodFw_eqStoWriteS : ∀ f ms F, Ew_eqStoWriteS.fn f = some (ms, F) → Sound Tryz.prog f ms F := fun f ms F h => by
 unfold Ew_eqStoWriteS at h
 dsimp only at h
 split at h
 ·injection h with h; injection h with e1 e2; subst e1 e2; exact Sound.wk sw_eqStoWrite
 ·cases h
theorem goodBw_eqStoWriteS : ∀ f ms F, Ew_eqStoWriteS.bxf f = some (ms, F) → SoundB Tryz.prog f ms F := fun f ms F h => by cases h
theorem goodw_eqStoWriteS : Good Tryz.prog Ew_eqStoWriteS := ⟨rfl, goodFw_eqStoWriteS, goodBw_eqStoWriteS⟩
noncomputable def Ow_eqStoWriteS_0 : Orc := fun _ _ => none
noncomputable def msw_eqStoWriteS : List PM := [.rd, .rd]
noncomputable def lsw_eqStoWriteS : List (Nat × Code) := loopsAll 0 (Tryz.f163.body.getD .skip)
noncomputable def cw_eqStoWriteS_0 : Code := (loopOf 0 (Tryz.f163.body.getD .skip)).getD .skip
theorem lseqw_eqStoWriteS : lsw_eqStoWriteS = [(0, cw_eqStoWriteS_0)] := by kernel_rfl
theorem mw_eqStoWriteS_0 : ∀ p, p ∈ lsw_eqStoWriteS → p.1 = 0 → p.2 = cw_eqStoWriteS_0 := by
 intro p hp
 rw [lseqw_eqStoWriteS] at hp
 simp only [List.mem_cons, List.not_mem_nil, or_false] at hp
 subst hp; simp
theorem kw_eqStoWriteS_0 : OrcOk Ew_eqStoWriteS Ow_eqStoWriteS_0 lsw_eqStoWriteS 0 := orcOk_none
noncomputable def hw_eqStoWriteS_0 (y0 : List (ByteArray × (Bool × (List Int)))) (y1 : List (ByteArray × (Bool × (List Int)))) (y2 : Int) : List (Pl × LV) := [(.T 0, .t (.val false [.sl .any 39 (.pair .str (.pair .bool (.sl 3 (.int .i64)))) y0])), (.T 1, .t (.val false [.sl .any 39 (.pair .str (.pair .bool (.sl 3 (.int .i64)))) y1])), (.T 5, .t (.val false [.int .i64 y2]))]
noncomputable def g_Sw_eqStoWriteS_0 (y0 : List (ByteArray × (Bool × (List Int)))) (y1 : List (ByteArray × (Bool × (List Int)))) : (Int) → RT (Int) ((Bool) ⊕ (Unit))
 | y2 => .br (true) (.br (decide (y2 < (↑(List.length y0) : Int))) (.br (decide ((0 : Int) ≤ y2 ∧ y2 < (↑(List.length y0) : Int))) (.br (decide ((0 : Int) ≤ y2 ∧ y2 < (↑(List.length y1) : Int))) (.br (g_Aw_eqStoWrite (at_ (Ty.pair Ty.str (Ty.pair Ty.bool (Ty.sl (nat_lit 3) (Ty.int IntKind.i64)))) y0 (Int.toNat y2)).1 (at_ (Ty.pair Ty.str (Ty.pair Ty.bool (Ty.sl (nat_lit 3) (Ty.int IntKind.i64)))) y0 (Int.toNat y2)).2.1 (at_ (Ty.pair Ty.str (Ty.pair Ty.bool (Ty.sl (nat_lit 3) (Ty.int IntKind.i64)))) y0 (Int.toNat y2)).2.2 (at_ (Ty.pair Ty.str (Ty.pair Ty.bool (Ty.sl (nat_lit 3) (Ty.int IntKind.i64)))) y1 (Int.toNat y2)).1 (at_ (Ty.pair Ty.str (Ty.pair Ty.bool (Ty.sl (nat_lit 3) (Ty.int IntKind.i64)))) y1 (Int.toNat y2)).2.1 (at_ (Ty.pair Ty.str (Ty.pair Ty.bool (Ty.sl (nat_lit 3) (Ty.int IntKind.i64)))) y1 (Int.toNat y2)).2.2) (.br (!g_Vw_eqStoWrite_0 (at_ (Ty.pair Ty.str (Ty.pair Ty.bool (Ty.sl (nat_lit 3) (Ty.int IntKind.i64)))) y0 (Int.toNat y2)).1 (at_ (Ty.pair Ty.str (Ty.pair Ty.bool (Ty.sl (nat_lit 3) (Ty.int IntKind.i64)))) y0 (Int.toNat y2)).2.1 (at_ (Ty.pair Ty.str (Ty.pair Ty.bool (Ty.sl (nat_lit 3) (Ty.int IntKind.i64)))) y0 (Int.toNat y2)).2.2 (at_ (Ty.pair Ty.str (Ty.pair Ty.bool (Ty.sl (nat_lit 3) (Ty.int IntKind.i64)))) y1 (Int.toNat y2)).1 (at_ (Ty.pair Ty.str (Ty.pair Ty.bool (Ty.sl (nat_lit 3) (Ty.int IntKind.i64)))) y1 (Int.toNat y2)).2.1 (at_ (Ty.pair Ty.str (Ty.pair Ty.bool (Ty.sl (nat_lit 3) (Ty.int IntKind.i64)))) y1 (Int.toNat y2)).2.2) (.out (.inl false)) (.br (true) (.go (IntKind.wrap IntKind.i64 (y2 + (1 : Int)))) (.bad))) (.bad)) (.bad)) (.bad)) (.out (.inr (())))) (.bad)
noncomputable def g_Lw_eqStoWriteS_0 (y0 : List (ByteArray × (Bool × (List Int)))) (y1 : List (ByteArray × (Bool × (List Int)))) (x : Int) : Option ((Bool) ⊕ (Unit)) := loopO (g_Sw_eqStoWriteS_0 y0 y1) x
noncomputable def xw_eqStoWriteS_0 (y0 : List (ByteArray × (Bool × (List Int)))) (y1 : List (ByteArray × (Bool × (List Int)))) : ((Bool) ⊕ (Unit)) → Ex × List (Pl × LV) := fun
 | .inl r => (.ret, [(.T 4, .t (.val false [.bool r]))])
 | .inr (r) => (.exit 0, [(.T 4, .t (.val false [.undef]))])
noncomputable def Ow_eqStoWriteS_1 : Orc := fun b h => match b, h with
 | 0, [(.T 0, .t (.val false [.sl .any 39 (.pair .str (.pair .bool (.sl 3 (.int .i64)))) y0])), (.T 1, .t (.val false [.sl .any 39 (.pair .str (.pair .bool (.sl 3 (.int .i64)))) y1])), (.T 5, .t (.val false [.int .i64 y2]))] => some (okO (g_Lw_eqStoWriteS_0 y0 y1 y2), (.br (isL (valO (g_Lw_eqStoWriteS_0 y0 y1 y2))) (.leaf .ret [(.T 4, .t (.val false [.bool (getL (valO (g_Lw_eqStoWriteS_0 y0 y1 y2)))]))]) (.leaf (.exit 0) [(.T 4, .t (.val false [.undef]))])))
 | b, h => Ow_eqStoWriteS_0 b h
theorem bw_eqStoWriteS_0 (y0 : List (ByteArray × (Bool × (List Int)))) (y1 : List (ByteArray × (Bool × (List Int)))) (y2 : Int) : Tr.bt Ew_eqStoWriteS Ow_eqStoWriteS_0 (exec Ew_eqStoWriteS 0 cw_eqStoWriteS_0 (St.of (hw_eqStoWriteS_0 y0 y1 y2)) (leafRd Ew_eqStoWriteS 0)) = (g_Sw_eqStoWriteS_0 y0 y1 y2).bt (fun (y2 : Int) => (hw_eqStoWriteS_0 y0 y1 y2)) (xw_eqStoWriteS_0 y0 y1) := by kernel_rfl
theorem kw_eqStoWriteS_1 : OrcOk Ew_eqStoWriteS Ow_eqStoWriteS_1 lsw_eqStoWriteS 1 := orc_add kw_eqStoWriteS_0 (fun n p hp h ex h' ho => by
 obtain ⟨b, c⟩ := p
 obtain ⟨xt, h1, h2⟩ := ho
 have h1 : Ow_eqStoWriteS_1 b h = some (true, xt) := h1
 unfold Ow_eqStoWriteS_1 at h1
 split at h1
 ·injection h1 with h1
  injection h1 with e1 e2
  subst e2
  have hc : c = cw_eqStoWriteS_0 := mw_eqStoWriteS_0 _ hp rfl
  subst hc
  right
  rename_i y0 y1 y2
  have key := LT_step kw_eqStoWriteS_0 hp (fun q hq => loopsAll_in _ _ _ _ hp hq) (fun (y2 : Int) => (hw_eqStoWriteS_0 y0 y1 y2)) (xw_eqStoWriteS_0 y0 y1) (g_Sw_eqStoWriteS_0 y0 y1) (fun x => by first | exact bw_eqStoWriteS_0 y0 y1 x) n (x := y2) (okO_some e1)
  have hx : ∀ r, XT.sel (.br (isL r) (.leaf .ret [(.T 4, .t (.val false [.bool (getL r)]))]) (.leaf (.exit 0) [(.T 4, .t (.val false [.undef]))])) = xw_eqStoWriteS_0 y0 y1 r := fun r => by first | rfl | (rcases r with r | r <;> rfl) | (rcases r with r | r | r <;> rfl) | (rcases r with r | r | r | r <;> rfl)
  have h3 := (hx (valO (g_Lw_eqStoWriteS_0 y0 y1 y2))).symm.trans h2
  have e3 := congrArg Prod.fst h3
  have e4 := congrArg Prod.snd h3
  simp only at e3 e4
  rw [← e3, ← e4]
  exact key
 ·exact .inl ⟨xt, h1, h2⟩)
noncomputable def g_Aw_eqStoWriteS (a0 : List (ByteArray × (Bool × (List Int)))) (a1 : List (ByteArray × (Bool × (List Int)))) : Bool := (↑(List.length a0) : Int) != (↑(List.length a1) : Int) || okO (g_Lw_eqStoWriteS_0 a0 a1 (0 : Int))
noncomputable def g_Vw_eqStoWriteS_0 (a0 : List (ByteArray × (Bool × (List Int)))) (a1 : List (ByteArray × (Bool × (List Int)))) : Bool := bif (↑(List.length a0) : Int) != (↑(List.length a1) : Int) then false else bif isL (valO (g_Lw_eqStoWriteS_0 a0 a1 (0 : Int))) then getL (valO (g_Lw_eqStoWriteS_0 a0 a1 (0 : Int))) else true
noncomputable def Fw_eqStoWriteS : FSem := fun ys => match ys with
 | [.val false [.sl .any 39 (.pair .str (.pair .bool (.sl 3 (.int .i64)))) a0], .val false [.sl .any 39 (.pair .str (.pair .bool (.sl 3 (.int .i64)))) a1]] => some ((g_Aw_eqStoWriteS a0 a1), .val false [.bool (g_Vw_eqStoWriteS_0 a0 a1)], [])
 | _ => none
theorem vw_eqStoWriteS (a0 : List (ByteArray × (Bool × (List Int)))) (a1 : List (ByteArray × (Bool × (List Int)))) : collapseH .std Ew_eqStoWriteS Ow_eqStoWriteS_1 (execFn Ew_eqStoWriteS Tryz.f163 msw_eqStoWriteS [.val false [.sl .any 39 (.pair .str (.pair .bool (.sl 3 (.int .i64)))) a0], .val false [.sl .any 39 (.pair .str (.pair .bool (.sl 3 (.int .i64)))) a1]]) = some ((g_Aw_eqStoWriteS a0 a1), .val false [.bool (g_Vw_eqStoWriteS_0 a0 a1)], []) := by kernel_rfl
theorem sw_eqStoWriteS : Sound Tryz.prog 163 msw_eqStoWriteS Fw_eqStoWriteS := by
 refine fn_gen goodw_eqStoWriteS (by kernel_rfl) .std (fn := Tryz.f163) (c := (Tryz.f163.body.getD .skip)) (o := Ow_eqStoWriteS_1) (k := 1) (by kernel_rfl) (by kernel_rfl) (by kernel_rfl) (by kernel_rfl) (by decide) kw_eqStoWriteS_1 ?_
 intro ys r outs h
 unfold Fw_eqStoWriteS at h
 split at h
 ·exact (vw_eqStoWriteS _ _).trans h
 ·cases h
noncomputable def Ew_eqStringS : Env where
 tt := mkTI Tryz.prog
 fn := fun _ => none
 bxf := fun _ => none
 mv := []
 keep := fun b => match b with
  | 0 => [(0, false), (1, false), (5, false)]
  | _ => []
 keepB := fun b => match b with
  | 0 => []
  | _ => []
 keepX := fun b => match b with
  | 0 => [(4, false)]
  | _ => []
 keepXB := fun b => match b with
  | 0 => []
  | _ => []
theorem goodFw_eqStringS : ∀ f ms F, Ew_eqStringS.fn f = some (ms, F) → Sound Tryz.prog f ms F := fun f ms F h => by cases h
theorem goodBw_eqStringS : ∀ f ms F, Ew_eqStringS.bxf f = some (ms, F) → SoundB Tryz.prog f ms F := fun f ms F h => by cases h
theorem goodw_eqStringS : Good Tryz.prog Ew_eqStringS := ⟨rfl, goodFw_eqStringS, goodBw_eqStringS⟩
noncomputable def Ow_eqStringS_0 : Orc := fun _ _ => none
noncomputable def msw_eqStringS : List PM := [.rd, .rd]
noncomputable def lsw_eqStringS : List (Nat × Code) := loopsAll 0 (Tryz.f162.body.getD .skip)
noncomputable def cw_eqStringS_0 : Code := (loopOf 0 (Tryz.f162.body.getD .skip)).getD .skip
theorem lseqw_eqStringS : lsw_eqStringS = [(0, cw_eqStringS_0)] := by kernel_rfl
theorem mw_eqStringS_0 : ∀ p, p ∈ lsw_eqStringS → p.1 = 0 → p.2 = cw_eqStringS_0 := by
 intro p hp
 rw [lseqw_eqStringS] at hp
 simp only [List.mem_cons, List.not_mem_nil, or_false] at hp
 subst hp; simp
theorem kw_eqStringS_0 : OrcOk Ew_eqStringS Ow_eqStringS_0 lsw_eqStringS 0 := orcOk_none
noncomputable def hw_eqStringS_0 (y0 : List ByteArray) (y1 : List ByteArray) (y2 : Int) : List (Pl × LV) := [(.T 0, .t (.val false [.sl .any 9 .str y0])), (.T 1, .t (.val false [.sl .any 9 .str y1])), (.T 5, .t (.val false [.int .i64 y2]))]
noncomputable def g_Sw_eqStringS_0 (y0 : List ByteArray) (y1 : List ByteArray) : (Int) → RT (Int) ((Bool) ⊕ (Unit))
 | y2 => .br (true) (.br (decide (y2 < (↑(List.length y0) : Int))) (.br (decide ((0 : Int) ≤ y2 ∧ y2 < (↑(List.length y0) : Int))) (.br (decide ((0 : Int) ≤ y2 ∧ y2 < (↑(List.length y1) : Int))) (.br (true) (.br (!ByteArray.toList (at_ Ty.str y0 (Int.toNat y2)) == ByteArray.toList (at_ Ty.str y1 (Int.toNat y2))) (.out (.inl false)) (.br (true) (.go (IntKind.wrap IntKind.i64 (y2 + (1 : Int)))) (.bad))) (.bad)) (.bad)) (.bad)) (.out (.inr (())))) (.bad)
noncomputable def g_Lw_eqStringS_0 (y0 : List ByteArray) (y1 : List ByteArray) (x : Int) : Option ((Bool) ⊕ (Unit)) := loopO (g_Sw_eqStringS_0 y0 y1) x
noncomputable def xw_eqStringS_0 (y0 : List ByteArray) (y1 : List ByteArray) : ((Bool) ⊕ (Unit)) → Ex × List (Pl × LV) := fun
 | .inl r => (.ret, [(.T 4, .t (.val false [.bool r]))])
 | .inr (r) => (.exit 0, [(.T 4, .t (.val false [.undef]))])
noncomputable def Ow_eqStringS_1 : Orc := fun b h => match b, h with
 | 0, [(.T 0, .t (.val false [.sl .any 9 .str y0])), (.T 1, .t (.val false [.sl .any 9 .str y1])), (.T 5, .t (.val false [.int .i64 y2]))] => some (okO (g_Lw_eqStringS_0 y0 y1 y2), (.br (isL (valO (g_Lw_eqStringS_0 y0 y1 y2))) (.leaf .ret [(.T 4, .t (.val false [.bool (getL (valO (g_Lw_eqStringS_0 y0 y1 y2)))]))]) (.leaf (.exit 0) [(.T 4, .t (.val false [.undef]))])))
 | b, h => Ow_eqStringS_0 b h
theorem bw_eqStringS_0 (y0 : List ByteArray) (y1 : List ByteArray) (y2 : Int) : Tr.bt Ew_eqStringS Ow_eqStringS_0 (exec Ew_eqStringS 0 cw_eqStringS_0 (St.of (hw_eqStringS_0 y0 y1 y2)) (leafRd Ew_eqStringS 0)) = (g_Sw_eqStringS_0 y0 y1 y2).bt (fun (y2 : Int) => (hw_eqStringS_0 y0 y1 y2)) (xw_eqStringS_0 y0 y1) := by kernel_rfl
theorem kw_eqStringS_1 : OrcOk Ew_eqStringS Ow_eqStringS_1 lsw_eqStringS 1 := orc_add kw_eqStringS_0 (fun n p hp h ex h' ho => by
 obtain ⟨b, c⟩ := p
 obtain ⟨xt, h1, h2⟩ := ho
 have h1 : Ow_eqStringS_1 b h = some (true, xt) := h1
 unfold Ow_eqStringS_1 at h1
 split at h1
 ·injection h1 with h1
  injection h1 with e1 e2
  subst e2
  have hc : c = cw_eqStringS_0 := mw_eqStringS_0 _ hp rfl
  subst hc
  right
  rename_i y0 y1 y2
  have key := LT_step kw_eqStringS_0 hp (fun q hq => loopsAll_in _ _ _ _ hp hq) (fun (y2 : Int) => (hw_eqStringS_0 y0 y1 y2)) (xw_eqStringS_0 y0 y1) (g_Sw_eqStringS_0 y0 y1) (fun x => by first | exact bw_eqStringS_0 y0 y1 x) n (x := y2) (okO_some e1)
  have hx : ∀ r, XT.sel (.br (isL r) (.leaf .ret [(.T 4, .t (.val false [.bool (getL r)]))]) (.leaf (.exit 0) [(.T 4, .t (.val false [.undef]))])) = xw_eqStringS_0 y0 y1 r := fun r => by first | rfl | (rcases r with r | r <;> rfl) | (rcases r with r | r | r <;> rfl) | (rcases r with r | r | r | r <;> rfl)
  have h3 := (hx (valO (g_Lw_eqStringS_0 y0 y1 y2))).symm.trans h2
  have e3 := congrArg Prod.fst h3
  have e4 := congrArg Prod.snd h3
  simp only at e3 e4
  rw [← e3, ← e4]
  exact key
 ·exact .inl ⟨xt, h1, h2⟩)
noncomputable def g_Aw_eqStringS (a0 : List ByteArray) (a1 : List ByteArray) : Bool := (↑(List.length a0) : Int) != (↑(List.length a1) : Int) || okO (g_Lw_eqStringS_0 a0 a1 (0 : Int))
noncomputable def g_Vw_eqStringS_0 (a0 : List ByteArray) (a1 : List ByteArray) : Bool := bif (↑(List.length a0) : Int) != (↑(List.length a1) : Int) then false else bif isL (valO (g_Lw_eqStringS_0 a0 a1 (0 : Int))) then getL (valO (g_Lw_eqStringS_0 a0 a1 (0 : Int))) else true
noncomputable def Fw_eqStringS : FSem := fun ys => match ys with
 | [.val false [.sl .any 9 .str a0], .val false [.sl .any 9 .str a1]] => some ((g_Aw_eqStringS a0 a1), .val false [.bool (g_Vw_eqStringS_0 a0 a1)], [])
 | _ => none
theorem vw_eqStringS (a0 : List ByteArray) (a1 : List ByteArray) : collapseH .std Ew_eqStringS Ow_eqStringS_1 (execFn Ew_eqStringS Tryz.f162 msw_eqStringS [.val false [.sl .any 9 .str a0], .val false [.sl .any 9 .str a1]]) = some ((g_Aw_eqStringS a0 a1), .val false [.bool (g_Vw_eqStringS_0 a0 a1)], []) := by kernel_rfl
theorem sw_eqStringS : Sound Tryz.prog 162 msw_eqStringS Fw_eqStringS := by
 refine fn_gen goodw_eqStringS (by kernel_rfl) .std (fn := Tryz.f162) (c := (Tryz.f162.body.getD .skip)) (o := Ow_eqStringS_1) (k := 1) (by kernel_rfl) (by kernel_rfl) (by kernel_rfl) (by kernel_rfl) (by decide) kw_eqStringS_1 ?_
 intro ys r outs h
 unfold Fw_eqStringS at h
 split at h
 ·exact (vw_eqStringS _ _).trans h
 ·cases h
noncomputable def Ew_eqLogNote : Env where
 tt := mkTI Tryz.prog
 fn := fun f => match f with
  | 162 => some (msw_eqStringS, FSem.wk msw_eqStringS Fw_eqStringS)
  | 163 => some (msw_eqStoWriteS, FSem.wk msw_eqStoWriteS Fw_eqStoWriteS)
  | _ => none
 bxf := fun _ => none
 mv := []
 keep := fun _ => []
 keepB := fun _ => []
 keepX := fun _ => []
 keepXB := fun _ => []
theorem goodFw_eqLogNote : ∀ f ms F, Ew_eqLogNote.fn f = some (ms, F) → Sound Tryz.prog f ms F := fun f ms F h => by
 unfold Ew_eqLogNote at h
 dsimp only at h
 split at h
 ·injection h with h; injection h with e1 e2; subst e1 e2; exact Sound.wk sw_eqStringS
 ·injection h with h; injection h with e1 e2; subst e1 e2; exact Sound.wk sw_eqStoWriteS
 ·cases h
theorem goodBw_eqLogNote : ∀ f ms F, Ew_eqLogNote.bxf f = some (ms, F) → SoundB Tryz.prog f ms F := fun f ms F h => by cases h
theorem goodw_eqLogNote : Good Tryz.prog Ew_eqLogNote := ⟨rfl, goodFw_eqLogNote, goodBw_eqLogNote⟩
noncomputable def Ow_eqLogNote_0 : Orc := fun _ _ => none
noncomputable def msw_eqLogNote : List PM := [.rd, .rd]
noncomputable def lsw_eqLogNote : List (Nat × Code) := loopsAll 0 (Tryz.f120.body.getD .skip)
theorem kw_eqLogNote_0 : OrcOk Ew_eqLogNote Ow_eqLogNote_0 lsw_eqLogNote 0 := orcOk_none
noncomputable def g_Aw_eqLogNote (a0 : Int) (a1 : Int) (a2 : List ByteArray) (a3 : List (ByteArray × (Bool × (List Int)))) (a4 : Int) (a5 : Int) (a6 : List ByteArray) (a7 : List (ByteArray × (Bool × (List Int)))) : Bool := a0 != a4 || (a1 != a5 || g_Aw_eqStringS a2 a6 && (!g_Vw_eqStringS_0 a2 a6 || g_Aw_eqStoWriteS a3 a7))
noncomputable def g_Vw_eqLogNote_0 (a0 : Int) (a1 : Int) (a2 : List ByteArray) (a3 : List (ByteArray × (Bool × (List Int)))) (a4 : Int) (a5 : Int) (a6 : List ByteArray) (a7 : List (ByteArray × (Bool × (List Int)))) : Bool := bif a0 != a4 then false else bif a1 != a5 then false else bif !g_Vw_eqStringS_0 a2 a6 then false else bif !g_Vw_eqStoWriteS_0 a3 a7 then false else true
noncomputable def Fw_eqLogNote : FSem := fun ys => match ys with
 | [.val true [.int .i64 a0, .int .i64 a1, .sl .any 9 .str a2, .sl .any 39 (.pair .str (.pair .bool (.sl 3 (.int .i64)))) a3], .val true [.int .i64 a4, .int .i64 a5, .sl .any 9 .str a6, .sl .any 39 (.pair .str (.pair .bool (.sl 3 (.int .i64)))) a7]] => some ((g_Aw_eqLogNote a0 a1 a2 a3 a4 a5 a6 a7), .val false [.bool (g_Vw_eqLogNote_0 a0 a1 a2 a3 a4 a5 a6 a7)], [])
 | _ => none
theorem vw_eqLogNote (a0 : Int) (a1 : Int) (a2 : List ByteArray) (a3 : List (ByteArray × (Bool × (List Int)))) (a4 : Int) (a5 : Int) (a6 : List ByteArray) (a7 : List (ByteArray × (Bool × (List Int)))) : collapseH .std Ew_eqLogNote Ow_eqLogNote_0 (execFn Ew_eqLogNote Tryz.f120 msw_eqLogNote [.val true [.int .i64 a0, .int .i64 a1, .sl .any 9 .str a2, .sl .any 39 (.pair .str (.pair .bool (.sl 3 (.int .i64)))) a3], .val true [.int .i64 a4, .int .i64 a5, .sl .any 9 .str a6, .sl .any 39 (.pair .str (.pair .bool (.sl 3 (.int .i64)))) a7]]) = some ((g_Aw_eqLogNote a0 a1 a2 a3 a4 a5 a6 a7), .val false [.bool (g_Vw_eqLogNote_0 a0 a1 a2 a3 a4 a5 a6 a7)], []) := by kernel_rfl
theorem sw_eqLogNote : Sound Tryz.prog 120 msw_eqLogNote Fw_eqLogNote := by
 refine fn_gen goodw_eqLogNote (by kernel_rfl) .std (fn := Tryz.f120) (c := (Tryz.f120.body.getD .skip)) (o := Ow_eqLogNote_0) (k := 0) (by kernel_rfl) (by kernel_rfl) (by kernel_rfl) (by kernel_rfl) (by decide) kw_eqLogNote_0 ?_
 intro ys r outs h
 unfold Fw_eqLogNote at h
 split at h
 ·exact (vw_eqLogNote _ _ _ _ _ _ _ _).trans h
 ·cases h
noncomputable def Ew_eqLogNoteS : Env where
 tt := mkTI Tryz.prog
 fn := fun f => match f with
  | 120 => some (msw_eqLogNote, FSem.wk msw_eqLogNote Fw_eqLogNote)
  | _ => none
 bxf := fun _ => none
 mv := []
 keep := fun b => match b with
  | 0 => [(0, false), (1, false), (5, false)]
  | _ => []
 keepB := fun b => match b with
  | 0 => []
  | _ => []
 keepX := fun b => match b with
  | 0 => [(4, false)]
  | _ => []
 keepXB := fun b => match b with
  | 0 => []
  | _ => []
theorem goodFw_eqLogNoteS : ∀ f ms F, Ew_eqLogNoteS.fn f = some (ms, F) → Sound Tryz.prog f ms F := fun f ms F h => by
 unfold Ew_eqLogNoteS at h
 dsimp only at h
 split at h
 ·injection h with h; injection h with e1 e2; subst e1 e2; exact Sound.wk sw_eqLogNote
 ·cases h
theorem goodBw_eqLogNoteS : ∀ f ms F, Ew_eqLogNoteS.bxf f = some (ms, F) → SoundB Tryz.prog f ms F := fun f ms F h => by cases h
theorem goodw_eqLogNoteS : Good Tryz.prog Ew_eqLogNoteS := ⟨rfl, goodFw_eqLogNoteS, goodBw_eqLogNoteS⟩
noncomputable def Ow_eqLogNoteS_0 : Orc := fun _ _ => none
noncomputable def msw_eqLogNoteS : List PM := [.rd, .rd]
noncomputable def lsw_eqLogNoteS : List (Nat × Code) := loopsAll 0 (Tryz.f72.body.getD .skip)
noncomputable def cw_eqLogNoteS_0 : Code := (loopOf 0 (Tryz.f72.body.getD .skip)).getD .skip
theorem lseqw_eqLogNoteS : lsw_eqLogNoteS = [(0, cw_eqLogNoteS_0)] := by kernel_rfl
theorem mw_eqLogNoteS_0 : ∀ p, p ∈ lsw_eqLogNoteS → p.1 = 0 → p.2 = cw_eqLogNoteS_0 := by
 intro p hp
 rw [lseqw_eqLogNoteS] at hp
 simp only [List.mem_cons, List.not_mem_nil, or_false] at hp
 subst hp; simp
theorem kw_eqLogNoteS_0 : OrcOk Ew_eqLogNoteS Ow_eqLogNoteS_0 lsw_eqLogNoteS 0 := orcOk_none
noncomputable def hw_eqLogNoteS_0 (y0 : List (Int × (Int × ((List ByteArray) × (List (ByteArray × (Bool × (List Int)))))))) (y1 : List (Int × (Int × ((List ByteArray) × (List (ByteArray × (Bool × (List Int)))))))) (y2 : Int) : List (Pl × LV) := [(.T 0, .t (.val false [.sl .any 72 (.pair (.int .i64) (.pair (.int .i64) (.pair (.sl 9 .str) (.sl 39 (.pair .str (.pair .bool (.sl 3 (.int .i64)))))))) y0])), (.T 1, .t (.val false [.sl .any 72 (.pair (.int .i64) (.pair (.int .i64) (.pair (.sl 9 .str) (.sl 39 (.pair .str (.pair .bool (.sl 3 (.int .i64)))))))) y1])), (.T 5, .t (.val false [.int .i64 y2]))]
noncomputable def g_Sw_eqLogNoteS_0 (y0 : List (Int × (Int × ((List ByteArray) × (List (ByteArray × (Bool × (List Int)))))))) (y1 : List (Int × (Int × ((List ByteArray) × (List (ByteArray × (Bool × (List Int)))))))) : (Int) → RT (Int) ((Bool) ⊕ (Unit))
 | y2 => .br (true) (.br (decide (y2 < (↑(List.length y0) : Int))) (.br (decide ((0 : Int) ≤ y2 ∧ y2 < (↑(List.length y0) : Int))) (.br (decide ((0 : Int) ≤ y2 ∧ y2 < (↑(List.length y1) : Int))) (.br (g_Aw_eqLogNote (at_ (Ty.pair (Ty.int IntKind.i64) (Ty.pair (Ty.int IntKind.i64) (Ty.pair (Ty.sl (nat_lit 9) Ty.str) (Ty.sl (nat_lit 39) (Ty.pair Ty.str (Ty.pair Ty.bool (Ty.sl (nat_lit 3) (Ty.int IntKind.i64)))))))) y0 (Int.toNat y2)).1 (at_ (Ty.pair (Ty.int IntKind.i64) (Ty.pair (Ty.int IntKind.i64) (Ty.pair (Ty.sl (nat_lit 9) Ty.str) (Ty.sl (nat_lit 39) (Ty.pair Ty.str (Ty.pair Ty.bool (Ty.sl (nat_lit 3) (Ty.int IntKind.i64)))))))) y0 (Int.toNat y2)).2.1 (at_ (Ty.pair (Ty.int IntKind.i64) (Ty.pair (Ty.int IntKind.i64) (Ty.pair (Ty.sl (nat_lit 9) Ty.str) (Ty.sl (nat_lit 39) (Ty.pair Ty.str (Ty.pair Ty.bool (Ty.sl (nat_lit 3) (Ty.int IntKind.i64)))))))) y0 (Int.toNat y2)).2.2.1 (at_ (Ty.pair (Ty.int IntKind.i64) (Ty.pair (Ty.int IntKind.i64) (Ty.pair (Ty.sl (nat_lit 9) Ty.str) (Ty.sl (nat_lit 39) (Ty.pair Ty.str (Ty.pair Ty.bool (Ty.sl (nat_lit 3) (Ty.int IntKind.i64)))))))) y0 (Int.toNat y2)).2.2.2 (at_ (Ty.pair (Ty.int IntKind.i64) (Ty.pair (Ty.int IntKind.i64) (Ty.pair (Ty.sl (nat_lit 9) Ty.str) (Ty.sl (nat_lit 39) (Ty.pair Ty.str (Ty.pair Ty.bool (Ty.sl (nat_lit 3) (Ty.int IntKind.i64)))))))) y1 (Int.toNat y2)).1 (at_ (Ty.pair (Ty.int IntKind.i64) (Ty.pair (Ty.int IntKind.i64) (Ty.pair (Ty.sl (nat_lit 9) Ty.str) (Ty.sl (nat_lit 39) (Ty.pair Ty.str (Ty.pair Ty.bool (Ty.sl (nat_lit 3) (Ty.int IntKind.i64)))))))) y1 (Int.toNat y2)).2.1 (at_ (Ty.pair (Ty.int IntKind.i64) (Ty.pair (Ty.int IntKind.i64) (Ty.pair (Ty.sl (nat_lit 9) Ty.str) (Ty.sl (nat_lit 39) (Ty.pair Ty.str (Ty.pair Ty.bool (Ty.sl (nat_lit 3) (Ty.int IntKind.i64)))))))) y1 (Int.toNat y2)).2.2.1 (at_ (Ty.pair (Ty.int IntKind.i64) (Ty.pair (Ty.int IntKind.i64) (Ty.pair (Ty.sl (nat_lit 9) Ty.str) (Ty.sl (nat_lit 39) (Ty.pair Ty.str (Ty.pair Ty.bool (Ty.sl (nat_lit 3) (Ty.int IntKind.i64)))))))) y1 (Int.toNat y2)).2.2.2) (.br (!g_Vw_eqLogNote_0 (at_ (Ty.pair (Ty.int IntKind.i64) (Ty.pair (Ty.int IntKind.i64) (Ty.pair (Ty.sl (nat_lit 9) Ty.str) (Ty.sl (nat_lit 39) (Ty.pair Ty.str (Ty.pair Ty.bool (Ty.sl (nat_lit 3) (Ty.int IntKind.i64)))))))) y0 (Int.toNat y2)).1 (at_ (Ty.pair (Ty.int IntKind.i64) (Ty.pair (Ty.int IntKind.i64) (Ty.pair (Ty.sl (nat_lit 9) Ty.str) (Ty.sl (nat_lit 39) (Ty.pair Ty.str (Ty.pair Ty.bool (Ty.sl (nat_lit 3) (Ty.int IntKind.i64)))))))) y0 (Int.toNat y2)).2.1 (at_ (Ty.pair (Ty.int IntKind.i64) (Ty.pair (Ty.int IntKind.i64) (Ty.pair (Ty.sl (nat_lit 9) Ty.str) (Ty.sl (nat_lit 39) (Ty.pair Ty.str (Ty.pair Ty.bool (Ty.sl (nat_lit 3) (Ty.int IntKind.i64)))))))) y0 (Int.toNat y2)).2.2.1 (at_ (Ty.pair (Ty.int IntKind.i64) (Ty.pair (Ty.int IntKind.i64) (Ty.pair (Ty.sl (nat_lit 9) Ty.str) (Ty.sl (nat_lit 39) (Ty.pair Ty.str (Ty.pair Ty.bool (Ty.sl (nat_lit 3) (Ty.int IntKind.i64)))))))) y0 (Int.toNat y2)).2.2.2 (at_ (Ty.pair (Ty.int IntKind.i64) (Ty.pair (Ty.int IntKind.i64) (Ty.pair (Ty.sl (nat_lit 9) Ty.str) (Ty.sl (nat_lit 39) (Ty.pair Ty.str (Ty.pair Ty.bool (Ty.sl (nat_lit 3) (Ty.int IntKind.i64)))))))) y1 (Int.toNat y2)).1 (at_ (Ty.pair (Ty.int IntKind.i64) (Ty.pair (Ty.int IntKind.i64) (Ty.pair (Ty.sl (nat_lit 9) Ty.str) (Ty.sl (nat_lit 39) (Ty.pair Ty.str (Ty.pair Ty.bool (Ty.sl (nat_lit 3) (Ty.int IntKind.i64)))))))) y1 (Int.toNat y2)).2.1 (at_ (Ty.pair (Ty.int IntKind.i64) (Ty.pair (Ty.int IntKind.i64) (Ty.pair (Ty.sl (nat_lit 9) Ty.str) (Ty.sl (nat_lit 39) (Ty.pair Ty.str (Ty.pair Ty.bool (Ty.sl (nat_lit 3) (Ty.int IntKind.i64)))))))) y1 (Int.toNat y2)).2.2.1 (at_ (Ty.pair (Ty.int IntKind.i64) (Ty.pair (Ty.int IntKind.i64) (Ty.pair (Ty.sl (nat_lit 9) Ty.str) (Ty.sl (nat_lit 39) (Ty.pair Ty.str (Ty.pair Ty.bool (Ty.sl (nat_lit 3) (Ty.int IntKind.i64)))))))) y1 (Int.toNat y2)).2.2.2) (.out (.inl false)) (.br (true) (.go (IntKind.wrap IntKind.i64 (y2 + (1 : Int)))) (.bad))) (.bad)) (.bad)) (.bad)) (.out (.inr (())))) (.bad)
noncomputable def g_Lw_eqLogNoteS_0 (y0 : List (Int × (Int × ((List ByteArray) × (List (ByteArray × (Bool × (List Int)))))))) (y1 : List (Int × (Int × ((List ByteArray) × (List (ByteArray × (Bool × (List Int)))))))) (x : Int) : Option ((Bool) ⊕ (Unit)) := loopO (g_Sw_eqLogNoteS_0 y0 y1) x
noncomputable def xw_eqLogNoteS_0 (y0 : List (Int × (Int × ((List ByteArray) × (List (ByteArray × (Bool × (List Int)))))))) (y1 : List (Int × (Int × ((List ByteArray) × (List (ByteArray × (Bool × (List Int)))))))) : ((Bool) ⊕ (Unit)) → Ex × List (Pl × LV) := fun
 | .inl r => (.ret, [(.T 4, .t (.val false [.bool r]))])
 | .inr (r) => (.exit 0, [(.T 4, .t (.val false [.undef]))])
noncomputable def Ow_eqLogNoteS_1 : Orc := fun b h => match b, h with
 | 0, [(.T 0, .t (.val false [.sl .any 72 (.pair (.int .i64) (.pair (.int .i64) (.pair (.sl 9 .str) (.sl 39 (.pair .str (.pair .bool (.sl 3 (.int .i64)))))))) y0])), (.T 1, .t (.val false [.sl .any 72 (.pair (.int .i64) (.pair (.int .i64) (.pair (.sl 9 .str) (.sl 39 (.pair .str (.pair .bool (.sl 3 (.int .i64)))))))) y1])), (.T 5, .t (.val false [.int .i64 y2]))] => some (okO (g_Lw_eqLogNoteS_0 y0 y1 y2), (.br (isL (valO (g_Lw_eqLogNoteS_0 y0 y1 y2))) (.leaf .ret [(.T 4, .t (.val false [.bool (getL (valO (g_Lw_eqLogNoteS_0 y0 y1 y2)))]))]) (.leaf (.exit 0) [(.T 4, .t (.val false [.undef]))])))
 | b, h => Ow_eqLogNoteS_0 b h
theorem bw_eqLogNoteS_0 (y0 : List (Int × (Int × ((List ByteArray) × (List (ByteArray × (Bool × (List Int)))))))) (y1 : List (Int × (Int × ((List ByteArray) × (List (ByteArray × (Bool × (List Int)))))))) (y2 : Int) : Tr.bt Ew_eqLogNoteS Ow_eqLogNoteS_0 (exec Ew_eqLogNoteS 0 cw_eqLogNoteS_0 (St.of (hw_eqLogNoteS_0 y0 y1 y2)) (leafRd Ew_eqLogNoteS 0)) = (g_Sw_eqLogNoteS_0 y0 y1 y2).bt (fun (y2 : Int) => (hw_eqLogNoteS_0 y0 y1 y2)) (xw_eqLogNoteS_0 y0 y1) := by kernel_rfl
theorem kw_eqLogNoteS_1 : OrcOk Ew_eqLogNoteS Ow_eqLogNoteS_1 lsw_eqLogNoteS 1 := orc_add kw_eqLogNoteS_0 (fun n p hp h ex h' ho => by
 obtain ⟨b, c⟩ := p
 obtain ⟨xt, h1, h2⟩ := ho
 have h1 : Ow_eqLogNoteS_1 b h = some (true, xt) := h1
 unfold Ow_eqLogNoteS_1 at h1
 split at h1
 ·injection h1 with h1
  injection h1 with e1 e2
  subst e2
  have hc : c = cw_eqLogNoteS_0 := mw_eqLogNoteS_0 _ hp rfl
  subst hc
  right
  rename_i y0 y1 y2
  have key := LT_step kw_eqLogNoteS_0 hp (fun q hq => loopsAll_in _ _ _ _ hp hq) (fun (y2 : Int) => (hw_eqLogNoteS_0 y0 y1 y2)) (xw_eqLogNoteS_0 y0 y1) (g_Sw_eqLogNoteS_0 y0 y1) (fun x => by first | exact bw_eqLogNoteS_0 y0 y1 x) n (x := y2) (okO_some e1)
  have hx : ∀ r, XT.sel (.br (isL r) (.leaf .ret [(.T 4, .t (.val false [.bool (getL r)]))]) (.leaf (.exit 0) [(.T 4, .t (.val false [.undef]))])) = xw_eqLogNoteS_0 y0 y1 r := fun r => by first | rfl | (rcases r with r | r <;> rfl) | (rcases r with r | r | r <;> rfl) | (rcases r with r | r | r | r <;> rfl)
  have h3 := (hx (valO (g_Lw_eqLogNoteS_0 y0 y1 y2))).symm.trans h2
  have e3 := congrArg Prod.fst h3
  have e4 := congrArg Prod.snd h3
  simp only at e3 e4
  rw [← e3, ← e4]
  exact key
 ·exact .inl ⟨xt, h1, h2⟩)
noncomputable def g_Aw_eqLogNoteS (a0 : List (Int × (Int × ((List ByteArray) × (List (ByteArray × (Bool × (List Int)))))))) (a1 : List (Int × (Int × ((List ByteArray) × (List (ByteArray × (Bool × (List Int)))))))) : Bool := (↑(List.length a0) : Int) != (↑(List.length a1) : Int) || okO (g_Lw_eqLogNoteS_0 a0 a1 (0 : Int))
noncomputable def g_Vw_eqLogNoteS_0 (a0 : List (Int × (Int × ((List ByteArray) × (List (ByteArray × (Bool × (List Int)))))))) (a1 : List (Int × (Int × ((List ByteArray) × (List (ByteArray × (Bool × (List Int)))))))) : Bool := bif (↑(List.length a0) : Int) != (↑(List.length a1) : Int) then false else bif isL (valO (g_Lw_eqLogNoteS_0 a0 a1 (0 : Int))) then getL (valO (g_Lw_eqLogNoteS_0 a0 a1 (0 : Int))) else true
noncomputable def Fw_eqLogNoteS : FSem := fun ys => match ys with
 | [.val false [.sl .any 72 (.pair (.int .i64) (.pair (.int .i64) (.pair (.sl 9 .str) (.sl 39 (.pair .str (.pair .bool (.sl 3 (.int .i64)))))))) a0], .val false [.sl .any 72 (.pair (.int .i64) (.pair (.int .i64) (.pair (.sl 9 .str) (.sl 39 (.pair .str (.pair .bool (.sl 3 (.int .i64)))))))) a1]] => some ((g_Aw_eqLogNoteS a0 a1), .val false [.bool (g_Vw_eqLogNoteS_0 a0 a1)], [])
 | _ => none
theorem vw_eqLogNoteS (a0 : List (Int × (Int × ((List ByteArray) × (List (ByteArray × (Bool × (List Int)))))))) (a1 : List (Int × (Int × ((List ByteArray) × (List (ByteArray × (Bool × (List Int)))))))) : collapseH .std Ew_eqLogNoteS Ow_eqLogNoteS_1 (execFn Ew_eqLogNoteS Tryz.f72 msw_eqLogNoteS [.val false [.sl .any 72 (.pair (.int .i64) (.pair (.int .i64) (.pair (.sl 9 .str) (.sl 39 (.pair .str (.pair .bool (.sl 3 (.int .i64)))))))) a0], .val false [.sl .any 72 (.pair (.int .i64) (.pair (.int .i64) (.pair (.sl 9 .str) (.sl 39 (.pair .str (.pair .bool (.sl 3 (.int .i64)))))))) a1]]) = some ((g_Aw_eqLogNoteS a0 a1), .val false [.bool (g_Vw_eqLogNoteS_0 a0 a1)], []) := by kernel_rfl
theorem sw_eqLogNoteS : Sound Tryz.prog 72 msw_eqLogNoteS Fw_eqLogNoteS := by
 refine fn_gen goodw_eqLogNoteS (by kernel_rfl) .std (fn := Tryz.f72) (c := (Tryz.f72.body.getD .skip)) (o := Ow_eqLogNoteS_1) (k := 1) (by kernel_rfl) (by kernel_rfl) (by kernel_rfl) (by kernel_rfl) (by decide) kw_eqLogNoteS_1 ?_
 intro ys r outs h
 unfold Fw_eqLogNoteS at h
 split at h
 ·exact (vw_eqLogNoteS _ _).trans h
 ·cases h
noncomputable def Ew_eqLogDisk : Env where
 tt := mkTI Tryz.prog
 fn := fun f => match f with
  | 72 => some (msw_eqLogNoteS, FSem.wk msw_eqLogNoteS Fw_eqLogNoteS)
  | _ => none
 bxf := fun _ => none
 mv := []
 keep := fun _ => []
 keepB := fun _ => []
 keepX := fun _ => []
 keepXB := fun _ => []
theorem goodFw_eqLogDisk : ∀ f ms F, Ew_eqLogDisk.fn f = some (ms, F) → Sound Tryz.prog f ms F := fun f ms F h => by
 unfold Ew_eqLogDisk at h
 dsimp only at h
 split at h
 ·injection h with h; injection h with e1 e2; subst e1 e2; exact Sound.wk sw_eqLogNoteS
 ·cases h
theorem goodBw_eqLogDisk : ∀ f ms F, Ew_eqLogDisk.bxf f = some (ms, F) → SoundB Tryz.prog f ms F := fun f ms F h => by cases h
theorem goodw_eqLogDisk : Good Tryz.prog Ew_eqLogDisk := ⟨rfl, goodFw_eqLogDisk, goodBw_eqLogDisk⟩
noncomputable def Ow_eqLogDisk_0 : Orc := fun _ _ => none
noncomputable def msw_eqLogDisk : List PM := [.rd, .rd]
noncomputable def lsw_eqLogDisk : List (Nat × Code) := loopsAll 0 (Tryz.f27.body.getD .skip)
theorem kw_eqLogDisk_0 : OrcOk Ew_eqLogDisk Ow_eqLogDisk_0 lsw_eqLogDisk 0 := orcOk_none
noncomputable def g_Aw_eqLogDisk (a0 : List (Int × (Int × ((List ByteArray) × (List (ByteArray × (Bool × (List Int)))))))) (a1 : Int) (a2 : List (Int × (Int × ((List ByteArray) × (List (ByteArray × (Bool × (List Int)))))))) (a3 : Int) : Bool := g_Aw_eqLogNoteS a0 a2 && (!g_Vw_eqLogNoteS_0 a0 a2 || true)
noncomputable def g_Vw_eqLogDisk_0 (a0 : List (Int × (Int × ((List ByteArray) × (List (ByteArray × (Bool × (List Int)))))))) (a1 : Int) (a2 : List (Int × (Int × ((List ByteArray) × (List (ByteArray × (Bool × (List Int)))))))) (a3 : Int) : Bool := bif !g_Vw_eqLogNoteS_0 a0 a2 then false else bif a1 != a3 then false else true
noncomputable def Fw_eqLogDisk : FSem := fun ys => match ys with
 | [.val true [.sl .any 72 (.pair (.int .i64) (.pair (.int .i64) (.pair (.sl 9 .str) (.sl 39 (.pair .str (.pair .bool (.sl 3 (.int .i64)))))))) a0, .int .i64 a1], .val true [.sl .any 72 (.pair (.int .i64) (.pair (.int .i64) (.pair (.sl 9 .str) (.sl 39 (.pair .str (.pair .bool (.sl 3 (.int .i64)))))))) a2, .int .i64 a3]] => some ((g_Aw_eqLogDisk a0 a1 a2 a3), .val false [.bool (g_Vw_eqLogDisk_0 a0 a1 a2 a3)], [])
 | _ => none
theorem vw_eqLogDisk (a0 : List (Int × (Int × ((List ByteArray) × (List (ByteArray × (Bool × (List Int)))))))) (a1 : Int) (a2 : List (Int × (Int × ((List ByteArray) × (List (ByteArray × (Bool × (List Int)))))))) (a3 : Int) : collapseH .std Ew_eqLogDisk Ow_eqLogDisk_0 (execFn Ew_eqLogDisk Tryz.f27 msw_eqLogDisk [.val true [.sl .any 72 (.pair (.int .i64) (.pair (.int .i64) (.pair (.sl 9 .str) (.sl 39 (.pair .str (.pair .bool (.sl 3 (.int .i64)))))))) a0, .int .i64 a1], .val true [.sl .any 72 (.pair (.int .i64) (.pair (.int .i64) (.pair (.sl 9 .str) (.sl 39 (.pair .str (.pair .bool (.sl 3 (.int .i64)))))))) a2, .int .i64 a3]]) = some ((g_Aw_eqLogDisk a0 a1 a2 a3), .val false [.bool (g_Vw_eqLogDisk_0 a0 a1 a2 a3)], []) := by kernel_rfl
theorem sw_eqLogDisk : Sound Tryz.prog 27 msw_eqLogDisk Fw_eqLogDisk := by
 refine fn_gen goodw_eqLogDisk (by kernel_rfl) .std (fn := Tryz.f27) (c := (Tryz.f27.body.getD .skip)) (o := Ow_eqLogDisk_0) (k := 0) (by kernel_rfl) (by kernel_rfl) (by kernel_rfl) (by kernel_rfl) (by decide) kw_eqLogDisk_0 ?_
 intro ys r outs h
 unfold Fw_eqLogDisk at h
 split at h
 ·exact (vw_eqLogDisk _ _ _ _).trans h
 ·cases h
noncomputable def Ew_eqStoItem : Env where
 tt := mkTI Tryz.prog
 fn := fun f => match f with
  | 161 => some (msw_eqIntS, FSem.wk msw_eqIntS Fw_eqIntS)
  | _ => none
 bxf := fun _ => none
 mv := []
 keep := fun _ => []
 keepB := fun _ => []
 keepX := fun _ => []
 keepXB := fun _ => []
theorem goodFw_eqStoItem : ∀ f ms F, Ew_eqStoItem.fn f = some (ms, F) → Sound Tryz.prog f ms F := fun f ms F h => by
 unfold Ew_eqStoItem at h
 dsimp only at h
 split at h
 ·injection h with h; injection h with e1 e2; subst e1 e2; exact Sound.wk sw_eqIntS
 ·cases h
theorem goodBw_eqStoItem : ∀ f ms F, Ew_eqStoItem.bxf f = some (ms, F) → SoundB Tryz.prog f ms F := fun f ms F h => by cases h
theorem goodw_eqStoItem : Good Tryz.prog Ew_eqStoItem := ⟨rfl, goodFw_eqStoItem, goodBw_eqStoItem⟩
noncomputable def Ow_eqStoItem_0 : Orc := fun _ _ => none
noncomputable def msw_eqStoItem : List PM := [.rd, .rd]
noncomputable def lsw_eqStoItem : List (Nat × Code) := loopsAll 0 (Tryz.f119.body.getD .skip)
theorem kw_eqStoItem_0 : OrcOk Ew_eqStoItem Ow_eqStoItem_0 lsw_eqStoItem 0 := orcOk_none
noncomputable def g_Aw_eqStoItem (a0 : ByteArray) (a1 : List Int) (a2 : ByteArray) (a3 : List Int) : Bool := !ByteArray.toList a0 == ByteArray.toList a2 || g_Aw_eqIntS a1 a3
noncomputable def g_Vw_eqStoItem_0 (a0 : ByteArray) (a1 : List Int) (a2 : ByteArray) (a3 : List Int) : Bool := bif !ByteArray.toList a0 == ByteArray.toList a2 then false else bif !g_Vw_eqIntS_0 a1 a3 then false else true
noncomputable def Fw_eqStoItem : FSem := fun ys => match ys with
 | [.val true [.str a0, .sl .any 3 (.int .i64) a1], .val true [.str a2, .sl .any 3 (.int .i64) a3]] => some ((g_Aw_eqStoItem a0 a1 a2 a3), .val false [.bool (g_Vw_eqStoItem_0 a0 a1 a2 a3)], [])
 | _ => none
theorem vw_eqStoItem (a0 : ByteArray) (a1 : List Int) (a2 : ByteArray) (a3 : List Int) : collapseH .std Ew_eqStoItem Ow_eqStoItem_0 (execFn Ew_eqStoItem Tryz.f119 msw_eqStoItem [.val true [.str a0, .sl .any 3 (.int .i64) a1], .val true [.str a2, .sl .any 3 (.int .i64) a3]]) = some ((g_Aw_eqStoItem a0 a1 a2 a3), .val false [.bool (g_Vw_eqStoItem_0 a0 a1 a2 a3)], []) := by kernel_rfl
theorem sw_eqStoItem : Sound Tryz.prog 119 msw_eqStoItem Fw_eqStoItem := by
 refine fn_gen goodw_eqStoItem (by kernel_rfl) .std (fn := Tryz.f119) (c := (Tryz.f119.body.getD .skip)) (o := Ow_eqStoItem_0) (k := 0) (by kernel_rfl) (by kernel_rfl) (by kernel_rfl) (by kernel_rfl) (by decide) kw_eqStoItem_0 ?_
 intro ys r outs h
 unfold Fw_eqStoItem at h
 split at h
 ·exact (vw_eqStoItem _ _ _ _).trans h
 ·cases h
noncomputable def Ew_eqStoItemS : Env where
 tt := mkTI Tryz.prog
 fn := fun f => match f with
  | 119 => some (msw_eqStoItem, FSem.wk msw_eqStoItem Fw_eqStoItem)
  | _ => none
 bxf := fun _ => none
 mv := []
 keep := fun b => match b with
  | 0 => [(0, false), (1, false), (5, false)]
  | _ => []
 keepB := fun b => match b with
  | 0 => []
  | _ => []
 keepX := fun b => match b with
  | 0 => [(4, false)]
  | _ => []
 keepXB := fun b => match b with
  | 0 => []
  | _ => []
theorem goodFw_eqStoItemS : ∀ f ms F, Ew_eqStoItemS.fn f = some (ms, F) → Sound Tryz.prog f ms F := fun f ms F h => by
 unfold Ew_eqStoItemS at h
 dsimp only at h
 split at h
 ·injection h with h; injection h with e1 e2; subst e1 e2; exact Sound.wk sw_eqStoItem
 ·cases h
theorem goodBw_eqStoItemS : ∀ f ms F, Ew_eqStoItemS.bxf f = some (ms, F) → SoundB Tryz.prog f ms F := fun f ms F h => by cases h
theorem goodw_eqStoItemS : Good Tryz.prog Ew_eqStoItemS := ⟨rfl, goodFw_eqStoItemS, goodBw_eqStoItemS⟩
noncomputable def Ow_eqStoItemS_0 : Orc := fun _ _ => none
noncomputable def msw_eqStoItemS : List PM := [.rd, .rd]
noncomputable def lsw_eqStoItemS : List (Nat × Code) := loopsAll 0 (Tryz.f71.body.getD .skip)
noncomputable def cw_eqStoItemS_0 : Code := (loopOf 0 (Tryz.f71.body.getD .skip)).getD .skip
theorem lseqw_eqStoItemS : lsw_eqStoItemS = [(0, cw_eqStoItemS_0)] := by kernel_rfl
theorem mw_eqStoItemS_0 : ∀ p, p ∈ lsw_eqStoItemS → p.1 = 0 → p.2 = cw_eqStoItemS_0 := by
 intro p hp
 rw [lseqw_eqStoItemS] at hp
 simp only [List.mem_cons, List.not_mem_nil, or_false] at hp
 subst hp; simp
theorem kw_eqStoItemS_0 : OrcOk Ew_eqStoItemS Ow_eqStoItemS_0 lsw_eqStoItemS 0 := orcOk_none
noncomputable def hw_eqStoItemS_0 (y0 : List (ByteArray × (List Int))) (y1 : List (ByteArray × (List Int))) (y2 : Int) : List (Pl × LV) := [(.T 0, .t (.val false [.sl .any 49 (.pair .str (.sl 3 (.int .i64))) y0])), (.T 1, .t (.val false [.sl .any 49 (.pair .str (.sl 3 (.int .i64))) y1])), (.T 5, .t (.val false [.int .i64 y2]))]
noncomputable def g_Sw_eqStoItemS_0 (y0 : List (ByteArray × (List Int))) (y1 : List (ByteArray × (List Int))) : (Int) → RT (Int) ((Bool) ⊕ (Unit))
 | y2 => .br (true) (.br (decide (y2 < (↑(List.length y0) : Int))) (.br (decide ((0 : Int) ≤ y2 ∧ y2 < (↑(List.length y0) : Int))) (.br (decide ((0 : Int) ≤ y2 ∧ y2 < (↑(List.length y1) : Int))) (.br (g_Aw_eqStoItem (at_ (Ty.pair Ty.str (Ty.sl (nat_lit 3) (Ty.int IntKind.i64))) y0 (Int.toNat y2)).1 (at_ (Ty.pair Ty.str (Ty.sl (nat_lit 3) (Ty.int IntKind.i64))) y0 (Int.toNat y2)).2 (at_ (Ty.pair Ty.str (Ty.sl (nat_lit 3) (Ty.int IntKind.i64))) y1 (Int.toNat y2)).1 (at_ (Ty.pair Ty.str (Ty.sl (nat_lit 3) (Ty.int IntKind.i64))) y1 (Int.toNat y2)).2) (.br (!g_Vw_eqStoItem_0 (at_ (Ty.pair Ty.str (Ty.sl (nat_lit 3) (Ty.int IntKind.i64))) y0 (Int.toNat y2)).1 (at_ (Ty.pair Ty.str (Ty.sl (nat_lit 3) (Ty.int IntKind.i64))) y0 (Int.toNat y2)).2 (at_ (Ty.pair Ty.str (Ty.sl (nat_lit 3) (Ty.int IntKind.i64))) y1 (Int.toNat y2)).1 (at_ (Ty.pair Ty.str (Ty.sl (nat_lit 3) (Ty.int IntKind.i64))) y1 (Int.toNat y2)).2) (.out (.inl false)) (.br (true) (.go (IntKind.wrap IntKind.i64 (y2 + (1 : Int)))) (.bad))) (.bad)) (.bad)) (.bad)) (.out (.inr (())))) (.bad)
noncomputable def g_Lw_eqStoItemS_0 (y0 : List (ByteArray × (List Int))) (y1 : List (ByteArray × (List Int))) (x : Int) : Option ((Bool) ⊕ (Unit)) := loopO (g_Sw_eqStoItemS_0 y0 y1) x
noncomputable def xw_eqStoItemS_0 (y0 : List (ByteArray × (List Int))) (y1 : List (ByteArray × (List Int))) : ((Bool) ⊕ (Unit)) → Ex × List (Pl × LV) := fun
 | .inl r => (.ret, [(.T 4, .t (.val false [.bool r]))])
 | .inr (r) => (.exit 0, [(.T 4, .t (.val false [.undef]))])
noncomputable def Ow_eqStoItemS_1 : Orc := fun b h => match b, h with
 | 0, [(.T 0, .t (.val false [.sl .any 49 (.pair .str (.sl 3 (.int .i64))) y0])), (.T 1, .t (.val false [.sl .any 49 (.pair .str (.sl 3 (.int .i64))) y1])), (.T 5, .t (.val false [.int .i64 y2]))] => some (okO (g_Lw_eqStoItemS_0 y0 y1 y2), (.br (isL (valO (g_Lw_eqStoItemS_0 y0 y1 y2))) (.leaf .ret [(.T 4, .t (.val false [.bool (getL (valO (g_Lw_eqStoItemS_0 y0 y1 y2)))]))]) (.leaf (.exit 0) [(.T 4, .t (.val false [.undef]))])))
 | b, h => Ow_eqStoItemS_0 b h
theorem bw_eqStoItemS_0 (y0 : List (ByteArray × (List Int))) (y1 : List (ByteArray × (List Int))) (y2 : Int) : Tr.bt Ew_eqStoItemS Ow_eqStoItemS_0 (exec Ew_eqStoItemS 0 cw_eqStoItemS_0 (St.of (hw_eqStoItemS_0 y0 y1 y2)) (leafRd Ew_eqStoItemS 0)) = (g_Sw_eqStoItemS_0 y0 y1 y2).bt (fun (y2 : Int) => (hw_eqStoItemS_0 y0 y1 y2)) (xw_eqStoItemS_0 y0 y1) := by kernel_rfl
theorem kw_eqStoItemS_1 : OrcOk Ew_eqStoItemS Ow_eqStoItemS_1 lsw_eqStoItemS 1 := orc_add kw_eqStoItemS_0 (fun n p hp h ex h' ho => by
 obtain ⟨b, c⟩ := p
 obtain ⟨xt, h1, h2⟩ := ho
 have h1 : Ow_eqStoItemS_1 b h = some (true, xt) := h1
 unfold Ow_eqStoItemS_1 at h1
 split at h1
 ·injection h1 with h1
  injection h1 with e1 e2
  subst e2
  have hc : c = cw_eqStoItemS_0 := mw_eqStoItemS_0 _ hp rfl
  subst hc
  right
  rename_i y0 y1 y2
  have key := LT_step kw_eqStoItemS_0 hp (fun q hq => loopsAll_in _ _ _ _ hp hq) (fun (y2 : Int) => (hw_eqStoItemS_0 y0 y1 y2)) (xw_eqStoItemS_0 y0 y1) (g_Sw_eqStoItemS_0 y0 y1) (fun x => by first | exact bw_eqStoItemS_0 y0 y1 x) n (x := y2) (okO_some e1)
  have hx : ∀ r, XT.sel (.br (isL r) (.leaf .ret [(.T 4, .t (.val false [.bool (getL r)]))]) (.leaf (.exit 0) [(.T 4, .t (.val false [.undef]))])) = xw_eqStoItemS_0 y0 y1 r := fun r => by first | rfl | (rcases r with r | r <;> rfl) | (rcases r with r | r | r <;> rfl) | (rcases r with r | r | r | r <;> rfl)
  have h3 := (hx (valO (g_Lw_eqStoItemS_0 y0 y1 y2))).symm.trans h2
  have e3 := congrArg Prod.fst h3
  have e4 := congrArg Prod.snd h3
  simp only at e3 e4
  rw [← e3, ← e4]
  exact key
 ·exact .inl ⟨xt, h1, h2⟩)
noncomputable def g_Aw_eqStoItemS (a0 : List (ByteArray × (List Int))) (a1 : List (ByteArray × (List Int))) : Bool := (↑(List.length a0) : Int) != (↑(List.length a1) : Int) || okO (g_Lw_eqStoItemS_0 a0 a1 (0 : Int))
noncomputable def g_Vw_eqStoItemS_0 (a0 : List (ByteArray × (List Int))) (a1 : List (ByteArray × (List Int))) : Bool := bif (↑(List.length a0) : Int) != (↑(List.length a1) : Int) then false else bif isL (valO (g_Lw_eqStoItemS_0 a0 a1 (0 : Int))) then getL (valO (g_Lw_eqStoItemS_0 a0 a1 (0 : Int))) else true
noncomputable def Fw_eqStoItemS : FSem := fun ys => match ys with
 | [.val false [.sl .any 49 (.pair .str (.sl 3 (.int .i64))) a0], .val false [.sl .any 49 (.pair .str (.sl 3 (.int .i64))) a1]] => some ((g_Aw_eqStoItemS a0 a1), .val false [.bool (g_Vw_eqStoItemS_0 a0 a1)], [])
 | _ => none
theorem vw_eqStoItemS (a0 : List (ByteArray × (List Int))) (a1 : List (ByteArray × (List Int))) : collapseH .std Ew_eqStoItemS Ow_eqStoItemS_1 (execFn Ew_eqStoItemS Tryz.f71 msw_eqStoItemS [.val false [.sl .any 49 (.pair .str (.sl 3 (.int .i64))) a0], .val false [.sl .any 49 (.pair .str (.sl 3 (.int .i64))) a1]]) = some ((g_Aw_eqStoItemS a0 a1), .val false [.bool (g_Vw_eqStoItemS_0 a0 a1)], []) := by kernel_rfl
theorem sw_eqStoItemS : Sound Tryz.prog 71 msw_eqStoItemS Fw_eqStoItemS := by
 refine fn_gen goodw_eqStoItemS (by kernel_rfl) .std (fn := Tryz.f71) (c := (Tryz.f71.body.getD .skip)) (o := Ow_eqStoItemS_1) (k := 1) (by kernel_rfl) (by kernel_rfl) (by kernel_rfl) (by kernel_rfl) (by decide) kw_eqStoItemS_1 ?_
 intro ys r outs h
 unfold Fw_eqStoItemS at h
 split at h
 ·exact (vw_eqStoItemS _ _).trans h
 ·cases h
noncomputable def Ew_eqStoStore : Env where
 tt := mkTI Tryz.prog
 fn := fun f => match f with
  | 71 => some (msw_eqStoItemS, FSem.wk msw_eqStoItemS Fw_eqStoItemS)
  | _ => none
 bxf := fun _ => none
 mv := []
 keep := fun _ => []
 keepB := fun _ => []
 keepX := fun _ => []
 keepXB := fun _ => []
theorem goodFw_eqStoStore : ∀ f ms F, Ew_eqStoStore.fn f = some (ms, F) → Sound Tryz.prog f ms F := fun f ms F h => by
 unfold Ew_eqStoStore at h
 dsimp only at h
 split at h
 ·injection h with h; injection h with e1 e2; subst e1 e2; exact Sound.wk sw_eqStoItemS
 ·cases h
theorem goodBw_eqStoStore : ∀ f ms F, Ew_eqStoStore.bxf f = some (ms, F) → SoundB Tryz.prog f ms F := fun f ms F h => by cases h
theorem goodw_eqStoStore : Good Tryz.prog Ew_eqStoStore := ⟨rfl, goodFw_eqStoStore, goodBw_eqStoStore⟩
noncomputable def Ow_eqStoStore_0 : Orc := fun _ _ => none
noncomputable def msw_eqStoStore : List PM := [.rd, .rd]
noncomputable def lsw_eqStoStore : List (Nat × Code) := loopsAll 0 (Tryz.f26.body.getD .skip)
theorem kw_eqStoStore_0 : OrcOk Ew_eqStoStore Ow_eqStoStore_0 lsw_eqStoStore 0 := orcOk_none
noncomputable def g_Aw_eqStoStore (a0 : List (ByteArray × (List Int))) (a1 : List (ByteArray × (List Int))) : Bool := g_Aw_eqStoItemS a0 a1
noncomputable def g_Vw_eqStoStore_0 (a0 : List (ByteArray × (List Int))) (a1 : List (ByteArray × (List Int))) : Bool := bif !g_Vw_eqStoItemS_0 a0 a1 then false else true
noncomputable def Fw_eqStoStore : FSem := fun ys => match ys with
 | [.val true [.sl .any 49 (.pair .str (.sl 3 (.int .i64))) a0], .val true [.sl .any 49 (.pair .str (.sl 3 (.int .i64))) a1]] => some ((g_Aw_eqStoStore a0 a1), .val false [.bool (g_Vw_eqStoStore_0 a0 a1)], [])
 | _ => none
theorem vw_eqStoStore (a0 : List (ByteArray × (List Int))) (a1 : List (ByteArray × (List Int))) : collapseH .std Ew_eqStoStore Ow_eqStoStore_0 (execFn Ew_eqStoStore Tryz.f26 msw_eqStoStore [.val true [.sl .any 49 (.pair .str (.sl 3 (.int .i64))) a0], .val true [.sl .any 49 (.pair .str (.sl 3 (.int .i64))) a1]]) = some ((g_Aw_eqStoStore a0 a1), .val false [.bool (g_Vw_eqStoStore_0 a0 a1)], []) := by kernel_rfl
theorem sw_eqStoStore : Sound Tryz.prog 26 msw_eqStoStore Fw_eqStoStore := by
 refine fn_gen goodw_eqStoStore (by kernel_rfl) .std (fn := Tryz.f26) (c := (Tryz.f26.body.getD .skip)) (o := Ow_eqStoStore_0) (k := 0) (by kernel_rfl) (by kernel_rfl) (by kernel_rfl) (by kernel_rfl) (by decide) kw_eqStoStore_0 ?_
 intro ys r outs h
 unfold Fw_eqStoStore at h
 split at h
 ·exact (vw_eqStoStore _ _).trans h
 ·cases h
noncomputable def Ew_heldIntS : Env where
 tt := mkTI Tryz.prog
 fn := fun _ => none
 bxf := fun _ => none
 mv := []
 keep := fun b => match b with
  | 0 => [(0, false), (1, false), (5, false)]
  | _ => []
 keepB := fun b => match b with
  | 0 => []
  | _ => []
 keepX := fun b => match b with
  | 0 => [(1, false), (4, false)]
  | _ => []
 keepXB := fun b => match b with
  | 0 => []
  | _ => []
theorem goodFw_heldIntS : ∀ f ms F, Ew_heldIntS.fn f = some (ms, F) → Sound Tryz.prog f ms F := fun f ms F h => by cases h
theorem goodBw_heldIntS : ∀ f ms F, Ew_heldIntS.bxf f = some (ms, F) → SoundB Tryz.prog f ms F := fun f ms F h => by cases h
theorem goodw_heldIntS : Good Tryz.prog Ew_heldIntS := ⟨rfl, goodFw_heldIntS, goodBw_heldIntS⟩
noncomputable def Ow_heldIntS_0 : Orc := fun _ _ => none
noncomputable def msw_heldIntS : List PM := [.rd, .own]
noncomputable def lsw_heldIntS : List (Nat × Code) := loopsAll 0 (Tryz.f125.body.getD .skip)
noncomputable def cw_heldIntS_0 : Code := (loopOf 0 (Tryz.f125.body.getD .skip)).getD .skip
theorem lseqw_heldIntS : lsw_heldIntS = [(0, cw_heldIntS_0)] := by kernel_rfl
theorem mw_heldIntS_0 : ∀ p, p ∈ lsw_heldIntS → p.1 = 0 → p.2 = cw_heldIntS_0 := by
 intro p hp
 rw [lseqw_heldIntS] at hp
 simp only [List.mem_cons, List.not_mem_nil, or_false] at hp
 subst hp; simp
theorem kw_heldIntS_0 : OrcOk Ew_heldIntS Ow_heldIntS_0 lsw_heldIntS 0 := orcOk_none
noncomputable def hw_heldIntS_0 (y0 : List Int) (y1 : Int) (y2 : Int) : List (Pl × LV) := [(.T 0, .t (.val false [.sl .any 3 (.int .i64) y0])), (.T 1, .t (.val false [.int .i64 y1])), (.T 5, .t (.val false [.int .i64 y2]))]
noncomputable def g_Sw_heldIntS_0 (y0 : List Int) : (Int × Int) → RT (Int × Int) ((Int × Int) ⊕ (Int))
 | (y1, y2) => .br (true) (.br (decide (y2 < (↑(List.length y0) : Int))) (.br (decide ((0 : Int) ≤ y2 ∧ y2 < (↑(List.length y0) : Int))) (.br (true) (.br (at_ (Ty.int IntKind.i64) y0 (Int.toNat y2) != y1) (.out (.inl ((y1, (-1 : Int))))) (.br (true) (.br (true) (.go ((IntKind.wrap IntKind.i64 (y1 + (1 : Int)), IntKind.wrap IntKind.i64 (y2 + (1 : Int))))) (.bad)) (.bad))) (.bad)) (.bad)) (.out (.inr (y1)))) (.bad)
noncomputable def g_Lw_heldIntS_0 (y0 : List Int) (x : Int × Int) : Option ((Int × Int) ⊕ (Int)) := loopO (g_Sw_heldIntS_0 y0) x
noncomputable def xw_heldIntS_0 (y0 : List Int) : ((Int × Int) ⊕ (Int)) → Ex × List (Pl × LV) := fun
 | .inl r => (.ret, [(.T 1, .t (.val false [.int .i64 r.1])), (.T 4, .t (.val false [.int .i64 r.2]))])
 | .inr (r) => (.exit 0, [(.T 1, .t (.val false [.int .i64 r])), (.T 4, .t (.val false [.undef]))])
noncomputable def Ow_heldIntS_1 : Orc := fun b h => match b, h with
 | 0, [(.T 0, .t (.val false [.sl .any 3 (.int .i64) y0])), (.T 1, .t (.val false [.int .i64 y1])), (.T 5, .t (.val false [.int .i64 y2]))] => some (okO (g_Lw_heldIntS_0 y0 (y1, y2)), (.br (isL (valO (g_Lw_heldIntS_0 y0 (y1, y2)))) (.leaf .ret [(.T 1, .t (.val false [.int .i64 (getL (valO (g_Lw_heldIntS_0 y0 (y1, y2)))).1])), (.T 4, .t (.val false [.int .i64 (getL (valO (g_Lw_heldIntS_0 y0 (y1, y2)))).2]))]) (.leaf (.exit 0) [(.T 1, .t (.val false [.int .i64 (getR (valO (g_Lw_heldIntS_0 y0 (y1, y2))))])), (.T 4, .t (.val false [.undef]))])))
 | b, h => Ow_heldIntS_0 b h
theorem bw_heldIntS_0 (y0 : List Int) (y1 : Int) (y2 : Int) : Tr.bt Ew_heldIntS Ow_heldIntS_0 (exec Ew_heldIntS 0 cw_heldIntS_0 (St.of (hw_heldIntS_0 y0 y1 y2)) (leafRd Ew_heldIntS 0)) = (g_Sw_heldIntS_0 y0 (y1, y2)).bt (fun ((y1, y2) : Int × Int) => (hw_heldIntS_0 y0 y1 y2)) (xw_heldIntS_0 y0) := by kernel_rfl
theorem kw_heldIntS_1 : OrcOk Ew_heldIntS Ow_heldIntS_1 lsw_heldIntS 1 := orc_add kw_heldIntS_0 (fun n p hp h ex h' ho => by
 obtain ⟨b, c⟩ := p
 obtain ⟨xt, h1, h2⟩ := ho
 have h1 : Ow_heldIntS_1 b h = some (true, xt) := h1
 unfold Ow_heldIntS_1 at h1
 split at h1
 ·injection h1 with h1
  injection h1 with e1 e2
  subst e2
  have hc : c = cw_heldIntS_0 := mw_heldIntS_0 _ hp rfl
  subst hc
  right
  rename_i y0 y1 y2
  have key := LT_step kw_heldIntS_0 hp (fun q hq => loopsAll_in _ _ _ _ hp hq) (fun ((y1, y2) : Int × Int) => (hw_heldIntS_0 y0 y1 y2)) (xw_heldIntS_0 y0) (g_Sw_heldIntS_0 y0) (fun x => by first | exact bw_heldIntS_0 y0 x.1 x.2) n (x := (y1, y2)) (okO_some e1)
  have hx : ∀ r, XT.sel (.br (isL r) (.leaf .ret [(.T 1, .t (.val false [.int .i64 (getL r).1])), (.T 4, .t (.val false [.int .i64 (getL r).2]))]) (.leaf (.exit 0) [(.T 1, .t (.val false [.int .i64 (getR r)])), (.T 4, .t (.val false [.undef]))])) = xw_heldIntS_0 y0 r := fun r => by first | rfl | (rcases r with r | r <;> rfl) | (rcases r with r | r | r <;> rfl) | (rcases r with r | r | r | r <;> rfl)
  have h3 := (hx (valO (g_Lw_heldIntS_0 y0 (y1, y2)))).symm.trans h2
  have e3 := congrArg Prod.fst h3
  have e4 := congrArg Prod.snd h3
  simp only at e3 e4
  rw [← e3, ← e4]
  exact key
 ·exact .inl ⟨xt, h1, h2⟩)
noncomputable def g_Aw_heldIntS (a0 : List Int) (a1 : Int) : Bool := okO (g_Lw_heldIntS_0 a0 (a1, (0 : Int)))
noncomputable def g_Vw_heldIntS_0 (a0 : List Int) (a1 : Int) : Int := bif isL (valO (g_Lw_heldIntS_0 a0 (a1, (0 : Int)))) then (getL (valO (g_Lw_heldIntS_0 a0 (a1, (0 : Int))))).2 else getR (valO (g_Lw_heldIntS_0 a0 (a1, (0 : Int))))
noncomputable def Fw_heldIntS : FSem := fun ys => match ys with
 | [.val false [.sl .any 3 (.int .i64) a0], .val false [.int .i64 a1]] => some ((g_Aw_heldIntS a0 a1), .val false [.int .i64 (g_Vw_heldIntS_0 a0 a1)], [])
 | _ => none
theorem vw_heldIntS (a0 : List Int) (a1 : Int) : collapseH .std Ew_heldIntS Ow_heldIntS_1 (execFn Ew_heldIntS Tryz.f125 msw_heldIntS [.val false [.sl .any 3 (.int .i64) a0], .val false [.int .i64 a1]]) = some ((g_Aw_heldIntS a0 a1), .val false [.int .i64 (g_Vw_heldIntS_0 a0 a1)], []) := by kernel_rfl
theorem sw_heldIntS : Sound Tryz.prog 125 msw_heldIntS Fw_heldIntS := by
 refine fn_gen goodw_heldIntS (by kernel_rfl) .std (fn := Tryz.f125) (c := (Tryz.f125.body.getD .skip)) (o := Ow_heldIntS_1) (k := 1) (by kernel_rfl) (by kernel_rfl) (by kernel_rfl) (by kernel_rfl) (by decide) kw_heldIntS_1 ?_
 intro ys r outs h
 unfold Fw_heldIntS at h
 split at h
 ·exact (vw_heldIntS _ _).trans h
 ·cases h
noncomputable def Ew_markText : Env where
 tt := mkTI Tryz.prog
 fn := fun _ => none
 bxf := fun _ => none
 mv := []
 keep := fun b => match b with
  | 0 => [(0, false), (3, false)]
  | _ => []
 keepB := fun b => match b with
  | 0 => []
  | _ => []
 keepX := fun b => match b with
  | 0 => [(3, false)]
  | _ => []
 keepXB := fun b => match b with
  | 0 => []
  | _ => []
theorem goodFw_markText : ∀ f ms F, Ew_markText.fn f = some (ms, F) → Sound Tryz.prog f ms F := fun f ms F h => by cases h
theorem goodBw_markText : ∀ f ms F, Ew_markText.bxf f = some (ms, F) → SoundB Tryz.prog f ms F := fun f ms F h => by cases h
theorem goodw_markText : Good Tryz.prog Ew_markText := ⟨rfl, goodFw_markText, goodBw_markText⟩
noncomputable def Ow_markText_0 : Orc := fun _ _ => none
noncomputable def msw_markText : List PM := [.own]
noncomputable def lsw_markText : List (Nat × Code) := loopsAll 0 (Tryz.f123.body.getD .skip)
noncomputable def cw_markText_0 : Code := (loopOf 0 (Tryz.f123.body.getD .skip)).getD .skip
theorem lseqw_markText : lsw_markText = [(0, cw_markText_0)] := by kernel_rfl
theorem mw_markText_0 : ∀ p, p ∈ lsw_markText → p.1 = 0 → p.2 = cw_markText_0 := by
 intro p hp
 rw [lseqw_markText] at hp
 simp only [List.mem_cons, List.not_mem_nil, or_false] at hp
 subst hp; simp
theorem kw_markText_0 : OrcOk Ew_markText Ow_markText_0 lsw_markText 0 := orcOk_none
noncomputable def hw_markText_0 (y0 : Int) (y1 : ByteArray) : List (Pl × LV) := [(.T 0, .t (.val false [.int .i64 y0])), (.T 3, .t (.val false [.str y1]))]
noncomputable def g_Sw_markText_0 : (Int × ByteArray) → RT (Int × ByteArray) ((ByteArray))
 | (y0, y1) => .br (true) (.br (decide (y0 > (0 : Int))) (.br (true) (.br (true) (.br (decide (ByteArray.size { data := List.toArray (List.map (fun n => UInt8.ofNat (Int.toNat n)) [IntKind.wrap IntKind.u8 (IntKind.wrap IntKind.i64 ((48 : Int) + Int.tmod y0 (10 : Int)))]) } + ByteArray.size y1 ≤ nat_lit 9223372036854775807)) (.br (true) (.go ((IntKind.wrap IntKind.i64 (Int.tdiv y0 (10 : Int)), { data := List.toArray (List.map (fun n => UInt8.ofNat (Int.toNat n)) [IntKind.wrap IntKind.u8 (IntKind.wrap IntKind.i64 ((48 : Int) + Int.tmod y0 (10 : Int)))]) } ++ y1))) (.bad)) (.bad)) (.bad)) (.bad)) (.out (y1))) (.bad)
noncomputable def g_Lw_markText_0 (x : Int × ByteArray) : Option ((ByteArray)) := loopO (g_Sw_markText_0) x
noncomputable def xw_markText_0 : ((ByteArray)) → Ex × List (Pl × LV) := fun r => (.exit 0, [(.T 3, .t (.val false [.str r]))])
noncomputable def Ow_markText_1 : Orc := fun b h => match b, h with
 | 0, [(.T 0, .t (.val false [.int .i64 y0])), (.T 3, .t (.val false [.str y1]))] => some (okO (g_Lw_markText_0 (y0, y1)), (.leaf (.exit 0) [(.T 3, .t (.val false [.str (valO (g_Lw_markText_0 (y0, y1)))]))]))
 | b, h => Ow_markText_0 b h
theorem bw_markText_0 (y0 : Int) (y1 : ByteArray) : Tr.bt Ew_markText Ow_markText_0 (exec Ew_markText 0 cw_markText_0 (St.of (hw_markText_0 y0 y1)) (leafRd Ew_markText 0)) = (g_Sw_markText_0 (y0, y1)).bt (fun ((y0, y1) : Int × ByteArray) => (hw_markText_0 y0 y1)) (xw_markText_0) := by kernel_rfl
theorem kw_markText_1 : OrcOk Ew_markText Ow_markText_1 lsw_markText 1 := orc_add kw_markText_0 (fun n p hp h ex h' ho => by
 obtain ⟨b, c⟩ := p
 obtain ⟨xt, h1, h2⟩ := ho
 have h1 : Ow_markText_1 b h = some (true, xt) := h1
 unfold Ow_markText_1 at h1
 split at h1
 ·injection h1 with h1
  injection h1 with e1 e2
  subst e2
  have hc : c = cw_markText_0 := mw_markText_0 _ hp rfl
  subst hc
  right
  rename_i y0 y1
  have key := LT_step kw_markText_0 hp (fun q hq => loopsAll_in _ _ _ _ hp hq) (fun ((y0, y1) : Int × ByteArray) => (hw_markText_0 y0 y1)) (xw_markText_0) (g_Sw_markText_0) (fun x => by first | exact bw_markText_0 x.1 x.2) n (x := (y0, y1)) (okO_some e1)
  have hx : ∀ r, XT.sel (.leaf (.exit 0) [(.T 3, .t (.val false [.str r]))]) = xw_markText_0 r := fun r => by first | rfl | (rcases r with r | r <;> rfl) | (rcases r with r | r | r <;> rfl) | (rcases r with r | r | r | r <;> rfl)
  have h3 := (hx (valO (g_Lw_markText_0 (y0, y1)))).symm.trans h2
  have e3 := congrArg Prod.fst h3
  have e4 := congrArg Prod.snd h3
  simp only at e3 e4
  rw [← e3, ← e4]
  exact key
 ·exact .inl ⟨xt, h1, h2⟩)
noncomputable def g_Aw_markText (a0 : Int) : Bool := decide (a0 ≤ (0 : Int)) || okO (g_Lw_markText_0 (a0, lit [])) && decide (nat_lit 1 + ByteArray.size (valO (g_Lw_markText_0 (a0, lit []))) ≤ nat_lit 9223372036854775807)
noncomputable def g_Vw_markText_0 (a0 : Int) : ByteArray := bif decide (a0 ≤ (0 : Int)) then lit [(109 : Nat), (48 : Nat)] else lit [(109 : Nat)] ++ valO (g_Lw_markText_0 (a0, lit []))
noncomputable def Fw_markText : FSem := fun ys => match ys with
 | [.val false [.int .i64 a0]] => some ((g_Aw_markText a0), .val false [.str (g_Vw_markText_0 a0)], [])
 | _ => none
theorem vw_markText (a0 : Int) : collapseH .std Ew_markText Ow_markText_1 (execFn Ew_markText Tryz.f123 msw_markText [.val false [.int .i64 a0]]) = some ((g_Aw_markText a0), .val false [.str (g_Vw_markText_0 a0)], []) := by kernel_rfl
theorem sw_markText : Sound Tryz.prog 123 msw_markText Fw_markText := by
 refine fn_gen goodw_markText (by kernel_rfl) .std (fn := Tryz.f123) (c := (Tryz.f123.body.getD .skip)) (o := Ow_markText_1) (k := 1) (by kernel_rfl) (by kernel_rfl) (by kernel_rfl) (by kernel_rfl) (by decide) kw_markText_1 ?_
 intro ys r outs h
 unfold Fw_markText at h
 split at h
 ·exact (vw_markText _).trans h
 ·cases h
noncomputable def Ew_heldStoItemS : Env where
 tt := mkTI Tryz.prog
 fn := fun f => match f with
  | 123 => some (msw_markText, FSem.wk msw_markText Fw_markText)
  | 125 => some (msw_heldIntS, FSem.wk msw_heldIntS Fw_heldIntS)
  | _ => none
 bxf := fun _ => none
 mv := []
 keep := fun b => match b with
  | 0 => [(0, false), (1, false), (5, false)]
  | _ => []
 keepB := fun b => match b with
  | 0 => []
  | _ => []
 keepX := fun b => match b with
  | 0 => [(1, false), (4, false)]
  | _ => []
 keepXB := fun b => match b with
  | 0 => []
  | _ => []
theorem goodFw_heldStoItemS : ∀ f ms F, Ew_heldStoItemS.fn f = some (ms, F) → Sound Tryz.prog f ms F := fun f ms F h => by
 unfold Ew_heldStoItemS at h
 dsimp only at h
 split at h
 ·injection h with h; injection h with e1 e2; subst e1 e2; exact Sound.wk sw_markText
 ·injection h with h; injection h with e1 e2; subst e1 e2; exact Sound.wk sw_heldIntS
 ·cases h
theorem goodBw_heldStoItemS : ∀ f ms F, Ew_heldStoItemS.bxf f = some (ms, F) → SoundB Tryz.prog f ms F := fun f ms F h => by cases h
theorem goodw_heldStoItemS : Good Tryz.prog Ew_heldStoItemS := ⟨rfl, goodFw_heldStoItemS, goodBw_heldStoItemS⟩
noncomputable def Ow_heldStoItemS_0 : Orc := fun _ _ => none
noncomputable def msw_heldStoItemS : List PM := [.rd, .own]
noncomputable def lsw_heldStoItemS : List (Nat × Code) := loopsAll 0 (Tryz.f75.body.getD .skip)
noncomputable def cw_heldStoItemS_0 : Code := (loopOf 0 (Tryz.f75.body.getD .skip)).getD .skip
theorem lseqw_heldStoItemS : lsw_heldStoItemS = [(0, cw_heldStoItemS_0)] := by kernel_rfl
theorem mw_heldStoItemS_0 : ∀ p, p ∈ lsw_heldStoItemS → p.1 = 0 → p.2 = cw_heldStoItemS_0 := by
 intro p hp
 rw [lseqw_heldStoItemS] at hp
 simp only [List.mem_cons, List.not_mem_nil, or_false] at hp
 subst hp; simp
theorem kw_heldStoItemS_0 : OrcOk Ew_heldStoItemS Ow_heldStoItemS_0 lsw_heldStoItemS 0 := orcOk_none
noncomputable def hw_heldStoItemS_0 (y0 : List (ByteArray × (List Int))) (y1 : Int) (y2 : Int) : List (Pl × LV) := [(.T 0, .t (.val false [.sl .any 49 (.pair .str (.sl 3 (.int .i64))) y0])), (.T 1, .t (.val false [.int .i64 y1])), (.T 5, .t (.val false [.int .i64 y2]))]
noncomputable def g_Sw_heldStoItemS_0 (y0 : List (ByteArray × (List Int))) : (Int × Int) → RT (Int × Int) ((Int × Int) ⊕ (Int))
 | (y1, y2) => .br (true) (.br (decide (y2 < (↑(List.length y0) : Int))) (.br (decide ((0 : Int) ≤ y2 ∧ y2 < (↑(List.length y0) : Int))) (.br (g_Aw_markText y1) (.br (true) (.br (!ByteArray.toList (at_ (Ty.pair Ty.str (Ty.sl (nat_lit 3) (Ty.int IntKind.i64))) y0 (Int.toNat y2)).1 == ByteArray.toList (g_Vw_markText_0 y1)) (.out (.inl ((y1, (-1 : Int))))) (.br (true) (.br (decide ((0 : Int) ≤ y2 ∧ y2 < (↑(List.length y0) : Int))) (.br (g_Aw_heldIntS (at_ (Ty.pair Ty.str (Ty.sl (nat_lit 3) (Ty.int IntKind.i64))) y0 (Int.toNat y2)).2 (IntKind.wrap IntKind.i64 (y1 + (1 : Int)))) (.br (true) (.br (decide (g_Vw_heldIntS_0 (at_ (Ty.pair Ty.str (Ty.sl (nat_lit 3) (Ty.int IntKind.i64))) y0 (Int.toNat y2)).2 (IntKind.wrap IntKind.i64 (y1 + (1 : Int))) < (0 : Int))) (.out (.inl ((g_Vw_heldIntS_0 (at_ (Ty.pair Ty.str (Ty.sl (nat_lit 3) (Ty.int IntKind.i64))) y0 (Int.toNat y2)).2 (IntKind.wrap IntKind.i64 (y1 + (1 : Int))), (-1 : Int))))) (.br (true) (.go ((g_Vw_heldIntS_0 (at_ (Ty.pair Ty.str (Ty.sl (nat_lit 3) (Ty.int IntKind.i64))) y0 (Int.toNat y2)).2 (IntKind.wrap IntKind.i64 (y1 + (1 : Int))), IntKind.wrap IntKind.i64 (y2 + (1 : Int))))) (.bad))) (.bad)) (.bad)) (.bad)) (.bad))) (.bad)) (.bad)) (.bad)) (.out (.inr (y1)))) (.bad)
noncomputable def g_Lw_heldStoItemS_0 (y0 : List (ByteArray × (List Int))) (x : Int × Int) : Option ((Int × Int) ⊕ (Int)) := loopO (g_Sw_heldStoItemS_0 y0) x
noncomputable def xw_heldStoItemS_0 (y0 : List (ByteArray × (List Int))) : ((Int × Int) ⊕ (Int)) → Ex × List (Pl × LV) := fun
 | .inl r => (.ret, [(.T 1, .t (.val false [.int .i64 r.1])), (.T 4, .t (.val false [.int .i64 r.2]))])
 | .inr (r) => (.exit 0, [(.T 1, .t (.val false [.int .i64 r])), (.T 4, .t (.val false [.undef]))])
noncomputable def Ow_heldStoItemS_1 : Orc := fun b h => match b, h with
 | 0, [(.T 0, .t (.val false [.sl .any 49 (.pair .str (.sl 3 (.int .i64))) y0])), (.T 1, .t (.val false [.int .i64 y1])), (.T 5, .t (.val false [.int .i64 y2]))] => some (okO (g_Lw_heldStoItemS_0 y0 (y1, y2)), (.br (isL (valO (g_Lw_heldStoItemS_0 y0 (y1, y2)))) (.leaf .ret [(.T 1, .t (.val false [.int .i64 (getL (valO (g_Lw_heldStoItemS_0 y0 (y1, y2)))).1])), (.T 4, .t (.val false [.int .i64 (getL (valO (g_Lw_heldStoItemS_0 y0 (y1, y2)))).2]))]) (.leaf (.exit 0) [(.T 1, .t (.val false [.int .i64 (getR (valO (g_Lw_heldStoItemS_0 y0 (y1, y2))))])), (.T 4, .t (.val false [.undef]))])))
 | b, h => Ow_heldStoItemS_0 b h
theorem bw_heldStoItemS_0 (y0 : List (ByteArray × (List Int))) (y1 : Int) (y2 : Int) : Tr.bt Ew_heldStoItemS Ow_heldStoItemS_0 (exec Ew_heldStoItemS 0 cw_heldStoItemS_0 (St.of (hw_heldStoItemS_0 y0 y1 y2)) (leafRd Ew_heldStoItemS 0)) = (g_Sw_heldStoItemS_0 y0 (y1, y2)).bt (fun ((y1, y2) : Int × Int) => (hw_heldStoItemS_0 y0 y1 y2)) (xw_heldStoItemS_0 y0) := by kernel_rfl
theorem kw_heldStoItemS_1 : OrcOk Ew_heldStoItemS Ow_heldStoItemS_1 lsw_heldStoItemS 1 := orc_add kw_heldStoItemS_0 (fun n p hp h ex h' ho => by
 obtain ⟨b, c⟩ := p
 obtain ⟨xt, h1, h2⟩ := ho
 have h1 : Ow_heldStoItemS_1 b h = some (true, xt) := h1
 unfold Ow_heldStoItemS_1 at h1
 split at h1
 ·injection h1 with h1
  injection h1 with e1 e2
  subst e2
  have hc : c = cw_heldStoItemS_0 := mw_heldStoItemS_0 _ hp rfl
  subst hc
  right
  rename_i y0 y1 y2
  have key := LT_step kw_heldStoItemS_0 hp (fun q hq => loopsAll_in _ _ _ _ hp hq) (fun ((y1, y2) : Int × Int) => (hw_heldStoItemS_0 y0 y1 y2)) (xw_heldStoItemS_0 y0) (g_Sw_heldStoItemS_0 y0) (fun x => by first | exact bw_heldStoItemS_0 y0 x.1 x.2) n (x := (y1, y2)) (okO_some e1)
  have hx : ∀ r, XT.sel (.br (isL r) (.leaf .ret [(.T 1, .t (.val false [.int .i64 (getL r).1])), (.T 4, .t (.val false [.int .i64 (getL r).2]))]) (.leaf (.exit 0) [(.T 1, .t (.val false [.int .i64 (getR r)])), (.T 4, .t (.val false [.undef]))])) = xw_heldStoItemS_0 y0 r := fun r => by first | rfl | (rcases r with r | r <;> rfl) | (rcases r with r | r | r <;> rfl) | (rcases r with r | r | r | r <;> rfl)
  have h3 := (hx (valO (g_Lw_heldStoItemS_0 y0 (y1, y2)))).symm.trans h2
  have e3 := congrArg Prod.fst h3
  have e4 := congrArg Prod.snd h3
  simp only at e3 e4
  rw [← e3, ← e4]
  exact key
 ·exact .inl ⟨xt, h1, h2⟩)
noncomputable def g_Aw_heldStoItemS (a0 : List (ByteArray × (List Int))) (a1 : Int) : Bool := okO (g_Lw_heldStoItemS_0 a0 (a1, (0 : Int)))
noncomputable def g_Vw_heldStoItemS_0 (a0 : List (ByteArray × (List Int))) (a1 : Int) : Int := bif isL (valO (g_Lw_heldStoItemS_0 a0 (a1, (0 : Int)))) then (getL (valO (g_Lw_heldStoItemS_0 a0 (a1, (0 : Int))))).2 else getR (valO (g_Lw_heldStoItemS_0 a0 (a1, (0 : Int))))
noncomputable def Fw_heldStoItemS : FSem := fun ys => match ys with
 | [.val false [.sl .any 49 (.pair .str (.sl 3 (.int .i64))) a0], .val false [.int .i64 a1]] => some ((g_Aw_heldStoItemS a0 a1), .val false [.int .i64 (g_Vw_heldStoItemS_0 a0 a1)], [])
 | _ => none
theorem vw_heldStoItemS (a0 : List (ByteArray × (List Int))) (a1 : Int) : collapseH .std Ew_heldStoItemS Ow_heldStoItemS_1 (execFn Ew_heldStoItemS Tryz.f75 msw_heldStoItemS [.val false [.sl .any 49 (.pair .str (.sl 3 (.int .i64))) a0], .val false [.int .i64 a1]]) = some ((g_Aw_heldStoItemS a0 a1), .val false [.int .i64 (g_Vw_heldStoItemS_0 a0 a1)], []) := by kernel_rfl
theorem sw_heldStoItemS : Sound Tryz.prog 75 msw_heldStoItemS Fw_heldStoItemS := by
 refine fn_gen goodw_heldStoItemS (by kernel_rfl) .std (fn := Tryz.f75) (c := (Tryz.f75.body.getD .skip)) (o := Ow_heldStoItemS_1) (k := 1) (by kernel_rfl) (by kernel_rfl) (by kernel_rfl) (by kernel_rfl) (by decide) kw_heldStoItemS_1 ?_
 intro ys r outs h
 unfold Fw_heldStoItemS at h
 split at h
 ·exact (vw_heldStoItemS _ _).trans h
 ·cases h
noncomputable def Ew_heldStoStore : Env where
 tt := mkTI Tryz.prog
 fn := fun f => match f with
  | 75 => some (msw_heldStoItemS, FSem.wk msw_heldStoItemS Fw_heldStoItemS)
  | _ => none
 bxf := fun _ => none
 mv := []
 keep := fun _ => []
 keepB := fun _ => []
 keepX := fun _ => []
 keepXB := fun _ => []
theorem goodFw_heldStoStore : ∀ f ms F, Ew_heldStoStore.fn f = some (ms, F) → Sound Tryz.prog f ms F := fun f ms F h => by
 unfold Ew_heldStoStore at h
 dsimp only at h
 split at h
 ·injection h with h; injection h with e1 e2; subst e1 e2; exact Sound.wk sw_heldStoItemS
 ·cases h
theorem goodBw_heldStoStore : ∀ f ms F, Ew_heldStoStore.bxf f = some (ms, F) → SoundB Tryz.prog f ms F := fun f ms F h => by cases h
theorem goodw_heldStoStore : Good Tryz.prog Ew_heldStoStore := ⟨rfl, goodFw_heldStoStore, goodBw_heldStoStore⟩
noncomputable def Ow_heldStoStore_0 : Orc := fun _ _ => none
noncomputable def msw_heldStoStore : List PM := [.rd, .own]
noncomputable def lsw_heldStoStore : List (Nat × Code) := loopsAll 0 (Tryz.f30.body.getD .skip)
theorem kw_heldStoStore_0 : OrcOk Ew_heldStoStore Ow_heldStoStore_0 lsw_heldStoStore 0 := orcOk_none
noncomputable def g_Aw_heldStoStore (a0 : List (ByteArray × (List Int))) (a1 : Int) : Bool := g_Aw_heldStoItemS a0 a1 && true
noncomputable def g_Vw_heldStoStore_0 (a0 : List (ByteArray × (List Int))) (a1 : Int) : Int := bif decide (g_Vw_heldStoItemS_0 a0 a1 < (0 : Int)) then (-1 : Int) else g_Vw_heldStoItemS_0 a0 a1
noncomputable def Fw_heldStoStore : FSem := fun ys => match ys with
 | [.val true [.sl .any 49 (.pair .str (.sl 3 (.int .i64))) a0], .val false [.int .i64 a1]] => some ((g_Aw_heldStoStore a0 a1), .val false [.int .i64 (g_Vw_heldStoStore_0 a0 a1)], [])
 | _ => none
theorem vw_heldStoStore (a0 : List (ByteArray × (List Int))) (a1 : Int) : collapseH .std Ew_heldStoStore Ow_heldStoStore_0 (execFn Ew_heldStoStore Tryz.f30 msw_heldStoStore [.val true [.sl .any 49 (.pair .str (.sl 3 (.int .i64))) a0], .val false [.int .i64 a1]]) = some ((g_Aw_heldStoStore a0 a1), .val false [.int .i64 (g_Vw_heldStoStore_0 a0 a1)], []) := by kernel_rfl
theorem sw_heldStoStore : Sound Tryz.prog 30 msw_heldStoStore Fw_heldStoStore := by
 refine fn_gen goodw_heldStoStore (by kernel_rfl) .std (fn := Tryz.f30) (c := (Tryz.f30.body.getD .skip)) (o := Ow_heldStoStore_0) (k := 0) (by kernel_rfl) (by kernel_rfl) (by kernel_rfl) (by kernel_rfl) (by decide) kw_heldStoStore_0 ?_
 intro ys r outs h
 unfold Fw_heldStoStore at h
 split at h
 ·exact (vw_heldStoStore _ _).trans h
 ·cases h
noncomputable def Ew_markIntS : Env where
 tt := mkTI Tryz.prog
 fn := fun _ => none
 bxf := fun _ => none
 mv := []
 keep := fun b => match b with
  | 0 => [(0, false), (1, false), (5, false)]
  | _ => []
 keepB := fun b => match b with
  | 0 => []
  | _ => []
 keepX := fun b => match b with
  | 0 => [(0, false), (1, false)]
  | _ => []
 keepXB := fun b => match b with
  | 0 => []
  | _ => []
theorem goodFw_markIntS : ∀ f ms F, Ew_markIntS.fn f = some (ms, F) → Sound Tryz.prog f ms F := fun f ms F h => by cases h
theorem goodBw_markIntS : ∀ f ms F, Ew_markIntS.bxf f = some (ms, F) → SoundB Tryz.prog f ms F := fun f ms F h => by cases h
theorem goodw_markIntS : Good Tryz.prog Ew_markIntS := ⟨rfl, goodFw_markIntS, goodBw_markIntS⟩
noncomputable def Ow_markIntS_0 : Orc := fun _ _ => none
noncomputable def msw_markIntS : List PM := [.«mut», .own]
noncomputable def lsw_markIntS : List (Nat × Code) := loopsAll 0 (Tryz.f124.body.getD .skip)
noncomputable def cw_markIntS_0 : Code := (loopOf 0 (Tryz.f124.body.getD .skip)).getD .skip
theorem lseqw_markIntS : lsw_markIntS = [(0, cw_markIntS_0)] := by kernel_rfl
theorem mw_markIntS_0 : ∀ p, p ∈ lsw_markIntS → p.1 = 0 → p.2 = cw_markIntS_0 := by
 intro p hp
 rw [lseqw_markIntS] at hp
 simp only [List.mem_cons, List.not_mem_nil, or_false] at hp
 subst hp; simp
theorem kw_markIntS_0 : OrcOk Ew_markIntS Ow_markIntS_0 lsw_markIntS 0 := orcOk_none
noncomputable def hw_markIntS_0 (y0 : List Int) (y1 : Int) (y2 : Int) : List (Pl × LV) := [(.T 0, .t (.val false [.row 0 0 0])), (.R 0 0, .r 0 (some ⟨false, .any, true, 3, (.int .i64), y0⟩)), (.T 1, .t (.val false [.int .i64 y1])), (.T 5, .t (.val false [.int .i64 y2]))]
noncomputable def g_Sw_markIntS_0 : ((List Int) × Int × Int) → RT ((List Int) × Int × Int) (((List Int) × Int))
 | (y0, y1, y2) => .br (true) (.br (decide (y2 < (↑(List.length y0) : Int))) (.br (decide ((0 : Int) ≤ y2 ∧ y2 < (↑(List.length y0) : Int))) (.br (decide (Int.toNat y2 < List.length y0)) (.br (true) (.br (true) (.go ((List.set y0 (Int.toNat y2) y1, IntKind.wrap IntKind.i64 (y1 + (1 : Int)), IntKind.wrap IntKind.i64 (y2 + (1 : Int))))) (.bad)) (.bad)) (.bad)) (.bad)) (.out ((y0, y1)))) (.bad)
noncomputable def g_Lw_markIntS_0 (x : (List Int) × Int × Int) : Option (((List Int) × Int)) := loopO (g_Sw_markIntS_0) x
noncomputable def xw_markIntS_0 : (((List Int) × Int)) → Ex × List (Pl × LV) := fun r => (.exit 0, [(.T 0, .t (.val false [.row 0 0 0])), (.R 0 0, .r 0 (some ⟨false, .any, true, 3, (.int .i64), r.1⟩)), (.T 1, .t (.val false [.int .i64 r.2]))])
noncomputable def Ow_markIntS_1 : Orc := fun b h => match b, h with
 | 0, [(.T 0, .t (.val false [.row 0 0 0])), (.R 0 0, .r 0 (some ⟨false, .any, true, 3, (.int .i64), y0⟩)), (.T 1, .t (.val false [.int .i64 y1])), (.T 5, .t (.val false [.int .i64 y2]))] => some (okO (g_Lw_markIntS_0 (y0, y1, y2)), (.leaf (.exit 0) [(.T 0, .t (.val false [.row 0 0 0])), (.R 0 0, .r 0 (some ⟨false, .any, true, 3, (.int .i64), (valO (g_Lw_markIntS_0 (y0, y1, y2))).1⟩)), (.T 1, .t (.val false [.int .i64 (valO (g_Lw_markIntS_0 (y0, y1, y2))).2]))]))
 | b, h => Ow_markIntS_0 b h
theorem bw_markIntS_0 (y0 : List Int) (y1 : Int) (y2 : Int) : Tr.bt Ew_markIntS Ow_markIntS_0 (exec Ew_markIntS 0 cw_markIntS_0 (St.of (hw_markIntS_0 y0 y1 y2)) (leafRd Ew_markIntS 0)) = (g_Sw_markIntS_0 (y0, y1, y2)).bt (fun ((y0, y1, y2) : (List Int) × Int × Int) => (hw_markIntS_0 y0 y1 y2)) (xw_markIntS_0) := by kernel_rfl
theorem kw_markIntS_1 : OrcOk Ew_markIntS Ow_markIntS_1 lsw_markIntS 1 := orc_add kw_markIntS_0 (fun n p hp h ex h' ho => by
 obtain ⟨b, c⟩ := p
 obtain ⟨xt, h1, h2⟩ := ho
 have h1 : Ow_markIntS_1 b h = some (true, xt) := h1
 unfold Ow_markIntS_1 at h1
 split at h1
 ·injection h1 with h1
  injection h1 with e1 e2
  subst e2
  have hc : c = cw_markIntS_0 := mw_markIntS_0 _ hp rfl
  subst hc
  right
  rename_i y0 y1 y2
  have key := LT_step kw_markIntS_0 hp (fun q hq => loopsAll_in _ _ _ _ hp hq) (fun ((y0, y1, y2) : (List Int) × Int × Int) => (hw_markIntS_0 y0 y1 y2)) (xw_markIntS_0) (g_Sw_markIntS_0) (fun x => by first | exact bw_markIntS_0 x.1 x.2.1 x.2.2) n (x := (y0, y1, y2)) (okO_some e1)
  have hx : ∀ r, XT.sel (.leaf (.exit 0) [(.T 0, .t (.val false [.row 0 0 0])), (.R 0 0, .r 0 (some ⟨false, .any, true, 3, (.int .i64), r.1⟩)), (.T 1, .t (.val false [.int .i64 r.2]))]) = xw_markIntS_0 r := fun r => by first | rfl | (rcases r with r | r <;> rfl) | (rcases r with r | r | r <;> rfl) | (rcases r with r | r | r | r <;> rfl)
  have h3 := (hx (valO (g_Lw_markIntS_0 (y0, y1, y2)))).symm.trans h2
  have e3 := congrArg Prod.fst h3
  have e4 := congrArg Prod.snd h3
  simp only at e3 e4
  rw [← e3, ← e4]
  exact key
 ·exact .inl ⟨xt, h1, h2⟩)
noncomputable def g_Aw_markIntS (a0 : List Int) (a1 : Int) : Bool := okO (g_Lw_markIntS_0 (a0, a1, (0 : Int)))
noncomputable def g_Vw_markIntS_0 (a0 : List Int) (a1 : Int) : Int := (valO (g_Lw_markIntS_0 (a0, a1, (0 : Int)))).2
noncomputable def g_Vw_markIntS_1 (a0 : List Int) (a1 : Int) : List Int := (valO (g_Lw_markIntS_0 (a0, a1, (0 : Int)))).1
noncomputable def Fw_markIntS : FSem := fun ys => match ys with
 | [.val false [.own .any true 3 (.int .i64) a0], .val false [.int .i64 a1]] => some ((g_Aw_markIntS a0 a1), .val false [.int .i64 (g_Vw_markIntS_0 a0 a1)], [[.own .any true 3 (.int .i64) (g_Vw_markIntS_1 a0 a1)]])
 | _ => none
theorem vw_markIntS (a0 : List Int) (a1 : Int) : collapseH .std Ew_markIntS Ow_markIntS_1 (execFn Ew_markIntS Tryz.f124 msw_markIntS [.val false [.own .any true 3 (.int .i64) a0], .val false [.int .i64 a1]]) = some ((g_Aw_markIntS a0 a1), .val false [.int .i64 (g_Vw_markIntS_0 a0 a1)], [[.own .any true 3 (.int .i64) (g_Vw_markIntS_1 a0 a1)]]) := by kernel_rfl
theorem sw_markIntS : Sound Tryz.prog 124 msw_markIntS Fw_markIntS := by
 refine fn_gen goodw_markIntS (by kernel_rfl) .std (fn := Tryz.f124) (c := (Tryz.f124.body.getD .skip)) (o := Ow_markIntS_1) (k := 1) (by kernel_rfl) (by kernel_rfl) (by kernel_rfl) (by kernel_rfl) (by decide) kw_markIntS_1 ?_
 intro ys r outs h
 unfold Fw_markIntS at h
 split at h
 ·exact (vw_markIntS _ _).trans h
 ·cases h
noncomputable def Ew_markStoWriteS : Env where
 tt := mkTI Tryz.prog
 fn := fun f => match f with
  | 123 => some (msw_markText, FSem.wk msw_markText Fw_markText)
  | 124 => some (msw_markIntS, FSem.wk msw_markIntS Fw_markIntS)
  | _ => none
 bxf := fun _ => none
 mv := []
 keep := fun b => match b with
  | 0 => [(0, false), (1, false), (5, false)]
  | _ => []
 keepB := fun b => match b with
  | 0 => []
  | _ => []
 keepX := fun b => match b with
  | 0 => [(0, false), (1, false)]
  | _ => []
 keepXB := fun b => match b with
  | 0 => []
  | _ => []
 nest := [33]
theorem goodFw_markStoWriteS : ∀ f ms F, Ew_markStoWriteS.fn f = some (ms, F) → Sound Tryz.prog f ms F := fun f ms F h => by
 unfold Ew_markStoWriteS at h
 dsimp only at h
 split at h
 ·injection h with h; injection h with e1 e2; subst e1 e2; exact Sound.wk sw_markText
 ·injection h with h; injection h with e1 e2; subst e1 e2; exact Sound.wk sw_markIntS
 ·cases h
theorem goodBw_markStoWriteS : ∀ f ms F, Ew_markStoWriteS.bxf f = some (ms, F) → SoundB Tryz.prog f ms F := fun f ms F h => by cases h
theorem goodw_markStoWriteS : Good Tryz.prog Ew_markStoWriteS := ⟨rfl, goodFw_markStoWriteS, goodBw_markStoWriteS⟩
noncomputable def Ow_markStoWriteS_0 : Orc := fun _ _ => none
noncomputable def msw_markStoWriteS : List PM := [.«mut», .own]
noncomputable def lsw_markStoWriteS : List (Nat × Code) := loopsAll 0 (Tryz.f122.body.getD .skip)
noncomputable def cw_markStoWriteS_0 : Code := (loopOf 0 (Tryz.f122.body.getD .skip)).getD .skip
theorem lseqw_markStoWriteS : lsw_markStoWriteS = [(0, cw_markStoWriteS_0)] := by kernel_rfl
theorem mw_markStoWriteS_0 : ∀ p, p ∈ lsw_markStoWriteS → p.1 = 0 → p.2 = cw_markStoWriteS_0 := by
 intro p hp
 rw [lseqw_markStoWriteS] at hp
 simp only [List.mem_cons, List.not_mem_nil, or_false] at hp
 subst hp; simp
theorem kw_markStoWriteS_0 : OrcOk Ew_markStoWriteS Ow_markStoWriteS_0 lsw_markStoWriteS 0 := orcOk_none
noncomputable def hw_markStoWriteS_0 (y0 : List (ByteArray × (Bool × (List Int)))) (y1 : Int) (y2 : Int) : List (Pl × LV) := [(.T 0, .t (.val false [.row 0 0 0])), (.R 0 0, .r 0 (some ⟨false, .any, true, 39, (.pair .str (.pair .bool (.sl 3 (.int .i64)))), y0⟩)), (.T 1, .t (.val false [.int .i64 y1])), (.T 5, .t (.val false [.int .i64 y2]))]
noncomputable def g_Sw_markStoWriteS_0 : ((List (ByteArray × (Bool × (List Int)))) × Int × Int) → RT ((List (ByteArray × (Bool × (List Int)))) × Int × Int) (((List (ByteArray × (Bool × (List Int)))) × Int))
 | (y0, y1, y2) => .br (true) (.br (decide (y2 < (↑(List.length y0) : Int))) (.br (g_Aw_markText y1) (.br (decide ((0 : Int) ≤ y2 ∧ y2 < (↑(List.length y0) : Int))) (.br (decide (Int.toNat y2 < List.length y0)) (.br (true) (.br (true) (.br (true) (.br (decide ((0 : Int) ≤ y2 ∧ y2 < (↑(List.length (updE (Ty.pair Ty.str (Ty.pair Ty.bool (Ty.sl (nat_lit 3) (Ty.int IntKind.i64)))) y0 (Int.toNat y2) fun x => (g_Vw_markText_0 y1, x.2.1, x.2.2))) : Int))) (.br (decide (Int.toNat y2 < List.length (updE (Ty.pair Ty.str (Ty.pair Ty.bool (Ty.sl (nat_lit 3) (Ty.int IntKind.i64)))) y0 (Int.toNat y2) fun x => (g_Vw_markText_0 y1, x.2.1, x.2.2)))) (.br (true) (.br (decide ((0 : Int) ≤ y2 ∧ y2 < (↑(List.length (updE (Ty.pair Ty.str (Ty.pair Ty.bool (Ty.sl (nat_lit 3) (Ty.int IntKind.i64)))) (updE (Ty.pair Ty.str (Ty.pair Ty.bool (Ty.sl (nat_lit 3) (Ty.int IntKind.i64)))) y0 (Int.toNat y2) fun x => (g_Vw_markText_0 y1, x.2.1, x.2.2)) (Int.toNat y2) fun x => (x.1, Int.tmod (IntKind.wrap IntKind.i64 (y1 + (1 : Int))) (3 : Int) == (0 : Int), x.2.2))) : Int))) (.br (decide (Int.toNat y2 < List.length (updE (Ty.pair Ty.str (Ty.pair Ty.bool (Ty.sl (nat_lit 3) (Ty.int IntKind.i64)))) (updE (Ty.pair Ty.str (Ty.pair Ty.bool (Ty.sl (nat_lit 3) (Ty.int IntKind.i64)))) y0 (Int.toNat y2) fun x => (g_Vw_markText_0 y1, x.2.1, x.2.2)) (Int.toNat y2) fun x => (x.1, Int.tmod (IntKind.wrap IntKind.i64 (y1 + (1 : Int))) (3 : Int) == (0 : Int), x.2.2)))) (.br (g_Aw_markIntS (at_ (Ty.pair Ty.str (Ty.pair Ty.bool (Ty.sl (nat_lit 3) (Ty.int IntKind.i64)))) (updE (Ty.pair Ty.str (Ty.pair Ty.bool (Ty.sl (nat_lit 3) (Ty.int IntKind.i64)))) (updE (Ty.pair Ty.str (Ty.pair Ty.bool (Ty.sl (nat_lit 3) (Ty.int IntKind.i64)))) y0 (Int.toNat y2) fun x => (g_Vw_markText_0 y1, x.2.1, x.2.2)) (Int.toNat y2) fun x => (x.1, Int.tmod (IntKind.wrap IntKind.i64 (y1 + (1 : Int))) (3 : Int) == (0 : Int), x.2.2)) (Int.toNat y2)).2.2 (IntKind.wrap IntKind.i64 (IntKind.wrap IntKind.i64 (y1 + (1 : Int)) + (1 : Int)))) (.br (true) (.go ((List.set (updE (Ty.pair Ty.str (Ty.pair Ty.bool (Ty.sl (nat_lit 3) (Ty.int IntKind.i64)))) (updE (Ty.pair Ty.str (Ty.pair Ty.bool (Ty.sl (nat_lit 3) (Ty.int IntKind.i64)))) y0 (Int.toNat y2) fun x => (g_Vw_markText_0 y1, x.2.1, x.2.2)) (Int.toNat y2) fun x => (x.1, Int.tmod (IntKind.wrap IntKind.i64 (y1 + (1 : Int))) (3 : Int) == (0 : Int), x.2.2)) (Int.toNat y2) ((at_ (Ty.pair Ty.str (Ty.pair Ty.bool (Ty.sl (nat_lit 3) (Ty.int IntKind.i64)))) (updE (Ty.pair Ty.str (Ty.pair Ty.bool (Ty.sl (nat_lit 3) (Ty.int IntKind.i64)))) (updE (Ty.pair Ty.str (Ty.pair Ty.bool (Ty.sl (nat_lit 3) (Ty.int IntKind.i64)))) y0 (Int.toNat y2) fun x => (g_Vw_markText_0 y1, x.2.1, x.2.2)) (Int.toNat y2) fun x => (x.1, Int.tmod (IntKind.wrap IntKind.i64 (y1 + (1 : Int))) (3 : Int) == (0 : Int), x.2.2)) (Int.toNat y2)).1, (at_ (Ty.pair Ty.str (Ty.pair Ty.bool (Ty.sl (nat_lit 3) (Ty.int IntKind.i64)))) (updE (Ty.pair Ty.str (Ty.pair Ty.bool (Ty.sl (nat_lit 3) (Ty.int IntKind.i64)))) (updE (Ty.pair Ty.str (Ty.pair Ty.bool (Ty.sl (nat_lit 3) (Ty.int IntKind.i64)))) y0 (Int.toNat y2) fun x => (g_Vw_markText_0 y1, x.2.1, x.2.2)) (Int.toNat y2) fun x => (x.1, Int.tmod (IntKind.wrap IntKind.i64 (y1 + (1 : Int))) (3 : Int) == (0 : Int), x.2.2)) (Int.toNat y2)).2.1, g_Vw_markIntS_1 (at_ (Ty.pair Ty.str (Ty.pair Ty.bool (Ty.sl (nat_lit 3) (Ty.int IntKind.i64)))) (updE (Ty.pair Ty.str (Ty.pair Ty.bool (Ty.sl (nat_lit 3) (Ty.int IntKind.i64)))) (updE (Ty.pair Ty.str (Ty.pair Ty.bool (Ty.sl (nat_lit 3) (Ty.int IntKind.i64)))) y0 (Int.toNat y2) fun x => (g_Vw_markText_0 y1, x.2.1, x.2.2)) (Int.toNat y2) fun x => (x.1, Int.tmod (IntKind.wrap IntKind.i64 (y1 + (1 : Int))) (3 : Int) == (0 : Int), x.2.2)) (Int.toNat y2)).2.2 (IntKind.wrap IntKind.i64 (IntKind.wrap IntKind.i64 (y1 + (1 : Int)) + (1 : Int)))), g_Vw_markIntS_0 (at_ (Ty.pair Ty.str (Ty.pair Ty.bool (Ty.sl (nat_lit 3) (Ty.int IntKind.i64)))) (updE (Ty.pair Ty.str (Ty.pair Ty.bool (Ty.sl (nat_lit 3) (Ty.int IntKind.i64)))) (updE (Ty.pair Ty.str (Ty.pair Ty.bool (Ty.sl (nat_lit 3) (Ty.int IntKind.i64)))) y0 (Int.toNat y2) fun x => (g_Vw_markText_0 y1, x.2.1, x.2.2)) (Int.toNat y2) fun x => (x.1, Int.tmod (IntKind.wrap IntKind.i64 (y1 + (1 : Int))) (3 : Int) == (0 : Int), x.2.2)) (Int.toNat y2)).2.2 (IntKind.wrap IntKind.i64 (IntKind.wrap IntKind.i64 (y1 + (1 : Int)) + (1 : Int))), IntKind.wrap IntKind.i64 (y2 + (1 : Int))))) (.bad)) (.bad)) (.bad)) (.bad)) (.bad)) (.bad)) (.bad)) (.bad)) (.bad)) (.bad)) (.bad)) (.bad)) (.bad)) (.out ((y0, y1)))) (.bad)
noncomputable def g_Lw_markStoWriteS_0 (x : (List (ByteArray × (Bool × (List Int)))) × Int × Int) : Option (((List (ByteArray × (Bool × (List Int)))) × Int)) := loopO (g_Sw_markStoWriteS_0) x
noncomputable def xw_markStoWriteS_0 : (((List (ByteArray × (Bool × (List Int)))) × Int)) → Ex × List (Pl × LV) := fun r => (.exit 0, [(.T 0, .t (.val false [.row 0 0 0])), (.R 0 0, .r 0 (some ⟨false, .any, true, 39, (.pair .str (.pair .bool (.sl 3 (.int .i64)))), r.1⟩)), (.T 1, .t (.val false [.int .i64 r.2]))])
noncomputable def Ow_markStoWriteS_1 : Orc := fun b h => match b, h with
 | 0, [(.T 0, .t (.val false [.row 0 0 0])), (.R 0 0, .r 0 (some ⟨false, .any, true, 39, (.pair .str (.pair .bool (.sl 3 (.int .i64)))), y0⟩)), (.T 1, .t (.val false [.int .i64 y1])), (.T 5, .t (.val false [.int .i64 y2]))] => some (okO (g_Lw_markStoWriteS_0 (y0, y1, y2)), (.leaf (.exit 0) [(.T 0, .t (.val false [.row 0 0 0])), (.R 0 0, .r 0 (some ⟨false, .any, true, 39, (.pair .str (.pair .bool (.sl 3 (.int .i64)))), (valO (g_Lw_markStoWriteS_0 (y0, y1, y2))).1⟩)), (.T 1, .t (.val false [.int .i64 (valO (g_Lw_markStoWriteS_0 (y0, y1, y2))).2]))]))
 | b, h => Ow_markStoWriteS_0 b h
theorem bw_markStoWriteS_0 (y0 : List (ByteArray × (Bool × (List Int)))) (y1 : Int) (y2 : Int) : Tr.bt Ew_markStoWriteS Ow_markStoWriteS_0 (exec Ew_markStoWriteS 0 cw_markStoWriteS_0 (St.of (hw_markStoWriteS_0 y0 y1 y2)) (leafRd Ew_markStoWriteS 0)) = (g_Sw_markStoWriteS_0 (y0, y1, y2)).bt (fun ((y0, y1, y2) : (List (ByteArray × (Bool × (List Int)))) × Int × Int) => (hw_markStoWriteS_0 y0 y1 y2)) (xw_markStoWriteS_0) := by kernel_rfl
theorem kw_markStoWriteS_1 : OrcOk Ew_markStoWriteS Ow_markStoWriteS_1 lsw_markStoWriteS 1 := orc_add kw_markStoWriteS_0 (fun n p hp h ex h' ho => by
 obtain ⟨b, c⟩ := p
 obtain ⟨xt, h1, h2⟩ := ho
 have h1 : Ow_markStoWriteS_1 b h = some (true, xt) := h1
 unfold Ow_markStoWriteS_1 at h1
 split at h1
 ·injection h1 with h1
  injection h1 with e1 e2
  subst e2
  have hc : c = cw_markStoWriteS_0 := mw_markStoWriteS_0 _ hp rfl
  subst hc
  right
  rename_i y0 y1 y2
  have key := LT_step kw_markStoWriteS_0 hp (fun q hq => loopsAll_in _ _ _ _ hp hq) (fun ((y0, y1, y2) : (List (ByteArray × (Bool × (List Int)))) × Int × Int) => (hw_markStoWriteS_0 y0 y1 y2)) (xw_markStoWriteS_0) (g_Sw_markStoWriteS_0) (fun x => by first | exact bw_markStoWriteS_0 x.1 x.2.1 x.2.2) n (x := (y0, y1, y2)) (okO_some e1)
  have hx : ∀ r, XT.sel (.leaf (.exit 0) [(.T 0, .t (.val false [.row 0 0 0])), (.R 0 0, .r 0 (some ⟨false, .any, true, 39, (.pair .str (.pair .bool (.sl 3 (.int .i64)))), r.1⟩)), (.T 1, .t (.val false [.int .i64 r.2]))]) = xw_markStoWriteS_0 r := fun r => by first | rfl | (rcases r with r | r <;> rfl) | (rcases r with r | r | r <;> rfl) | (rcases r with r | r | r | r <;> rfl)
  have h3 := (hx (valO (g_Lw_markStoWriteS_0 (y0, y1, y2)))).symm.trans h2
  have e3 := congrArg Prod.fst h3
  have e4 := congrArg Prod.snd h3
  simp only at e3 e4
  rw [← e3, ← e4]
  exact key
 ·exact .inl ⟨xt, h1, h2⟩)
noncomputable def g_Aw_markStoWriteS (a0 : List (ByteArray × (Bool × (List Int)))) (a1 : Int) : Bool := okO (g_Lw_markStoWriteS_0 (a0, a1, (0 : Int)))
noncomputable def g_Vw_markStoWriteS_0 (a0 : List (ByteArray × (Bool × (List Int)))) (a1 : Int) : Int := (valO (g_Lw_markStoWriteS_0 (a0, a1, (0 : Int)))).2
noncomputable def g_Vw_markStoWriteS_1 (a0 : List (ByteArray × (Bool × (List Int)))) (a1 : Int) : List (ByteArray × (Bool × (List Int))) := (valO (g_Lw_markStoWriteS_0 (a0, a1, (0 : Int)))).1
noncomputable def Fw_markStoWriteS : FSem := fun ys => match ys with
 | [.val false [.own .any true 39 (.pair .str (.pair .bool (.sl 3 (.int .i64)))) a0], .val false [.int .i64 a1]] => some ((g_Aw_markStoWriteS a0 a1), .val false [.int .i64 (g_Vw_markStoWriteS_0 a0 a1)], [[.own .any true 39 (.pair .str (.pair .bool (.sl 3 (.int .i64)))) (g_Vw_markStoWriteS_1 a0 a1)]])
 | _ => none
theorem vw_markStoWriteS (a0 : List (ByteArray × (Bool × (List Int)))) (a1 : Int) : collapseH .std Ew_markStoWriteS Ow_markStoWriteS_1 (execFn Ew_markStoWriteS Tryz.f122 msw_markStoWriteS [.val false [.own .any true 39 (.pair .str (.pair .bool (.sl 3 (.int .i64)))) a0], .val false [.int .i64 a1]]) = some ((g_Aw_markStoWriteS a0 a1), .val false [.int .i64 (g_Vw_markStoWriteS_0 a0 a1)], [[.own .any true 39 (.pair .str (.pair .bool (.sl 3 (.int .i64)))) (g_Vw_markStoWriteS_1 a0 a1)]]) := by kernel_rfl
theorem sw_markStoWriteS : Sound Tryz.prog 122 msw_markStoWriteS Fw_markStoWriteS := by
 refine fn_gen goodw_markStoWriteS (by kernel_rfl) .std (fn := Tryz.f122) (c := (Tryz.f122.body.getD .skip)) (o := Ow_markStoWriteS_1) (k := 1) (by kernel_rfl) (by kernel_rfl) (by kernel_rfl) (by kernel_rfl) (by decide) kw_markStoWriteS_1 ?_
 intro ys r outs h
 unfold Fw_markStoWriteS at h
 split at h
 ·exact (vw_markStoWriteS _ _).trans h
 ·cases h
noncomputable def Ew_markStringS : Env where
 tt := mkTI Tryz.prog
 fn := fun f => match f with
  | 123 => some (msw_markText, FSem.wk msw_markText Fw_markText)
  | _ => none
 bxf := fun _ => none
 mv := []
 keep := fun b => match b with
  | 0 => [(0, false), (1, false), (5, false)]
  | _ => []
 keepB := fun b => match b with
  | 0 => []
  | _ => []
 keepX := fun b => match b with
  | 0 => [(0, false), (1, false)]
  | _ => []
 keepXB := fun b => match b with
  | 0 => []
  | _ => []
theorem goodFw_markStringS : ∀ f ms F, Ew_markStringS.fn f = some (ms, F) → Sound Tryz.prog f ms F := fun f ms F h => by
 unfold Ew_markStringS at h
 dsimp only at h
 split at h
 ·injection h with h; injection h with e1 e2; subst e1 e2; exact Sound.wk sw_markText
 ·cases h
theorem goodBw_markStringS : ∀ f ms F, Ew_markStringS.bxf f = some (ms, F) → SoundB Tryz.prog f ms F := fun f ms F h => by cases h
theorem goodw_markStringS : Good Tryz.prog Ew_markStringS := ⟨rfl, goodFw_markStringS, goodBw_markStringS⟩
noncomputable def Ow_markStringS_0 : Orc := fun _ _ => none
noncomputable def msw_markStringS : List PM := [.«mut», .own]
noncomputable def lsw_markStringS : List (Nat × Code) := loopsAll 0 (Tryz.f121.body.getD .skip)
noncomputable def cw_markStringS_0 : Code := (loopOf 0 (Tryz.f121.body.getD .skip)).getD .skip
theorem lseqw_markStringS : lsw_markStringS = [(0, cw_markStringS_0)] := by kernel_rfl
theorem mw_markStringS_0 : ∀ p, p ∈ lsw_markStringS → p.1 = 0 → p.2 = cw_markStringS_0 := by
 intro p hp
 rw [lseqw_markStringS] at hp
 simp only [List.mem_cons, List.not_mem_nil, or_false] at hp
 subst hp; simp
theorem kw_markStringS_0 : OrcOk Ew_markStringS Ow_markStringS_0 lsw_markStringS 0 := orcOk_none
noncomputable def hw_markStringS_0 (y0 : List ByteArray) (y1 : Int) (y2 : Int) : List (Pl × LV) := [(.T 0, .t (.val false [.row 0 0 0])), (.R 0 0, .r 0 (some ⟨false, .any, true, 9, .str, y0⟩)), (.T 1, .t (.val false [.int .i64 y1])), (.T 5, .t (.val false [.int .i64 y2]))]
noncomputable def g_Sw_markStringS_0 : ((List ByteArray) × Int × Int) → RT ((List ByteArray) × Int × Int) (((List ByteArray) × Int))
 | (y0, y1, y2) => .br (true) (.br (decide (y2 < (↑(List.length y0) : Int))) (.br (g_Aw_markText y1) (.br (decide ((0 : Int) ≤ y2 ∧ y2 < (↑(List.length y0) : Int))) (.br (decide (Int.toNat y2 < List.length y0)) (.br (true) (.br (true) (.go ((List.set y0 (Int.toNat y2) (g_Vw_markText_0 y1), IntKind.wrap IntKind.i64 (y1 + (1 : Int)), IntKind.wrap IntKind.i64 (y2 + (1 : Int))))) (.bad)) (.bad)) (.bad)) (.bad)) (.bad)) (.out ((y0, y1)))) (.bad)
noncomputable def g_Lw_markStringS_0 (x : (List ByteArray) × Int × Int) : Option (((List ByteArray) × Int)) := loopO (g_Sw_markStringS_0) x
noncomputable def xw_markStringS_0 : (((List ByteArray) × Int)) → Ex × List (Pl × LV) := fun r => (.exit 0, [(.T 0, .t (.val false [.row 0 0 0])), (.R 0 0, .r 0 (some ⟨false, .any, true, 9, .str, r.1⟩)), (.T 1, .t (.val false [.int .i64 r.2]))])
noncomputable def Ow_markStringS_1 : Orc := fun b h => match b, h with
 | 0, [(.T 0, .t (.val false [.row 0 0 0])), (.R 0 0, .r 0 (some ⟨false, .any, true, 9, .str, y0⟩)), (.T 1, .t (.val false [.int .i64 y1])), (.T 5, .t (.val false [.int .i64 y2]))] => some (okO (g_Lw_markStringS_0 (y0, y1, y2)), (.leaf (.exit 0) [(.T 0, .t (.val false [.row 0 0 0])), (.R 0 0, .r 0 (some ⟨false, .any, true, 9, .str, (valO (g_Lw_markStringS_0 (y0, y1, y2))).1⟩)), (.T 1, .t (.val false [.int .i64 (valO (g_Lw_markStringS_0 (y0, y1, y2))).2]))]))
 | b, h => Ow_markStringS_0 b h
theorem bw_markStringS_0 (y0 : List ByteArray) (y1 : Int) (y2 : Int) : Tr.bt Ew_markStringS Ow_markStringS_0 (exec Ew_markStringS 0 cw_markStringS_0 (St.of (hw_markStringS_0 y0 y1 y2)) (leafRd Ew_markStringS 0)) = (g_Sw_markStringS_0 (y0, y1, y2)).bt (fun ((y0, y1, y2) : (List ByteArray) × Int × Int) => (hw_markStringS_0 y0 y1 y2)) (xw_markStringS_0) := by kernel_rfl
theorem kw_markStringS_1 : OrcOk Ew_markStringS Ow_markStringS_1 lsw_markStringS 1 := orc_add kw_markStringS_0 (fun n p hp h ex h' ho => by
 obtain ⟨b, c⟩ := p
 obtain ⟨xt, h1, h2⟩ := ho
 have h1 : Ow_markStringS_1 b h = some (true, xt) := h1
 unfold Ow_markStringS_1 at h1
 split at h1
 ·injection h1 with h1
  injection h1 with e1 e2
  subst e2
  have hc : c = cw_markStringS_0 := mw_markStringS_0 _ hp rfl
  subst hc
  right
  rename_i y0 y1 y2
  have key := LT_step kw_markStringS_0 hp (fun q hq => loopsAll_in _ _ _ _ hp hq) (fun ((y0, y1, y2) : (List ByteArray) × Int × Int) => (hw_markStringS_0 y0 y1 y2)) (xw_markStringS_0) (g_Sw_markStringS_0) (fun x => by first | exact bw_markStringS_0 x.1 x.2.1 x.2.2) n (x := (y0, y1, y2)) (okO_some e1)
  have hx : ∀ r, XT.sel (.leaf (.exit 0) [(.T 0, .t (.val false [.row 0 0 0])), (.R 0 0, .r 0 (some ⟨false, .any, true, 9, .str, r.1⟩)), (.T 1, .t (.val false [.int .i64 r.2]))]) = xw_markStringS_0 r := fun r => by first | rfl | (rcases r with r | r <;> rfl) | (rcases r with r | r | r <;> rfl) | (rcases r with r | r | r | r <;> rfl)
  have h3 := (hx (valO (g_Lw_markStringS_0 (y0, y1, y2)))).symm.trans h2
  have e3 := congrArg Prod.fst h3
  have e4 := congrArg Prod.snd h3
  simp only at e3 e4
  rw [← e3, ← e4]
  exact key
 ·exact .inl ⟨xt, h1, h2⟩)
noncomputable def g_Aw_markStringS (a0 : List ByteArray) (a1 : Int) : Bool := okO (g_Lw_markStringS_0 (a0, a1, (0 : Int)))
noncomputable def g_Vw_markStringS_0 (a0 : List ByteArray) (a1 : Int) : Int := (valO (g_Lw_markStringS_0 (a0, a1, (0 : Int)))).2
noncomputable def g_Vw_markStringS_1 (a0 : List ByteArray) (a1 : Int) : List ByteArray := (valO (g_Lw_markStringS_0 (a0, a1, (0 : Int)))).1
noncomputable def Fw_markStringS : FSem := fun ys => match ys with
 | [.val false [.own .any true 9 .str a0], .val false [.int .i64 a1]] => some ((g_Aw_markStringS a0 a1), .val false [.int .i64 (g_Vw_markStringS_0 a0 a1)], [[.own .any true 9 .str (g_Vw_markStringS_1 a0 a1)]])
 | _ => none
theorem vw_markStringS (a0 : List ByteArray) (a1 : Int) : collapseH .std Ew_markStringS Ow_markStringS_1 (execFn Ew_markStringS Tryz.f121 msw_markStringS [.val false [.own .any true 9 .str a0], .val false [.int .i64 a1]]) = some ((g_Aw_markStringS a0 a1), .val false [.int .i64 (g_Vw_markStringS_0 a0 a1)], [[.own .any true 9 .str (g_Vw_markStringS_1 a0 a1)]]) := by kernel_rfl
theorem sw_markStringS : Sound Tryz.prog 121 msw_markStringS Fw_markStringS := by
 refine fn_gen goodw_markStringS (by kernel_rfl) .std (fn := Tryz.f121) (c := (Tryz.f121.body.getD .skip)) (o := Ow_markStringS_1) (k := 1) (by kernel_rfl) (by kernel_rfl) (by kernel_rfl) (by kernel_rfl) (by decide) kw_markStringS_1 ?_
 intro ys r outs h
 unfold Fw_markStringS at h
 split at h
 ·exact (vw_markStringS _ _).trans h
 ·cases h
noncomputable def Ew_markLogNoteS : Env where
 tt := mkTI Tryz.prog
 fn := fun f => match f with
  | 121 => some (msw_markStringS, FSem.wk msw_markStringS Fw_markStringS)
  | 122 => some (msw_markStoWriteS, FSem.wk msw_markStoWriteS Fw_markStoWriteS)
  | _ => none
 bxf := fun _ => none
 mv := []
 keep := fun b => match b with
  | 0 => [(0, false), (1, false), (5, false)]
  | _ => []
 keepB := fun b => match b with
  | 0 => []
  | _ => []
 keepX := fun b => match b with
  | 0 => [(0, false), (1, false)]
  | _ => []
 keepXB := fun b => match b with
  | 0 => []
  | _ => []
 nest := [30, 37]
theorem goodFw_markLogNoteS : ∀ f ms F, Ew_markLogNoteS.fn f = some (ms, F) → Sound Tryz.prog f ms F := fun f ms F h => by
 unfold Ew_markLogNoteS at h
 dsimp only at h
 split at h
 ·injection h with h; injection h with e1 e2; subst e1 e2; exact Sound.wk sw_markStringS
 ·injection h with h; injection h with e1 e2; subst e1 e2; exact Sound.wk sw_markStoWriteS
 ·cases h
theorem goodBw_markLogNoteS : ∀ f ms F, Ew_markLogNoteS.bxf f = some (ms, F) → SoundB Tryz.prog f ms F := fun f ms F h => by cases h
theorem goodw_markLogNoteS : Good Tryz.prog Ew_markLogNoteS := ⟨rfl, goodFw_markLogNoteS, goodBw_markLogNoteS⟩
noncomputable def Ow_markLogNoteS_0 : Orc := fun _ _ => none
noncomputable def msw_markLogNoteS : List PM := [.«mut», .own]
noncomputable def lsw_markLogNoteS : List (Nat × Code) := loopsAll 0 (Tryz.f73.body.getD .skip)
noncomputable def cw_markLogNoteS_0 : Code := (loopOf 0 (Tryz.f73.body.getD .skip)).getD .skip
theorem lseqw_markLogNoteS : lsw_markLogNoteS = [(0, cw_markLogNoteS_0)] := by kernel_rfl
theorem mw_markLogNoteS_0 : ∀ p, p ∈ lsw_markLogNoteS → p.1 = 0 → p.2 = cw_markLogNoteS_0 := by
 intro p hp
 rw [lseqw_markLogNoteS] at hp
 simp only [List.mem_cons, List.not_mem_nil, or_false] at hp
 subst hp; simp
theorem kw_markLogNoteS_0 : OrcOk Ew_markLogNoteS Ow_markLogNoteS_0 lsw_markLogNoteS 0 := orcOk_none
noncomputable def hw_markLogNoteS_0 (y0 : List (Int × (Int × ((List ByteArray) × (List (ByteArray × (Bool × (List Int)))))))) (y1 : Int) (y2 : Int) : List (Pl × LV) := [(.T 0, .t (.val false [.row 0 0 0])), (.R 0 0, .r 0 (some ⟨false, .any, true, 72, (.pair (.int .i64) (.pair (.int .i64) (.pair (.sl 9 .str) (.sl 39 (.pair .str (.pair .bool (.sl 3 (.int .i64)))))))), y0⟩)), (.T 1, .t (.val false [.int .i64 y1])), (.T 5, .t (.val false [.int .i64 y2]))]
noncomputable def g_Sw_markLogNoteS_0 : ((List (Int × (Int × ((List ByteArray) × (List (ByteArray × (Bool × (List Int)))))))) × Int × Int) → RT ((List (Int × (Int × ((List ByteArray) × (List (ByteArray × (Bool × (List Int)))))))) × Int × Int) (((List (Int × (Int × ((List ByteArray) × (List (ByteArray × (Bool × (List Int)))))))) × Int))
 | (y0, y1, y2) => .br (true) (.br (decide (y2 < (↑(List.length y0) : Int))) (.br (decide ((0 : Int) ≤ y2 ∧ y2 < (↑(List.length y0) : Int))) (.br (decide (Int.toNat y2 < List.length y0)) (.br (true) (.br (decide ((0 : Int) ≤ y2 ∧ y2 < (↑(List.length (updE (Ty.pair (Ty.int IntKind.i64) (Ty.pair (Ty.int IntKind.i64) (Ty.pair (Ty.sl (nat_lit 9) Ty.str) (Ty.sl (nat_lit 39) (Ty.pair Ty.str (Ty.pair Ty.bool (Ty.sl (nat_lit 3) (Ty.int IntKind.i64)))))))) y0 (Int.toNat y2) fun x => (y1, x.2.1, x.2.2.1, x.2.2.2))) : Int))) (.br (decide (Int.toNat y2 < List.length (updE (Ty.pair (Ty.int IntKind.i64) (Ty.pair (Ty.int IntKind.i64) (Ty.pair (Ty.sl (nat_lit 9) Ty.str) (Ty.sl (nat_lit 39) (Ty.pair Ty.str (Ty.pair Ty.bool (Ty.sl (nat_lit 3) (Ty.int IntKind.i64)))))))) y0 (Int.toNat y2) fun x => (y1, x.2.1, x.2.2.1, x.2.2.2)))) (.br (true) (.br (decide ((0 : Int) ≤ y2 ∧ y2 < (↑(List.length (updE (Ty.pair (Ty.int IntKind.i64) (Ty.pair (Ty.int IntKind.i64) (Ty.pair (Ty.sl (nat_lit 9) Ty.str) (Ty.sl (nat_lit 39) (Ty.pair Ty.str (Ty.pair Ty.bool (Ty.sl (nat_lit 3) (Ty.int IntKind.i64)))))))) (updE (Ty.pair (Ty.int IntKind.i64) (Ty.pair (Ty.int IntKind.i64) (Ty.pair (Ty.sl (nat_lit 9) Ty.str) (Ty.sl (nat_lit 39) (Ty.pair Ty.str (Ty.pair Ty.bool (Ty.sl (nat_lit 3) (Ty.int IntKind.i64)))))))) y0 (Int.toNat y2) fun x => (y1, x.2.1, x.2.2.1, x.2.2.2)) (Int.toNat y2) fun x => (x.1, IntKind.wrap IntKind.i64 (y1 + (1 : Int)), x.2.2.1, x.2.2.2))) : Int))) (.br (decide (Int.toNat y2 < List.length (updE (Ty.pair (Ty.int IntKind.i64) (Ty.pair (Ty.int IntKind.i64) (Ty.pair (Ty.sl (nat_lit 9) Ty.str) (Ty.sl (nat_lit 39) (Ty.pair Ty.str (Ty.pair Ty.bool (Ty.sl (nat_lit 3) (Ty.int IntKind.i64)))))))) (updE (Ty.pair (Ty.int IntKind.i64) (Ty.pair (Ty.int IntKind.i64) (Ty.pair (Ty.sl (nat_lit 9) Ty.str) (Ty.sl (nat_lit 39) (Ty.pair Ty.str (Ty.pair Ty.bool (Ty.sl (nat_lit 3) (Ty.int IntKind.i64)))))))) y0 (Int.toNat y2) fun x => (y1, x.2.1, x.2.2.1, x.2.2.2)) (Int.toNat y2) fun x => (x.1, IntKind.wrap IntKind.i64 (y1 + (1 : Int)), x.2.2.1, x.2.2.2)))) (.br (g_Aw_markStringS (at_ (Ty.pair (Ty.int IntKind.i64) (Ty.pair (Ty.int IntKind.i64) (Ty.pair (Ty.sl (nat_lit 9) Ty.str) (Ty.sl (nat_lit 39) (Ty.pair Ty.str (Ty.pair Ty.bool (Ty.sl (nat_lit 3) (Ty.int IntKind.i64)))))))) (updE (Ty.pair (Ty.int IntKind.i64) (Ty.pair (Ty.int IntKind.i64) (Ty.pair (Ty.sl (nat_lit 9) Ty.str) (Ty.sl (nat_lit 39) (Ty.pair Ty.str (Ty.pair Ty.bool (Ty.sl (nat_lit 3) (Ty.int IntKind.i64)))))))) (updE (Ty.pair (Ty.int IntKind.i64) (Ty.pair (Ty.int IntKind.i64) (Ty.pair (Ty.sl (nat_lit 9) Ty.str) (Ty.sl (nat_lit 39) (Ty.pair Ty.str (Ty.pair Ty.bool (Ty.sl (nat_lit 3) (Ty.int IntKind.i64)))))))) y0 (Int.toNat y2) fun x => (y1, x.2.1, x.2.2.1, x.2.2.2)) (Int.toNat y2) fun x => (x.1, IntKind.wrap IntKind.i64 (y1 + (1 : Int)), x.2.2.1, x.2.2.2)) (Int.toNat y2)).2.2.1 (IntKind.wrap IntKind.i64 (IntKind.wrap IntKind.i64 (y1 + (1 : Int)) + (1 : Int)))) (.br (decide ((0 : Int) ≤ y2 ∧ y2 < (↑(List.length (List.set (updE (Ty.pair (Ty.int IntKind.i64) (Ty.pair (Ty.int IntKind.i64) (Ty.pair (Ty.sl (nat_lit 9) Ty.str) (Ty.sl (nat_lit 39) (Ty.pair Ty.str (Ty.pair Ty.bool (Ty.sl (nat_lit 3) (Ty.int IntKind.i64)))))))) (updE (Ty.pair (Ty.int IntKind.i64) (Ty.pair (Ty.int IntKind.i64) (Ty.pair (Ty.sl (nat_lit 9) Ty.str) (Ty.sl (nat_lit 39) (Ty.pair Ty.str (Ty.pair Ty.bool (Ty.sl (nat_lit 3) (Ty.int IntKind.i64)))))))) y0 (Int.toNat y2) fun x => (y1, x.2.1, x.2.2.1, x.2.2.2)) (Int.toNat y2) fun x => (x.1, IntKind.wrap IntKind.i64 (y1 + (1 : Int)), x.2.2.1, x.2.2.2)) (Int.toNat y2) ((at_ (Ty.pair (Ty.int IntKind.i64) (Ty.pair (Ty.int IntKind.i64) (Ty.pair (Ty.sl (nat_lit 9) Ty.str) (Ty.sl (nat_lit 39) (Ty.pair Ty.str (Ty.pair Ty.bool (Ty.sl (nat_lit 3) (Ty.int IntKind.i64)))))))) (updE (Ty.pair (Ty.int IntKind.i64) (Ty.pair (Ty.int IntKind.i64) (Ty.pair (Ty.sl (nat_lit 9) Ty.str) (Ty.sl (nat_lit 39) (Ty.pair Ty.str (Ty.pair Ty.bool (Ty.sl (nat_lit 3) (Ty.int IntKind.i64)))))))) (updE (Ty.pair (Ty.int IntKind.i64) (Ty.pair (Ty.int IntKind.i64) (Ty.pair (Ty.sl (nat_lit 9) Ty.str) (Ty.sl (nat_lit 39) (Ty.pair Ty.str (Ty.pair Ty.bool (Ty.sl (nat_lit 3) (Ty.int IntKind.i64)))))))) y0 (Int.toNat y2) fun x => (y1, x.2.1, x.2.2.1, x.2.2.2)) (Int.toNat y2) fun x => (x.1, IntKind.wrap IntKind.i64 (y1 + (1 : Int)), x.2.2.1, x.2.2.2)) (Int.toNat y2)).1, (at_ (Ty.pair (Ty.int IntKind.i64) (Ty.pair (Ty.int IntKind.i64) (Ty.pair (Ty.sl (nat_lit 9) Ty.str) (Ty.sl (nat_lit 39) (Ty.pair Ty.str (Ty.pair Ty.bool (Ty.sl (nat_lit 3) (Ty.int IntKind.i64)))))))) (updE (Ty.pair (Ty.int IntKind.i64) (Ty.pair (Ty.int IntKind.i64) (Ty.pair (Ty.sl (nat_lit 9) Ty.str) (Ty.sl (nat_lit 39) (Ty.pair Ty.str (Ty.pair Ty.bool (Ty.sl (nat_lit 3) (Ty.int IntKind.i64)))))))) (updE (Ty.pair (Ty.int IntKind.i64) (Ty.pair (Ty.int IntKind.i64) (Ty.pair (Ty.sl (nat_lit 9) Ty.str) (Ty.sl (nat_lit 39) (Ty.pair Ty.str (Ty.pair Ty.bool (Ty.sl (nat_lit 3) (Ty.int IntKind.i64)))))))) y0 (Int.toNat y2) fun x => (y1, x.2.1, x.2.2.1, x.2.2.2)) (Int.toNat y2) fun x => (x.1, IntKind.wrap IntKind.i64 (y1 + (1 : Int)), x.2.2.1, x.2.2.2)) (Int.toNat y2)).2.1, g_Vw_markStringS_1 (at_ (Ty.pair (Ty.int IntKind.i64) (Ty.pair (Ty.int IntKind.i64) (Ty.pair (Ty.sl (nat_lit 9) Ty.str) (Ty.sl (nat_lit 39) (Ty.pair Ty.str (Ty.pair Ty.bool (Ty.sl (nat_lit 3) (Ty.int IntKind.i64)))))))) (updE (Ty.pair (Ty.int IntKind.i64) (Ty.pair (Ty.int IntKind.i64) (Ty.pair (Ty.sl (nat_lit 9) Ty.str) (Ty.sl (nat_lit 39) (Ty.pair Ty.str (Ty.pair Ty.bool (Ty.sl (nat_lit 3) (Ty.int IntKind.i64)))))))) (updE (Ty.pair (Ty.int IntKind.i64) (Ty.pair (Ty.int IntKind.i64) (Ty.pair (Ty.sl (nat_lit 9) Ty.str) (Ty.sl (nat_lit 39) (Ty.pair Ty.str (Ty.pair Ty.bool (Ty.sl (nat_lit 3) (Ty.int IntKind.i64)))))))) y0 (Int.toNat y2) fun x => (y1, x.2.1, x.2.2.1, x.2.2.2)) (Int.toNat y2) fun x => (x.1, IntKind.wrap IntKind.i64 (y1 + (1 : Int)), x.2.2.1, x.2.2.2)) (Int.toNat y2)).2.2.1 (IntKind.wrap IntKind.i64 (IntKind.wrap IntKind.i64 (y1 + (1 : Int)) + (1 : Int))), (at_ (Ty.pair (Ty.int IntKind.i64) (Ty.pair (Ty.int IntKind.i64) (Ty.pair (Ty.sl (nat_lit 9) Ty.str) (Ty.sl (nat_lit 39) (Ty.pair Ty.str (Ty.pair Ty.bool (Ty.sl (nat_lit 3) (Ty.int IntKind.i64)))))))) (updE (Ty.pair (Ty.int IntKind.i64) (Ty.pair (Ty.int IntKind.i64) (Ty.pair (Ty.sl (nat_lit 9) Ty.str) (Ty.sl (nat_lit 39) (Ty.pair Ty.str (Ty.pair Ty.bool (Ty.sl (nat_lit 3) (Ty.int IntKind.i64)))))))) (updE (Ty.pair (Ty.int IntKind.i64) (Ty.pair (Ty.int IntKind.i64) (Ty.pair (Ty.sl (nat_lit 9) Ty.str) (Ty.sl (nat_lit 39) (Ty.pair Ty.str (Ty.pair Ty.bool (Ty.sl (nat_lit 3) (Ty.int IntKind.i64)))))))) y0 (Int.toNat y2) fun x => (y1, x.2.1, x.2.2.1, x.2.2.2)) (Int.toNat y2) fun x => (x.1, IntKind.wrap IntKind.i64 (y1 + (1 : Int)), x.2.2.1, x.2.2.2)) (Int.toNat y2)).2.2.2))) : Int))) (.br (decide (Int.toNat y2 < List.length (List.set (updE (Ty.pair (Ty.int IntKind.i64) (Ty.pair (Ty.int IntKind.i64) (Ty.pair (Ty.sl (nat_lit 9) Ty.str) (Ty.sl (nat_lit 39) (Ty.pair Ty.str (Ty.pair Ty.bool (Ty.sl (nat_lit 3) (Ty.int IntKind.i64)))))))) (updE (Ty.pair (Ty.int IntKind.i64) (Ty.pair (Ty.int IntKind.i64) (Ty.pair (Ty.sl (nat_lit 9) Ty.str) (Ty.sl (nat_lit 39) (Ty.pair Ty.str (Ty.pair Ty.bool (Ty.sl (nat_lit 3) (Ty.int IntKind.i64)))))))) y0 (Int.toNat y2) fun x => (y1, x.2.1, x.2.2.1, x.2.2.2)) (Int.toNat y2) fun x => (x.1, IntKind.wrap IntKind.i64 (y1 + (1 : Int)), x.2.2.1, x.2.2.2)) (Int.toNat y2) ((at_ (Ty.pair (Ty.int IntKind.i64) (Ty.pair (Ty.int IntKind.i64) (Ty.pair (Ty.sl (nat_lit 9) Ty.str) (Ty.sl (nat_lit 39) (Ty.pair Ty.str (Ty.pair Ty.bool (Ty.sl (nat_lit 3) (Ty.int IntKind.i64)))))))) (updE (Ty.pair (Ty.int IntKind.i64) (Ty.pair (Ty.int IntKind.i64) (Ty.pair (Ty.sl (nat_lit 9) Ty.str) (Ty.sl (nat_lit 39) (Ty.pair Ty.str (Ty.pair Ty.bool (Ty.sl (nat_lit 3) (Ty.int IntKind.i64)))))))) (updE (Ty.pair (Ty.int IntKind.i64) (Ty.pair (Ty.int IntKind.i64) (Ty.pair (Ty.sl (nat_lit 9) Ty.str) (Ty.sl (nat_lit 39) (Ty.pair Ty.str (Ty.pair Ty.bool (Ty.sl (nat_lit 3) (Ty.int IntKind.i64)))))))) y0 (Int.toNat y2) fun x => (y1, x.2.1, x.2.2.1, x.2.2.2)) (Int.toNat y2) fun x => (x.1, IntKind.wrap IntKind.i64 (y1 + (1 : Int)), x.2.2.1, x.2.2.2)) (Int.toNat y2)).1, (at_ (Ty.pair (Ty.int IntKind.i64) (Ty.pair (Ty.int IntKind.i64) (Ty.pair (Ty.sl (nat_lit 9) Ty.str) (Ty.sl (nat_lit 39) (Ty.pair Ty.str (Ty.pair Ty.bool (Ty.sl (nat_lit 3) (Ty.int IntKind.i64)))))))) (updE (Ty.pair (Ty.int IntKind.i64) (Ty.pair (Ty.int IntKind.i64) (Ty.pair (Ty.sl (nat_lit 9) Ty.str) (Ty.sl (nat_lit 39) (Ty.pair Ty.str (Ty.pair Ty.bool (Ty.sl (nat_lit 3) (Ty.int IntKind.i64)))))))) (updE (Ty.pair (Ty.int IntKind.i64) (Ty.pair (Ty.int IntKind.i64) (Ty.pair (Ty.sl (nat_lit 9) Ty.str) (Ty.sl (nat_lit 39) (Ty.pair Ty.str (Ty.pair Ty.bool (Ty.sl (nat_lit 3) (Ty.int IntKind.i64)))))))) y0 (Int.toNat y2) fun x => (y1, x.2.1, x.2.2.1, x.2.2.2)) (Int.toNat y2) fun x => (x.1, IntKind.wrap IntKind.i64 (y1 + (1 : Int)), x.2.2.1, x.2.2.2)) (Int.toNat y2)).2.1, g_Vw_markStringS_1 (at_ (Ty.pair (Ty.int IntKind.i64) (Ty.pair (Ty.int IntKind.i64) (Ty.pair (Ty.sl (nat_lit 9) Ty.str) (Ty.sl (nat_lit 39) (Ty.pair Ty.str (Ty.pair Ty.bool (Ty.sl (nat_lit 3) (Ty.int IntKind.i64)))))))) (updE (Ty.pair (Ty.int IntKind.i64) (Ty.pair (Ty.int IntKind.i64) (Ty.pair (Ty.sl (nat_lit 9) Ty.str) (Ty.sl (nat_lit 39) (Ty.pair Ty.str (Ty.pair Ty.bool (Ty.sl (nat_lit 3) (Ty.int IntKind.i64)))))))) (updE (Ty.pair (Ty.int IntKind.i64) (Ty.pair (Ty.int IntKind.i64) (Ty.pair (Ty.sl (nat_lit 9) Ty.str) (Ty.sl (nat_lit 39) (Ty.pair Ty.str (Ty.pair Ty.bool (Ty.sl (nat_lit 3) (Ty.int IntKind.i64)))))))) y0 (Int.toNat y2) fun x => (y1, x.2.1, x.2.2.1, x.2.2.2)) (Int.toNat y2) fun x => (x.1, IntKind.wrap IntKind.i64 (y1 + (1 : Int)), x.2.2.1, x.2.2.2)) (Int.toNat y2)).2.2.1 (IntKind.wrap IntKind.i64 (IntKind.wrap IntKind.i64 (y1 + (1 : Int)) + (1 : Int))), (at_ (Ty.pair (Ty.int IntKind.i64) (Ty.pair (Ty.int IntKind.i64) (Ty.pair (Ty.sl (nat_lit 9) Ty.str) (Ty.sl (nat_lit 39) (Ty.pair Ty.str (Ty.pair Ty.bool (Ty.sl (nat_lit 3) (Ty.int IntKind.i64)))))))) (updE (Ty.pair (Ty.int IntKind.i64) (Ty.pair (Ty.int IntKind.i64) (Ty.pair (Ty.sl (nat_lit 9) Ty.str) (Ty.sl (nat_lit 39) (Ty.pair Ty.str (Ty.pair Ty.bool (Ty.sl (nat_lit 3) (Ty.int IntKind.i64)))))))) (updE (Ty.pair (Ty.int IntKind.i64) (Ty.pair (Ty.int IntKind.i64) (Ty.pair (Ty.sl (nat_lit 9) Ty.str) (Ty.sl (nat_lit 39) (Ty.pair Ty.str (Ty.pair Ty.bool (Ty.sl (nat_lit 3) (Ty.int IntKind.i64)))))))) y0 (Int.toNat y2) fun x => (y1, x.2.1, x.2.2.1, x.2.2.2)) (Int.toNat y2) fun x => (x.1, IntKind.wrap IntKind.i64 (y1 + (1 : Int)), x.2.2.1, x.2.2.2)) (Int.toNat y2)).2.2.2)))) (.br (g_Aw_markStoWriteS (at_ (Ty.pair (Ty.int IntKind.i64) (Ty.pair (Ty.int IntKind.i64) (Ty.pair (Ty.sl (nat_lit 9) Ty.str) (Ty.sl (nat_lit 39) (Ty.pair Ty.str (Ty.pair Ty.bool (Ty.sl (nat_lit 3) (Ty.int IntKind.i64)))))))) (List.set (updE (Ty.pair (Ty.int IntKind.i64) (Ty.pair (Ty.int IntKind.i64) (Ty.pair (Ty.sl (nat_lit 9) Ty.str) (Ty.sl (nat_lit 39) (Ty.pair Ty.str (Ty.pair Ty.bool (Ty.sl (nat_lit 3) (Ty.int IntKind.i64)))))))) (updE (Ty.pair (Ty.int IntKind.i64) (Ty.pair (Ty.int IntKind.i64) (Ty.pair (Ty.sl (nat_lit 9) Ty.str) (Ty.sl (nat_lit 39) (Ty.pair Ty.str (Ty.pair Ty.bool (Ty.sl (nat_lit 3) (Ty.int IntKind.i64)))))))) y0 (Int.toNat y2) fun x => (y1, x.2.1, x.2.2.1, x.2.2.2)) (Int.toNat y2) fun x => (x.1, IntKind.wrap IntKind.i64 (y1 + (1 : Int)), x.2.2.1, x.2.2.2)) (Int.toNat y2) ((at_ (Ty.pair (Ty.int IntKind.i64) (Ty.pair (Ty.int IntKind.i64) (Ty.pair (Ty.sl (nat_lit 9) Ty.str) (Ty.sl (nat_lit 39) (Ty.pair Ty.str (Ty.pair Ty.bool (Ty.sl (nat_lit 3) (Ty.int IntKind.i64)))))))) (updE (Ty.pair (Ty.int IntKind.i64) (Ty.pair (Ty.int IntKind.i64) (Ty.pair (Ty.sl (nat_lit 9) Ty.str) (Ty.sl (nat_lit 39) (Ty.pair Ty.str (Ty.pair Ty.bool (Ty.sl (nat_lit 3) (Ty.int IntKind.i64)))))))) (updE (Ty.pair (Ty.int IntKind.i64) (Ty.pair (Ty.int IntKind.i64) (Ty.pair (Ty.sl (nat_lit 9) Ty.str) (Ty.sl (nat_lit 39) (Ty.pair Ty.str (Ty.pair Ty.bool (Ty.sl (nat_lit 3) (Ty.int IntKind.i64)))))))) y0 (Int.toNat y2) fun x => (y1, x.2.1, x.2.2.1, x.2.2.2)) (Int.toNat y2) fun x => (x.1, IntKind.wrap IntKind.i64 (y1 + (1 : Int)), x.2.2.1, x.2.2.2)) (Int.toNat y2)).1, (at_ (Ty.pair (Ty.int IntKind.i64) (Ty.pair (Ty.int IntKind.i64) (Ty.pair (Ty.sl (nat_lit 9) Ty.str) (Ty.sl (nat_lit 39) (Ty.pair Ty.str (Ty.pair Ty.bool (Ty.sl (nat_lit 3) (Ty.int IntKind.i64)))))))) (updE (Ty.pair (Ty.int IntKind.i64) (Ty.pair (Ty.int IntKind.i64) (Ty.pair (Ty.sl (nat_lit 9) Ty.str) (Ty.sl (nat_lit 39) (Ty.pair Ty.str (Ty.pair Ty.bool (Ty.sl (nat_lit 3) (Ty.int IntKind.i64)))))))) (updE (Ty.pair (Ty.int IntKind.i64) (Ty.pair (Ty.int IntKind.i64) (Ty.pair (Ty.sl (nat_lit 9) Ty.str) (Ty.sl (nat_lit 39) (Ty.pair Ty.str (Ty.pair Ty.bool (Ty.sl (nat_lit 3) (Ty.int IntKind.i64)))))))) y0 (Int.toNat y2) fun x => (y1, x.2.1, x.2.2.1, x.2.2.2)) (Int.toNat y2) fun x => (x.1, IntKind.wrap IntKind.i64 (y1 + (1 : Int)), x.2.2.1, x.2.2.2)) (Int.toNat y2)).2.1, g_Vw_markStringS_1 (at_ (Ty.pair (Ty.int IntKind.i64) (Ty.pair (Ty.int IntKind.i64) (Ty.pair (Ty.sl (nat_lit 9) Ty.str) (Ty.sl (nat_lit 39) (Ty.pair Ty.str (Ty.pair Ty.bool (Ty.sl (nat_lit 3) (Ty.int IntKind.i64)))))))) (updE (Ty.pair (Ty.int IntKind.i64) (Ty.pair (Ty.int IntKind.i64) (Ty.pair (Ty.sl (nat_lit 9) Ty.str) (Ty.sl (nat_lit 39) (Ty.pair Ty.str (Ty.pair Ty.bool (Ty.sl (nat_lit 3) (Ty.int IntKind.i64)))))))) (updE (Ty.pair (Ty.int IntKind.i64) (Ty.pair (Ty.int IntKind.i64) (Ty.pair (Ty.sl (nat_lit 9) Ty.str) (Ty.sl (nat_lit 39) (Ty.pair Ty.str (Ty.pair Ty.bool (Ty.sl (nat_lit 3) (Ty.int IntKind.i64)))))))) y0 (Int.toNat y2) fun x => (y1, x.2.1, x.2.2.1, x.2.2.2)) (Int.toNat y2) fun x => (x.1, IntKind.wrap IntKind.i64 (y1 + (1 : Int)), x.2.2.1, x.2.2.2)) (Int.toNat y2)).2.2.1 (IntKind.wrap IntKind.i64 (IntKind.wrap IntKind.i64 (y1 + (1 : Int)) + (1 : Int))), (at_ (Ty.pair (Ty.int IntKind.i64) (Ty.pair (Ty.int IntKind.i64) (Ty.pair (Ty.sl (nat_lit 9) Ty.str) (Ty.sl (nat_lit 39) (Ty.pair Ty.str (Ty.pair Ty.bool (Ty.sl (nat_lit 3) (Ty.int IntKind.i64)))))))) (updE (Ty.pair (Ty.int IntKind.i64) (Ty.pair (Ty.int IntKind.i64) (Ty.pair (Ty.sl (nat_lit 9) Ty.str) (Ty.sl (nat_lit 39) (Ty.pair Ty.str (Ty.pair Ty.bool (Ty.sl (nat_lit 3) (Ty.int IntKind.i64)))))))) (updE (Ty.pair (Ty.int IntKind.i64) (Ty.pair (Ty.int IntKind.i64) (Ty.pair (Ty.sl (nat_lit 9) Ty.str) (Ty.sl (nat_lit 39) (Ty.pair Ty.str (Ty.pair Ty.bool (Ty.sl (nat_lit 3) (Ty.int IntKind.i64)))))))) y0 (Int.toNat y2) fun x => (y1, x.2.1, x.2.2.1, x.2.2.2)) (Int.toNat y2) fun x => (x.1, IntKind.wrap IntKind.i64 (y1 + (1 : Int)), x.2.2.1, x.2.2.2)) (Int.toNat y2)).2.2.2)) (Int.toNat y2)).2.2.2 (g_Vw_markStringS_0 (at_ (Ty.pair (Ty.int IntKind.i64) (Ty.pair (Ty.int IntKind.i64) (Ty.pair (Ty.sl (nat_lit 9) Ty.str) (Ty.sl (nat_lit 39) (Ty.pair Ty.str (Ty.pair Ty.bool (Ty.sl (nat_lit 3) (Ty.int IntKind.i64)))))))) (updE (Ty.pair (Ty.int IntKind.i64) (Ty.pair (Ty.int IntKind.i64) (Ty.pair (Ty.sl (nat_lit 9) Ty.str) (Ty.sl (nat_lit 39) (Ty.pair Ty.str (Ty.pair Ty.bool (Ty.sl (nat_lit 3) (Ty.int IntKind.i64)))))))) (updE (Ty.pair (Ty.int IntKind.i64) (Ty.pair (Ty.int IntKind.i64) (Ty.pair (Ty.sl (nat_lit 9) Ty.str) (Ty.sl (nat_lit 39) (Ty.pair Ty.str (Ty.pair Ty.bool (Ty.sl (nat_lit 3) (Ty.int IntKind.i64)))))))) y0 (Int.toNat y2) fun x => (y1, x.2.1, x.2.2.1, x.2.2.2)) (Int.toNat y2) fun x => (x.1, IntKind.wrap IntKind.i64 (y1 + (1 : Int)), x.2.2.1, x.2.2.2)) (Int.toNat y2)).2.2.1 (IntKind.wrap IntKind.i64 (IntKind.wrap IntKind.i64 (y1 + (1 : Int)) + (1 : Int))))) (.br (true) (.go ((List.set (List.set (updE (Ty.pair (Ty.int IntKind.i64) (Ty.pair (Ty.int IntKind.i64) (Ty.pair (Ty.sl (nat_lit 9) Ty.str) (Ty.sl (nat_lit 39) (Ty.pair Ty.str (Ty.pair Ty.bool (Ty.sl (nat_lit 3) (Ty.int IntKind.i64)))))))) (updE (Ty.pair (Ty.int IntKind.i64) (Ty.pair (Ty.int IntKind.i64) (Ty.pair (Ty.sl (nat_lit 9) Ty.str) (Ty.sl (nat_lit 39) (Ty.pair Ty.str (Ty.pair Ty.bool (Ty.sl (nat_lit 3) (Ty.int IntKind.i64)))))))) y0 (Int.toNat y2) fun x => (y1, x.2.1, x.2.2.1, x.2.2.2)) (Int.toNat y2) fun x => (x.1, IntKind.wrap IntKind.i64 (y1 + (1 : Int)), x.2.2.1, x.2.2.2)) (Int.toNat y2) ((at_ (Ty.pair (Ty.int IntKind.i64) (Ty.pair (Ty.int IntKind.i64) (Ty.pair (Ty.sl (nat_lit 9) Ty.str) (Ty.sl (nat_lit 39) (Ty.pair Ty.str (Ty.pair Ty.bool (Ty.sl (nat_lit 3) (Ty.int IntKind.i64)))))))) (updE (Ty.pair (Ty.int IntKind.i64) (Ty.pair (Ty.int IntKind.i64) (Ty.pair (Ty.sl (nat_lit 9) Ty.str) (Ty.sl (nat_lit 39) (Ty.pair Ty.str (Ty.pair Ty.bool (Ty.sl (nat_lit 3) (Ty.int IntKind.i64)))))))) (updE (Ty.pair (Ty.int IntKind.i64) (Ty.pair (Ty.int IntKind.i64) (Ty.pair (Ty.sl (nat_lit 9) Ty.str) (Ty.sl (nat_lit 39) (Ty.pair Ty.str (Ty.pair Ty.bool (Ty.sl (nat_lit 3) (Ty.int IntKind.i64)))))))) y0 (Int.toNat y2) fun x => (y1, x.2.1, x.2.2.1, x.2.2.2)) (Int.toNat y2) fun x => (x.1, IntKind.wrap IntKind.i64 (y1 + (1 : Int)), x.2.2.1, x.2.2.2)) (Int.toNat y2)).1, (at_ (Ty.pair (Ty.int IntKind.i64) (Ty.pair (Ty.int IntKind.i64) (Ty.pair (Ty.sl (nat_lit 9) Ty.str) (Ty.sl (nat_lit 39) (Ty.pair Ty.str (Ty.pair Ty.bool (Ty.sl (nat_lit 3) (Ty.int IntKind.i64)))))))) (updE (Ty.pair (Ty.int IntKind.i64) (Ty.pair (Ty.int IntKind.i64) (Ty.pair (Ty.sl (nat_lit 9) Ty.str) (Ty.sl (nat_lit 39) (Ty.pair Ty.str (Ty.pair Ty.bool (Ty.sl (nat_lit 3) (Ty.int IntKind.i64)))))))) (updE (Ty.pair (Ty.int IntKind.i64) (Ty.pair (Ty.int IntKind.i64) (Ty.pair (Ty.sl (nat_lit 9) Ty.str) (Ty.sl (nat_lit 39) (Ty.pair Ty.str (Ty.pair Ty.bool (Ty.sl (nat_lit 3) (Ty.int IntKind.i64)))))))) y0 (Int.toNat y2) fun x => (y1, x.2.1, x.2.2.1, x.2.2.2)) (Int.toNat y2) fun x => (x.1, IntKind.wrap IntKind.i64 (y1 + (1 : Int)), x.2.2.1, x.2.2.2)) (Int.toNat y2)).2.1, g_Vw_markStringS_1 (at_ (Ty.pair (Ty.int IntKind.i64) (Ty.pair (Ty.int IntKind.i64) (Ty.pair (Ty.sl (nat_lit 9) Ty.str) (Ty.sl (nat_lit 39) (Ty.pair Ty.str (Ty.pair Ty.bool (Ty.sl (nat_lit 3) (Ty.int IntKind.i64)))))))) (updE (Ty.pair (Ty.int IntKind.i64) (Ty.pair (Ty.int IntKind.i64) (Ty.pair (Ty.sl (nat_lit 9) Ty.str) (Ty.sl (nat_lit 39) (Ty.pair Ty.str (Ty.pair Ty.bool (Ty.sl (nat_lit 3) (Ty.int IntKind.i64)))))))) (updE (Ty.pair (Ty.int IntKind.i64) (Ty.pair (Ty.int IntKind.i64) (Ty.pair (Ty.sl (nat_lit 9) Ty.str) (Ty.sl (nat_lit 39) (Ty.pair Ty.str (Ty.pair Ty.bool (Ty.sl (nat_lit 3) (Ty.int IntKind.i64)))))))) y0 (Int.toNat y2) fun x => (y1, x.2.1, x.2.2.1, x.2.2.2)) (Int.toNat y2) fun x => (x.1, IntKind.wrap IntKind.i64 (y1 + (1 : Int)), x.2.2.1, x.2.2.2)) (Int.toNat y2)).2.2.1 (IntKind.wrap IntKind.i64 (IntKind.wrap IntKind.i64 (y1 + (1 : Int)) + (1 : Int))), (at_ (Ty.pair (Ty.int IntKind.i64) (Ty.pair (Ty.int IntKind.i64) (Ty.pair (Ty.sl (nat_lit 9) Ty.str) (Ty.sl (nat_lit 39) (Ty.pair Ty.str (Ty.pair Ty.bool (Ty.sl (nat_lit 3) (Ty.int IntKind.i64)))))))) (updE (Ty.pair (Ty.int IntKind.i64) (Ty.pair (Ty.int IntKind.i64) (Ty.pair (Ty.sl (nat_lit 9) Ty.str) (Ty.sl (nat_lit 39) (Ty.pair Ty.str (Ty.pair Ty.bool (Ty.sl (nat_lit 3) (Ty.int IntKind.i64)))))))) (updE (Ty.pair (Ty.int IntKind.i64) (Ty.pair (Ty.int IntKind.i64) (Ty.pair (Ty.sl (nat_lit 9) Ty.str) (Ty.sl (nat_lit 39) (Ty.pair Ty.str (Ty.pair Ty.bool (Ty.sl (nat_lit 3) (Ty.int IntKind.i64)))))))) y0 (Int.toNat y2) fun x => (y1, x.2.1, x.2.2.1, x.2.2.2)) (Int.toNat y2) fun x => (x.1, IntKind.wrap IntKind.i64 (y1 + (1 : Int)), x.2.2.1, x.2.2.2)) (Int.toNat y2)).2.2.2)) (Int.toNat y2) ((at_ (Ty.pair (Ty.int IntKind.i64) (Ty.pair (Ty.int IntKind.i64) (Ty.pair (Ty.sl (nat_lit 9) Ty.str) (Ty.sl (nat_lit 39) (Ty.pair Ty.str (Ty.pair Ty.bool (Ty.sl (nat_lit 3) (Ty.int IntKind.i64)))))))) (List.set (updE (Ty.pair (Ty.int IntKind.i64) (Ty.pair (Ty.int IntKind.i64) (Ty.pair (Ty.sl (nat_lit 9) Ty.str) (Ty.sl (nat_lit 39) (Ty.pair Ty.str (Ty.pair Ty.bool (Ty.sl (nat_lit 3) (Ty.int IntKind.i64)))))))) (updE (Ty.pair (Ty.int IntKind.i64) (Ty.pair (Ty.int IntKind.i64) (Ty.pair (Ty.sl (nat_lit 9) Ty.str) (Ty.sl (nat_lit 39) (Ty.pair Ty.str (Ty.pair Ty.bool (Ty.sl (nat_lit 3) (Ty.int IntKind.i64)))))))) y0 (Int.toNat y2) fun x => (y1, x.2.1, x.2.2.1, x.2.2.2)) (Int.toNat y2) fun x => (x.1, IntKind.wrap IntKind.i64 (y1 + (1 : Int)), x.2.2.1, x.2.2.2)) (Int.toNat y2) ((at_ (Ty.pair (Ty.int IntKind.i64) (Ty.pair (Ty.int IntKind.i64) (Ty.pair (Ty.sl (nat_lit 9) Ty.str) (Ty.sl (nat_lit 39) (Ty.pair Ty.str (Ty.pair Ty.bool (Ty.sl (nat_lit 3) (Ty.int IntKind.i64)))))))) (updE (Ty.pair (Ty.int IntKind.i64) (Ty.pair (Ty.int IntKind.i64) (Ty.pair (Ty.sl (nat_lit 9) Ty.str) (Ty.sl (nat_lit 39) (Ty.pair Ty.str (Ty.pair Ty.bool (Ty.sl (nat_lit 3) (Ty.int IntKind.i64)))))))) (updE (Ty.pair (Ty.int IntKind.i64) (Ty.pair (Ty.int IntKind.i64) (Ty.pair (Ty.sl (nat_lit 9) Ty.str) (Ty.sl (nat_lit 39) (Ty.pair Ty.str (Ty.pair Ty.bool (Ty.sl (nat_lit 3) (Ty.int IntKind.i64)))))))) y0 (Int.toNat y2) fun x => (y1, x.2.1, x.2.2.1, x.2.2.2)) (Int.toNat y2) fun x => (x.1, IntKind.wrap IntKind.i64 (y1 + (1 : Int)), x.2.2.1, x.2.2.2)) (Int.toNat y2)).1, (at_ (Ty.pair (Ty.int IntKind.i64) (Ty.pair (Ty.int IntKind.i64) (Ty.pair (Ty.sl (nat_lit 9) Ty.str) (Ty.sl (nat_lit 39) (Ty.pair Ty.str (Ty.pair Ty.bool (Ty.sl (nat_lit 3) (Ty.int IntKind.i64)))))))) (updE (Ty.pair (Ty.int IntKind.i64) (Ty.pair (Ty.int IntKind.i64) (Ty.pair (Ty.sl (nat_lit 9) Ty.str) (Ty.sl (nat_lit 39) (Ty.pair Ty.str (Ty.pair Ty.bool (Ty.sl (nat_lit 3) (Ty.int IntKind.i64)))))))) (updE (Ty.pair (Ty.int IntKind.i64) (Ty.pair (Ty.int IntKind.i64) (Ty.pair (Ty.sl (nat_lit 9) Ty.str) (Ty.sl (nat_lit 39) (Ty.pair Ty.str (Ty.pair Ty.bool (Ty.sl (nat_lit 3) (Ty.int IntKind.i64)))))))) y0 (Int.toNat y2) fun x => (y1, x.2.1, x.2.2.1, x.2.2.2)) (Int.toNat y2) fun x => (x.1, IntKind.wrap IntKind.i64 (y1 + (1 : Int)), x.2.2.1, x.2.2.2)) (Int.toNat y2)).2.1, g_Vw_markStringS_1 (at_ (Ty.pair (Ty.int IntKind.i64) (Ty.pair (Ty.int IntKind.i64) (Ty.pair (Ty.sl (nat_lit 9) Ty.str) (Ty.sl (nat_lit 39) (Ty.pair Ty.str (Ty.pair Ty.bool (Ty.sl (nat_lit 3) (Ty.int IntKind.i64)))))))) (updE (Ty.pair (Ty.int IntKind.i64) (Ty.pair (Ty.int IntKind.i64) (Ty.pair (Ty.sl (nat_lit 9) Ty.str) (Ty.sl (nat_lit 39) (Ty.pair Ty.str (Ty.pair Ty.bool (Ty.sl (nat_lit 3) (Ty.int IntKind.i64)))))))) (updE (Ty.pair (Ty.int IntKind.i64) (Ty.pair (Ty.int IntKind.i64) (Ty.pair (Ty.sl (nat_lit 9) Ty.str) (Ty.sl (nat_lit 39) (Ty.pair Ty.str (Ty.pair Ty.bool (Ty.sl (nat_lit 3) (Ty.int IntKind.i64)))))))) y0 (Int.toNat y2) fun x => (y1, x.2.1, x.2.2.1, x.2.2.2)) (Int.toNat y2) fun x => (x.1, IntKind.wrap IntKind.i64 (y1 + (1 : Int)), x.2.2.1, x.2.2.2)) (Int.toNat y2)).2.2.1 (IntKind.wrap IntKind.i64 (IntKind.wrap IntKind.i64 (y1 + (1 : Int)) + (1 : Int))), (at_ (Ty.pair (Ty.int IntKind.i64) (Ty.pair (Ty.int IntKind.i64) (Ty.pair (Ty.sl (nat_lit 9) Ty.str) (Ty.sl (nat_lit 39) (Ty.pair Ty.str (Ty.pair Ty.bool (Ty.sl (nat_lit 3) (Ty.int IntKind.i64)))))))) (updE (Ty.pair (Ty.int IntKind.i64) (Ty.pair (Ty.int IntKind.i64) (Ty.pair (Ty.sl (nat_lit 9) Ty.str) (Ty.sl (nat_lit 39) (Ty.pair Ty.str (Ty.pair Ty.bool (Ty.sl (nat_lit 3) (Ty.int IntKind.i64)))))))) (updE (Ty.pair (Ty.int IntKind.i64) (Ty.pair (Ty.int IntKind.i64) (Ty.pair (Ty.sl (nat_lit 9) Ty.str) (Ty.sl (nat_lit 39) (Ty.pair Ty.str (Ty.pair Ty.bool (Ty.sl (nat_lit 3) (Ty.int IntKind.i64)))))))) y0 (Int.toNat y2) fun x => (y1, x.2.1, x.2.2.1, x.2.2.2)) (Int.toNat y2) fun x => (x.1, IntKind.wrap IntKind.i64 (y1 + (1 : Int)), x.2.2.1, x.2.2.2)) (Int.toNat y2)).2.2.2)) (Int.toNat y2)).1, (at_ (Ty.pair (Ty.int IntKind.i64) (Ty.pair (Ty.int IntKind.i64) (Ty.pair (Ty.sl (nat_lit 9) Ty.str) (Ty.sl (nat_lit 39) (Ty.pair Ty.str (Ty.pair Ty.bool (Ty.sl (nat_lit 3) (Ty.int IntKind.i64)))))))) (List.set (updE (Ty.pair (Ty.int IntKind.i64) (Ty.pair (Ty.int IntKind.i64) (Ty.pair (Ty.sl (nat_lit 9) Ty.str) (Ty.sl (nat_lit 39) (Ty.pair Ty.str (Ty.pair Ty.bool (Ty.sl (nat_lit 3) (Ty.int IntKind.i64)))))))) (updE (Ty.pair (Ty.int IntKind.i64) (Ty.pair (Ty.int IntKind.i64) (Ty.pair (Ty.sl (nat_lit 9) Ty.str) (Ty.sl (nat_lit 39) (Ty.pair Ty.str (Ty.pair Ty.bool (Ty.sl (nat_lit 3) (Ty.int IntKind.i64)))))))) y0 (Int.toNat y2) fun x => (y1, x.2.1, x.2.2.1, x.2.2.2)) (Int.toNat y2) fun x => (x.1, IntKind.wrap IntKind.i64 (y1 + (1 : Int)), x.2.2.1, x.2.2.2)) (Int.toNat y2) ((at_ (Ty.pair (Ty.int IntKind.i64) (Ty.pair (Ty.int IntKind.i64) (Ty.pair (Ty.sl (nat_lit 9) Ty.str) (Ty.sl (nat_lit 39) (Ty.pair Ty.str (Ty.pair Ty.bool (Ty.sl (nat_lit 3) (Ty.int IntKind.i64)))))))) (updE (Ty.pair (Ty.int IntKind.i64) (Ty.pair (Ty.int IntKind.i64) (Ty.pair (Ty.sl (nat_lit 9) Ty.str) (Ty.sl (nat_lit 39) (Ty.pair Ty.str (Ty.pair Ty.bool (Ty.sl (nat_lit 3) (Ty.int IntKind.i64)))))))) (updE (Ty.pair (Ty.int IntKind.i64) (Ty.pair (Ty.int IntKind.i64) (Ty.pair (Ty.sl (nat_lit 9) Ty.str) (Ty.sl (nat_lit 39) (Ty.pair Ty.str (Ty.pair Ty.bool (Ty.sl (nat_lit 3) (Ty.int IntKind.i64)))))))) y0 (Int.toNat y2) fun x => (y1, x.2.1, x.2.2.1, x.2.2.2)) (Int.toNat y2) fun x => (x.1, IntKind.wrap IntKind.i64 (y1 + (1 : Int)), x.2.2.1, x.2.2.2)) (Int.toNat y2)).1, (at_ (Ty.pair (Ty.int IntKind.i64) (Ty.pair (Ty.int IntKind.i64) (Ty.pair (Ty.sl (nat_lit 9) Ty.str) (Ty.sl (nat_lit 39) (Ty.pair Ty.str (Ty.pair Ty.bool (Ty.sl (nat_lit 3) (Ty.int IntKind.i64)))))))) (updE (Ty.pair (Ty.int IntKind.i64) (Ty.pair (Ty.int IntKind.i64) (Ty.pair (Ty.sl (nat_lit 9) Ty.str) (Ty.sl (nat_lit 39) (Ty.pair Ty.str (Ty.pair Ty.bool (Ty.sl (nat_lit 3) (Ty.int IntKind.i64)))))))) (updE (Ty.pair (Ty.int IntKind.i64) (Ty.pair (Ty.int IntKind.i64) (Ty.pair (Ty.sl (nat_lit 9) Ty.str) (Ty.sl (nat_lit 39) (Ty.pair Ty.str (Ty.pair Ty.bool (Ty.sl (nat_lit 3) (Ty.int IntKind.i64)))))))) y0 (Int.toNat y2) fun x => (y1, x.2.1, x.2.2.1, x.2.2.2)) (Int.toNat y2) fun x => (x.1, IntKind.wrap IntKind.i64 (y1 + (1 : Int)), x.2.2.1, x.2.2.2)) (Int.toNat y2)).2.1, g_Vw_markStringS_1 (at_ (Ty.pair (Ty.int IntKind.i64) (Ty.pair (Ty.int IntKind.i64) (Ty.pair (Ty.sl (nat_lit 9) Ty.str) (Ty.sl (nat_lit 39) (Ty.pair Ty.str (Ty.pair Ty.bool (Ty.sl (nat_lit 3) (Ty.int IntKind.i64)))))))) (updE (Ty.pair (Ty.int IntKind.i64) (Ty.pair (Ty.int IntKind.i64) (Ty.pair (Ty.sl (nat_lit 9) Ty.str) (Ty.sl (nat_lit 39) (Ty.pair Ty.str (Ty.pair Ty.bool (Ty.sl (nat_lit 3) (Ty.int IntKind.i64)))))))) (updE (Ty.pair (Ty.int IntKind.i64) (Ty.pair (Ty.int IntKind.i64) (Ty.pair (Ty.sl (nat_lit 9) Ty.str) (Ty.sl (nat_lit 39) (Ty.pair Ty.str (Ty.pair Ty.bool (Ty.sl (nat_lit 3) (Ty.int IntKind.i64)))))))) y0 (Int.toNat y2) fun x => (y1, x.2.1, x.2.2.1, x.2.2.2)) (Int.toNat y2) fun x => (x.1, IntKind.wrap IntKind.i64 (y1 + (1 : Int)), x.2.2.1, x.2.2.2)) (Int.toNat y2)).2.2.1 (IntKind.wrap IntKind.i64 (IntKind.wrap IntKind.i64 (y1 + (1 : Int)) + (1 : Int))), (at_ (Ty.pair (Ty.int IntKind.i64) (Ty.pair (Ty.int IntKind.i64) (Ty.pair (Ty.sl (nat_lit 9) Ty.str) (Ty.sl (nat_lit 39) (Ty.pair Ty.str (Ty.pair Ty.bool (Ty.sl (nat_lit 3) (Ty.int IntKind.i64)))))))) (updE (Ty.pair (Ty.int IntKind.i64) (Ty.pair (Ty.int IntKind.i64) (Ty.pair (Ty.sl (nat_lit 9) Ty.str) (Ty.sl (nat_lit 39) (Ty.pair Ty.str (Ty.pair Ty.bool (Ty.sl (nat_lit 3) (Ty.int IntKind.i64)))))))) (updE (Ty.pair (Ty.int IntKind.i64) (Ty.pair (Ty.int IntKind.i64) (Ty.pair (Ty.sl (nat_lit 9) Ty.str) (Ty.sl (nat_lit 39) (Ty.pair Ty.str (Ty.pair Ty.bool (Ty.sl (nat_lit 3) (Ty.int IntKind.i64)))))))) y0 (Int.toNat y2) fun x => (y1, x.2.1, x.2.2.1, x.2.2.2)) (Int.toNat y2) fun x => (x.1, IntKind.wrap IntKind.i64 (y1 + (1 : Int)), x.2.2.1, x.2.2.2)) (Int.toNat y2)).2.2.2)) (Int.toNat y2)).2.1, (at_ (Ty.pair (Ty.int IntKind.i64) (Ty.pair (Ty.int IntKind.i64) (Ty.pair (Ty.sl (nat_lit 9) Ty.str) (Ty.sl (nat_lit 39) (Ty.pair Ty.str (Ty.pair Ty.bool (Ty.sl (nat_lit 3) (Ty.int IntKind.i64)))))))) (List.set (updE (Ty.pair (Ty.int IntKind.i64) (Ty.pair (Ty.int IntKind.i64) (Ty.pair (Ty.sl (nat_lit 9) Ty.str) (Ty.sl (nat_lit 39) (Ty.pair Ty.str (Ty.pair Ty.bool (Ty.sl (nat_lit 3) (Ty.int IntKind.i64)))))))) (updE (Ty.pair (Ty.int IntKind.i64) (Ty.pair (Ty.int IntKind.i64) (Ty.pair (Ty.sl (nat_lit 9) Ty.str) (Ty.sl (nat_lit 39) (Ty.pair Ty.str (Ty.pair Ty.bool (Ty.sl (nat_lit 3) (Ty.int IntKind.i64)))))))) y0 (Int.toNat y2) fun x => (y1, x.2.1, x.2.2.1, x.2.2.2)) (Int.toNat y2) fun x => (x.1, IntKind.wrap IntKind.i64 (y1 + (1 : Int)), x.2.2.1, x.2.2.2)) (Int.toNat y2) ((at_ (Ty.pair (Ty.int IntKind.i64) (Ty.pair (Ty.int IntKind.i64) (Ty.pair (Ty.sl (nat_lit 9) Ty.str) (Ty.sl (nat_lit 39) (Ty.pair Ty.str (Ty.pair Ty.bool (Ty.sl (nat_lit 3) (Ty.int IntKind.i64)))))))) (updE (Ty.pair (Ty.int IntKind.i64) (Ty.pair (Ty.int IntKind.i64) (Ty.pair (Ty.sl (nat_lit 9) Ty.str) (Ty.sl (nat_lit 39) (Ty.pair Ty.str (Ty.pair Ty.bool (Ty.sl (nat_lit 3) (Ty.int IntKind.i64)))))))) (updE (Ty.pair (Ty.int IntKind.i64) (Ty.pair (Ty.int IntKind.i64) (Ty.pair (Ty.sl (nat_lit 9) Ty.str) (Ty.sl (nat_lit 39) (Ty.pair Ty.str (Ty.pair Ty.bool (Ty.sl (nat_lit 3) (Ty.int IntKind.i64)))))))) y0 (Int.toNat y2) fun x => (y1, x.2.1, x.2.2.1, x.2.2.2)) (Int.toNat y2) fun x => (x.1, IntKind.wrap IntKind.i64 (y1 + (1 : Int)), x.2.2.1, x.2.2.2)) (Int.toNat y2)).1, (at_ (Ty.pair (Ty.int IntKind.i64) (Ty.pair (Ty.int IntKind.i64) (Ty.pair (Ty.sl (nat_lit 9) Ty.str) (Ty.sl (nat_lit 39) (Ty.pair Ty.str (Ty.pair Ty.bool (Ty.sl (nat_lit 3) (Ty.int IntKind.i64)))))))) (updE (Ty.pair (Ty.int IntKind.i64) (Ty.pair (Ty.int IntKind.i64) (Ty.pair (Ty.sl (nat_lit 9) Ty.str) (Ty.sl (nat_lit 39) (Ty.pair Ty.str (Ty.pair Ty.bool (Ty.sl (nat_lit 3) (Ty.int IntKind.i64)))))))) (updE (Ty.pair (Ty.int IntKind.i64) (Ty.pair (Ty.int IntKind.i64) (Ty.pair (Ty.sl (nat_lit 9) Ty.str) (Ty.sl (nat_lit 39) (Ty.pair Ty.str (Ty.pair Ty.bool (Ty.sl (nat_lit 3) (Ty.int IntKind.i64)))))))) y0 (Int.toNat y2) fun x => (y1, x.2.1, x.2.2.1, x.2.2.2)) (Int.toNat y2) fun x => (x.1, IntKind.wrap IntKind.i64 (y1 + (1 : Int)), x.2.2.1, x.2.2.2)) (Int.toNat y2)).2.1, g_Vw_markStringS_1 (at_ (Ty.pair (Ty.int IntKind.i64) (Ty.pair (Ty.int IntKind.i64) (Ty.pair (Ty.sl (nat_lit 9) Ty.str) (Ty.sl (nat_lit 39) (Ty.pair Ty.str (Ty.pair Ty.bool (Ty.sl (nat_lit 3) (Ty.int IntKind.i64)))))))) (updE (Ty.pair (Ty.int IntKind.i64) (Ty.pair (Ty.int IntKind.i64) (Ty.pair (Ty.sl (nat_lit 9) Ty.str) (Ty.sl (nat_lit 39) (Ty.pair Ty.str (Ty.pair Ty.bool (Ty.sl (nat_lit 3) (Ty.int IntKind.i64)))))))) (updE (Ty.pair (Ty.int IntKind.i64) (Ty.pair (Ty.int IntKind.i64) (Ty.pair (Ty.sl (nat_lit 9) Ty.str) (Ty.sl (nat_lit 39) (Ty.pair Ty.str (Ty.pair Ty.bool (Ty.sl (nat_lit 3) (Ty.int IntKind.i64)))))))) y0 (Int.toNat y2) fun x => (y1, x.2.1, x.2.2.1, x.2.2.2)) (Int.toNat y2) fun x => (x.1, IntKind.wrap IntKind.i64 (y1 + (1 : Int)), x.2.2.1, x.2.2.2)) (Int.toNat y2)).2.2.1 (IntKind.wrap IntKind.i64 (IntKind.wrap IntKind.i64 (y1 + (1 : Int)) + (1 : Int))), (at_ (Ty.pair (Ty.int IntKind.i64) (Ty.pair (Ty.int IntKind.i64) (Ty.pair (Ty.sl (nat_lit 9) Ty.str) (Ty.sl (nat_lit 39) (Ty.pair Ty.str (Ty.pair Ty.bool (Ty.sl (nat_lit 3) (Ty.int IntKind.i64)))))))) (updE (Ty.pair (Ty.int IntKind.i64) (Ty.pair (Ty.int IntKind.i64) (Ty.pair (Ty.sl (nat_lit 9) Ty.str) (Ty.sl (nat_lit 39) (Ty.pair Ty.str (Ty.pair Ty.bool (Ty.sl (nat_lit 3) (Ty.int IntKind.i64)))))))) (updE (Ty.pair (Ty.int IntKind.i64) (Ty.pair (Ty.int IntKind.i64) (Ty.pair (Ty.sl (nat_lit 9) Ty.str) (Ty.sl (nat_lit 39) (Ty.pair Ty.str (Ty.pair Ty.bool (Ty.sl (nat_lit 3) (Ty.int IntKind.i64)))))))) y0 (Int.toNat y2) fun x => (y1, x.2.1, x.2.2.1, x.2.2.2)) (Int.toNat y2) fun x => (x.1, IntKind.wrap IntKind.i64 (y1 + (1 : Int)), x.2.2.1, x.2.2.2)) (Int.toNat y2)).2.2.2)) (Int.toNat y2)).2.2.1, g_Vw_markStoWriteS_1 (at_ (Ty.pair (Ty.int IntKind.i64) (Ty.pair (Ty.int IntKind.i64) (Ty.pair (Ty.sl (nat_lit 9) Ty.str) (Ty.sl (nat_lit 39) (Ty.pair Ty.str (Ty.pair Ty.bool (Ty.sl (nat_lit 3) (Ty.int IntKind.i64)))))))) (List.set (updE (Ty.pair (Ty.int IntKind.i64) (Ty.pair (Ty.int IntKind.i64) (Ty.pair (Ty.sl (nat_lit 9) Ty.str) (Ty.sl (nat_lit 39) (Ty.pair Ty.str (Ty.pair Ty.bool (Ty.sl (nat_lit 3) (Ty.int IntKind.i64)))))))) (updE (Ty.pair (Ty.int IntKind.i64) (Ty.pair (Ty.int IntKind.i64) (Ty.pair (Ty.sl (nat_lit 9) Ty.str) (Ty.sl (nat_lit 39) (Ty.pair Ty.str (Ty.pair Ty.bool (Ty.sl (nat_lit 3) (Ty.int IntKind.i64)))))))) y0 (Int.toNat y2) fun x => (y1, x.2.1, x.2.2.1, x.2.2.2)) (Int.toNat y2) fun x => (x.1, IntKind.wrap IntKind.i64 (y1 + (1 : Int)), x.2.2.1, x.2.2.2)) (Int.toNat y2) ((at_ (Ty.pair (Ty.int IntKind.i64) (Ty.pair (Ty.int IntKind.i64) (Ty.pair (Ty.sl (nat_lit 9) Ty.str) (Ty.sl (nat_lit 39) (Ty.pair Ty.str (Ty.pair Ty.bool (Ty.sl (nat_lit 3) (Ty.int IntKind.i64)))))))) (updE (Ty.pair (Ty.int IntKind.i64) (Ty.pair (Ty.int IntKind.i64) (Ty.pair (Ty.sl (nat_lit 9) Ty.str) (Ty.sl (nat_lit 39) (Ty.pair Ty.str (Ty.pair Ty.bool (Ty.sl (nat_lit 3) (Ty.int IntKind.i64)))))))) (updE (Ty.pair (Ty.int IntKind.i64) (Ty.pair (Ty.int IntKind.i64) (Ty.pair (Ty.sl (nat_lit 9) Ty.str) (Ty.sl (nat_lit 39) (Ty.pair Ty.str (Ty.pair Ty.bool (Ty.sl (nat_lit 3) (Ty.int IntKind.i64)))))))) y0 (Int.toNat y2) fun x => (y1, x.2.1, x.2.2.1, x.2.2.2)) (Int.toNat y2) fun x => (x.1, IntKind.wrap IntKind.i64 (y1 + (1 : Int)), x.2.2.1, x.2.2.2)) (Int.toNat y2)).1, (at_ (Ty.pair (Ty.int IntKind.i64) (Ty.pair (Ty.int IntKind.i64) (Ty.pair (Ty.sl (nat_lit 9) Ty.str) (Ty.sl (nat_lit 39) (Ty.pair Ty.str (Ty.pair Ty.bool (Ty.sl (nat_lit 3) (Ty.int IntKind.i64)))))))) (updE (Ty.pair (Ty.int IntKind.i64) (Ty.pair (Ty.int IntKind.i64) (Ty.pair (Ty.sl (nat_lit 9) Ty.str) (Ty.sl (nat_lit 39) (Ty.pair Ty.str (Ty.pair Ty.bool (Ty.sl (nat_lit 3) (Ty.int IntKind.i64)))))))) (updE (Ty.pair (Ty.int IntKind.i64) (Ty.pair (Ty.int IntKind.i64) (Ty.pair (Ty.sl (nat_lit 9) Ty.str) (Ty.sl (nat_lit 39) (Ty.pair Ty.str (Ty.pair Ty.bool (Ty.sl (nat_lit 3) (Ty.int IntKind.i64)))))))) y0 (Int.toNat y2) fun x => (y1, x.2.1, x.2.2.1, x.2.2.2)) (Int.toNat y2) fun x => (x.1, IntKind.wrap IntKind.i64 (y1 + (1 : Int)), x.2.2.1, x.2.2.2)) (Int.toNat y2)).2.1, g_Vw_markStringS_1 (at_ (Ty.pair (Ty.int IntKind.i64) (Ty.pair (Ty.int IntKind.i64) (Ty.pair (Ty.sl (nat_lit 9) Ty.str) (Ty.sl (nat_lit 39) (Ty.pair Ty.str (Ty.pair Ty.bool (Ty.sl (nat_lit 3) (Ty.int IntKind.i64)))))))) (updE (Ty.pair (Ty.int IntKind.i64) (Ty.pair (Ty.int IntKind.i64) (Ty.pair (Ty.sl (nat_lit 9) Ty.str) (Ty.sl (nat_lit 39) (Ty.pair Ty.str (Ty.pair Ty.bool (Ty.sl (nat_lit 3) (Ty.int IntKind.i64)))))))) (updE (Ty.pair (Ty.int IntKind.i64) (Ty.pair (Ty.int IntKind.i64) (Ty.pair (Ty.sl (nat_lit 9) Ty.str) (Ty.sl (nat_lit 39) (Ty.pair Ty.str (Ty.pair Ty.bool (Ty.sl (nat_lit 3) (Ty.int IntKind.i64)))))))) y0 (Int.toNat y2) fun x => (y1, x.2.1, x.2.2.1, x.2.2.2)) (Int.toNat y2) fun x => (x.1, IntKind.wrap IntKind.i64 (y1 + (1 : Int)), x.2.2.1, x.2.2.2)) (Int.toNat y2)).2.2.1 (IntKind.wrap IntKind.i64 (IntKind.wrap IntKind.i64 (y1 + (1 : Int)) + (1 : Int))), (at_ (Ty.pair (Ty.int IntKind.i64) (Ty.pair (Ty.int IntKind.i64) (Ty.pair (Ty.sl (nat_lit 9) Ty.str) (Ty.sl (nat_lit 39) (Ty.pair Ty.str (Ty.pair Ty.bool (Ty.sl (nat_lit 3) (Ty.int IntKind.i64)))))))) (updE (Ty.pair (Ty.int IntKind.i64) (Ty.pair (Ty.int IntKind.i64) (Ty.pair (Ty.sl (nat_lit 9) Ty.str) (Ty.sl (nat_lit 39) (Ty.pair Ty.str (Ty.pair Ty.bool (Ty.sl (nat_lit 3) (Ty.int IntKind.i64)))))))) (updE (Ty.pair (Ty.int IntKind.i64) (Ty.pair (Ty.int IntKind.i64) (Ty.pair (Ty.sl (nat_lit 9) Ty.str) (Ty.sl (nat_lit 39) (Ty.pair Ty.str (Ty.pair Ty.bool (Ty.sl (nat_lit 3) (Ty.int IntKind.i64)))))))) y0 (Int.toNat y2) fun x => (y1, x.2.1, x.2.2.1, x.2.2.2)) (Int.toNat y2) fun x => (x.1, IntKind.wrap IntKind.i64 (y1 + (1 : Int)), x.2.2.1, x.2.2.2)) (Int.toNat y2)).2.2.2)) (Int.toNat y2)).2.2.2 (g_Vw_markStringS_0 (at_ (Ty.pair (Ty.int IntKind.i64) (Ty.pair (Ty.int IntKind.i64) (Ty.pair (Ty.sl (nat_lit 9) Ty.str) (Ty.sl (nat_lit 39) (Ty.pair Ty.str (Ty.pair Ty.bool (Ty.sl (nat_lit 3) (Ty.int IntKind.i64)))))))) (updE (Ty.pair (Ty.int IntKind.i64) (Ty.pair (Ty.int IntKind.i64) (Ty.pair (Ty.sl (nat_lit 9) Ty.str) (Ty.sl (nat_lit 39) (Ty.pair Ty.str (Ty.pair Ty.bool (Ty.sl (nat_lit 3) (Ty.int IntKind.i64)))))))) (updE (Ty.pair (Ty.int IntKind.i64) (Ty.pair (Ty.int IntKind.i64) (Ty.pair (Ty.sl (nat_lit 9) Ty.str) (Ty.sl (nat_lit 39) (Ty.pair Ty.str (Ty.pair Ty.bool (Ty.sl (nat_lit 3) (Ty.int IntKind.i64)))))))) y0 (Int.toNat y2) fun x => (y1, x.2.1, x.2.2.1, x.2.2.2)) (Int.toNat y2) fun x => (x.1, IntKind.wrap IntKind.i64 (y1 + (1 : Int)), x.2.2.1, x.2.2.2)) (Int.toNat y2)).2.2.1 (IntKind.wrap IntKind.i64 (IntKind.wrap IntKind.i64 (y1 + (1 : Int)) + (1 : Int))))), g_Vw_markStoWriteS_0 (at_ (Ty.pair (Ty.int IntKind.i64) (Ty.pair (Ty.int IntKind.i64) (Ty.pair (Ty.sl (nat_lit 9) Ty.str) (Ty.sl (nat_lit 39) (Ty.pair Ty.str (Ty.pair Ty.bool (Ty.sl (nat_lit 3) (Ty.int IntKind.i64)))))))) (List.set (updE (Ty.pair (Ty.int IntKind.i64) (Ty.pair (Ty.int IntKind.i64) (Ty.pair (Ty.sl (nat_lit 9) Ty.str) (Ty.sl (nat_lit 39) (Ty.pair Ty.str (Ty.pair Ty.bool (Ty.sl (nat_lit 3) (Ty.int IntKind.i64)))))))) (updE (Ty.pair (Ty.int IntKind.i64) (Ty.pair (Ty.int IntKind.i64) (Ty.pair (Ty.sl (nat_lit 9) Ty.str) (Ty.sl (nat_lit 39) (Ty.pair Ty.str (Ty.pair Ty.bool (Ty.sl (nat_lit 3) (Ty.int IntKind.i64)))))))) y0 (Int.toNat y2) fun x => (y1, x.2.1, x.2.2.1, x.2.2.2)) (Int.toNat y2) fun x => (x.1, IntKind.wrap IntKind.i64 (y1 + (1 : Int)), x.2.2.1, x.2.2.2)) (Int.toNat y2) ((at_ (Ty.pair (Ty.int IntKind.i64) (Ty.pair (Ty.int IntKind.i64) (Ty.pair (Ty.sl (nat_lit 9) Ty.str) (Ty.sl (nat_lit 39) (Ty.pair Ty.str (Ty.pair Ty.bool (Ty.sl (nat_lit 3) (Ty.int IntKind.i64)))))))) (updE (Ty.pair (Ty.int IntKind.i64) (Ty.pair (Ty.int IntKind.i64) (Ty.pair (Ty.sl (nat_lit 9) Ty.str) (Ty.sl (nat_lit 39) (Ty.pair Ty.str (Ty.pair Ty.bool (Ty.sl (nat_lit 3) (Ty.int IntKind.i64)))))))) (updE (Ty.pair (Ty.int IntKind.i64) (Ty.pair (Ty.int IntKind.i64) (Ty.pair (Ty.sl (nat_lit 9) Ty.str) (Ty.sl (nat_lit 39) (Ty.pair Ty.str (Ty.pair Ty.bool (Ty.sl (nat_lit 3) (Ty.int IntKind.i64)))))))) y0 (Int.toNat y2) fun x => (y1, x.2.1, x.2.2.1, x.2.2.2)) (Int.toNat y2) fun x => (x.1, IntKind.wrap IntKind.i64 (y1 + (1 : Int)), x.2.2.1, x.2.2.2)) (Int.toNat y2)).1, (at_ (Ty.pair (Ty.int IntKind.i64) (Ty.pair (Ty.int IntKind.i64) (Ty.pair (Ty.sl (nat_lit 9) Ty.str) (Ty.sl (nat_lit 39) (Ty.pair Ty.str (Ty.pair Ty.bool (Ty.sl (nat_lit 3) (Ty.int IntKind.i64)))))))) (updE (Ty.pair (Ty.int IntKind.i64) (Ty.pair (Ty.int IntKind.i64) (Ty.pair (Ty.sl (nat_lit 9) Ty.str) (Ty.sl (nat_lit 39) (Ty.pair Ty.str (Ty.pair Ty.bool (Ty.sl (nat_lit 3) (Ty.int IntKind.i64)))))))) (updE (Ty.pair (Ty.int IntKind.i64) (Ty.pair (Ty.int IntKind.i64) (Ty.pair (Ty.sl (nat_lit 9) Ty.str) (Ty.sl (nat_lit 39) (Ty.pair Ty.str (Ty.pair Ty.bool (Ty.sl (nat_lit 3) (Ty.int IntKind.i64)))))))) y0 (Int.toNat y2) fun x => (y1, x.2.1, x.2.2.1, x.2.2.2)) (Int.toNat y2) fun x => (x.1, IntKind.wrap IntKind.i64 (y1 + (1 : Int)), x.2.2.1, x.2.2.2)) (Int.toNat y2)).2.1, g_Vw_markStringS_1 (at_ (Ty.pair (Ty.int IntKind.i64) (Ty.pair (Ty.int IntKind.i64) (Ty.pair (Ty.sl (nat_lit 9) Ty.str) (Ty.sl (nat_lit 39) (Ty.pair Ty.str (Ty.pair Ty.bool (Ty.sl (nat_lit 3) (Ty.int IntKind.i64)))))))) (updE (Ty.pair (Ty.int IntKind.i64) (Ty.pair (Ty.int IntKind.i64) (Ty.pair (Ty.sl (nat_lit 9) Ty.str) (Ty.sl (nat_lit 39) (Ty.pair Ty.str (Ty.pair Ty.bool (Ty.sl (nat_lit 3) (Ty.int IntKind.i64)))))))) (updE (Ty.pair (Ty.int IntKind.i64) (Ty.pair (Ty.int IntKind.i64) (Ty.pair (Ty.sl (nat_lit 9) Ty.str) (Ty.sl (nat_lit 39) (Ty.pair Ty.str (Ty.pair Ty.bool (Ty.sl (nat_lit 3) (Ty.int IntKind.i64)))))))) y0 (Int.toNat y2) fun x => (y1, x.2.1, x.2.2.1, x.2.2.2)) (Int.toNat y2) fun x => (x.1, IntKind.wrap IntKind.i64 (y1 + (1 : Int)), x.2.2.1, x.2.2.2)) (Int.toNat y2)).2.2.1 (IntKind.wrap IntKind.i64 (IntKind.wrap IntKind.i64 (y1 + (1 : Int)) + (1 : Int))), (at_ (Ty.pair (Ty.int IntKind.i64) (Ty.pair (Ty.int IntKind.i64) (Ty.pair (Ty.sl (nat_lit 9) Ty.str) (Ty.sl (nat_lit 39) (Ty.pair Ty.str (Ty.pair Ty.bool (Ty.sl (nat_lit 3) (Ty.int IntKind.i64)))))))) (updE (Ty.pair (Ty.int IntKind.i64) (Ty.pair (Ty.int IntKind.i64) (Ty.pair (Ty.sl (nat_lit 9) Ty.str) (Ty.sl (nat_lit 39) (Ty.pair Ty.str (Ty.pair Ty.bool (Ty.sl (nat_lit 3) (Ty.int IntKind.i64)))))))) (updE (Ty.pair (Ty.int IntKind.i64) (Ty.pair (Ty.int IntKind.i64) (Ty.pair (Ty.sl (nat_lit 9) Ty.str) (Ty.sl (nat_lit 39) (Ty.pair Ty.str (Ty.pair Ty.bool (Ty.sl (nat_lit 3) (Ty.int IntKind.i64)))))))) y0 (Int.toNat y2) fun x => (y1, x.2.1, x.2.2.1, x.2.2.2)) (Int.toNat y2) fun x => (x.1, IntKind.wrap IntKind.i64 (y1 + (1 : Int)), x.2.2.1, x.2.2.2)) (Int.toNat y2)).2.2.2)) (Int.toNat y2)).2.2.2 (g_Vw_markStringS_0 (at_ (Ty.pair (Ty.int IntKind.i64) (Ty.pair (Ty.int IntKind.i64) (Ty.pair (Ty.sl (nat_lit 9) Ty.str) (Ty.sl (nat_lit 39) (Ty.pair Ty.str (Ty.pair Ty.bool (Ty.sl (nat_lit 3) (Ty.int IntKind.i64)))))))) (updE (Ty.pair (Ty.int IntKind.i64) (Ty.pair (Ty.int IntKind.i64) (Ty.pair (Ty.sl (nat_lit 9) Ty.str) (Ty.sl (nat_lit 39) (Ty.pair Ty.str (Ty.pair Ty.bool (Ty.sl (nat_lit 3) (Ty.int IntKind.i64)))))))) (updE (Ty.pair (Ty.int IntKind.i64) (Ty.pair (Ty.int IntKind.i64) (Ty.pair (Ty.sl (nat_lit 9) Ty.str) (Ty.sl (nat_lit 39) (Ty.pair Ty.str (Ty.pair Ty.bool (Ty.sl (nat_lit 3) (Ty.int IntKind.i64)))))))) y0 (Int.toNat y2) fun x => (y1, x.2.1, x.2.2.1, x.2.2.2)) (Int.toNat y2) fun x => (x.1, IntKind.wrap IntKind.i64 (y1 + (1 : Int)), x.2.2.1, x.2.2.2)) (Int.toNat y2)).2.2.1 (IntKind.wrap IntKind.i64 (IntKind.wrap IntKind.i64 (y1 + (1 : Int)) + (1 : Int)))), IntKind.wrap IntKind.i64 (y2 + (1 : Int))))) (.bad)) (.bad)) (.bad)) (.bad)) (.bad)) (.bad)) (.bad)) (.bad)) (.bad)) (.bad)) (.bad)) (.bad)) (.bad)) (.out ((y0, y1)))) (.bad)
noncomputable def g_Lw_markLogNoteS_0 (x : (List (Int × (Int × ((List ByteArray) × (List (ByteArray × (Bool × (List Int)))))))) × Int × Int) : Option (((List (Int × (Int × ((List ByteArray) × (List (ByteArray × (Bool × (List Int)))))))) × Int)) := loopO (g_Sw_markLogNoteS_0) x
noncomputable def xw_markLogNoteS_0 : (((List (Int × (Int × ((List ByteArray) × (List (ByteArray × (Bool × (List Int)))))))) × Int)) → Ex × List (Pl × LV) := fun r => (.exit 0, [(.T 0, .t (.val false [.row 0 0 0])), (.R 0 0, .r 0 (some ⟨false, .any, true, 72, (.pair (.int .i64) (.pair (.int .i64) (.pair (.sl 9 .str) (.sl 39 (.pair .str (.pair .bool (.sl 3 (.int .i64)))))))), r.1⟩)), (.T 1, .t (.val false [.int .i64 r.2]))])
noncomputable def Ow_markLogNoteS_1 : Orc := fun b h => match b, h with
 | 0, [(.T 0, .t (.val false [.row 0 0 0])), (.R 0 0, .r 0 (some ⟨false, .any, true, 72, (.pair (.int .i64) (.pair (.int .i64) (.pair (.sl 9 .str) (.sl 39 (.pair .str (.pair .bool (.sl 3 (.int .i64)))))))), y0⟩)), (.T 1, .t (.val false [.int .i64 y1])), (.T 5, .t (.val false [.int .i64 y2]))] => some (okO (g_Lw_markLogNoteS_0 (y0, y1, y2)), (.leaf (.exit 0) [(.T 0, .t (.val false [.row 0 0 0])), (.R 0 0, .r 0 (some ⟨false, .any, true, 72, (.pair (.int .i64) (.pair (.int .i64) (.pair (.sl 9 .str) (.sl 39 (.pair .str (.pair .bool (.sl 3 (.int .i64)))))))), (valO (g_Lw_markLogNoteS_0 (y0, y1, y2))).1⟩)), (.T 1, .t (.val false [.int .i64 (valO (g_Lw_markLogNoteS_0 (y0, y1, y2))).2]))]))
 | b, h => Ow_markLogNoteS_0 b h
theorem bw_markLogNoteS_0 (y0 : List (Int × (Int × ((List ByteArray) × (List (ByteArray × (Bool × (List Int)))))))) (y1 : Int) (y2 : Int) : Tr.bt Ew_markLogNoteS Ow_markLogNoteS_0 (exec Ew_markLogNoteS 0 cw_markLogNoteS_0 (St.of (hw_markLogNoteS_0 y0 y1 y2)) (leafRd Ew_markLogNoteS 0)) = (g_Sw_markLogNoteS_0 (y0, y1, y2)).bt (fun ((y0, y1, y2) : (List (Int × (Int × ((List ByteArray) × (List (ByteArray × (Bool × (List Int)))))))) × Int × Int) => (hw_markLogNoteS_0 y0 y1 y2)) (xw_markLogNoteS_0) := by kernel_rfl
theorem kw_markLogNoteS_1 : OrcOk Ew_markLogNoteS Ow_markLogNoteS_1 lsw_markLogNoteS 1 := orc_add kw_markLogNoteS_0 (fun n p hp h ex h' ho => by
 obtain ⟨b, c⟩ := p
 obtain ⟨xt, h1, h2⟩ := ho
 have h1 : Ow_markLogNoteS_1 b h = some (true, xt) := h1
 unfold Ow_markLogNoteS_1 at h1
 split at h1
 ·injection h1 with h1
  injection h1 with e1 e2
  subst e2
  have hc : c = cw_markLogNoteS_0 := mw_markLogNoteS_0 _ hp rfl
  subst hc
  right
  rename_i y0 y1 y2
  have key := LT_step kw_markLogNoteS_0 hp (fun q hq => loopsAll_in _ _ _ _ hp hq) (fun ((y0, y1, y2) : (List (Int × (Int × ((List ByteArray) × (List (ByteArray × (Bool × (List Int)))))))) × Int × Int) => (hw_markLogNoteS_0 y0 y1 y2)) (xw_markLogNoteS_0) (g_Sw_markLogNoteS_0) (fun x => by first | exact bw_markLogNoteS_0 x.1 x.2.1 x.2.2) n (x := (y0, y1, y2)) (okO_some e1)
  have hx : ∀ r, XT.sel (.leaf (.exit 0) [(.T 0, .t (.val false [.row 0 0 0])), (.R 0 0, .r 0 (some ⟨false, .any, true, 72, (.pair (.int .i64) (.pair (.int .i64) (.pair (.sl 9 .str) (.sl 39 (.pair .str (.pair .bool (.sl 3 (.int .i64)))))))), r.1⟩)), (.T 1, .t (.val false [.int .i64 r.2]))]) = xw_markLogNoteS_0 r := fun r => by first | rfl | (rcases r with r | r <;> rfl) | (rcases r with r | r | r <;> rfl) | (rcases r with r | r | r | r <;> rfl)
  have h3 := (hx (valO (g_Lw_markLogNoteS_0 (y0, y1, y2)))).symm.trans h2
  have e3 := congrArg Prod.fst h3
  have e4 := congrArg Prod.snd h3
  simp only at e3 e4
  rw [← e3, ← e4]
  exact key
 ·exact .inl ⟨xt, h1, h2⟩)
noncomputable def g_Aw_markLogNoteS (a0 : List (Int × (Int × ((List ByteArray) × (List (ByteArray × (Bool × (List Int)))))))) (a1 : Int) : Bool := okO (g_Lw_markLogNoteS_0 (a0, a1, (0 : Int)))
noncomputable def g_Vw_markLogNoteS_0 (a0 : List (Int × (Int × ((List ByteArray) × (List (ByteArray × (Bool × (List Int)))))))) (a1 : Int) : Int := (valO (g_Lw_markLogNoteS_0 (a0, a1, (0 : Int)))).2
noncomputable def g_Vw_markLogNoteS_1 (a0 : List (Int × (Int × ((List ByteArray) × (List (ByteArray × (Bool × (List Int)))))))) (a1 : Int) : List (Int × (Int × ((List ByteArray) × (List (ByteArray × (Bool × (List Int))))))) := (valO (g_Lw_markLogNoteS_0 (a0, a1, (0 : Int)))).1
noncomputable def Fw_markLogNoteS : FSem := fun ys => match ys with
 | [.val false [.own .any true 72 (.pair (.int .i64) (.pair (.int .i64) (.pair (.sl 9 .str) (.sl 39 (.pair .str (.pair .bool (.sl 3 (.int .i64)))))))) a0], .val false [.int .i64 a1]] => some ((g_Aw_markLogNoteS a0 a1), .val false [.int .i64 (g_Vw_markLogNoteS_0 a0 a1)], [[.own .any true 72 (.pair (.int .i64) (.pair (.int .i64) (.pair (.sl 9 .str) (.sl 39 (.pair .str (.pair .bool (.sl 3 (.int .i64)))))))) (g_Vw_markLogNoteS_1 a0 a1)]])
 | _ => none
theorem vw_markLogNoteS (a0 : List (Int × (Int × ((List ByteArray) × (List (ByteArray × (Bool × (List Int)))))))) (a1 : Int) : collapseH .std Ew_markLogNoteS Ow_markLogNoteS_1 (execFn Ew_markLogNoteS Tryz.f73 msw_markLogNoteS [.val false [.own .any true 72 (.pair (.int .i64) (.pair (.int .i64) (.pair (.sl 9 .str) (.sl 39 (.pair .str (.pair .bool (.sl 3 (.int .i64)))))))) a0], .val false [.int .i64 a1]]) = some ((g_Aw_markLogNoteS a0 a1), .val false [.int .i64 (g_Vw_markLogNoteS_0 a0 a1)], [[.own .any true 72 (.pair (.int .i64) (.pair (.int .i64) (.pair (.sl 9 .str) (.sl 39 (.pair .str (.pair .bool (.sl 3 (.int .i64)))))))) (g_Vw_markLogNoteS_1 a0 a1)]]) := by kernel_rfl
theorem sw_markLogNoteS : Sound Tryz.prog 73 msw_markLogNoteS Fw_markLogNoteS := by
 refine fn_gen goodw_markLogNoteS (by kernel_rfl) .std (fn := Tryz.f73) (c := (Tryz.f73.body.getD .skip)) (o := Ow_markLogNoteS_1) (k := 1) (by kernel_rfl) (by kernel_rfl) (by kernel_rfl) (by kernel_rfl) (by decide) kw_markLogNoteS_1 ?_
 intro ys r outs h
 unfold Fw_markLogNoteS at h
 split at h
 ·exact (vw_markLogNoteS _ _).trans h
 ·cases h
noncomputable def Ew_markLogDisk : Env where
 tt := mkTI Tryz.prog
 fn := fun f => match f with
  | 73 => some (msw_markLogNoteS, FSem.wk msw_markLogNoteS Fw_markLogNoteS)
  | _ => none
 bxf := fun _ => none
 mv := []
 keep := fun _ => []
 keepB := fun _ => []
 keepX := fun _ => []
 keepXB := fun _ => []
theorem goodFw_markLogDisk : ∀ f ms F, Ew_markLogDisk.fn f = some (ms, F) → Sound Tryz.prog f ms F := fun f ms F h => by
 unfold Ew_markLogDisk at h
 dsimp only at h
 split at h
 ·injection h with h; injection h with e1 e2; subst e1 e2; exact Sound.wk sw_markLogNoteS
 ·cases h
theorem goodBw_markLogDisk : ∀ f ms F, Ew_markLogDisk.bxf f = some (ms, F) → SoundB Tryz.prog f ms F := fun f ms F h => by cases h
theorem goodw_markLogDisk : Good Tryz.prog Ew_markLogDisk := ⟨rfl, goodFw_markLogDisk, goodBw_markLogDisk⟩
noncomputable def Ow_markLogDisk_0 : Orc := fun _ _ => none
noncomputable def msw_markLogDisk : List PM := [.«mut», .own]
noncomputable def lsw_markLogDisk : List (Nat × Code) := loopsAll 0 (Tryz.f28.body.getD .skip)
theorem kw_markLogDisk_0 : OrcOk Ew_markLogDisk Ow_markLogDisk_0 lsw_markLogDisk 0 := orcOk_none
noncomputable def g_Aw_markLogDisk (a0 : List (Int × (Int × ((List ByteArray) × (List (ByteArray × (Bool × (List Int)))))))) (a1 : Int) (a2 : Int) : Bool := g_Aw_markLogNoteS a0 a2
noncomputable def Fw_markLogDisk : FSem := fun ys => match ys with
 | [.val true [.own .any true 72 (.pair (.int .i64) (.pair (.int .i64) (.pair (.sl 9 .str) (.sl 39 (.pair .str (.pair .bool (.sl 3 (.int .i64)))))))) a0, .int .i64 a1], .val false [.int .i64 a2]] => some ((g_Aw_markLogDisk a0 a1 a2), .val false [.int .i64 (g_Vw_markLogNoteS_0 a0 a2)], [[.own .any true 72 (.pair (.int .i64) (.pair (.int .i64) (.pair (.sl 9 .str) (.sl 39 (.pair .str (.pair .bool (.sl 3 (.int .i64)))))))) (g_Vw_markLogNoteS_1 a0 a2), .int .i64 a1]])
 | _ => none
theorem vw_markLogDisk (a0 : List (Int × (Int × ((List ByteArray) × (List (ByteArray × (Bool × (List Int)))))))) (a1 : Int) (a2 : Int) : collapseH .std Ew_markLogDisk Ow_markLogDisk_0 (execFn Ew_markLogDisk Tryz.f28 msw_markLogDisk [.val true [.own .any true 72 (.pair (.int .i64) (.pair (.int .i64) (.pair (.sl 9 .str) (.sl 39 (.pair .str (.pair .bool (.sl 3 (.int .i64)))))))) a0, .int .i64 a1], .val false [.int .i64 a2]]) = some ((g_Aw_markLogDisk a0 a1 a2), .val false [.int .i64 (g_Vw_markLogNoteS_0 a0 a2)], [[.own .any true 72 (.pair (.int .i64) (.pair (.int .i64) (.pair (.sl 9 .str) (.sl 39 (.pair .str (.pair .bool (.sl 3 (.int .i64)))))))) (g_Vw_markLogNoteS_1 a0 a2), .int .i64 a1]]) := by kernel_rfl
theorem sw_markLogDisk : Sound Tryz.prog 28 msw_markLogDisk Fw_markLogDisk := by
 refine fn_gen goodw_markLogDisk (by kernel_rfl) .std (fn := Tryz.f28) (c := (Tryz.f28.body.getD .skip)) (o := Ow_markLogDisk_0) (k := 0) (by kernel_rfl) (by kernel_rfl) (by kernel_rfl) (by kernel_rfl) (by decide) kw_markLogDisk_0 ?_
 intro ys r outs h
 unfold Fw_markLogDisk at h
 split at h
 ·exact (vw_markLogDisk _ _ _).trans h
 ·cases h
end Go.Proofs.YtjoggjjjlafdmaaGreatDoor.E
