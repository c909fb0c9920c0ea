/- What the functions that are reached do, by the engine: for the proof (laws.FnExactFroOk): part 2. No conditions. -/
import Derived.Test.YtedhpmhlmdcpbaaDoorGa
import Derived.Test.YtedhpmhlmdcpbaaDoorProg
set_option linter.all false
namespace Go.Proofs.YtedhpmhlmdcpbaaDoor.E
open Go
set_option maxRecDepth 100000
set_option maxHeartbeats 0
noncomputable def Es_FroOk:Env where
 tt := mkTI Tryd.prog
 fn := fun f => match f with
  | 11 => some (mss_DiskOk,FSem.wk mss_DiskOk Fs_DiskOk)
  | 12 => some (mss_l1In,FSem.wk mss_l1In Fs_l1In)
  | 13 => some (mss_l6Places,FSem.wk mss_l6Places Fs_l6Places)
  | 14 => some (mss_l2Of,FSem.wk mss_l2Of Fs_l2Of)
  | 15 => some (mss_OpOk,FSem.wk mss_OpOk Fs_OpOk)
  | _ => none
 bxf := fun _ => none
 mv := []
 keep := fun b => match b with
  | 0 => [(1,false),(3,false)]
  | 2 => [(1,false),(4,false)]
  | _ => []
 keepB := fun b => match b with
  | 0 => [(1,false)]
  | 2 => [(1,false)]
  | _ => []
 keepX := fun b => match b with
  | 0 => [(1,false),(2,false)]
  | 2 => [(2,false)]
  | _ => []
 keepXB := fun b => match b with
  | 0 => [(1,false)]
  | 2 => []
  | _ => []
theorem goodFs_FroOk:∀ f ms F,Es_FroOk.fn f = some (ms,F) → Sound Tryd.prog f ms F := fun f ms F h => by
 unfold Es_FroOk at h
 dsimp only at h
 split at h
 ·injection h with h; injection h with e1 e2; subst e1 e2; exact Sound.wk ss_DiskOk
 ·injection h with h; injection h with e1 e2; subst e1 e2; exact Sound.wk ss_l1In
 ·injection h with h; injection h with e1 e2; subst e1 e2; exact Sound.wk ss_l6Places
 ·injection h with h; injection h with e1 e2; subst e1 e2; exact Sound.wk ss_l2Of
 ·injection h with h; injection h with e1 e2; subst e1 e2; exact Sound.wk ss_OpOk
 ·cases h
theorem goodBs_FroOk:∀ f ms F,Es_FroOk.bxf f = some (ms,F) → SoundB Tryd.prog f ms F := fun f ms F h => by cases h
theorem goods_FroOk:Good Tryd.prog Es_FroOk := ⟨rfl,goodFs_FroOk,goodBs_FroOk⟩
noncomputable def Os_FroOk_0:Orc := fun _ _ => none
noncomputable def mss_FroOk:List PM := [.rd]
noncomputable def lss_FroOk:List (Nat×Code) := loopsAll 0 (Tryd.f5.body.getD .skip)
noncomputable def cs_FroOk_0:Code := (loopOf 0 (Tryd.f5.body.getD .skip)).getD .skip
noncomputable def cs_FroOk_2:Code := (loopOf 2 (Tryd.f5.body.getD .skip)).getD .skip
theorem lseqs_FroOk:lss_FroOk = [(0,cs_FroOk_0),(2,cs_FroOk_2)] := by kernel_rfl
theorem ms_FroOk_0:∀ p,p ∈ lss_FroOk → p.1 = 0 → p.2 = cs_FroOk_0 := by
 intro p hp
 rw [lseqs_FroOk] at hp
 simp only [List.mem_cons,List.not_mem_nil,or_false] at hp
 rcases hp with rfl | rfl <;> simp
theorem ms_FroOk_2:∀ p,p ∈ lss_FroOk → p.1 = 2 → p.2 = cs_FroOk_2 := by
 intro p hp
 rw [lseqs_FroOk] at hp
 simp only [List.mem_cons,List.not_mem_nil,or_false] at hp
 rcases hp with rfl | rfl <;> simp
theorem ks_FroOk_0:OrcOk Es_FroOk Os_FroOk_0 lss_FroOk 0 := orcOk_none
noncomputable def hs_FroOk_0 (y0:Int) (y1:List (Int×(Int×((List ByteArray)×(List (ByteArray×(Bool×(List Int)))))))) (y2:Int) (y3:List (Int×((Int×(Int×(Int×(Int×(Int×(Int×Int))))))×(Bool×((List Int)×(List Int)))))):List (Pl×LV) := [(.T 1,.t (.val false [.ptr 1 0 0])),(.T 3,.t (.val false [.int .i64 y0])),(.B 1,.b 0 false [.sl .any 45 (.pair (.int .i64) (.pair (.int .i64) (.pair (.sl 9 .str) (.sl 84 (.pair .str (.pair .bool (.sl 3 (.int .i64)))))))) y1,.int .i64 y2,.sl .any 50 (.pair (.int .i64) (.pair (.pair (.int .i64) (.pair (.int .i64) (.pair (.int .i64) (.pair (.int .i64) (.pair (.int .i64) (.pair (.int .i64) (.int .i64))))))) (.pair .bool (.pair (.sl 3 (.int .i64)) (.sl 3 (.int .i64)))))) y3])]
noncomputable def g_Ss_FroOk_0 (y1:List (Int×(Int×((List ByteArray)×(List (ByteArray×(Bool×(List Int)))))))) (y2:Int) (y3:List (Int×((Int×(Int×(Int×(Int×(Int×(Int×Int))))))×(Bool×((List Int)×(List Int)))))):(Int) → RT (Int) ((Bool) ⊕ (Unit))
 | y0 => .br (true) (.br (decide (y0 < (↑(List.length y1):Int))) (.br (decide ((0:Int) ≤ y0 ∧ y0 < (↑(List.length y1):Int))) (.br (true) (.br ((at_ (Ty.pair (Ty.int IntKind.i64) (Ty.pair (Ty.int IntKind.i64) (Ty.pair (Ty.sl (nat_lit 9) Ty.str) (Ty.sl (nat_lit 84) (Ty.pair Ty.str (Ty.pair Ty.bool (Ty.sl (nat_lit 3) (Ty.int IntKind.i64)))))))) y1 (Int.toNat y0)).1 != (2:Int)) (.br (decide ((0:Int) ≤ y0 ∧ y0 < (↑(List.length y1):Int))) (.br (true) (.br ((at_ (Ty.pair (Ty.int IntKind.i64) (Ty.pair (Ty.int IntKind.i64) (Ty.pair (Ty.sl (nat_lit 9) Ty.str) (Ty.sl (nat_lit 84) (Ty.pair Ty.str (Ty.pair Ty.bool (Ty.sl (nat_lit 3) (Ty.int IntKind.i64)))))))) y1 (Int.toNat y0)).1 != (4:Int)) (.out (.inl false)) (.br (true) (.go (IntKind.wrap IntKind.i64 (y0 + (1:Int)))) .bad)) .bad) .bad) (.br (true) (.go (IntKind.wrap IntKind.i64 (y0 + (1:Int)))) .bad)) .bad) .bad) (.out (.inr (())))) .bad
noncomputable def g_Ls_FroOk_0 (y1:List (Int×(Int×((List ByteArray)×(List (ByteArray×(Bool×(List Int)))))))) (y2:Int) (y3:List (Int×((Int×(Int×(Int×(Int×(Int×(Int×Int))))))×(Bool×((List Int)×(List Int)))))) (x:Int):Option ((Bool) ⊕ (Unit)) := loopO (g_Ss_FroOk_0 y1 y2 y3) x
noncomputable def xs_FroOk_0 (y1:List (Int×(Int×((List ByteArray)×(List (ByteArray×(Bool×(List Int)))))))) (y2:Int) (y3:List (Int×((Int×(Int×(Int×(Int×(Int×(Int×Int))))))×(Bool×((List Int)×(List Int)))))):((Bool) ⊕ (Unit)) → Ex×List (Pl×LV) := fun
 | .inl r => (.ret,[(.T 1,.t (.val false [.ptr 1 0 0])),(.T 2,.t (.val false [.bool r])),(.B 1,.b 0 false [.sl .any 45 (.pair (.int .i64) (.pair (.int .i64) (.pair (.sl 9 .str) (.sl 84 (.pair .str (.pair .bool (.sl 3 (.int .i64)))))))) y1,.int .i64 y2,.sl .any 50 (.pair (.int .i64) (.pair (.pair (.int .i64) (.pair (.int .i64) (.pair (.int .i64) (.pair (.int .i64) (.pair (.int .i64) (.pair (.int .i64) (.int .i64))))))) (.pair .bool (.pair (.sl 3 (.int .i64)) (.sl 3 (.int .i64)))))) y3])])
 | .inr (r) => (.exit 0,[(.T 1,.t (.val false [.ptr 1 0 0])),(.T 2,.t (.val false [.undef])),(.B 1,.b 0 false [.sl .any 45 (.pair (.int .i64) (.pair (.int .i64) (.pair (.sl 9 .str) (.sl 84 (.pair .str (.pair .bool (.sl 3 (.int .i64)))))))) y1,.int .i64 y2,.sl .any 50 (.pair (.int .i64) (.pair (.pair (.int .i64) (.pair (.int .i64) (.pair (.int .i64) (.pair (.int .i64) (.pair (.int .i64) (.pair (.int .i64) (.int .i64))))))) (.pair .bool (.pair (.sl 3 (.int .i64)) (.sl 3 (.int .i64)))))) y3])])
noncomputable def Os_FroOk_1:Orc := fun b h => match b,h with
 | 0,[(.T 1,.t (.val false [.ptr 1 0 0])),(.T 3,.t (.val false [.int .i64 y0])),(.B 1,.b 0 false [.sl .any 45 (.pair (.int .i64) (.pair (.int .i64) (.pair (.sl 9 .str) (.sl 84 (.pair .str (.pair .bool (.sl 3 (.int .i64)))))))) y1,.int .i64 y2,.sl .any 50 (.pair (.int .i64) (.pair (.pair (.int .i64) (.pair (.int .i64) (.pair (.int .i64) (.pair (.int .i64) (.pair (.int .i64) (.pair (.int .i64) (.int .i64))))))) (.pair .bool (.pair (.sl 3 (.int .i64)) (.sl 3 (.int .i64)))))) y3])] => some (okO (g_Ls_FroOk_0 y1 y2 y3 y0),(.br (isL (valO (g_Ls_FroOk_0 y1 y2 y3 y0))) (.leaf .ret [(.T 1,.t (.val false [.ptr 1 0 0])),(.T 2,.t (.val false [.bool (getL (valO (g_Ls_FroOk_0 y1 y2 y3 y0)))])),(.B 1,.b 0 false [.sl .any 45 (.pair (.int .i64) (.pair (.int .i64) (.pair (.sl 9 .str) (.sl 84 (.pair .str (.pair .bool (.sl 3 (.int .i64)))))))) y1,.int .i64 y2,.sl .any 50 (.pair (.int .i64) (.pair (.pair (.int .i64) (.pair (.int .i64) (.pair (.int .i64) (.pair (.int .i64) (.pair (.int .i64) (.pair (.int .i64) (.int .i64))))))) (.pair .bool (.pair (.sl 3 (.int .i64)) (.sl 3 (.int .i64)))))) y3])]) (.leaf (.exit 0) [(.T 1,.t (.val false [.ptr 1 0 0])),(.T 2,.t (.val false [.undef])),(.B 1,.b 0 false [.sl .any 45 (.pair (.int .i64) (.pair (.int .i64) (.pair (.sl 9 .str) (.sl 84 (.pair .str (.pair .bool (.sl 3 (.int .i64)))))))) y1,.int .i64 y2,.sl .any 50 (.pair (.int .i64) (.pair (.pair (.int .i64) (.pair (.int .i64) (.pair (.int .i64) (.pair (.int .i64) (.pair (.int .i64) (.pair (.int .i64) (.int .i64))))))) (.pair .bool (.pair (.sl 3 (.int .i64)) (.sl 3 (.int .i64)))))) y3])])))
 | b,h => Os_FroOk_0 b h
theorem bs_FroOk_0 (y0:Int) (y1:List (Int×(Int×((List ByteArray)×(List (ByteArray×(Bool×(List Int)))))))) (y2:Int) (y3:List (Int×((Int×(Int×(Int×(Int×(Int×(Int×Int))))))×(Bool×((List Int)×(List Int)))))):Tr.bt Es_FroOk Os_FroOk_0 (exec Es_FroOk 0 cs_FroOk_0 (St.of (hs_FroOk_0 y0 y1 y2 y3)) (leafRd Es_FroOk 0)) = (g_Ss_FroOk_0 y1 y2 y3 y0).bt (fun (y0:Int) => (hs_FroOk_0 y0 y1 y2 y3)) (xs_FroOk_0 y1 y2 y3) := by kernel_rfl
theorem ks_FroOk_1:OrcOk Es_FroOk Os_FroOk_1 lss_FroOk 1 := orc_add ks_FroOk_0 (fun n p hp h ex h' ho => by
 obtain ⟨b,c⟩ := p
 obtain ⟨xt,h1,h2⟩ := ho
 have h1:Os_FroOk_1 b h = some (true,xt) := h1
 unfold Os_FroOk_1 at h1
 split at h1
 ·injection h1 with h1
  injection h1 with e1 e2
  subst e2
  have hc:c = cs_FroOk_0 := ms_FroOk_0 _ hp rfl
  subst hc
  right
  rename_i y0 y1 y2 y3
  have key := LT_step ks_FroOk_0 hp (fun q hq => loopsAll_in _ _ _ _ hp hq) (fun (y0:Int) => (hs_FroOk_0 y0 y1 y2 y3)) (xs_FroOk_0 y1 y2 y3) (g_Ss_FroOk_0 y1 y2 y3) (fun x => by first | exact bs_FroOk_0 x y1 y2 y3) n (x := y0) (okO_some e1)
  have hx:∀ r,XT.sel (.br (isL r) (.leaf .ret [(.T 1,.t (.val false [.ptr 1 0 0])),(.T 2,.t (.val false [.bool (getL r)])),(.B 1,.b 0 false [.sl .any 45 (.pair (.int .i64) (.pair (.int .i64) (.pair (.sl 9 .str) (.sl 84 (.pair .str (.pair .bool (.sl 3 (.int .i64)))))))) y1,.int .i64 y2,.sl .any 50 (.pair (.int .i64) (.pair (.pair (.int .i64) (.pair (.int .i64) (.pair (.int .i64) (.pair (.int .i64) (.pair (.int .i64) (.pair (.int .i64) (.int .i64))))))) (.pair .bool (.pair (.sl 3 (.int .i64)) (.sl 3 (.int .i64)))))) y3])]) (.leaf (.exit 0) [(.T 1,.t (.val false [.ptr 1 0 0])),(.T 2,.t (.val false [.undef])),(.B 1,.b 0 false [.sl .any 45 (.pair (.int .i64) (.pair (.int .i64) (.pair (.sl 9 .str) (.sl 84 (.pair .str (.pair .bool (.sl 3 (.int .i64)))))))) y1,.int .i64 y2,.sl .any 50 (.pair (.int .i64) (.pair (.pair (.int .i64) (.pair (.int .i64) (.pair (.int .i64) (.pair (.int .i64) (.pair (.int .i64) (.pair (.int .i64) (.int .i64))))))) (.pair .bool (.pair (.sl 3 (.int .i64)) (.sl 3 (.int .i64)))))) y3])])) = xs_FroOk_0 y1 y2 y3 r := fun r => by first | rfl | (rcases r with r | r <;> rfl) | (rcases r with r | r | r <;> rfl) | (rcases r with r | r | r | r <;> rfl)
  have h3 := (hx (valO (g_Ls_FroOk_0 y1 y2 y3 y0))).symm.trans h2
  have e3 := congrArg Prod.fst h3
  have e4 := congrArg Prod.snd h3
  simp only at e3 e4
  rw [← e3,← e4]
  exact key
 ·exact .inl ⟨xt,h1,h2⟩)
noncomputable def hs_FroOk_2 (y0:Int) (y1:List (Int×(Int×((List ByteArray)×(List (ByteArray×(Bool×(List Int)))))))) (y2:Int) (y3:List (Int×((Int×(Int×(Int×(Int×(Int×(Int×Int))))))×(Bool×((List Int)×(List Int)))))):List (Pl×LV) := [(.T 1,.t (.val false [.ptr 1 0 0])),(.T 4,.t (.val false [.int .i64 y0])),(.B 1,.b 0 false [.sl .any 45 (.pair (.int .i64) (.pair (.int .i64) (.pair (.sl 9 .str) (.sl 84 (.pair .str (.pair .bool (.sl 3 (.int .i64)))))))) y1,.int .i64 y2,.sl .any 50 (.pair (.int .i64) (.pair (.pair (.int .i64) (.pair (.int .i64) (.pair (.int .i64) (.pair (.int .i64) (.pair (.int .i64) (.pair (.int .i64) (.int .i64))))))) (.pair .bool (.pair (.sl 3 (.int .i64)) (.sl 3 (.int .i64)))))) y3])]
noncomputable def g_Ss_FroOk_2 (y1:List (Int×(Int×((List ByteArray)×(List (ByteArray×(Bool×(List Int)))))))) (y2:Int) (y3:List (Int×((Int×(Int×(Int×(Int×(Int×(Int×Int))))))×(Bool×((List Int)×(List Int)))))):(Int) → RT (Int) ((Bool) ⊕ (Unit))
 | y0 => .br (true) (.br (decide (y0 < (↑(List.length y3):Int))) (.br (decide ((0:Int) ≤ y0 ∧ y0 < (↑(List.length y3):Int))) (.br (g_As_l1In (at_ (Ty.pair (Ty.int IntKind.i64) (Ty.pair (Ty.pair (Ty.int IntKind.i64) (Ty.pair (Ty.int IntKind.i64) (Ty.pair (Ty.int IntKind.i64) (Ty.pair (Ty.int IntKind.i64) (Ty.pair (Ty.int IntKind.i64) (Ty.pair (Ty.int IntKind.i64) (Ty.int IntKind.i64))))))) (Ty.pair Ty.bool (Ty.pair (Ty.sl (nat_lit 3) (Ty.int IntKind.i64)) (Ty.sl (nat_lit 3) (Ty.int IntKind.i64)))))) y3 (Int.toNat y0)).1 (0:Int) (29:Int)) (.br (!g_Vs_l1In_0 (at_ (Ty.pair (Ty.int IntKind.i64) (Ty.pair (Ty.pair (Ty.int IntKind.i64) (Ty.pair (Ty.int IntKind.i64) (Ty.pair (Ty.int IntKind.i64) (Ty.pair (Ty.int IntKind.i64) (Ty.pair (Ty.int IntKind.i64) (Ty.pair (Ty.int IntKind.i64) (Ty.int IntKind.i64))))))) (Ty.pair Ty.bool (Ty.pair (Ty.sl (nat_lit 3) (Ty.int IntKind.i64)) (Ty.sl (nat_lit 3) (Ty.int IntKind.i64)))))) y3 (Int.toNat y0)).1 (0:Int) (29:Int)) (.out (.inl false)) (.br (true) (.br (decide (y0 > (0:Int))) (.br (true) (.br (decide ((0:Int) ≤ IntKind.wrap IntKind.i64 (y0 - (1:Int)) ∧ IntKind.wrap IntKind.i64 (y0 - (1:Int)) < (↑(List.length y3):Int))) (.br (true) (.br (decide ((at_ (Ty.pair (Ty.int IntKind.i64) (Ty.pair (Ty.pair (Ty.int IntKind.i64) (Ty.pair (Ty.int IntKind.i64) (Ty.pair (Ty.int IntKind.i64) (Ty.pair (Ty.int IntKind.i64) (Ty.pair (Ty.int IntKind.i64) (Ty.pair (Ty.int IntKind.i64) (Ty.int IntKind.i64))))))) (Ty.pair Ty.bool (Ty.pair (Ty.sl (nat_lit 3) (Ty.int IntKind.i64)) (Ty.sl (nat_lit 3) (Ty.int IntKind.i64)))))) y3 (Int.toNat (IntKind.wrap IntKind.i64 (y0 - (1:Int))))).1 ≥ (at_ (Ty.pair (Ty.int IntKind.i64) (Ty.pair (Ty.pair (Ty.int IntKind.i64) (Ty.pair (Ty.int IntKind.i64) (Ty.pair (Ty.int IntKind.i64) (Ty.pair (Ty.int IntKind.i64) (Ty.pair (Ty.int IntKind.i64) (Ty.pair (Ty.int IntKind.i64) (Ty.int IntKind.i64))))))) (Ty.pair Ty.bool (Ty.pair (Ty.sl (nat_lit 3) (Ty.int IntKind.i64)) (Ty.sl (nat_lit 3) (Ty.int IntKind.i64)))))) y3 (Int.toNat y0)).1)) (.out (.inl false)) (.br (g_As_l6Places (at_ (Ty.pair (Ty.int IntKind.i64) (Ty.pair (Ty.pair (Ty.int IntKind.i64) (Ty.pair (Ty.int IntKind.i64) (Ty.pair (Ty.int IntKind.i64) (Ty.pair (Ty.int IntKind.i64) (Ty.pair (Ty.int IntKind.i64) (Ty.pair (Ty.int IntKind.i64) (Ty.int IntKind.i64))))))) (Ty.pair Ty.bool (Ty.pair (Ty.sl (nat_lit 3) (Ty.int IntKind.i64)) (Ty.sl (nat_lit 3) (Ty.int IntKind.i64)))))) y3 (Int.toNat y0)).2.2.2.1) (.br (!g_Vs_l6Places_0 (at_ (Ty.pair (Ty.int IntKind.i64) (Ty.pair (Ty.pair (Ty.int IntKind.i64) (Ty.pair (Ty.int IntKind.i64) (Ty.pair (Ty.int IntKind.i64) (Ty.pair (Ty.int IntKind.i64) (Ty.pair (Ty.int IntKind.i64) (Ty.pair (Ty.int IntKind.i64) (Ty.int IntKind.i64))))))) (Ty.pair Ty.bool (Ty.pair (Ty.sl (nat_lit 3) (Ty.int IntKind.i64)) (Ty.sl (nat_lit 3) (Ty.int IntKind.i64)))))) y3 (Int.toNat y0)).2.2.2.1) (.out (.inl false)) (.br (g_As_l6Places (at_ (Ty.pair (Ty.int IntKind.i64) (Ty.pair (Ty.pair (Ty.int IntKind.i64) (Ty.pair (Ty.int IntKind.i64) (Ty.pair (Ty.int IntKind.i64) (Ty.pair (Ty.int IntKind.i64) (Ty.pair (Ty.int IntKind.i64) (Ty.pair (Ty.int IntKind.i64) (Ty.int IntKind.i64))))))) (Ty.pair Ty.bool (Ty.pair (Ty.sl (nat_lit 3) (Ty.int IntKind.i64)) (Ty.sl (nat_lit 3) (Ty.int IntKind.i64)))))) y3 (Int.toNat y0)).2.2.2.2) (.br (!g_Vs_l6Places_0 (at_ (Ty.pair (Ty.int IntKind.i64) (Ty.pair (Ty.pair (Ty.int IntKind.i64) (Ty.pair (Ty.int IntKind.i64) (Ty.pair (Ty.int IntKind.i64) (Ty.pair (Ty.int IntKind.i64) (Ty.pair (Ty.int IntKind.i64) (Ty.pair (Ty.int IntKind.i64) (Ty.int IntKind.i64))))))) (Ty.pair Ty.bool (Ty.pair (Ty.sl (nat_lit 3) (Ty.int IntKind.i64)) (Ty.sl (nat_lit 3) (Ty.int IntKind.i64)))))) y3 (Int.toNat y0)).2.2.2.2) (.out (.inl false)) (.br (g_As_l2Of y1 (at_ (Ty.pair (Ty.int IntKind.i64) (Ty.pair (Ty.pair (Ty.int IntKind.i64) (Ty.pair (Ty.int IntKind.i64) (Ty.pair (Ty.int IntKind.i64) (Ty.pair (Ty.int IntKind.i64) (Ty.pair (Ty.int IntKind.i64) (Ty.pair (Ty.int IntKind.i64) (Ty.int IntKind.i64))))))) (Ty.pair Ty.bool (Ty.pair (Ty.sl (nat_lit 3) (Ty.int IntKind.i64)) (Ty.sl (nat_lit 3) (Ty.int IntKind.i64)))))) y3 (Int.toNat y0)).1) (.br (true) (.br (!(at_ (Ty.pair (Ty.int IntKind.i64) (Ty.pair (Ty.pair (Ty.int IntKind.i64) (Ty.pair (Ty.int IntKind.i64) (Ty.pair (Ty.int IntKind.i64) (Ty.pair (Ty.int IntKind.i64) (Ty.pair (Ty.int IntKind.i64) (Ty.pair (Ty.int IntKind.i64) (Ty.int IntKind.i64))))))) (Ty.pair Ty.bool (Ty.pair (Ty.sl (nat_lit 3) (Ty.int IntKind.i64)) (Ty.sl (nat_lit 3) (Ty.int IntKind.i64)))))) y3 (Int.toNat y0)).2.2.1 == (g_Vs_l2Of_0 y1 (at_ (Ty.pair (Ty.int IntKind.i64) (Ty.pair (Ty.pair (Ty.int IntKind.i64) (Ty.pair (Ty.int IntKind.i64) (Ty.pair (Ty.int IntKind.i64) (Ty.pair (Ty.int IntKind.i64) (Ty.pair (Ty.int IntKind.i64) (Ty.pair (Ty.int IntKind.i64) (Ty.int IntKind.i64))))))) (Ty.pair Ty.bool (Ty.pair (Ty.sl (nat_lit 3) (Ty.int IntKind.i64)) (Ty.sl (nat_lit 3) (Ty.int IntKind.i64)))))) y3 (Int.toNat y0)).1 == (2:Int))) (.out (.inl false)) (.br (!(at_ (Ty.pair (Ty.int IntKind.i64) (Ty.pair (Ty.pair (Ty.int IntKind.i64) (Ty.pair (Ty.int IntKind.i64) (Ty.pair (Ty.int IntKind.i64) (Ty.pair (Ty.int IntKind.i64) (Ty.pair (Ty.int IntKind.i64) (Ty.pair (Ty.int IntKind.i64) (Ty.int IntKind.i64))))))) (Ty.pair Ty.bool (Ty.pair (Ty.sl (nat_lit 3) (Ty.int IntKind.i64)) (Ty.sl (nat_lit 3) (Ty.int IntKind.i64)))))) y3 (Int.toNat y0)).2.2.1) (.br (g_As_OpOk (at_ (Ty.pair (Ty.int IntKind.i64) (Ty.pair (Ty.pair (Ty.int IntKind.i64) (Ty.pair (Ty.int IntKind.i64) (Ty.pair (Ty.int IntKind.i64) (Ty.pair (Ty.int IntKind.i64) (Ty.pair (Ty.int IntKind.i64) (Ty.pair (Ty.int IntKind.i64) (Ty.int IntKind.i64))))))) (Ty.pair Ty.bool (Ty.pair (Ty.sl (nat_lit 3) (Ty.int IntKind.i64)) (Ty.sl (nat_lit 3) (Ty.int IntKind.i64)))))) y3 (Int.toNat y0)).2.1.1 (at_ (Ty.pair (Ty.int IntKind.i64) (Ty.pair (Ty.pair (Ty.int IntKind.i64) (Ty.pair (Ty.int IntKind.i64) (Ty.pair (Ty.int IntKind.i64) (Ty.pair (Ty.int IntKind.i64) (Ty.pair (Ty.int IntKind.i64) (Ty.pair (Ty.int IntKind.i64) (Ty.int IntKind.i64))))))) (Ty.pair Ty.bool (Ty.pair (Ty.sl (nat_lit 3) (Ty.int IntKind.i64)) (Ty.sl (nat_lit 3) (Ty.int IntKind.i64)))))) y3 (Int.toNat y0)).2.1.2.1 (at_ (Ty.pair (Ty.int IntKind.i64) (Ty.pair (Ty.pair (Ty.int IntKind.i64) (Ty.pair (Ty.int IntKind.i64) (Ty.pair (Ty.int IntKind.i64) (Ty.pair (Ty.int IntKind.i64) (Ty.pair (Ty.int IntKind.i64) (Ty.pair (Ty.int IntKind.i64) (Ty.int IntKind.i64))))))) (Ty.pair Ty.bool (Ty.pair (Ty.sl (nat_lit 3) (Ty.int IntKind.i64)) (Ty.sl (nat_lit 3) (Ty.int IntKind.i64)))))) y3 (Int.toNat y0)).2.1.2.2.1 (at_ (Ty.pair (Ty.int IntKind.i64) (Ty.pair (Ty.pair (Ty.int IntKind.i64) (Ty.pair (Ty.int IntKind.i64) (Ty.pair (Ty.int IntKind.i64) (Ty.pair (Ty.int IntKind.i64) (Ty.pair (Ty.int IntKind.i64) (Ty.pair (Ty.int IntKind.i64) (Ty.int IntKind.i64))))))) (Ty.pair Ty.bool (Ty.pair (Ty.sl (nat_lit 3) (Ty.int IntKind.i64)) (Ty.sl (nat_lit 3) (Ty.int IntKind.i64)))))) y3 (Int.toNat y0)).2.1.2.2.2.1 (at_ (Ty.pair (Ty.int IntKind.i64) (Ty.pair (Ty.pair (Ty.int IntKind.i64) (Ty.pair (Ty.int IntKind.i64) (Ty.pair (Ty.int IntKind.i64) (Ty.pair (Ty.int IntKind.i64) (Ty.pair (Ty.int IntKind.i64) (Ty.pair (Ty.int IntKind.i64) (Ty.int IntKind.i64))))))) (Ty.pair Ty.bool (Ty.pair (Ty.sl (nat_lit 3) (Ty.int IntKind.i64)) (Ty.sl (nat_lit 3) (Ty.int IntKind.i64)))))) y3 (Int.toNat y0)).2.1.2.2.2.2.1 (at_ (Ty.pair (Ty.int IntKind.i64) (Ty.pair (Ty.pair (Ty.int IntKind.i64) (Ty.pair (Ty.int IntKind.i64) (Ty.pair (Ty.int IntKind.i64) (Ty.pair (Ty.int IntKind.i64) (Ty.pair (Ty.int IntKind.i64) (Ty.pair (Ty.int IntKind.i64) (Ty.int IntKind.i64))))))) (Ty.pair Ty.bool (Ty.pair (Ty.sl (nat_lit 3) (Ty.int IntKind.i64)) (Ty.sl (nat_lit 3) (Ty.int IntKind.i64)))))) y3 (Int.toNat y0)).2.1.2.2.2.2.2.1 (at_ (Ty.pair (Ty.int IntKind.i64) (Ty.pair (Ty.pair (Ty.int IntKind.i64) (Ty.pair (Ty.int IntKind.i64) (Ty.pair (Ty.int IntKind.i64) (Ty.pair (Ty.int IntKind.i64) (Ty.pair (Ty.int IntKind.i64) (Ty.pair (Ty.int IntKind.i64) (Ty.int IntKind.i64))))))) (Ty.pair Ty.bool (Ty.pair (Ty.sl (nat_lit 3) (Ty.int IntKind.i64)) (Ty.sl (nat_lit 3) (Ty.int IntKind.i64)))))) y3 (Int.toNat y0)).2.1.2.2.2.2.2.2) (.br (!g_Vs_OpOk_0 (at_ (Ty.pair (Ty.int IntKind.i64) (Ty.pair (Ty.pair (Ty.int IntKind.i64) (Ty.pair (Ty.int IntKind.i64) (Ty.pair (Ty.int IntKind.i64) (Ty.pair (Ty.int IntKind.i64) (Ty.pair (Ty.int IntKind.i64) (Ty.pair (Ty.int IntKind.i64) (Ty.int IntKind.i64))))))) (Ty.pair Ty.bool (Ty.pair (Ty.sl (nat_lit 3) (Ty.int IntKind.i64)) (Ty.sl (nat_lit 3) (Ty.int IntKind.i64)))))) y3 (Int.toNat y0)).2.1.1 (at_ (Ty.pair (Ty.int IntKind.i64) (Ty.pair (Ty.pair (Ty.int IntKind.i64) (Ty.pair (Ty.int IntKind.i64) (Ty.pair (Ty.int IntKind.i64) (Ty.pair (Ty.int IntKind.i64) (Ty.pair (Ty.int IntKind.i64) (Ty.pair (Ty.int IntKind.i64) (Ty.int IntKind.i64))))))) (Ty.pair Ty.bool (Ty.pair (Ty.sl (nat_lit 3) (Ty.int IntKind.i64)) (Ty.sl (nat_lit 3) (Ty.int IntKind.i64)))))) y3 (Int.toNat y0)).2.1.2.1 (at_ (Ty.pair (Ty.int IntKind.i64) (Ty.pair (Ty.pair (Ty.int IntKind.i64) (Ty.pair (Ty.int IntKind.i64) (Ty.pair (Ty.int IntKind.i64) (Ty.pair (Ty.int IntKind.i64) (Ty.pair (Ty.int IntKind.i64) (Ty.pair (Ty.int IntKind.i64) (Ty.int IntKind.i64))))))) (Ty.pair Ty.bool (Ty.pair (Ty.sl (nat_lit 3) (Ty.int IntKind.i64)) (Ty.sl (nat_lit 3) (Ty.int IntKind.i64)))))) y3 (Int.toNat y0)).2.1.2.2.1 (at_ (Ty.pair (Ty.int IntKind.i64) (Ty.pair (Ty.pair (Ty.int IntKind.i64) (Ty.pair (Ty.int IntKind.i64) (Ty.pair (Ty.int IntKind.i64) (Ty.pair (Ty.int IntKind.i64) (Ty.pair (Ty.int IntKind.i64) (Ty.pair (Ty.int IntKind.i64) (Ty.int IntKind.i64))))))) (Ty.pair Ty.bool (Ty.pair (Ty.sl (nat_lit 3) (Ty.int IntKind.i64)) (Ty.sl (nat_lit 3) (Ty.int IntKind.i64)))))) y3 (Int.toNat y0)).2.1.2.2.2.1 (at_ (Ty.pair (Ty.int IntKind.i64) (Ty.pair (Ty.pair (Ty.int IntKind.i64) (Ty.pair (Ty.int IntKind.i64) (Ty.pair (Ty.int IntKind.i64) (Ty.pair (Ty.int IntKind.i64) (Ty.pair (Ty.int IntKind.i64) (Ty.pair (Ty.int IntKind.i64) (Ty.int IntKind.i64))))))) (Ty.pair Ty.bool (Ty.pair (Ty.sl (nat_lit 3) (Ty.int IntKind.i64)) (Ty.sl (nat_lit 3) (Ty.int IntKind.i64)))))) y3 (Int.toNat y0)).2.1.2.2.2.2.1 (at_ (Ty.pair (Ty.int IntKind.i64) (Ty.pair (Ty.pair (Ty.int IntKind.i64) (Ty.pair (Ty.int IntKind.i64) (Ty.pair (Ty.int IntKind.i64) (Ty.pair (Ty.int IntKind.i64) (Ty.pair (Ty.int IntKind.i64) (Ty.pair (Ty.int IntKind.i64) (Ty.int IntKind.i64))))))) (Ty.pair Ty.bool (Ty.pair (Ty.sl (nat_lit 3) (Ty.int IntKind.i64)) (Ty.sl (nat_lit 3) (Ty.int IntKind.i64)))))) y3 (Int.toNat y0)).2.1.2.2.2.2.2.1 (at_ (Ty.pair (Ty.int IntKind.i64) (Ty.pair (Ty.pair (Ty.int IntKind.i64) (Ty.pair (Ty.int IntKind.i64) (Ty.pair (Ty.int IntKind.i64) (Ty.pair (Ty.int IntKind.i64) (Ty.pair (Ty.int IntKind.i64) (Ty.pair (Ty.int IntKind.i64) (Ty.int IntKind.i64))))))) (Ty.pair Ty.bool (Ty.pair (Ty.sl (nat_lit 3) (Ty.int IntKind.i64)) (Ty.sl (nat_lit 3) (Ty.int IntKind.i64)))))) y3 (Int.toNat y0)).2.1.2.2.2.2.2.2) (.out (.inl false)) (.br (true) (.br (decide ((↑(List.length (at_ (Ty.pair (Ty.int IntKind.i64) (Ty.pair (Ty.pair (Ty.int IntKind.i64) (Ty.pair (Ty.int IntKind.i64) (Ty.pair (Ty.int IntKind.i64) (Ty.pair (Ty.int IntKind.i64) (Ty.pair (Ty.int IntKind.i64) (Ty.pair (Ty.int IntKind.i64) (Ty.int IntKind.i64))))))) (Ty.pair Ty.bool (Ty.pair (Ty.sl (nat_lit 3) (Ty.int IntKind.i64)) (Ty.sl (nat_lit 3) (Ty.int IntKind.i64)))))) y3 (Int.toNat y0)).2.2.2.2):Int) > (0:Int))) (.out (.inl false)) (.br (true) (.go (IntKind.wrap IntKind.i64 (y0 + (1:Int)))) .bad)) .bad)) .bad) (.br (true) (.go (IntKind.wrap IntKind.i64 (y0 + (1:Int)))) .bad))) .bad) .bad)) .bad)) .bad)) .bad) .bad) .bad) (.br (g_As_l6Places (at_ (Ty.pair (Ty.int IntKind.i64) (Ty.pair (Ty.pair (Ty.int IntKind.i64) (Ty.pair (Ty.int IntKind.i64) (Ty.pair (Ty.int IntKind.i64) (Ty.pair (Ty.int IntKind.i64) (Ty.pair (Ty.int IntKind.i64) (Ty.pair (Ty.int IntKind.i64) (Ty.int IntKind.i64))))))) (Ty.pair Ty.bool (Ty.pair (Ty.sl (nat_lit 3) (Ty.int IntKind.i64)) (Ty.sl (nat_lit 3) (Ty.int IntKind.i64)))))) y3 (Int.toNat y0)).2.2.2.1) (.br (!g_Vs_l6Places_0 (at_ (Ty.pair (Ty.int IntKind.i64) (Ty.pair (Ty.pair (Ty.int IntKind.i64) (Ty.pair (Ty.int IntKind.i64) (Ty.pair (Ty.int IntKind.i64) (Ty.pair (Ty.int IntKind.i64) (Ty.pair (Ty.int IntKind.i64) (Ty.pair (Ty.int IntKind.i64) (Ty.int IntKind.i64))))))) (Ty.pair Ty.bool (Ty.pair (Ty.sl (nat_lit 3) (Ty.int IntKind.i64)) (Ty.sl (nat_lit 3) (Ty.int IntKind.i64)))))) y3 (Int.toNat y0)).2.2.2.1) (.out (.inl false)) (.br (g_As_l6Places (at_ (Ty.pair (Ty.int IntKind.i64) (Ty.pair (Ty.pair (Ty.int IntKind.i64) (Ty.pair (Ty.int IntKind.i64) (Ty.pair (Ty.int IntKind.i64) (Ty.pair (Ty.int IntKind.i64) (Ty.pair (Ty.int IntKind.i64) (Ty.pair (Ty.int IntKind.i64) (Ty.int IntKind.i64))))))) (Ty.pair Ty.bool (Ty.pair (Ty.sl (nat_lit 3) (Ty.int IntKind.i64)) (Ty.sl (nat_lit 3) (Ty.int IntKind.i64)))))) y3 (Int.toNat y0)).2.2.2.2) (.br (!g_Vs_l6Places_0 (at_ (Ty.pair (Ty.int IntKind.i64) (Ty.pair (Ty.pair (Ty.int IntKind.i64) (Ty.pair (Ty.int IntKind.i64) (Ty.pair (Ty.int IntKind.i64) (Ty.pair (Ty.int IntKind.i64) (Ty.pair (Ty.int IntKind.i64) (Ty.pair (Ty.int IntKind.i64) (Ty.int IntKind.i64))))))) (Ty.pair Ty.bool (Ty.pair (Ty.sl (nat_lit 3) (Ty.int IntKind.i64)) (Ty.sl (nat_lit 3) (Ty.int IntKind.i64)))))) y3 (Int.toNat y0)).2.2.2.2) (.out (.inl false)) (.br (g_As_l2Of y1 (at_ (Ty.pair (Ty.int IntKind.i64) (Ty.pair (Ty.pair (Ty.int IntKind.i64) (Ty.pair (Ty.int IntKind.i64) (Ty.pair (Ty.int IntKind.i64) (Ty.pair (Ty.int IntKind.i64) (Ty.pair (Ty.int IntKind.i64) (Ty.pair (Ty.int IntKind.i64) (Ty.int IntKind.i64))))))) (Ty.pair Ty.bool (Ty.pair (Ty.sl (nat_lit 3) (Ty.int IntKind.i64)) (Ty.sl (nat_lit 3) (Ty.int IntKind.i64)))))) y3 (Int.toNat y0)).1) (.br (true) (.br (!(at_ (Ty.pair (Ty.int IntKind.i64) (Ty.pair (Ty.pair (Ty.int IntKind.i64) (Ty.pair (Ty.int IntKind.i64) (Ty.pair (Ty.int IntKind.i64) (Ty.pair (Ty.int IntKind.i64) (Ty.pair (Ty.int IntKind.i64) (Ty.pair (Ty.int IntKind.i64) (Ty.int IntKind.i64))))))) (Ty.pair Ty.bool (Ty.pair (Ty.sl (nat_lit 3) (Ty.int IntKind.i64)) (Ty.sl (nat_lit 3) (Ty.int IntKind.i64)))))) y3 (Int.toNat y0)).2.2.1 == (g_Vs_l2Of_0 y1 (at_ (Ty.pair (Ty.int IntKind.i64) (Ty.pair (Ty.pair (Ty.int IntKind.i64) (Ty.pair (Ty.int IntKind.i64) (Ty.pair (Ty.int IntKind.i64) (Ty.pair (Ty.int IntKind.i64) (Ty.pair (Ty.int IntKind.i64) (Ty.pair (Ty.int IntKind.i64) (Ty.int IntKind.i64))))))) (Ty.pair Ty.bool (Ty.pair (Ty.sl (nat_lit 3) (Ty.int IntKind.i64)) (Ty.sl (nat_lit 3) (Ty.int IntKind.i64)))))) y3 (Int.toNat y0)).1 == (2:Int))) (.out (.inl false)) (.br (!(at_ (Ty.pair (Ty.int IntKind.i64) (Ty.pair (Ty.pair (Ty.int IntKind.i64) (Ty.pair (Ty.int IntKind.i64) (Ty.pair (Ty.int IntKind.i64) (Ty.pair (Ty.int IntKind.i64) (Ty.pair (Ty.int IntKind.i64) (Ty.pair (Ty.int IntKind.i64) (Ty.int IntKind.i64))))))) (Ty.pair Ty.bool (Ty.pair (Ty.sl (nat_lit 3) (Ty.int IntKind.i64)) (Ty.sl (nat_lit 3) (Ty.int IntKind.i64)))))) y3 (Int.toNat y0)).2.2.1) (.br (g_As_OpOk (at_ (Ty.pair (Ty.int IntKind.i64) (Ty.pair (Ty.pair (Ty.int IntKind.i64) (Ty.pair (Ty.int IntKind.i64) (Ty.pair (Ty.int IntKind.i64) (Ty.pair (Ty.int IntKind.i64) (Ty.pair (Ty.int IntKind.i64) (Ty.pair (Ty.int IntKind.i64) (Ty.int IntKind.i64))))))) (Ty.pair Ty.bool (Ty.pair (Ty.sl (nat_lit 3) (Ty.int IntKind.i64)) (Ty.sl (nat_lit 3) (Ty.int IntKind.i64)))))) y3 (Int.toNat y0)).2.1.1 (at_ (Ty.pair (Ty.int IntKind.i64) (Ty.pair (Ty.pair (Ty.int IntKind.i64) (Ty.pair (Ty.int IntKind.i64) (Ty.pair (Ty.int IntKind.i64) (Ty.pair (Ty.int IntKind.i64) (Ty.pair (Ty.int IntKind.i64) (Ty.pair (Ty.int IntKind.i64) (Ty.int IntKind.i64))))))) (Ty.pair Ty.bool (Ty.pair (Ty.sl (nat_lit 3) (Ty.int IntKind.i64)) (Ty.sl (nat_lit 3) (Ty.int IntKind.i64)))))) y3 (Int.toNat y0)).2.1.2.1 (at_ (Ty.pair (Ty.int IntKind.i64) (Ty.pair (Ty.pair (Ty.int IntKind.i64) (Ty.pair (Ty.int IntKind.i64) (Ty.pair (Ty.int IntKind.i64) (Ty.pair (Ty.int IntKind.i64) (Ty.pair (Ty.int IntKind.i64) (Ty.pair (Ty.int IntKind.i64) (Ty.int IntKind.i64))))))) (Ty.pair Ty.bool (Ty.pair (Ty.sl (nat_lit 3) (Ty.int IntKind.i64)) (Ty.sl (nat_lit 3) (Ty.int IntKind.i64)))))) y3 (Int.toNat y0)).2.1.2.2.1 (at_ (Ty.pair (Ty.int IntKind.i64) (Ty.pair (Ty.pair (Ty.int IntKind.i64) (Ty.pair (Ty.int IntKind.i64) (Ty.pair (Ty.int IntKind.i64) (Ty.pair (Ty.int IntKind.i64) (Ty.pair (Ty.int IntKind.i64) (Ty.pair (Ty.int IntKind.i64) (Ty.int IntKind.i64))))))) (Ty.pair Ty.bool (Ty.pair (Ty.sl (nat_lit 3) (Ty.int IntKind.i64)) (Ty.sl (nat_lit 3) (Ty.int IntKind.i64)))))) y3 (Int.toNat y0)).2.1.2.2.2.1 (at_ (Ty.pair (Ty.int IntKind.i64) (Ty.pair (Ty.pair (Ty.int IntKind.i64) (Ty.pair (Ty.int IntKind.i64) (Ty.pair (Ty.int IntKind.i64) (Ty.pair (Ty.int IntKind.i64) (Ty.pair (Ty.int IntKind.i64) (Ty.pair (Ty.int IntKind.i64) (Ty.int IntKind.i64))))))) (Ty.pair Ty.bool (Ty.pair (Ty.sl (nat_lit 3) (Ty.int IntKind.i64)) (Ty.sl (nat_lit 3) (Ty.int IntKind.i64)))))) y3 (Int.toNat y0)).2.1.2.2.2.2.1 (at_ (Ty.pair (Ty.int IntKind.i64) (Ty.pair (Ty.pair (Ty.int IntKind.i64) (Ty.pair (Ty.int IntKind.i64) (Ty.pair (Ty.int IntKind.i64) (Ty.pair (Ty.int IntKind.i64) (Ty.pair (Ty.int IntKind.i64) (Ty.pair (Ty.int IntKind.i64) (Ty.int IntKind.i64))))))) (Ty.pair Ty.bool (Ty.pair (Ty.sl (nat_lit 3) (Ty.int IntKind.i64)) (Ty.sl (nat_lit 3) (Ty.int IntKind.i64)))))) y3 (Int.toNat y0)).2.1.2.2.2.2.2.1 (at_ (Ty.pair (Ty.int IntKind.i64) (Ty.pair (Ty.pair (Ty.int IntKind.i64) (Ty.pair (Ty.int IntKind.i64) (Ty.pair (Ty.int IntKind.i64) (Ty.pair (Ty.int IntKind.i64) (Ty.pair (Ty.int IntKind.i64) (Ty.pair (Ty.int IntKind.i64) (Ty.int IntKind.i64))))))) (Ty.pair Ty.bool (Ty.pair (Ty.sl (nat_lit 3) (Ty.int IntKind.i64)) (Ty.sl (nat_lit 3) (Ty.int IntKind.i64)))))) y3 (Int.toNat y0)).2.1.2.2.2.2.2.2) (.br (!g_Vs_OpOk_0 (at_ (Ty.pair (Ty.int IntKind.i64) (Ty.pair (Ty.pair (Ty.int IntKind.i64) (Ty.pair (Ty.int IntKind.i64) (Ty.pair (Ty.int IntKind.i64) (Ty.pair (Ty.int IntKind.i64) (Ty.pair (Ty.int IntKind.i64) (Ty.pair (Ty.int IntKind.i64) (Ty.int IntKind.i64))))))) (Ty.pair Ty.bool (Ty.pair (Ty.sl (nat_lit 3) (Ty.int IntKind.i64)) (Ty.sl (nat_lit 3) (Ty.int IntKind.i64)))))) y3 (Int.toNat y0)).2.1.1 (at_ (Ty.pair (Ty.int IntKind.i64) (Ty.pair (Ty.pair (Ty.int IntKind.i64) (Ty.pair (Ty.int IntKind.i64) (Ty.pair (Ty.int IntKind.i64) (Ty.pair (Ty.int IntKind.i64) (Ty.pair (Ty.int IntKind.i64) (Ty.pair (Ty.int IntKind.i64) (Ty.int IntKind.i64))))))) (Ty.pair Ty.bool (Ty.pair (Ty.sl (nat_lit 3) (Ty.int IntKind.i64)) (Ty.sl (nat_lit 3) (Ty.int IntKind.i64)))))) y3 (Int.toNat y0)).2.1.2.1 (at_ (Ty.pair (Ty.int IntKind.i64) (Ty.pair (Ty.pair (Ty.int IntKind.i64) (Ty.pair (Ty.int IntKind.i64) (Ty.pair (Ty.int IntKind.i64) (Ty.pair (Ty.int IntKind.i64) (Ty.pair (Ty.int IntKind.i64) (Ty.pair (Ty.int IntKind.i64) (Ty.int IntKind.i64))))))) (Ty.pair Ty.bool (Ty.pair (Ty.sl (nat_lit 3) (Ty.int IntKind.i64)) (Ty.sl (nat_lit 3) (Ty.int IntKind.i64)))))) y3 (Int.toNat y0)).2.1.2.2.1 (at_ (Ty.pair (Ty.int IntKind.i64) (Ty.pair (Ty.pair (Ty.int IntKind.i64) (Ty.pair (Ty.int IntKind.i64) (Ty.pair (Ty.int IntKind.i64) (Ty.pair (Ty.int IntKind.i64) (Ty.pair (Ty.int IntKind.i64) (Ty.pair (Ty.int IntKind.i64) (Ty.int IntKind.i64))))))) (Ty.pair Ty.bool (Ty.pair (Ty.sl (nat_lit 3) (Ty.int IntKind.i64)) (Ty.sl (nat_lit 3) (Ty.int IntKind.i64)))))) y3 (Int.toNat y0)).2.1.2.2.2.1 (at_ (Ty.pair (Ty.int IntKind.i64) (Ty.pair (Ty.pair (Ty.int IntKind.i64) (Ty.pair (Ty.int IntKind.i64) (Ty.pair (Ty.int IntKind.i64) (Ty.pair (Ty.int IntKind.i64) (Ty.pair (Ty.int IntKind.i64) (Ty.pair (Ty.int IntKind.i64) (Ty.int IntKind.i64))))))) (Ty.pair Ty.bool (Ty.pair (Ty.sl (nat_lit 3) (Ty.int IntKind.i64)) (Ty.sl (nat_lit 3) (Ty.int IntKind.i64)))))) y3 (Int.toNat y0)).2.1.2.2.2.2.1 (at_ (Ty.pair (Ty.int IntKind.i64) (Ty.pair (Ty.pair (Ty.int IntKind.i64) (Ty.pair (Ty.int IntKind.i64) (Ty.pair (Ty.int IntKind.i64) (Ty.pair (Ty.int IntKind.i64) (Ty.pair (Ty.int IntKind.i64) (Ty.pair (Ty.int IntKind.i64) (Ty.int IntKind.i64))))))) (Ty.pair Ty.bool (Ty.pair (Ty.sl (nat_lit 3) (Ty.int IntKind.i64)) (Ty.sl (nat_lit 3) (Ty.int IntKind.i64)))))) y3 (Int.toNat y0)).2.1.2.2.2.2.2.1 (at_ (Ty.pair (Ty.int IntKind.i64) (Ty.pair (Ty.pair (Ty.int IntKind.i64) (Ty.pair (Ty.int IntKind.i64) (Ty.pair (Ty.int IntKind.i64) (Ty.pair (Ty.int IntKind.i64) (Ty.pair (Ty.int IntKind.i64) (Ty.pair (Ty.int IntKind.i64) (Ty.int IntKind.i64))))))) (Ty.pair Ty.bool (Ty.pair (Ty.sl (nat_lit 3) (Ty.int IntKind.i64)) (Ty.sl (nat_lit 3) (Ty.int IntKind.i64)))))) y3 (Int.toNat y0)).2.1.2.2.2.2.2.2) (.out (.inl false)) (.br (true) (.br (decide ((↑(List.length (at_ (Ty.pair (Ty.int IntKind.i64) (Ty.pair (Ty.pair (Ty.int IntKind.i64) (Ty.pair (Ty.int IntKind.i64) (Ty.pair (Ty.int IntKind.i64) (Ty.pair (Ty.int IntKind.i64) (Ty.pair (Ty.int IntKind.i64) (Ty.pair (Ty.int IntKind.i64) (Ty.int IntKind.i64))))))) (Ty.pair Ty.bool (Ty.pair (Ty.sl (nat_lit 3) (Ty.int IntKind.i64)) (Ty.sl (nat_lit 3) (Ty.int IntKind.i64)))))) y3 (Int.toNat y0)).2.2.2.2):Int) > (0:Int))) (.out (.inl false)) (.br (true) (.go (IntKind.wrap IntKind.i64 (y0 + (1:Int)))) .bad)) .bad)) .bad) (.br (true) (.go (IntKind.wrap IntKind.i64 (y0 + (1:Int)))) .bad))) .bad) .bad)) .bad)) .bad)) .bad)) .bad) .bad) (.out (.inr (())))) .bad
noncomputable def g_Ls_FroOk_2 (y1:List (Int×(Int×((List ByteArray)×(List (ByteArray×(Bool×(List Int)))))))) (y2:Int) (y3:List (Int×((Int×(Int×(Int×(Int×(Int×(Int×Int))))))×(Bool×((List Int)×(List Int)))))) (x:Int):Option ((Bool) ⊕ (Unit)) := loopO (g_Ss_FroOk_2 y1 y2 y3) x
noncomputable def xs_FroOk_2 (y1:List (Int×(Int×((List ByteArray)×(List (ByteArray×(Bool×(List Int)))))))) (y2:Int) (y3:List (Int×((Int×(Int×(Int×(Int×(Int×(Int×Int))))))×(Bool×((List Int)×(List Int)))))):((Bool) ⊕ (Unit)) → Ex×List (Pl×LV) := fun
 | .inl r => (.ret,[(.T 2,.t (.val false [.bool r]))])
 | .inr (r) => (.exit 2,[(.T 2,.t (.val false [.undef]))])
noncomputable def Os_FroOk_2:Orc := fun b h => match b,h with
 | 2,[(.T 1,.t (.val false [.ptr 1 0 0])),(.T 4,.t (.val false [.int .i64 y0])),(.B 1,.b 0 false [.sl .any 45 (.pair (.int .i64) (.pair (.int .i64) (.pair (.sl 9 .str) (.sl 84 (.pair .str (.pair .bool (.sl 3 (.int .i64)))))))) y1,.int .i64 y2,.sl .any 50 (.pair (.int .i64) (.pair (.pair (.int .i64) (.pair (.int .i64) (.pair (.int .i64) (.pair (.int .i64) (.pair (.int .i64) (.pair (.int .i64) (.int .i64))))))) (.pair .bool (.pair (.sl 3 (.int .i64)) (.sl 3 (.int .i64)))))) y3])] => some (okO (g_Ls_FroOk_2 y1 y2 y3 y0),(.br (isL (valO (g_Ls_FroOk_2 y1 y2 y3 y0))) (.leaf .ret [(.T 2,.t (.val false [.bool (getL (valO (g_Ls_FroOk_2 y1 y2 y3 y0)))]))]) (.leaf (.exit 2) [(.T 2,.t (.val false [.undef]))])))
 | b,h => Os_FroOk_1 b h
theorem bs_FroOk_2 (y0:Int) (y1:List (Int×(Int×((List ByteArray)×(List (ByteArray×(Bool×(List Int)))))))) (y2:Int) (y3:List (Int×((Int×(Int×(Int×(Int×(Int×(Int×Int))))))×(Bool×((List Int)×(List Int)))))):Tr.bt Es_FroOk Os_FroOk_1 (exec Es_FroOk 2 cs_FroOk_2 (St.of (hs_FroOk_2 y0 y1 y2 y3)) (leafRd Es_FroOk 2)) = (g_Ss_FroOk_2 y1 y2 y3 y0).bt (fun (y0:Int) => (hs_FroOk_2 y0 y1 y2 y3)) (xs_FroOk_2 y1 y2 y3) := by kernel_rfl
theorem ks_FroOk_2:OrcOk Es_FroOk Os_FroOk_2 lss_FroOk 2 := orc_add ks_FroOk_1 (fun n p hp h ex h' ho => by
 obtain ⟨b,c⟩ := p
 obtain ⟨xt,h1,h2⟩ := ho
 have h1:Os_FroOk_2 b h = some (true,xt) := h1
 unfold Os_FroOk_2 at h1
 split at h1
 ·injection h1 with h1
  injection h1 with e1 e2
  subst e2
  have hc:c = cs_FroOk_2 := ms_FroOk_2 _ hp rfl
  subst hc
  right
  rename_i y0 y1 y2 y3
  have key := LT_step ks_FroOk_1 hp (fun q hq => loopsAll_in _ _ _ _ hp hq) (fun (y0:Int) => (hs_FroOk_2 y0 y1 y2 y3)) (xs_FroOk_2 y1 y2 y3) (g_Ss_FroOk_2 y1 y2 y3) (fun x => by first | exact bs_FroOk_2 x y1 y2 y3) n (x := y0) (okO_some e1)
  have hx:∀ r,XT.sel (.br (isL r) (.leaf .ret [(.T 2,.t (.val false [.bool (getL r)]))]) (.leaf (.exit 2) [(.T 2,.t (.val false [.undef]))])) = xs_FroOk_2 y1 y2 y3 r := fun r => by first | rfl | (rcases r with r | r <;> rfl) | (rcases r with r | r | r <;> rfl) | (rcases r with r | r | r | r <;> rfl)
  have h3 := (hx (valO (g_Ls_FroOk_2 y1 y2 y3 y0))).symm.trans h2
  have e3 := congrArg Prod.fst h3
  have e4 := congrArg Prod.snd h3
  simp only at e3 e4
  rw [← e3,← e4]
  exact key
 ·exact .inl ⟨xt,h1,h2⟩)
noncomputable def g_As_FroOk (a0:List (Int×(Int×((List ByteArray)×(List (ByteArray×(Bool×(List Int)))))))) (a1:Int) (a2:List (Int×((Int×(Int×(Int×(Int×(Int×(Int×Int))))))×(Bool×((List Int)×(List Int)))))):Bool := g_As_DiskOk a0 a1&&(!g_Vs_DiskOk_0 a0 a1 || (decide ((↑(List.length a2):Int) > (30:Int)) || okO (g_Ls_FroOk_0 a0 a1 a2 (0:Int))&&(isL (valO (g_Ls_FroOk_0 a0 a1 a2 (0:Int))) || okO (g_Ls_FroOk_2 a0 a1 a2 (0:Int)))))
noncomputable def g_Vs_FroOk_0 (a0:List (Int×(Int×((List ByteArray)×(List (ByteArray×(Bool×(List Int)))))))) (a1:Int) (a2:List (Int×((Int×(Int×(Int×(Int×(Int×(Int×Int))))))×(Bool×((List Int)×(List Int)))))):Bool := bif !g_Vs_DiskOk_0 a0 a1 then false else bif decide ((↑(List.length a2):Int) > (30:Int)) then false else bif isL (valO (g_Ls_FroOk_0 a0 a1 a2 (0:Int))) then getL (valO (g_Ls_FroOk_0 a0 a1 a2 (0:Int))) else bif isL (valO (g_Ls_FroOk_2 a0 a1 a2 (0:Int))) then getL (valO (g_Ls_FroOk_2 a0 a1 a2 (0:Int))) else true
noncomputable def Fs_FroOk:FSem := fun ys => match ys with
 | [.val true [.sl .any 45 (.pair (.int .i64) (.pair (.int .i64) (.pair (.sl 9 .str) (.sl 84 (.pair .str (.pair .bool (.sl 3 (.int .i64)))))))) a0,.int .i64 a1,.sl .any 50 (.pair (.int .i64) (.pair (.pair (.int .i64) (.pair (.int .i64) (.pair (.int .i64) (.pair (.int .i64) (.pair (.int .i64) (.pair (.int .i64) (.int .i64))))))) (.pair .bool (.pair (.sl 3 (.int .i64)) (.sl 3 (.int .i64)))))) a2]] => some ((g_As_FroOk a0 a1 a2),.val false [.bool (g_Vs_FroOk_0 a0 a1 a2)],[])
 | _ => none
theorem vs_FroOk (a0:List (Int×(Int×((List ByteArray)×(List (ByteArray×(Bool×(List Int)))))))) (a1:Int) (a2:List (Int×((Int×(Int×(Int×(Int×(Int×(Int×Int))))))×(Bool×((List Int)×(List Int)))))):collapseH .std Es_FroOk Os_FroOk_2 (execFn Es_FroOk Tryd.f5 mss_FroOk [.val true [.sl .any 45 (.pair (.int .i64) (.pair (.int .i64) (.pair (.sl 9 .str) (.sl 84 (.pair .str (.pair .bool (.sl 3 (.int .i64)))))))) a0,.int .i64 a1,.sl .any 50 (.pair (.int .i64) (.pair (.pair (.int .i64) (.pair (.int .i64) (.pair (.int .i64) (.pair (.int .i64) (.pair (.int .i64) (.pair (.int .i64) (.int .i64))))))) (.pair .bool (.pair (.sl 3 (.int .i64)) (.sl 3 (.int .i64)))))) a2]]) = some ((g_As_FroOk a0 a1 a2),.val false [.bool (g_Vs_FroOk_0 a0 a1 a2)],[]) := by kernel_rfl
theorem ss_FroOk:Sound Tryd.prog 5 mss_FroOk Fs_FroOk := by
 refine fn_gen goods_FroOk (by kernel_rfl) .std (fn := Tryd.f5) (c := (Tryd.f5.body.getD .skip)) (o := Os_FroOk_2) (k := 2) (by kernel_rfl) (by kernel_rfl) (by kernel_rfl) (by kernel_rfl) (by decide) ks_FroOk_2 ?_
 intro ys r outs h
 unfold Fs_FroOk at h
 split at h
 ·exact (vs_FroOk _ _ _).trans h
 ·cases h
noncomputable def Ew_eqIntS:Env where
 tt := mkTI Tryd.prog
 fn := fun _ => none
 bxf := fun _ => none
 mv := []
 keep := fun b => match b with
  | 0 => [(0,false),(1,false),(5,false)]
  | _ => []
 keepB := fun b => match b with
  | 0 => []
  | _ => []
 keepX := fun b => match b with
  | 0 => [(4,false)]
  | _ => []
 keepXB := fun b => match b with
  | 0 => []
  | _ => []
theorem goodFw_eqIntS:∀ f ms F,Ew_eqIntS.fn f = some (ms,F) → Sound Tryd.prog f ms F := fun f ms F h => by cases h
theorem goodBw_eqIntS:∀ f ms F,Ew_eqIntS.bxf f = some (ms,F) → SoundB Tryd.prog f ms F := fun f ms F h => by cases h
theorem goodw_eqIntS:Good Tryd.prog Ew_eqIntS := ⟨rfl,goodFw_eqIntS,goodBw_eqIntS⟩
noncomputable def Ow_eqIntS_0:Orc := fun _ _ => none
noncomputable def msw_eqIntS:List PM := [.rd,.rd]
noncomputable def lsw_eqIntS:List (Nat×Code) := loopsAll 0 (Tryd.f60.body.getD .skip)
noncomputable def cw_eqIntS_0:Code := (loopOf 0 (Tryd.f60.body.getD .skip)).getD .skip
theorem lseqw_eqIntS:lsw_eqIntS = [(0,cw_eqIntS_0)] := by kernel_rfl
theorem mw_eqIntS_0:∀ p,p ∈ lsw_eqIntS → p.1 = 0 → p.2 = cw_eqIntS_0 := by
 intro p hp
 rw [lseqw_eqIntS] at hp
 simp only [List.mem_cons,List.not_mem_nil,or_false] at hp
 subst hp; simp
theorem kw_eqIntS_0:OrcOk Ew_eqIntS Ow_eqIntS_0 lsw_eqIntS 0 := orcOk_none
noncomputable def hw_eqIntS_0 (y0:List Int) (y1:List Int) (y2:Int):List (Pl×LV) := [(.T 0,.t (.val false [.sl .any 3 (.int .i64) y0])),(.T 1,.t (.val false [.sl .any 3 (.int .i64) y1])),(.T 5,.t (.val false [.int .i64 y2]))]
noncomputable def g_Sw_eqIntS_0 (y0:List Int) (y1:List Int):(Int) → RT (Int) ((Bool) ⊕ (Unit))
 | y2 => .br (true) (.br (decide (y2 < (↑(List.length y0):Int))) (.br (decide ((0:Int) ≤ y2 ∧ y2 < (↑(List.length y0):Int))) (.br (decide ((0:Int) ≤ y2 ∧ y2 < (↑(List.length y1):Int))) (.br (true) (.br (at_ (Ty.int IntKind.i64) y0 (Int.toNat y2) != at_ (Ty.int IntKind.i64) y1 (Int.toNat y2)) (.out (.inl false)) (.br (true) (.go (IntKind.wrap IntKind.i64 (y2 + (1:Int)))) .bad)) .bad) .bad) .bad) (.out (.inr (())))) .bad
noncomputable def g_Lw_eqIntS_0 (y0:List Int) (y1:List Int) (x:Int):Option ((Bool) ⊕ (Unit)) := loopO (g_Sw_eqIntS_0 y0 y1) x
noncomputable def xw_eqIntS_0 (y0:List Int) (y1:List Int):((Bool) ⊕ (Unit)) → Ex×List (Pl×LV) := fun
 | .inl r => (.ret,[(.T 4,.t (.val false [.bool r]))])
 | .inr (r) => (.exit 0,[(.T 4,.t (.val false [.undef]))])
noncomputable def Ow_eqIntS_1:Orc := fun b h => match b,h with
 | 0,[(.T 0,.t (.val false [.sl .any 3 (.int .i64) y0])),(.T 1,.t (.val false [.sl .any 3 (.int .i64) y1])),(.T 5,.t (.val false [.int .i64 y2]))] => some (okO (g_Lw_eqIntS_0 y0 y1 y2),(.br (isL (valO (g_Lw_eqIntS_0 y0 y1 y2))) (.leaf .ret [(.T 4,.t (.val false [.bool (getL (valO (g_Lw_eqIntS_0 y0 y1 y2)))]))]) (.leaf (.exit 0) [(.T 4,.t (.val false [.undef]))])))
 | b,h => Ow_eqIntS_0 b h
theorem bw_eqIntS_0 (y0:List Int) (y1:List Int) (y2:Int):Tr.bt Ew_eqIntS Ow_eqIntS_0 (exec Ew_eqIntS 0 cw_eqIntS_0 (St.of (hw_eqIntS_0 y0 y1 y2)) (leafRd Ew_eqIntS 0)) = (g_Sw_eqIntS_0 y0 y1 y2).bt (fun (y2:Int) => (hw_eqIntS_0 y0 y1 y2)) (xw_eqIntS_0 y0 y1) := by kernel_rfl
theorem kw_eqIntS_1:OrcOk Ew_eqIntS Ow_eqIntS_1 lsw_eqIntS 1 := orc_add kw_eqIntS_0 (fun n p hp h ex h' ho => by
 obtain ⟨b,c⟩ := p
 obtain ⟨xt,h1,h2⟩ := ho
 have h1:Ow_eqIntS_1 b h = some (true,xt) := h1
 unfold Ow_eqIntS_1 at h1
 split at h1
 ·injection h1 with h1
  injection h1 with e1 e2
  subst e2
  have hc:c = cw_eqIntS_0 := mw_eqIntS_0 _ hp rfl
  subst hc
  right
  rename_i y0 y1 y2
  have key := LT_step kw_eqIntS_0 hp (fun q hq => loopsAll_in _ _ _ _ hp hq) (fun (y2:Int) => (hw_eqIntS_0 y0 y1 y2)) (xw_eqIntS_0 y0 y1) (g_Sw_eqIntS_0 y0 y1) (fun x => by first | exact bw_eqIntS_0 y0 y1 x) n (x := y2) (okO_some e1)
  have hx:∀ r,XT.sel (.br (isL r) (.leaf .ret [(.T 4,.t (.val false [.bool (getL r)]))]) (.leaf (.exit 0) [(.T 4,.t (.val false [.undef]))])) = xw_eqIntS_0 y0 y1 r := fun r => by first | rfl | (rcases r with r | r <;> rfl) | (rcases r with r | r | r <;> rfl) | (rcases r with r | r | r | r <;> rfl)
  have h3 := (hx (valO (g_Lw_eqIntS_0 y0 y1 y2))).symm.trans h2
  have e3 := congrArg Prod.fst h3
  have e4 := congrArg Prod.snd h3
  simp only at e3 e4
  rw [← e3,← e4]
  exact key
 ·exact .inl ⟨xt,h1,h2⟩)
noncomputable def g_Aw_eqIntS (a0:List Int) (a1:List Int):Bool := (↑(List.length a0):Int) != (↑(List.length a1):Int) || okO (g_Lw_eqIntS_0 a0 a1 (0:Int))
noncomputable def g_Vw_eqIntS_0 (a0:List Int) (a1:List Int):Bool := bif (↑(List.length a0):Int) != (↑(List.length a1):Int) then false else bif isL (valO (g_Lw_eqIntS_0 a0 a1 (0:Int))) then getL (valO (g_Lw_eqIntS_0 a0 a1 (0:Int))) else true
noncomputable def Fw_eqIntS:FSem := fun ys => match ys with
 | [.val false [.sl .any 3 (.int .i64) a0],.val false [.sl .any 3 (.int .i64) a1]] => some ((g_Aw_eqIntS a0 a1),.val false [.bool (g_Vw_eqIntS_0 a0 a1)],[])
 | _ => none
theorem vw_eqIntS (a0:List Int) (a1:List Int):collapseH .std Ew_eqIntS Ow_eqIntS_1 (execFn Ew_eqIntS Tryd.f60 msw_eqIntS [.val false [.sl .any 3 (.int .i64) a0],.val false [.sl .any 3 (.int .i64) a1]]) = some ((g_Aw_eqIntS a0 a1),.val false [.bool (g_Vw_eqIntS_0 a0 a1)],[]) := by kernel_rfl
theorem sw_eqIntS:Sound Tryd.prog 60 msw_eqIntS Fw_eqIntS := by
 refine fn_gen goodw_eqIntS (by kernel_rfl) .std (fn := Tryd.f60) (c := (Tryd.f60.body.getD .skip)) (o := Ow_eqIntS_1) (k := 1) (by kernel_rfl) (by kernel_rfl) (by kernel_rfl) (by kernel_rfl) (by decide) kw_eqIntS_1 ?_
 intro ys r outs h
 unfold Fw_eqIntS at h
 split at h
 ·exact (vw_eqIntS _ _).trans h
 ·cases h
noncomputable def Ew_eqOpOp:Env where
 tt := mkTI Tryd.prog
 fn := fun _ => none
 bxf := fun _ => none
 mv := []
 keep := fun _ => []
 keepB := fun _ => []
 keepX := fun _ => []
 keepXB := fun _ => []
theorem goodFw_eqOpOp:∀ f ms F,Ew_eqOpOp.fn f = some (ms,F) → Sound Tryd.prog f ms F := fun f ms F h => by cases h
theorem goodBw_eqOpOp:∀ f ms F,Ew_eqOpOp.bxf f = some (ms,F) → SoundB Tryd.prog f ms F := fun f ms F h => by cases h
theorem goodw_eqOpOp:Good Tryd.prog Ew_eqOpOp := ⟨rfl,goodFw_eqOpOp,goodBw_eqOpOp⟩
noncomputable def Ow_eqOpOp_0:Orc := fun _ _ => none
noncomputable def msw_eqOpOp:List PM := [.own,.own]
noncomputable def lsw_eqOpOp:List (Nat×Code) := loopsAll 0 (Tryd.f59.body.getD .skip)
theorem kw_eqOpOp_0:OrcOk Ew_eqOpOp Ow_eqOpOp_0 lsw_eqOpOp 0 := orcOk_none
noncomputable def g_Aw_eqOpOp (a0:Int) (a1:Int) (a2:Int) (a3:Int) (a4:Int) (a5:Int) (a6:Int) (a7:Int) (a8:Int) (a9:Int) (a10:Int) (a11:Int) (a12:Int) (a13:Int):Bool := a0 != a7 || (a1 != a8 || (a2 != a9 || (a3 != a10 || (a4 != a11 || (a5 != a12 || true)))))
noncomputable def g_Vw_eqOpOp_0 (a0:Int) (a1:Int) (a2:Int) (a3:Int) (a4:Int) (a5:Int) (a6:Int) (a7:Int) (a8:Int) (a9:Int) (a10:Int) (a11:Int) (a12:Int) (a13:Int):Bool := bif a0 != a7 then false else bif a1 != a8 then false else bif a2 != a9 then false else bif a3 != a10 then false else bif a4 != a11 then false else bif a5 != a12 then false else bif a6 != a13 then false else true
noncomputable def Fw_eqOpOp:FSem := fun ys => match ys with
 | [.val true [.int .i64 a0,.int .i64 a1,.int .i64 a2,.int .i64 a3,.int .i64 a4,.int .i64 a5,.int .i64 a6],.val true [.int .i64 a7,.int .i64 a8,.int .i64 a9,.int .i64 a10,.int .i64 a11,.int .i64 a12,.int .i64 a13]] => some ((g_Aw_eqOpOp a0 a1 a2 a3 a4 a5 a6 a7 a8 a9 a10 a11 a12 a13),.val false [.bool (g_Vw_eqOpOp_0 a0 a1 a2 a3 a4 a5 a6 a7 a8 a9 a10 a11 a12 a13)],[])
 | _ => none
theorem vw_eqOpOp (a0:Int) (a1:Int) (a2:Int) (a3:Int) (a4:Int) (a5:Int) (a6:Int) (a7:Int) (a8:Int) (a9:Int) (a10:Int) (a11:Int) (a12:Int) (a13:Int):collapseH .std Ew_eqOpOp Ow_eqOpOp_0 (execFn Ew_eqOpOp Tryd.f59 msw_eqOpOp [.val true [.int .i64 a0,.int .i64 a1,.int .i64 a2,.int .i64 a3,.int .i64 a4,.int .i64 a5,.int .i64 a6],.val true [.int .i64 a7,.int .i64 a8,.int .i64 a9,.int .i64 a10,.int .i64 a11,.int .i64 a12,.int .i64 a13]]) = some ((g_Aw_eqOpOp a0 a1 a2 a3 a4 a5 a6 a7 a8 a9 a10 a11 a12 a13),.val false [.bool (g_Vw_eqOpOp_0 a0 a1 a2 a3 a4 a5 a6 a7 a8 a9 a10 a11 a12 a13)],[]) := by kernel_rfl
theorem sw_eqOpOp:Sound Tryd.prog 59 msw_eqOpOp Fw_eqOpOp := by
 refine fn_gen goodw_eqOpOp (by kernel_rfl) .std (fn := Tryd.f59) (c := (Tryd.f59.body.getD .skip)) (o := Ow_eqOpOp_0) (k := 0) (by kernel_rfl) (by kernel_rfl) (by kernel_rfl) (by kernel_rfl) (by decide) kw_eqOpOp_0 ?_
 intro ys r outs h
 unfold Fw_eqOpOp at h
 split at h
 ·exact (vw_eqOpOp _ _ _ _ _ _ _ _ _ _ _ _ _ _).trans h
 ·cases h
noncomputable def Ew_eqFroTx:Env where
 tt := mkTI Tryd.prog
 fn := fun f => match f with
  | 59 => some (msw_eqOpOp,FSem.wk msw_eqOpOp Fw_eqOpOp)
  | 60 => some (msw_eqIntS,FSem.wk msw_eqIntS Fw_eqIntS)
  | _ => none
 bxf := fun _ => none
 mv := []
 keep := fun _ => []
 keepB := fun _ => []
 keepX := fun _ => []
 keepXB := fun _ => []
theorem goodFw_eqFroTx:∀ f ms F,Ew_eqFroTx.fn f = some (ms,F) → Sound Tryd.prog f ms F := fun f ms F h => by
 unfold Ew_eqFroTx at h
 dsimp only at h
 split at h
 ·injection h with h; injection h with e1 e2; subst e1 e2; exact Sound.wk sw_eqOpOp
 ·injection h with h; injection h with e1 e2; subst e1 e2; exact Sound.wk sw_eqIntS
 ·cases h
theorem goodBw_eqFroTx:∀ f ms F,Ew_eqFroTx.bxf f = some (ms,F) → SoundB Tryd.prog f ms F := fun f ms F h => by cases h
theorem goodw_eqFroTx:Good Tryd.prog Ew_eqFroTx := ⟨rfl,goodFw_eqFroTx,goodBw_eqFroTx⟩
noncomputable def Ow_eqFroTx_0:Orc := fun _ _ => none
noncomputable def msw_eqFroTx:List PM := [.rd,.rd]
noncomputable def lsw_eqFroTx:List (Nat×Code) := loopsAll 0 (Tryd.f41.body.getD .skip)
theorem kw_eqFroTx_0:OrcOk Ew_eqFroTx Ow_eqFroTx_0 lsw_eqFroTx 0 := orcOk_none
noncomputable def g_Aw_eqFroTx (a0:Int) (a1:Int) (a2:Int) (a3:Int) (a4:Int) (a5:Int) (a6:Int) (a7:Int) (a8:Bool) (a9:List Int) (a10:List Int) (a11:Int) (a12:Int) (a13:Int) (a14:Int) (a15:Int) (a16:Int) (a17:Int) (a18:Int) (a19:Bool) (a20:List Int) (a21:List Int):Bool := a0 != a11 || g_Aw_eqOpOp a1 a2 a3 a4 a5 a6 a7 a12 a13 a14 a15 a16 a17 a18&&(!g_Vw_eqOpOp_0 a1 a2 a3 a4 a5 a6 a7 a12 a13 a14 a15 a16 a17 a18 || (!a8 == a19 || g_Aw_eqIntS a9 a20&&(!g_Vw_eqIntS_0 a9 a20 || g_Aw_eqIntS a10 a21)))
noncomputable def g_Vw_eqFroTx_0 (a0:Int) (a1:Int) (a2:Int) (a3:Int) (a4:Int) (a5:Int) (a6:Int) (a7:Int) (a8:Bool) (a9:List Int) (a10:List Int) (a11:Int) (a12:Int) (a13:Int) (a14:Int) (a15:Int) (a16:Int) (a17:Int) (a18:Int) (a19:Bool) (a20:List Int) (a21:List Int):Bool := bif a0 != a11 then false else bif !g_Vw_eqOpOp_0 a1 a2 a3 a4 a5 a6 a7 a12 a13 a14 a15 a16 a17 a18 then false else bif !a8 == a19 then false else bif !g_Vw_eqIntS_0 a9 a20 then false else bif !g_Vw_eqIntS_0 a10 a21 then false else true
noncomputable def Fw_eqFroTx:FSem := fun ys => match ys with
 | [.val true [.int .i64 a0,.int .i64 a1,.int .i64 a2,.int .i64 a3,.int .i64 a4,.int .i64 a5,.int .i64 a6,.int .i64 a7,.bool a8,.sl .any 3 (.int .i64) a9,.sl .any 3 (.int .i64) a10],.val true [.int .i64 a11,.int .i64 a12,.int .i64 a13,.int .i64 a14,.int .i64 a15,.int .i64 a16,.int .i64 a17,.int .i64 a18,.bool a19,.sl .any 3 (.int .i64) a20,.sl .any 3 (.int .i64) a21]] => some ((g_Aw_eqFroTx a0 a1 a2 a3 a4 a5 a6 a7 a8 a9 a10 a11 a12 a13 a14 a15 a16 a17 a18 a19 a20 a21),.val false [.bool (g_Vw_eqFroTx_0 a0 a1 a2 a3 a4 a5 a6 a7 a8 a9 a10 a11 a12 a13 a14 a15 a16 a17 a18 a19 a20 a21)],[])
 | _ => none
theorem vw_eqFroTx (a0:Int) (a1:Int) (a2:Int) (a3:Int) (a4:Int) (a5:Int) (a6:Int) (a7:Int) (a8:Bool) (a9:List Int) (a10:List Int) (a11:Int) (a12:Int) (a13:Int) (a14:Int) (a15:Int) (a16:Int) (a17:Int) (a18:Int) (a19:Bool) (a20:List Int) (a21:List Int):collapseH .std Ew_eqFroTx Ow_eqFroTx_0 (execFn Ew_eqFroTx Tryd.f41 msw_eqFroTx [.val true [.int .i64 a0,.int .i64 a1,.int .i64 a2,.int .i64 a3,.int .i64 a4,.int .i64 a5,.int .i64 a6,.int .i64 a7,.bool a8,.sl .any 3 (.int .i64) a9,.sl .any 3 (.int .i64) a10],.val true [.int .i64 a11,.int .i64 a12,.int .i64 a13,.int .i64 a14,.int .i64 a15,.int .i64 a16,.int .i64 a17,.int .i64 a18,.bool a19,.sl .any 3 (.int .i64) a20,.sl .any 3 (.int .i64) a21]]) = some ((g_Aw_eqFroTx a0 a1 a2 a3 a4 a5 a6 a7 a8 a9 a10 a11 a12 a13 a14 a15 a16 a17 a18 a19 a20 a21),.val false [.bool (g_Vw_eqFroTx_0 a0 a1 a2 a3 a4 a5 a6 a7 a8 a9 a10 a11 a12 a13 a14 a15 a16 a17 a18 a19 a20 a21)],[]) := by kernel_rfl
theorem sw_eqFroTx:Sound Tryd.prog 41 msw_eqFroTx Fw_eqFroTx := by
 refine fn_gen goodw_eqFroTx (by kernel_rfl) .std (fn := Tryd.f41) (c := (Tryd.f41.body.getD .skip)) (o := Ow_eqFroTx_0) (k := 0) (by kernel_rfl) (by kernel_rfl) (by kernel_rfl) (by kernel_rfl) (by decide) kw_eqFroTx_0 ?_
 intro ys r outs h
 unfold Fw_eqFroTx at h
 split at h
 ·exact (vw_eqFroTx _ _ _ _ _ _ _ _ _ _ _ _ _ _ _ _ _ _ _ _ _ _).trans h
 ·cases h
noncomputable def Ew_eqFroTxS:Env where
 tt := mkTI Tryd.prog
 fn := fun f => match f with
  | 41 => some (msw_eqFroTx,FSem.wk msw_eqFroTx Fw_eqFroTx)
  | _ => none
 bxf := fun _ => none
 mv := []
 keep := fun b => match b with
  | 0 => [(0,false),(1,false),(5,false)]
  | _ => []
 keepB := fun b => match b with
  | 0 => []
  | _ => []
 keepX := fun b => match b with
  | 0 => [(4,false)]
  | _ => []
 keepXB := fun b => match b with
  | 0 => []
  | _ => []
theorem goodFw_eqFroTxS:∀ f ms F,Ew_eqFroTxS.fn f = some (ms,F) → Sound Tryd.prog f ms F := fun f ms F h => by
 unfold Ew_eqFroTxS at h
 dsimp only at h
 split at h
 ·injection h with h; injection h with e1 e2; subst e1 e2; exact Sound.wk sw_eqFroTx
 ·cases h
theorem goodBw_eqFroTxS:∀ f ms F,Ew_eqFroTxS.bxf f = some (ms,F) → SoundB Tryd.prog f ms F := fun f ms F h => by cases h
theorem goodw_eqFroTxS:Good Tryd.prog Ew_eqFroTxS := ⟨rfl,goodFw_eqFroTxS,goodBw_eqFroTxS⟩
noncomputable def Ow_eqFroTxS_0:Orc := fun _ _ => none
noncomputable def msw_eqFroTxS:List PM := [.rd,.rd]
noncomputable def lsw_eqFroTxS:List (Nat×Code) := loopsAll 0 (Tryd.f26.body.getD .skip)
noncomputable def cw_eqFroTxS_0:Code := (loopOf 0 (Tryd.f26.body.getD .skip)).getD .skip
theorem lseqw_eqFroTxS:lsw_eqFroTxS = [(0,cw_eqFroTxS_0)] := by kernel_rfl
theorem mw_eqFroTxS_0:∀ p,p ∈ lsw_eqFroTxS → p.1 = 0 → p.2 = cw_eqFroTxS_0 := by
 intro p hp
 rw [lseqw_eqFroTxS] at hp
 simp only [List.mem_cons,List.not_mem_nil,or_false] at hp
 subst hp; simp
theorem kw_eqFroTxS_0:OrcOk Ew_eqFroTxS Ow_eqFroTxS_0 lsw_eqFroTxS 0 := orcOk_none
noncomputable def hw_eqFroTxS_0 (y0:List (Int×((Int×(Int×(Int×(Int×(Int×(Int×Int))))))×(Bool×((List Int)×(List Int)))))) (y1:List (Int×((Int×(Int×(Int×(Int×(Int×(Int×Int))))))×(Bool×((List Int)×(List Int)))))) (y2:Int):List (Pl×LV) := [(.T 0,.t (.val false [.sl .any 50 (.pair (.int .i64) (.pair (.pair (.int .i64) (.pair (.int .i64) (.pair (.int .i64) (.pair (.int .i64) (.pair (.int .i64) (.pair (.int .i64) (.int .i64))))))) (.pair .bool (.pair (.sl 3 (.int .i64)) (.sl 3 (.int .i64)))))) y0])),(.T 1,.t (.val false [.sl .any 50 (.pair (.int .i64) (.pair (.pair (.int .i64) (.pair (.int .i64) (.pair (.int .i64) (.pair (.int .i64) (.pair (.int .i64) (.pair (.int .i64) (.int .i64))))))) (.pair .bool (.pair (.sl 3 (.int .i64)) (.sl 3 (.int .i64)))))) y1])),(.T 5,.t (.val false [.int .i64 y2]))]
noncomputable def g_Sw_eqFroTxS_0 (y0:List (Int×((Int×(Int×(Int×(Int×(Int×(Int×Int))))))×(Bool×((List Int)×(List Int)))))) (y1:List (Int×((Int×(Int×(Int×(Int×(Int×(Int×Int))))))×(Bool×((List Int)×(List Int)))))):(Int) → RT (Int) ((Bool) ⊕ (Unit))
 | y2 => .br (true) (.br (decide (y2 < (↑(List.length y0):Int))) (.br (decide ((0:Int) ≤ y2 ∧ y2 < (↑(List.length y0):Int))) (.br (decide ((0:Int) ≤ y2 ∧ y2 < (↑(List.length y1):Int))) (.br (g_Aw_eqFroTx (at_ (Ty.pair (Ty.int IntKind.i64) (Ty.pair (Ty.pair (Ty.int IntKind.i64) (Ty.pair (Ty.int IntKind.i64) (Ty.pair (Ty.int IntKind.i64) (Ty.pair (Ty.int IntKind.i64) (Ty.pair (Ty.int IntKind.i64) (Ty.pair (Ty.int IntKind.i64) (Ty.int IntKind.i64))))))) (Ty.pair Ty.bool (Ty.pair (Ty.sl (nat_lit 3) (Ty.int IntKind.i64)) (Ty.sl (nat_lit 3) (Ty.int IntKind.i64)))))) y0 (Int.toNat y2)).1 (at_ (Ty.pair (Ty.int IntKind.i64) (Ty.pair (Ty.pair (Ty.int IntKind.i64) (Ty.pair (Ty.int IntKind.i64) (Ty.pair (Ty.int IntKind.i64) (Ty.pair (Ty.int IntKind.i64) (Ty.pair (Ty.int IntKind.i64) (Ty.pair (Ty.int IntKind.i64) (Ty.int IntKind.i64))))))) (Ty.pair Ty.bool (Ty.pair (Ty.sl (nat_lit 3) (Ty.int IntKind.i64)) (Ty.sl (nat_lit 3) (Ty.int IntKind.i64)))))) y0 (Int.toNat y2)).2.1.1 (at_ (Ty.pair (Ty.int IntKind.i64) (Ty.pair (Ty.pair (Ty.int IntKind.i64) (Ty.pair (Ty.int IntKind.i64) (Ty.pair (Ty.int IntKind.i64) (Ty.pair (Ty.int IntKind.i64) (Ty.pair (Ty.int IntKind.i64) (Ty.pair (Ty.int IntKind.i64) (Ty.int IntKind.i64))))))) (Ty.pair Ty.bool (Ty.pair (Ty.sl (nat_lit 3) (Ty.int IntKind.i64)) (Ty.sl (nat_lit 3) (Ty.int IntKind.i64)))))) y0 (Int.toNat y2)).2.1.2.1 (at_ (Ty.pair (Ty.int IntKind.i64) (Ty.pair (Ty.pair (Ty.int IntKind.i64) (Ty.pair (Ty.int IntKind.i64) (Ty.pair (Ty.int IntKind.i64) (Ty.pair (Ty.int IntKind.i64) (Ty.pair (Ty.int IntKind.i64) (Ty.pair (Ty.int IntKind.i64) (Ty.int IntKind.i64))))))) (Ty.pair Ty.bool (Ty.pair (Ty.sl (nat_lit 3) (Ty.int IntKind.i64)) (Ty.sl (nat_lit 3) (Ty.int IntKind.i64)))))) y0 (Int.toNat y2)).2.1.2.2.1 (at_ (Ty.pair (Ty.int IntKind.i64) (Ty.pair (Ty.pair (Ty.int IntKind.i64) (Ty.pair (Ty.int IntKind.i64) (Ty.pair (Ty.int IntKind.i64) (Ty.pair (Ty.int IntKind.i64) (Ty.pair (Ty.int IntKind.i64) (Ty.pair (Ty.int IntKind.i64) (Ty.int IntKind.i64))))))) (Ty.pair Ty.bool (Ty.pair (Ty.sl (nat_lit 3) (Ty.int IntKind.i64)) (Ty.sl (nat_lit 3) (Ty.int IntKind.i64)))))) y0 (Int.toNat y2)).2.1.2.2.2.1 (at_ (Ty.pair (Ty.int IntKind.i64) (Ty.pair (Ty.pair (Ty.int IntKind.i64) (Ty.pair (Ty.int IntKind.i64) (Ty.pair (Ty.int IntKind.i64) (Ty.pair (Ty.int IntKind.i64) (Ty.pair (Ty.int IntKind.i64) (Ty.pair (Ty.int IntKind.i64) (Ty.int IntKind.i64))))))) (Ty.pair Ty.bool (Ty.pair (Ty.sl (nat_lit 3) (Ty.int IntKind.i64)) (Ty.sl (nat_lit 3) (Ty.int IntKind.i64)))))) y0 (Int.toNat y2)).2.1.2.2.2.2.1 (at_ (Ty.pair (Ty.int IntKind.i64) (Ty.pair (Ty.pair (Ty.int IntKind.i64) (Ty.pair (Ty.int IntKind.i64) (Ty.pair (Ty.int IntKind.i64) (Ty.pair (Ty.int IntKind.i64) (Ty.pair (Ty.int IntKind.i64) (Ty.pair (Ty.int IntKind.i64) (Ty.int IntKind.i64))))))) (Ty.pair Ty.bool (Ty.pair (Ty.sl (nat_lit 3) (Ty.int IntKind.i64)) (Ty.sl (nat_lit 3) (Ty.int IntKind.i64)))))) y0 (Int.toNat y2)).2.1.2.2.2.2.2.1 (at_ (Ty.pair (Ty.int IntKind.i64) (Ty.pair (Ty.pair (Ty.int IntKind.i64) (Ty.pair (Ty.int IntKind.i64) (Ty.pair (Ty.int IntKind.i64) (Ty.pair (Ty.int IntKind.i64) (Ty.pair (Ty.int IntKind.i64) (Ty.pair (Ty.int IntKind.i64) (Ty.int IntKind.i64))))))) (Ty.pair Ty.bool (Ty.pair (Ty.sl (nat_lit 3) (Ty.int IntKind.i64)) (Ty.sl (nat_lit 3) (Ty.int IntKind.i64)))))) y0 (Int.toNat y2)).2.1.2.2.2.2.2.2 (at_ (Ty.pair (Ty.int IntKind.i64) (Ty.pair (Ty.pair (Ty.int IntKind.i64) (Ty.pair (Ty.int IntKind.i64) (Ty.pair (Ty.int IntKind.i64) (Ty.pair (Ty.int IntKind.i64) (Ty.pair (Ty.int IntKind.i64) (Ty.pair (Ty.int IntKind.i64) (Ty.int IntKind.i64))))))) (Ty.pair Ty.bool (Ty.pair (Ty.sl (nat_lit 3) (Ty.int IntKind.i64)) (Ty.sl (nat_lit 3) (Ty.int IntKind.i64)))))) y0 (Int.toNat y2)).2.2.1 (at_ (Ty.pair (Ty.int IntKind.i64) (Ty.pair (Ty.pair (Ty.int IntKind.i64) (Ty.pair (Ty.int IntKind.i64) (Ty.pair (Ty.int IntKind.i64) (Ty.pair (Ty.int IntKind.i64) (Ty.pair (Ty.int IntKind.i64) (Ty.pair (Ty.int IntKind.i64) (Ty.int IntKind.i64))))))) (Ty.pair Ty.bool (Ty.pair (Ty.sl (nat_lit 3) (Ty.int IntKind.i64)) (Ty.sl (nat_lit 3) (Ty.int IntKind.i64)))))) y0 (Int.toNat y2)).2.2.2.1 (at_ (Ty.pair (Ty.int IntKind.i64) (Ty.pair (Ty.pair (Ty.int IntKind.i64) (Ty.pair (Ty.int IntKind.i64) (Ty.pair (Ty.int IntKind.i64) (Ty.pair (Ty.int IntKind.i64) (Ty.pair (Ty.int IntKind.i64) (Ty.pair (Ty.int IntKind.i64) (Ty.int IntKind.i64))))))) (Ty.pair Ty.bool (Ty.pair (Ty.sl (nat_lit 3) (Ty.int IntKind.i64)) (Ty.sl (nat_lit 3) (Ty.int IntKind.i64)))))) y0 (Int.toNat y2)).2.2.2.2 (at_ (Ty.pair (Ty.int IntKind.i64) (Ty.pair (Ty.pair (Ty.int IntKind.i64) (Ty.pair (Ty.int IntKind.i64) (Ty.pair (Ty.int IntKind.i64) (Ty.pair (Ty.int IntKind.i64) (Ty.pair (Ty.int IntKind.i64) (Ty.pair (Ty.int IntKind.i64) (Ty.int IntKind.i64))))))) (Ty.pair Ty.bool (Ty.pair (Ty.sl (nat_lit 3) (Ty.int IntKind.i64)) (Ty.sl (nat_lit 3) (Ty.int IntKind.i64)))))) y1 (Int.toNat y2)).1 (at_ (Ty.pair (Ty.int IntKind.i64) (Ty.pair (Ty.pair (Ty.int IntKind.i64) (Ty.pair (Ty.int IntKind.i64) (Ty.pair (Ty.int IntKind.i64) (Ty.pair (Ty.int IntKind.i64) (Ty.pair (Ty.int IntKind.i64) (Ty.pair (Ty.int IntKind.i64) (Ty.int IntKind.i64))))))) (Ty.pair Ty.bool (Ty.pair (Ty.sl (nat_lit 3) (Ty.int IntKind.i64)) (Ty.sl (nat_lit 3) (Ty.int IntKind.i64)))))) y1 (Int.toNat y2)).2.1.1 (at_ (Ty.pair (Ty.int IntKind.i64) (Ty.pair (Ty.pair (Ty.int IntKind.i64) (Ty.pair (Ty.int IntKind.i64) (Ty.pair (Ty.int IntKind.i64) (Ty.pair (Ty.int IntKind.i64) (Ty.pair (Ty.int IntKind.i64) (Ty.pair (Ty.int IntKind.i64) (Ty.int IntKind.i64))))))) (Ty.pair Ty.bool (Ty.pair (Ty.sl (nat_lit 3) (Ty.int IntKind.i64)) (Ty.sl (nat_lit 3) (Ty.int IntKind.i64)))))) y1 (Int.toNat y2)).2.1.2.1 (at_ (Ty.pair (Ty.int IntKind.i64) (Ty.pair (Ty.pair (Ty.int IntKind.i64) (Ty.pair (Ty.int IntKind.i64) (Ty.pair (Ty.int IntKind.i64) (Ty.pair (Ty.int IntKind.i64) (Ty.pair (Ty.int IntKind.i64) (Ty.pair (Ty.int IntKind.i64) (Ty.int IntKind.i64))))))) (Ty.pair Ty.bool (Ty.pair (Ty.sl (nat_lit 3) (Ty.int IntKind.i64)) (Ty.sl (nat_lit 3) (Ty.int IntKind.i64)))))) y1 (Int.toNat y2)).2.1.2.2.1 (at_ (Ty.pair (Ty.int IntKind.i64) (Ty.pair (Ty.pair (Ty.int IntKind.i64) (Ty.pair (Ty.int IntKind.i64) (Ty.pair (Ty.int IntKind.i64) (Ty.pair (Ty.int IntKind.i64) (Ty.pair (Ty.int IntKind.i64) (Ty.pair (Ty.int IntKind.i64) (Ty.int IntKind.i64))))))) (Ty.pair Ty.bool (Ty.pair (Ty.sl (nat_lit 3) (Ty.int IntKind.i64)) (Ty.sl (nat_lit 3) (Ty.int IntKind.i64)))))) y1 (Int.toNat y2)).2.1.2.2.2.1 (at_ (Ty.pair (Ty.int IntKind.i64) (Ty.pair (Ty.pair (Ty.int IntKind.i64) (Ty.pair (Ty.int IntKind.i64) (Ty.pair (Ty.int IntKind.i64) (Ty.pair (Ty.int IntKind.i64) (Ty.pair (Ty.int IntKind.i64) (Ty.pair (Ty.int IntKind.i64) (Ty.int IntKind.i64))))))) (Ty.pair Ty.bool (Ty.pair (Ty.sl (nat_lit 3) (Ty.int IntKind.i64)) (Ty.sl (nat_lit 3) (Ty.int IntKind.i64)))))) y1 (Int.toNat y2)).2.1.2.2.2.2.1 (at_ (Ty.pair (Ty.int IntKind.i64) (Ty.pair (Ty.pair (Ty.int IntKind.i64) (Ty.pair (Ty.int IntKind.i64) (Ty.pair (Ty.int IntKind.i64) (Ty.pair (Ty.int IntKind.i64) (Ty.pair (Ty.int IntKind.i64) (Ty.pair (Ty.int IntKind.i64) (Ty.int IntKind.i64))))))) (Ty.pair Ty.bool (Ty.pair (Ty.sl (nat_lit 3) (Ty.int IntKind.i64)) (Ty.sl (nat_lit 3) (Ty.int IntKind.i64)))))) y1 (Int.toNat y2)).2.1.2.2.2.2.2.1 (at_ (Ty.pair (Ty.int IntKind.i64) (Ty.pair (Ty.pair (Ty.int IntKind.i64) (Ty.pair (Ty.int IntKind.i64) (Ty.pair (Ty.int IntKind.i64) (Ty.pair (Ty.int IntKind.i64) (Ty.pair (Ty.int IntKind.i64) (Ty.pair (Ty.int IntKind.i64) (Ty.int IntKind.i64))))))) (Ty.pair Ty.bool (Ty.pair (Ty.sl (nat_lit 3) (Ty.int IntKind.i64)) (Ty.sl (nat_lit 3) (Ty.int IntKind.i64)))))) y1 (Int.toNat y2)).2.1.2.2.2.2.2.2 (at_ (Ty.pair (Ty.int IntKind.i64) (Ty.pair (Ty.pair (Ty.int IntKind.i64) (Ty.pair (Ty.int IntKind.i64) (Ty.pair (Ty.int IntKind.i64) (Ty.pair (Ty.int IntKind.i64) (Ty.pair (Ty.int IntKind.i64) (Ty.pair (Ty.int IntKind.i64) (Ty.int IntKind.i64))))))) (Ty.pair Ty.bool (Ty.pair (Ty.sl (nat_lit 3) (Ty.int IntKind.i64)) (Ty.sl (nat_lit 3) (Ty.int IntKind.i64)))))) y1 (Int.toNat y2)).2.2.1 (at_ (Ty.pair (Ty.int IntKind.i64) (Ty.pair (Ty.pair (Ty.int IntKind.i64) (Ty.pair (Ty.int IntKind.i64) (Ty.pair (Ty.int IntKind.i64) (Ty.pair (Ty.int IntKind.i64) (Ty.pair (Ty.int IntKind.i64) (Ty.pair (Ty.int IntKind.i64) (Ty.int IntKind.i64))))))) (Ty.pair Ty.bool (Ty.pair (Ty.sl (nat_lit 3) (Ty.int IntKind.i64)) (Ty.sl (nat_lit 3) (Ty.int IntKind.i64)))))) y1 (Int.toNat y2)).2.2.2.1 (at_ (Ty.pair (Ty.int IntKind.i64) (Ty.pair (Ty.pair (Ty.int IntKind.i64) (Ty.pair (Ty.int IntKind.i64) (Ty.pair (Ty.int IntKind.i64) (Ty.pair (Ty.int IntKind.i64) (Ty.pair (Ty.int IntKind.i64) (Ty.pair (Ty.int IntKind.i64) (Ty.int IntKind.i64))))))) (Ty.pair Ty.bool (Ty.pair (Ty.sl (nat_lit 3) (Ty.int IntKind.i64)) (Ty.sl (nat_lit 3) (Ty.int IntKind.i64)))))) y1 (Int.toNat y2)).2.2.2.2) (.br (!g_Vw_eqFroTx_0 (at_ (Ty.pair (Ty.int IntKind.i64) (Ty.pair (Ty.pair (Ty.int IntKind.i64) (Ty.pair (Ty.int IntKind.i64) (Ty.pair (Ty.int IntKind.i64) (Ty.pair (Ty.int IntKind.i64) (Ty.pair (Ty.int IntKind.i64) (Ty.pair (Ty.int IntKind.i64) (Ty.int IntKind.i64))))))) (Ty.pair Ty.bool (Ty.pair (Ty.sl (nat_lit 3) (Ty.int IntKind.i64)) (Ty.sl (nat_lit 3) (Ty.int IntKind.i64)))))) y0 (Int.toNat y2)).1 (at_ (Ty.pair (Ty.int IntKind.i64) (Ty.pair (Ty.pair (Ty.int IntKind.i64) (Ty.pair (Ty.int IntKind.i64) (Ty.pair (Ty.int IntKind.i64) (Ty.pair (Ty.int IntKind.i64) (Ty.pair (Ty.int IntKind.i64) (Ty.pair (Ty.int IntKind.i64) (Ty.int IntKind.i64))))))) (Ty.pair Ty.bool (Ty.pair (Ty.sl (nat_lit 3) (Ty.int IntKind.i64)) (Ty.sl (nat_lit 3) (Ty.int IntKind.i64)))))) y0 (Int.toNat y2)).2.1.1 (at_ (Ty.pair (Ty.int IntKind.i64) (Ty.pair (Ty.pair (Ty.int IntKind.i64) (Ty.pair (Ty.int IntKind.i64) (Ty.pair (Ty.int IntKind.i64) (Ty.pair (Ty.int IntKind.i64) (Ty.pair (Ty.int IntKind.i64) (Ty.pair (Ty.int IntKind.i64) (Ty.int IntKind.i64))))))) (Ty.pair Ty.bool (Ty.pair (Ty.sl (nat_lit 3) (Ty.int IntKind.i64)) (Ty.sl (nat_lit 3) (Ty.int IntKind.i64)))))) y0 (Int.toNat y2)).2.1.2.1 (at_ (Ty.pair (Ty.int IntKind.i64) (Ty.pair (Ty.pair (Ty.int IntKind.i64) (Ty.pair (Ty.int IntKind.i64) (Ty.pair (Ty.int IntKind.i64) (Ty.pair (Ty.int IntKind.i64) (Ty.pair (Ty.int IntKind.i64) (Ty.pair (Ty.int IntKind.i64) (Ty.int IntKind.i64))))))) (Ty.pair Ty.bool (Ty.pair (Ty.sl (nat_lit 3) (Ty.int IntKind.i64)) (Ty.sl (nat_lit 3) (Ty.int IntKind.i64)))))) y0 (Int.toNat y2)).2.1.2.2.1 (at_ (Ty.pair (Ty.int IntKind.i64) (Ty.pair (Ty.pair (Ty.int IntKind.i64) (Ty.pair (Ty.int IntKind.i64) (Ty.pair (Ty.int IntKind.i64) (Ty.pair (Ty.int IntKind.i64) (Ty.pair (Ty.int IntKind.i64) (Ty.pair (Ty.int IntKind.i64) (Ty.int IntKind.i64))))))) (Ty.pair Ty.bool (Ty.pair (Ty.sl (nat_lit 3) (Ty.int IntKind.i64)) (Ty.sl (nat_lit 3) (Ty.int IntKind.i64)))))) y0 (Int.toNat y2)).2.1.2.2.2.1 (at_ (Ty.pair (Ty.int IntKind.i64) (Ty.pair (Ty.pair (Ty.int IntKind.i64) (Ty.pair (Ty.int IntKind.i64) (Ty.pair (Ty.int IntKind.i64) (Ty.pair (Ty.int IntKind.i64) (Ty.pair (Ty.int IntKind.i64) (Ty.pair (Ty.int IntKind.i64) (Ty.int IntKind.i64))))))) (Ty.pair Ty.bool (Ty.pair (Ty.sl (nat_lit 3) (Ty.int IntKind.i64)) (Ty.sl (nat_lit 3) (Ty.int IntKind.i64)))))) y0 (Int.toNat y2)).2.1.2.2.2.2.1 (at_ (Ty.pair (Ty.int IntKind.i64) (Ty.pair (Ty.pair (Ty.int IntKind.i64) (Ty.pair (Ty.int IntKind.i64) (Ty.pair (Ty.int IntKind.i64) (Ty.pair (Ty.int IntKind.i64) (Ty.pair (Ty.int IntKind.i64) (Ty.pair (Ty.int IntKind.i64) (Ty.int IntKind.i64))))))) (Ty.pair Ty.bool (Ty.pair (Ty.sl (nat_lit 3) (Ty.int IntKind.i64)) (Ty.sl (nat_lit 3) (Ty.int IntKind.i64)))))) y0 (Int.toNat y2)).2.1.2.2.2.2.2.1 (at_ (Ty.pair (Ty.int IntKind.i64) (Ty.pair (Ty.pair (Ty.int IntKind.i64) (Ty.pair (Ty.int IntKind.i64) (Ty.pair (Ty.int IntKind.i64) (Ty.pair (Ty.int IntKind.i64) (Ty.pair (Ty.int IntKind.i64) (Ty.pair (Ty.int IntKind.i64) (Ty.int IntKind.i64))))))) (Ty.pair Ty.bool (Ty.pair (Ty.sl (nat_lit 3) (Ty.int IntKind.i64)) (Ty.sl (nat_lit 3) (Ty.int IntKind.i64)))))) y0 (Int.toNat y2)).2.1.2.2.2.2.2.2 (at_ (Ty.pair (Ty.int IntKind.i64) (Ty.pair (Ty.pair (Ty.int IntKind.i64) (Ty.pair (Ty.int IntKind.i64) (Ty.pair (Ty.int IntKind.i64) (Ty.pair (Ty.int IntKind.i64) (Ty.pair (Ty.int IntKind.i64) (Ty.pair (Ty.int IntKind.i64) (Ty.int IntKind.i64))))))) (Ty.pair Ty.bool (Ty.pair (Ty.sl (nat_lit 3) (Ty.int IntKind.i64)) (Ty.sl (nat_lit 3) (Ty.int IntKind.i64)))))) y0 (Int.toNat y2)).2.2.1 (at_ (Ty.pair (Ty.int IntKind.i64) (Ty.pair (Ty.pair (Ty.int IntKind.i64) (Ty.pair (Ty.int IntKind.i64) (Ty.pair (Ty.int IntKind.i64) (Ty.pair (Ty.int IntKind.i64) (Ty.pair (Ty.int IntKind.i64) (Ty.pair (Ty.int IntKind.i64) (Ty.int IntKind.i64))))))) (Ty.pair Ty.bool (Ty.pair (Ty.sl (nat_lit 3) (Ty.int IntKind.i64)) (Ty.sl (nat_lit 3) (Ty.int IntKind.i64)))))) y0 (Int.toNat y2)).2.2.2.1 (at_ (Ty.pair (Ty.int IntKind.i64) (Ty.pair (Ty.pair (Ty.int IntKind.i64) (Ty.pair (Ty.int IntKind.i64) (Ty.pair (Ty.int IntKind.i64) (Ty.pair (Ty.int IntKind.i64) (Ty.pair (Ty.int IntKind.i64) (Ty.pair (Ty.int IntKind.i64) (Ty.int IntKind.i64))))))) (Ty.pair Ty.bool (Ty.pair (Ty.sl (nat_lit 3) (Ty.int IntKind.i64)) (Ty.sl (nat_lit 3) (Ty.int IntKind.i64)))))) y0 (Int.toNat y2)).2.2.2.2 (at_ (Ty.pair (Ty.int IntKind.i64) (Ty.pair (Ty.pair (Ty.int IntKind.i64) (Ty.pair (Ty.int IntKind.i64) (Ty.pair (Ty.int IntKind.i64) (Ty.pair (Ty.int IntKind.i64) (Ty.pair (Ty.int IntKind.i64) (Ty.pair (Ty.int IntKind.i64) (Ty.int IntKind.i64))))))) (Ty.pair Ty.bool (Ty.pair (Ty.sl (nat_lit 3) (Ty.int IntKind.i64)) (Ty.sl (nat_lit 3) (Ty.int IntKind.i64)))))) y1 (Int.toNat y2)).1 (at_ (Ty.pair (Ty.int IntKind.i64) (Ty.pair (Ty.pair (Ty.int IntKind.i64) (Ty.pair (Ty.int IntKind.i64) (Ty.pair (Ty.int IntKind.i64) (Ty.pair (Ty.int IntKind.i64) (Ty.pair (Ty.int IntKind.i64) (Ty.pair (Ty.int IntKind.i64) (Ty.int IntKind.i64))))))) (Ty.pair Ty.bool (Ty.pair (Ty.sl (nat_lit 3) (Ty.int IntKind.i64)) (Ty.sl (nat_lit 3) (Ty.int IntKind.i64)))))) y1 (Int.toNat y2)).2.1.1 (at_ (Ty.pair (Ty.int IntKind.i64) (Ty.pair (Ty.pair (Ty.int IntKind.i64) (Ty.pair (Ty.int IntKind.i64) (Ty.pair (Ty.int IntKind.i64) (Ty.pair (Ty.int IntKind.i64) (Ty.pair (Ty.int IntKind.i64) (Ty.pair (Ty.int IntKind.i64) (Ty.int IntKind.i64))))))) (Ty.pair Ty.bool (Ty.pair (Ty.sl (nat_lit 3) (Ty.int IntKind.i64)) (Ty.sl (nat_lit 3) (Ty.int IntKind.i64)))))) y1 (Int.toNat y2)).2.1.2.1 (at_ (Ty.pair (Ty.int IntKind.i64) (Ty.pair (Ty.pair (Ty.int IntKind.i64) (Ty.pair (Ty.int IntKind.i64) (Ty.pair (Ty.int IntKind.i64) (Ty.pair (Ty.int IntKind.i64) (Ty.pair (Ty.int IntKind.i64) (Ty.pair (Ty.int IntKind.i64) (Ty.int IntKind.i64))))))) (Ty.pair Ty.bool (Ty.pair (Ty.sl (nat_lit 3) (Ty.int IntKind.i64)) (Ty.sl (nat_lit 3) (Ty.int IntKind.i64)))))) y1 (Int.toNat y2)).2.1.2.2.1 (at_ (Ty.pair (Ty.int IntKind.i64) (Ty.pair (Ty.pair (Ty.int IntKind.i64) (Ty.pair (Ty.int IntKind.i64) (Ty.pair (Ty.int IntKind.i64) (Ty.pair (Ty.int IntKind.i64) (Ty.pair (Ty.int IntKind.i64) (Ty.pair (Ty.int IntKind.i64) (Ty.int IntKind.i64))))))) (Ty.pair Ty.bool (Ty.pair (Ty.sl (nat_lit 3) (Ty.int IntKind.i64)) (Ty.sl (nat_lit 3) (Ty.int IntKind.i64)))))) y1 (Int.toNat y2)).2.1.2.2.2.1 (at_ (Ty.pair (Ty.int IntKind.i64) (Ty.pair (Ty.pair (Ty.int IntKind.i64) (Ty.pair (Ty.int IntKind.i64) (Ty.pair (Ty.int IntKind.i64) (Ty.pair (Ty.int IntKind.i64) (Ty.pair (Ty.int IntKind.i64) (Ty.pair (Ty.int IntKind.i64) (Ty.int IntKind.i64))))))) (Ty.pair Ty.bool (Ty.pair (Ty.sl (nat_lit 3) (Ty.int IntKind.i64)) (Ty.sl (nat_lit 3) (Ty.int IntKind.i64)))))) y1 (Int.toNat y2)).2.1.2.2.2.2.1 (at_ (Ty.pair (Ty.int IntKind.i64) (Ty.pair (Ty.pair (Ty.int IntKind.i64) (Ty.pair (Ty.int IntKind.i64) (Ty.pair (Ty.int IntKind.i64) (Ty.pair (Ty.int IntKind.i64) (Ty.pair (Ty.int IntKind.i64) (Ty.pair (Ty.int IntKind.i64) (Ty.int IntKind.i64))))))) (Ty.pair Ty.bool (Ty.pair (Ty.sl (nat_lit 3) (Ty.int IntKind.i64)) (Ty.sl (nat_lit 3) (Ty.int IntKind.i64)))))) y1 (Int.toNat y2)).2.1.2.2.2.2.2.1 (at_ (Ty.pair (Ty.int IntKind.i64) (Ty.pair (Ty.pair (Ty.int IntKind.i64) (Ty.pair (Ty.int IntKind.i64) (Ty.pair (Ty.int IntKind.i64) (Ty.pair (Ty.int IntKind.i64) (Ty.pair (Ty.int IntKind.i64) (Ty.pair (Ty.int IntKind.i64) (Ty.int IntKind.i64))))))) (Ty.pair Ty.bool (Ty.pair (Ty.sl (nat_lit 3) (Ty.int IntKind.i64)) (Ty.sl (nat_lit 3) (Ty.int IntKind.i64)))))) y1 (Int.toNat y2)).2.1.2.2.2.2.2.2 (at_ (Ty.pair (Ty.int IntKind.i64) (Ty.pair (Ty.pair (Ty.int IntKind.i64) (Ty.pair (Ty.int IntKind.i64) (Ty.pair (Ty.int IntKind.i64) (Ty.pair (Ty.int IntKind.i64) (Ty.pair (Ty.int IntKind.i64) (Ty.pair (Ty.int IntKind.i64) (Ty.int IntKind.i64))))))) (Ty.pair Ty.bool (Ty.pair (Ty.sl (nat_lit 3) (Ty.int IntKind.i64)) (Ty.sl (nat_lit 3) (Ty.int IntKind.i64)))))) y1 (Int.toNat y2)).2.2.1 (at_ (Ty.pair (Ty.int IntKind.i64) (Ty.pair (Ty.pair (Ty.int IntKind.i64) (Ty.pair (Ty.int IntKind.i64) (Ty.pair (Ty.int IntKind.i64) (Ty.pair (Ty.int IntKind.i64) (Ty.pair (Ty.int IntKind.i64) (Ty.pair (Ty.int IntKind.i64) (Ty.int IntKind.i64))))))) (Ty.pair Ty.bool (Ty.pair (Ty.sl (nat_lit 3) (Ty.int IntKind.i64)) (Ty.sl (nat_lit 3) (Ty.int IntKind.i64)))))) y1 (Int.toNat y2)).2.2.2.1 (at_ (Ty.pair (Ty.int IntKind.i64) (Ty.pair (Ty.pair (Ty.int IntKind.i64) (Ty.pair (Ty.int IntKind.i64) (Ty.pair (Ty.int IntKind.i64) (Ty.pair (Ty.int IntKind.i64) (Ty.pair (Ty.int IntKind.i64) (Ty.pair (Ty.int IntKind.i64) (Ty.int IntKind.i64))))))) (Ty.pair Ty.bool (Ty.pair (Ty.sl (nat_lit 3) (Ty.int IntKind.i64)) (Ty.sl (nat_lit 3) (Ty.int IntKind.i64)))))) y1 (Int.toNat y2)).2.2.2.2) (.out (.inl false)) (.br (true) (.go (IntKind.wrap IntKind.i64 (y2 + (1:Int)))) .bad)) .bad) .bad) .bad) (.out (.inr (())))) .bad
noncomputable def g_Lw_eqFroTxS_0 (y0:List (Int×((Int×(Int×(Int×(Int×(Int×(Int×Int))))))×(Bool×((List Int)×(List Int)))))) (y1:List (Int×((Int×(Int×(Int×(Int×(Int×(Int×Int))))))×(Bool×((List Int)×(List Int)))))) (x:Int):Option ((Bool) ⊕ (Unit)) := loopO (g_Sw_eqFroTxS_0 y0 y1) x
noncomputable def xw_eqFroTxS_0 (y0:List (Int×((Int×(Int×(Int×(Int×(Int×(Int×Int))))))×(Bool×((List Int)×(List Int)))))) (y1:List (Int×((Int×(Int×(Int×(Int×(Int×(Int×Int))))))×(Bool×((List Int)×(List Int)))))):((Bool) ⊕ (Unit)) → Ex×List (Pl×LV) := fun
 | .inl r => (.ret,[(.T 4,.t (.val false [.bool r]))])
 | .inr (r) => (.exit 0,[(.T 4,.t (.val false [.undef]))])
noncomputable def Ow_eqFroTxS_1:Orc := fun b h => match b,h with
 | 0,[(.T 0,.t (.val false [.sl .any 50 (.pair (.int .i64) (.pair (.pair (.int .i64) (.pair (.int .i64) (.pair (.int .i64) (.pair (.int .i64) (.pair (.int .i64) (.pair (.int .i64) (.int .i64))))))) (.pair .bool (.pair (.sl 3 (.int .i64)) (.sl 3 (.int .i64)))))) y0])),(.T 1,.t (.val false [.sl .any 50 (.pair (.int .i64) (.pair (.pair (.int .i64) (.pair (.int .i64) (.pair (.int .i64) (.pair (.int .i64) (.pair (.int .i64) (.pair (.int .i64) (.int .i64))))))) (.pair .bool (.pair (.sl 3 (.int .i64)) (.sl 3 (.int .i64)))))) y1])),(.T 5,.t (.val false [.int .i64 y2]))] => some (okO (g_Lw_eqFroTxS_0 y0 y1 y2),(.br (isL (valO (g_Lw_eqFroTxS_0 y0 y1 y2))) (.leaf .ret [(.T 4,.t (.val false [.bool (getL (valO (g_Lw_eqFroTxS_0 y0 y1 y2)))]))]) (.leaf (.exit 0) [(.T 4,.t (.val false [.undef]))])))
 | b,h => Ow_eqFroTxS_0 b h
theorem bw_eqFroTxS_0 (y0:List (Int×((Int×(Int×(Int×(Int×(Int×(Int×Int))))))×(Bool×((List Int)×(List Int)))))) (y1:List (Int×((Int×(Int×(Int×(Int×(Int×(Int×Int))))))×(Bool×((List Int)×(List Int)))))) (y2:Int):Tr.bt Ew_eqFroTxS Ow_eqFroTxS_0 (exec Ew_eqFroTxS 0 cw_eqFroTxS_0 (St.of (hw_eqFroTxS_0 y0 y1 y2)) (leafRd Ew_eqFroTxS 0)) = (g_Sw_eqFroTxS_0 y0 y1 y2).bt (fun (y2:Int) => (hw_eqFroTxS_0 y0 y1 y2)) (xw_eqFroTxS_0 y0 y1) := by kernel_rfl
theorem kw_eqFroTxS_1:OrcOk Ew_eqFroTxS Ow_eqFroTxS_1 lsw_eqFroTxS 1 := orc_add kw_eqFroTxS_0 (fun n p hp h ex h' ho => by
 obtain ⟨b,c⟩ := p
 obtain ⟨xt,h1,h2⟩ := ho
 have h1:Ow_eqFroTxS_1 b h = some (true,xt) := h1
 unfold Ow_eqFroTxS_1 at h1
 split at h1
 ·injection h1 with h1
  injection h1 with e1 e2
  subst e2
  have hc:c = cw_eqFroTxS_0 := mw_eqFroTxS_0 _ hp rfl
  subst hc
  right
  rename_i y0 y1 y2
  have key := LT_step kw_eqFroTxS_0 hp (fun q hq => loopsAll_in _ _ _ _ hp hq) (fun (y2:Int) => (hw_eqFroTxS_0 y0 y1 y2)) (xw_eqFroTxS_0 y0 y1) (g_Sw_eqFroTxS_0 y0 y1) (fun x => by first | exact bw_eqFroTxS_0 y0 y1 x) n (x := y2) (okO_some e1)
  have hx:∀ r,XT.sel (.br (isL r) (.leaf .ret [(.T 4,.t (.val false [.bool (getL r)]))]) (.leaf (.exit 0) [(.T 4,.t (.val false [.undef]))])) = xw_eqFroTxS_0 y0 y1 r := fun r => by first | rfl | (rcases r with r | r <;> rfl) | (rcases r with r | r | r <;> rfl) | (rcases r with r | r | r | r <;> rfl)
  have h3 := (hx (valO (g_Lw_eqFroTxS_0 y0 y1 y2))).symm.trans h2
  have e3 := congrArg Prod.fst h3
  have e4 := congrArg Prod.snd h3
  simp only at e3 e4
  rw [← e3,← e4]
  exact key
 ·exact .inl ⟨xt,h1,h2⟩)
noncomputable def g_Aw_eqFroTxS (a0:List (Int×((Int×(Int×(Int×(Int×(Int×(Int×Int))))))×(Bool×((List Int)×(List Int)))))) (a1:List (Int×((Int×(Int×(Int×(Int×(Int×(Int×Int))))))×(Bool×((List Int)×(List Int)))))):Bool := (↑(List.length a0):Int) != (↑(List.length a1):Int) || okO (g_Lw_eqFroTxS_0 a0 a1 (0:Int))
noncomputable def g_Vw_eqFroTxS_0 (a0:List (Int×((Int×(Int×(Int×(Int×(Int×(Int×Int))))))×(Bool×((List Int)×(List Int)))))) (a1:List (Int×((Int×(Int×(Int×(Int×(Int×(Int×Int))))))×(Bool×((List Int)×(List Int)))))):Bool := bif (↑(List.length a0):Int) != (↑(List.length a1):Int) then false else bif isL (valO (g_Lw_eqFroTxS_0 a0 a1 (0:Int))) then getL (valO (g_Lw_eqFroTxS_0 a0 a1 (0:Int))) else true
noncomputable def Fw_eqFroTxS:FSem := fun ys => match ys with
 | [.val false [.sl .any 50 (.pair (.int .i64) (.pair (.pair (.int .i64) (.pair (.int .i64) (.pair (.int .i64) (.pair (.int .i64) (.pair (.int .i64) (.pair (.int .i64) (.int .i64))))))) (.pair .bool (.pair (.sl 3 (.int .i64)) (.sl 3 (.int .i64)))))) a0],.val false [.sl .any 50 (.pair (.int .i64) (.pair (.pair (.int .i64) (.pair (.int .i64) (.pair (.int .i64) (.pair (.int .i64) (.pair (.int .i64) (.pair (.int .i64) (.int .i64))))))) (.pair .bool (.pair (.sl 3 (.int .i64)) (.sl 3 (.int .i64)))))) a1]] => some ((g_Aw_eqFroTxS a0 a1),.val false [.bool (g_Vw_eqFroTxS_0 a0 a1)],[])
 | _ => none
theorem vw_eqFroTxS (a0:List (Int×((Int×(Int×(Int×(Int×(Int×(Int×Int))))))×(Bool×((List Int)×(List Int)))))) (a1:List (Int×((Int×(Int×(Int×(Int×(Int×(Int×Int))))))×(Bool×((List Int)×(List Int)))))):collapseH .std Ew_eqFroTxS Ow_eqFroTxS_1 (execFn Ew_eqFroTxS Tryd.f26 msw_eqFroTxS [.val false [.sl .any 50 (.pair (.int .i64) (.pair (.pair (.int .i64) (.pair (.int .i64) (.pair (.int .i64) (.pair (.int .i64) (.pair (.int .i64) (.pair (.int .i64) (.int .i64))))))) (.pair .bool (.pair (.sl 3 (.int .i64)) (.sl 3 (.int .i64)))))) a0],.val false [.sl .any 50 (.pair (.int .i64) (.pair (.pair (.int .i64) (.pair (.int .i64) (.pair (.int .i64) (.pair (.int .i64) (.pair (.int .i64) (.pair (.int .i64) (.int .i64))))))) (.pair .bool (.pair (.sl 3 (.int .i64)) (.sl 3 (.int .i64)))))) a1]]) = some ((g_Aw_eqFroTxS a0 a1),.val false [.bool (g_Vw_eqFroTxS_0 a0 a1)],[]) := by kernel_rfl
theorem sw_eqFroTxS:Sound Tryd.prog 26 msw_eqFroTxS Fw_eqFroTxS := by
 refine fn_gen goodw_eqFroTxS (by kernel_rfl) .std (fn := Tryd.f26) (c := (Tryd.f26.body.getD .skip)) (o := Ow_eqFroTxS_1) (k := 1) (by kernel_rfl) (by kernel_rfl) (by kernel_rfl) (by kernel_rfl) (by decide) kw_eqFroTxS_1 ?_
 intro ys r outs h
 unfold Fw_eqFroTxS at h
 split at h
 ·exact (vw_eqFroTxS _ _).trans h
 ·cases h
noncomputable def Ew_eqStoWrite:Env where
 tt := mkTI Tryd.prog
 fn := fun f => match f with
  | 60 => some (msw_eqIntS,FSem.wk msw_eqIntS Fw_eqIntS)
  | _ => none
 bxf := fun _ => none
 mv := []
 keep := fun _ => []
 keepB := fun _ => []
 keepX := fun _ => []
 keepXB := fun _ => []
theorem goodFw_eqStoWrite:∀ f ms F,Ew_eqStoWrite.fn f = some (ms,F) → Sound Tryd.prog f ms F := fun f ms F h => by
 unfold Ew_eqStoWrite at h
 dsimp only at h
 split at h
 ·injection h with h; injection h with e1 e2; subst e1 e2; exact Sound.wk sw_eqIntS
 ·cases h
theorem goodBw_eqStoWrite:∀ f ms F,Ew_eqStoWrite.bxf f = some (ms,F) → SoundB Tryd.prog f ms F := fun f ms F h => by cases h
theorem goodw_eqStoWrite:Good Tryd.prog Ew_eqStoWrite := ⟨rfl,goodFw_eqStoWrite,goodBw_eqStoWrite⟩
noncomputable def Ow_eqStoWrite_0:Orc := fun _ _ => none
noncomputable def msw_eqStoWrite:List PM := [.rd,.rd]
noncomputable def lsw_eqStoWrite:List (Nat×Code) := loopsAll 0 (Tryd.f84.body.getD .skip)
theorem kw_eqStoWrite_0:OrcOk Ew_eqStoWrite Ow_eqStoWrite_0 lsw_eqStoWrite 0 := orcOk_none
noncomputable def g_Aw_eqStoWrite (a0:ByteArray) (a1:Bool) (a2:List Int) (a3:ByteArray) (a4:Bool) (a5:List Int):Bool := !ByteArray.toList a0 == ByteArray.toList a3 || (!a1 == a4 || g_Aw_eqIntS a2 a5)
noncomputable def g_Vw_eqStoWrite_0 (a0:ByteArray) (a1:Bool) (a2:List Int) (a3:ByteArray) (a4:Bool) (a5:List Int):Bool := bif !ByteArray.toList a0 == ByteArray.toList a3 then false else bif !a1 == a4 then false else bif !g_Vw_eqIntS_0 a2 a5 then false else true
noncomputable def Fw_eqStoWrite:FSem := fun ys => match ys with
 | [.val true [.str a0,.bool a1,.sl .any 3 (.int .i64) a2],.val true [.str a3,.bool a4,.sl .any 3 (.int .i64) a5]] => some ((g_Aw_eqStoWrite a0 a1 a2 a3 a4 a5),.val false [.bool (g_Vw_eqStoWrite_0 a0 a1 a2 a3 a4 a5)],[])
 | _ => none
theorem vw_eqStoWrite (a0:ByteArray) (a1:Bool) (a2:List Int) (a3:ByteArray) (a4:Bool) (a5:List Int):collapseH .std Ew_eqStoWrite Ow_eqStoWrite_0 (execFn Ew_eqStoWrite Tryd.f84 msw_eqStoWrite [.val true [.str a0,.bool a1,.sl .any 3 (.int .i64) a2],.val true [.str a3,.bool a4,.sl .any 3 (.int .i64) a5]]) = some ((g_Aw_eqStoWrite a0 a1 a2 a3 a4 a5),.val false [.bool (g_Vw_eqStoWrite_0 a0 a1 a2 a3 a4 a5)],[]) := by kernel_rfl
theorem sw_eqStoWrite:Sound Tryd.prog 84 msw_eqStoWrite Fw_eqStoWrite := by
 refine fn_gen goodw_eqStoWrite (by kernel_rfl) .std (fn := Tryd.f84) (c := (Tryd.f84.body.getD .skip)) (o := Ow_eqStoWrite_0) (k := 0) (by kernel_rfl) (by kernel_rfl) (by kernel_rfl) (by kernel_rfl) (by decide) kw_eqStoWrite_0 ?_
 intro ys r outs h
 unfold Fw_eqStoWrite at h
 split at h
 ·exact (vw_eqStoWrite _ _ _ _ _ _).trans h
 ·cases h
noncomputable def Ew_eqStoWriteS:Env where
 tt := mkTI Tryd.prog
 fn := fun f => match f with
  | 84 => some (msw_eqStoWrite,FSem.wk msw_eqStoWrite Fw_eqStoWrite)
  | _ => none
 bxf := fun _ => none
 mv := []
 keep := fun b => match b with
  | 0 => [(0,false),(1,false),(5,false)]
  | _ => []
 keepB := fun b => match b with
  | 0 => []
  | _ => []
 keepX := fun b => match b with
  | 0 => [(4,false)]
  | _ => []
 keepXB := fun b => match b with
  | 0 => []
  | _ => []
theorem goodFw_eqStoWriteS:∀ f ms F,Ew_eqStoWriteS.fn f = some (ms,F) → Sound Tryd.prog f ms F := fun f ms F h => by
 unfold Ew_eqStoWriteS at h
 dsimp only at h
 split at h
 ·injection h with h; injection h with e1 e2; subst e1 e2; exact Sound.wk sw_eqStoWrite
 ·cases h
theorem goodBw_eqStoWriteS:∀ f ms F,Ew_eqStoWriteS.bxf f = some (ms,F) → SoundB Tryd.prog f ms F := fun f ms F h => by cases h
theorem goodw_eqStoWriteS:Good Tryd.prog Ew_eqStoWriteS := ⟨rfl,goodFw_eqStoWriteS,goodBw_eqStoWriteS⟩
noncomputable def Ow_eqStoWriteS_0:Orc := fun _ _ => none
noncomputable def msw_eqStoWriteS:List PM := [.rd,.rd]
noncomputable def lsw_eqStoWriteS:List (Nat×Code) := loopsAll 0 (Tryd.f72.body.getD .skip)
noncomputable def cw_eqStoWriteS_0:Code := (loopOf 0 (Tryd.f72.body.getD .skip)).getD .skip
theorem lseqw_eqStoWriteS:lsw_eqStoWriteS = [(0,cw_eqStoWriteS_0)] := by kernel_rfl
theorem mw_eqStoWriteS_0:∀ p,p ∈ lsw_eqStoWriteS → p.1 = 0 → p.2 = cw_eqStoWriteS_0 := by
 intro p hp
 rw [lseqw_eqStoWriteS] at hp
 simp only [List.mem_cons,List.not_mem_nil,or_false] at hp
 subst hp; simp
theorem kw_eqStoWriteS_0:OrcOk Ew_eqStoWriteS Ow_eqStoWriteS_0 lsw_eqStoWriteS 0 := orcOk_none
noncomputable def hw_eqStoWriteS_0 (y0:List (ByteArray×(Bool×(List Int)))) (y1:List (ByteArray×(Bool×(List Int)))) (y2:Int):List (Pl×LV) := [(.T 0,.t (.val false [.sl .any 84 (.pair .str (.pair .bool (.sl 3 (.int .i64)))) y0])),(.T 1,.t (.val false [.sl .any 84 (.pair .str (.pair .bool (.sl 3 (.int .i64)))) y1])),(.T 5,.t (.val false [.int .i64 y2]))]
noncomputable def g_Sw_eqStoWriteS_0 (y0:List (ByteArray×(Bool×(List Int)))) (y1:List (ByteArray×(Bool×(List Int)))):(Int) → RT (Int) ((Bool) ⊕ (Unit))
 | y2 => .br (true) (.br (decide (y2 < (↑(List.length y0):Int))) (.br (decide ((0:Int) ≤ y2 ∧ y2 < (↑(List.length y0):Int))) (.br (decide ((0:Int) ≤ y2 ∧ y2 < (↑(List.length y1):Int))) (.br (g_Aw_eqStoWrite (at_ (Ty.pair Ty.str (Ty.pair Ty.bool (Ty.sl (nat_lit 3) (Ty.int IntKind.i64)))) y0 (Int.toNat y2)).1 (at_ (Ty.pair Ty.str (Ty.pair Ty.bool (Ty.sl (nat_lit 3) (Ty.int IntKind.i64)))) y0 (Int.toNat y2)).2.1 (at_ (Ty.pair Ty.str (Ty.pair Ty.bool (Ty.sl (nat_lit 3) (Ty.int IntKind.i64)))) y0 (Int.toNat y2)).2.2 (at_ (Ty.pair Ty.str (Ty.pair Ty.bool (Ty.sl (nat_lit 3) (Ty.int IntKind.i64)))) y1 (Int.toNat y2)).1 (at_ (Ty.pair Ty.str (Ty.pair Ty.bool (Ty.sl (nat_lit 3) (Ty.int IntKind.i64)))) y1 (Int.toNat y2)).2.1 (at_ (Ty.pair Ty.str (Ty.pair Ty.bool (Ty.sl (nat_lit 3) (Ty.int IntKind.i64)))) y1 (Int.toNat y2)).2.2) (.br (!g_Vw_eqStoWrite_0 (at_ (Ty.pair Ty.str (Ty.pair Ty.bool (Ty.sl (nat_lit 3) (Ty.int IntKind.i64)))) y0 (Int.toNat y2)).1 (at_ (Ty.pair Ty.str (Ty.pair Ty.bool (Ty.sl (nat_lit 3) (Ty.int IntKind.i64)))) y0 (Int.toNat y2)).2.1 (at_ (Ty.pair Ty.str (Ty.pair Ty.bool (Ty.sl (nat_lit 3) (Ty.int IntKind.i64)))) y0 (Int.toNat y2)).2.2 (at_ (Ty.pair Ty.str (Ty.pair Ty.bool (Ty.sl (nat_lit 3) (Ty.int IntKind.i64)))) y1 (Int.toNat y2)).1 (at_ (Ty.pair Ty.str (Ty.pair Ty.bool (Ty.sl (nat_lit 3) (Ty.int IntKind.i64)))) y1 (Int.toNat y2)).2.1 (at_ (Ty.pair Ty.str (Ty.pair Ty.bool (Ty.sl (nat_lit 3) (Ty.int IntKind.i64)))) y1 (Int.toNat y2)).2.2) (.out (.inl false)) (.br (true) (.go (IntKind.wrap IntKind.i64 (y2 + (1:Int)))) .bad)) .bad) .bad) .bad) (.out (.inr (())))) .bad
noncomputable def g_Lw_eqStoWriteS_0 (y0:List (ByteArray×(Bool×(List Int)))) (y1:List (ByteArray×(Bool×(List Int)))) (x:Int):Option ((Bool) ⊕ (Unit)) := loopO (g_Sw_eqStoWriteS_0 y0 y1) x
noncomputable def xw_eqStoWriteS_0 (y0:List (ByteArray×(Bool×(List Int)))) (y1:List (ByteArray×(Bool×(List Int)))):((Bool) ⊕ (Unit)) → Ex×List (Pl×LV) := fun
 | .inl r => (.ret,[(.T 4,.t (.val false [.bool r]))])
 | .inr (r) => (.exit 0,[(.T 4,.t (.val false [.undef]))])
noncomputable def Ow_eqStoWriteS_1:Orc := fun b h => match b,h with
 | 0,[(.T 0,.t (.val false [.sl .any 84 (.pair .str (.pair .bool (.sl 3 (.int .i64)))) y0])),(.T 1,.t (.val false [.sl .any 84 (.pair .str (.pair .bool (.sl 3 (.int .i64)))) y1])),(.T 5,.t (.val false [.int .i64 y2]))] => some (okO (g_Lw_eqStoWriteS_0 y0 y1 y2),(.br (isL (valO (g_Lw_eqStoWriteS_0 y0 y1 y2))) (.leaf .ret [(.T 4,.t (.val false [.bool (getL (valO (g_Lw_eqStoWriteS_0 y0 y1 y2)))]))]) (.leaf (.exit 0) [(.T 4,.t (.val false [.undef]))])))
 | b,h => Ow_eqStoWriteS_0 b h
theorem bw_eqStoWriteS_0 (y0:List (ByteArray×(Bool×(List Int)))) (y1:List (ByteArray×(Bool×(List Int)))) (y2:Int):Tr.bt Ew_eqStoWriteS Ow_eqStoWriteS_0 (exec Ew_eqStoWriteS 0 cw_eqStoWriteS_0 (St.of (hw_eqStoWriteS_0 y0 y1 y2)) (leafRd Ew_eqStoWriteS 0)) = (g_Sw_eqStoWriteS_0 y0 y1 y2).bt (fun (y2:Int) => (hw_eqStoWriteS_0 y0 y1 y2)) (xw_eqStoWriteS_0 y0 y1) := by kernel_rfl
theorem kw_eqStoWriteS_1:OrcOk Ew_eqStoWriteS Ow_eqStoWriteS_1 lsw_eqStoWriteS 1 := orc_add kw_eqStoWriteS_0 (fun n p hp h ex h' ho => by
 obtain ⟨b,c⟩ := p
 obtain ⟨xt,h1,h2⟩ := ho
 have h1:Ow_eqStoWriteS_1 b h = some (true,xt) := h1
 unfold Ow_eqStoWriteS_1 at h1
 split at h1
 ·injection h1 with h1
  injection h1 with e1 e2
  subst e2
  have hc:c = cw_eqStoWriteS_0 := mw_eqStoWriteS_0 _ hp rfl
  subst hc
  right
  rename_i y0 y1 y2
  have key := LT_step kw_eqStoWriteS_0 hp (fun q hq => loopsAll_in _ _ _ _ hp hq) (fun (y2:Int) => (hw_eqStoWriteS_0 y0 y1 y2)) (xw_eqStoWriteS_0 y0 y1) (g_Sw_eqStoWriteS_0 y0 y1) (fun x => by first | exact bw_eqStoWriteS_0 y0 y1 x) n (x := y2) (okO_some e1)
  have hx:∀ r,XT.sel (.br (isL r) (.leaf .ret [(.T 4,.t (.val false [.bool (getL r)]))]) (.leaf (.exit 0) [(.T 4,.t (.val false [.undef]))])) = xw_eqStoWriteS_0 y0 y1 r := fun r => by first | rfl | (rcases r with r | r <;> rfl) | (rcases r with r | r | r <;> rfl) | (rcases r with r | r | r | r <;> rfl)
  have h3 := (hx (valO (g_Lw_eqStoWriteS_0 y0 y1 y2))).symm.trans h2
  have e3 := congrArg Prod.fst h3
  have e4 := congrArg Prod.snd h3
  simp only at e3 e4
  rw [← e3,← e4]
  exact key
 ·exact .inl ⟨xt,h1,h2⟩)
noncomputable def g_Aw_eqStoWriteS (a0:List (ByteArray×(Bool×(List Int)))) (a1:List (ByteArray×(Bool×(List Int)))):Bool := (↑(List.length a0):Int) != (↑(List.length a1):Int) || okO (g_Lw_eqStoWriteS_0 a0 a1 (0:Int))
noncomputable def g_Vw_eqStoWriteS_0 (a0:List (ByteArray×(Bool×(List Int)))) (a1:List (ByteArray×(Bool×(List Int)))):Bool := bif (↑(List.length a0):Int) != (↑(List.length a1):Int) then false else bif isL (valO (g_Lw_eqStoWriteS_0 a0 a1 (0:Int))) then getL (valO (g_Lw_eqStoWriteS_0 a0 a1 (0:Int))) else true
noncomputable def Fw_eqStoWriteS:FSem := fun ys => match ys with
 | [.val false [.sl .any 84 (.pair .str (.pair .bool (.sl 3 (.int .i64)))) a0],.val false [.sl .any 84 (.pair .str (.pair .bool (.sl 3 (.int .i64)))) a1]] => some ((g_Aw_eqStoWriteS a0 a1),.val false [.bool (g_Vw_eqStoWriteS_0 a0 a1)],[])
 | _ => none
theorem vw_eqStoWriteS (a0:List (ByteArray×(Bool×(List Int)))) (a1:List (ByteArray×(Bool×(List Int)))):collapseH .std Ew_eqStoWriteS Ow_eqStoWriteS_1 (execFn Ew_eqStoWriteS Tryd.f72 msw_eqStoWriteS [.val false [.sl .any 84 (.pair .str (.pair .bool (.sl 3 (.int .i64)))) a0],.val false [.sl .any 84 (.pair .str (.pair .bool (.sl 3 (.int .i64)))) a1]]) = some ((g_Aw_eqStoWriteS a0 a1),.val false [.bool (g_Vw_eqStoWriteS_0 a0 a1)],[]) := by kernel_rfl
theorem sw_eqStoWriteS:Sound Tryd.prog 72 msw_eqStoWriteS Fw_eqStoWriteS := by
 refine fn_gen goodw_eqStoWriteS (by kernel_rfl) .std (fn := Tryd.f72) (c := (Tryd.f72.body.getD .skip)) (o := Ow_eqStoWriteS_1) (k := 1) (by kernel_rfl) (by kernel_rfl) (by kernel_rfl) (by kernel_rfl) (by decide) kw_eqStoWriteS_1 ?_
 intro ys r outs h
 unfold Fw_eqStoWriteS at h
 split at h
 ·exact (vw_eqStoWriteS _ _).trans h
 ·cases h
noncomputable def Ew_eqStringS:Env where
 tt := mkTI Tryd.prog
 fn := fun _ => none
 bxf := fun _ => none
 mv := []
 keep := fun b => match b with
  | 0 => [(0,false),(1,false),(5,false)]
  | _ => []
 keepB := fun b => match b with
  | 0 => []
  | _ => []
 keepX := fun b => match b with
  | 0 => [(4,false)]
  | _ => []
 keepXB := fun b => match b with
  | 0 => []
  | _ => []
theorem goodFw_eqStringS:∀ f ms F,Ew_eqStringS.fn f = some (ms,F) → Sound Tryd.prog f ms F := fun f ms F h => by cases h
theorem goodBw_eqStringS:∀ f ms F,Ew_eqStringS.bxf f = some (ms,F) → SoundB Tryd.prog f ms F := fun f ms F h => by cases h
theorem goodw_eqStringS:Good Tryd.prog Ew_eqStringS := ⟨rfl,goodFw_eqStringS,goodBw_eqStringS⟩
noncomputable def Ow_eqStringS_0:Orc := fun _ _ => none
noncomputable def msw_eqStringS:List PM := [.rd,.rd]
noncomputable def lsw_eqStringS:List (Nat×Code) := loopsAll 0 (Tryd.f71.body.getD .skip)
noncomputable def cw_eqStringS_0:Code := (loopOf 0 (Tryd.f71.body.getD .skip)).getD .skip
theorem lseqw_eqStringS:lsw_eqStringS = [(0,cw_eqStringS_0)] := by kernel_rfl
theorem mw_eqStringS_0:∀ p,p ∈ lsw_eqStringS → p.1 = 0 → p.2 = cw_eqStringS_0 := by
 intro p hp
 rw [lseqw_eqStringS] at hp
 simp only [List.mem_cons,List.not_mem_nil,or_false] at hp
 subst hp; simp
theorem kw_eqStringS_0:OrcOk Ew_eqStringS Ow_eqStringS_0 lsw_eqStringS 0 := orcOk_none
noncomputable def hw_eqStringS_0 (y0:List ByteArray) (y1:List ByteArray) (y2:Int):List (Pl×LV) := [(.T 0,.t (.val false [.sl .any 9 .str y0])),(.T 1,.t (.val false [.sl .any 9 .str y1])),(.T 5,.t (.val false [.int .i64 y2]))]
noncomputable def g_Sw_eqStringS_0 (y0:List ByteArray) (y1:List ByteArray):(Int) → RT (Int) ((Bool) ⊕ (Unit))
 | y2 => .br (true) (.br (decide (y2 < (↑(List.length y0):Int))) (.br (decide ((0:Int) ≤ y2 ∧ y2 < (↑(List.length y0):Int))) (.br (decide ((0:Int) ≤ y2 ∧ y2 < (↑(List.length y1):Int))) (.br (true) (.br (!ByteArray.toList (at_ Ty.str y0 (Int.toNat y2)) == ByteArray.toList (at_ Ty.str y1 (Int.toNat y2))) (.out (.inl false)) (.br (true) (.go (IntKind.wrap IntKind.i64 (y2 + (1:Int)))) .bad)) .bad) .bad) .bad) (.out (.inr (())))) .bad
noncomputable def g_Lw_eqStringS_0 (y0:List ByteArray) (y1:List ByteArray) (x:Int):Option ((Bool) ⊕ (Unit)) := loopO (g_Sw_eqStringS_0 y0 y1) x
noncomputable def xw_eqStringS_0 (y0:List ByteArray) (y1:List ByteArray):((Bool) ⊕ (Unit)) → Ex×List (Pl×LV) := fun
 | .inl r => (.ret,[(.T 4,.t (.val false [.bool r]))])
 | .inr (r) => (.exit 0,[(.T 4,.t (.val false [.undef]))])
noncomputable def Ow_eqStringS_1:Orc := fun b h => match b,h with
 | 0,[(.T 0,.t (.val false [.sl .any 9 .str y0])),(.T 1,.t (.val false [.sl .any 9 .str y1])),(.T 5,.t (.val false [.int .i64 y2]))] => some (okO (g_Lw_eqStringS_0 y0 y1 y2),(.br (isL (valO (g_Lw_eqStringS_0 y0 y1 y2))) (.leaf .ret [(.T 4,.t (.val false [.bool (getL (valO (g_Lw_eqStringS_0 y0 y1 y2)))]))]) (.leaf (.exit 0) [(.T 4,.t (.val false [.undef]))])))
 | b,h => Ow_eqStringS_0 b h
theorem bw_eqStringS_0 (y0:List ByteArray) (y1:List ByteArray) (y2:Int):Tr.bt Ew_eqStringS Ow_eqStringS_0 (exec Ew_eqStringS 0 cw_eqStringS_0 (St.of (hw_eqStringS_0 y0 y1 y2)) (leafRd Ew_eqStringS 0)) = (g_Sw_eqStringS_0 y0 y1 y2).bt (fun (y2:Int) => (hw_eqStringS_0 y0 y1 y2)) (xw_eqStringS_0 y0 y1) := by kernel_rfl
theorem kw_eqStringS_1:OrcOk Ew_eqStringS Ow_eqStringS_1 lsw_eqStringS 1 := orc_add kw_eqStringS_0 (fun n p hp h ex h' ho => by
 obtain ⟨b,c⟩ := p
 obtain ⟨xt,h1,h2⟩ := ho
 have h1:Ow_eqStringS_1 b h = some (true,xt) := h1
 unfold Ow_eqStringS_1 at h1
 split at h1
 ·injection h1 with h1
  injection h1 with e1 e2
  subst e2
  have hc:c = cw_eqStringS_0 := mw_eqStringS_0 _ hp rfl
  subst hc
  right
  rename_i y0 y1 y2
  have key := LT_step kw_eqStringS_0 hp (fun q hq => loopsAll_in _ _ _ _ hp hq) (fun (y2:Int) => (hw_eqStringS_0 y0 y1 y2)) (xw_eqStringS_0 y0 y1) (g_Sw_eqStringS_0 y0 y1) (fun x => by first | exact bw_eqStringS_0 y0 y1 x) n (x := y2) (okO_some e1)
  have hx:∀ r,XT.sel (.br (isL r) (.leaf .ret [(.T 4,.t (.val false [.bool (getL r)]))]) (.leaf (.exit 0) [(.T 4,.t (.val false [.undef]))])) = xw_eqStringS_0 y0 y1 r := fun r => by first | rfl | (rcases r with r | r <;> rfl) | (rcases r with r | r | r <;> rfl) | (rcases r with r | r | r | r <;> rfl)
  have h3 := (hx (valO (g_Lw_eqStringS_0 y0 y1 y2))).symm.trans h2
  have e3 := congrArg Prod.fst h3
  have e4 := congrArg Prod.snd h3
  simp only at e3 e4
  rw [← e3,← e4]
  exact key
 ·exact .inl ⟨xt,h1,h2⟩)
noncomputable def g_Aw_eqStringS (a0:List ByteArray) (a1:List ByteArray):Bool := (↑(List.length a0):Int) != (↑(List.length a1):Int) || okO (g_Lw_eqStringS_0 a0 a1 (0:Int))
noncomputable def g_Vw_eqStringS_0 (a0:List ByteArray) (a1:List ByteArray):Bool := bif (↑(List.length a0):Int) != (↑(List.length a1):Int) then false else bif isL (valO (g_Lw_eqStringS_0 a0 a1 (0:Int))) then getL (valO (g_Lw_eqStringS_0 a0 a1 (0:Int))) else true
noncomputable def Fw_eqStringS:FSem := fun ys => match ys with
 | [.val false [.sl .any 9 .str a0],.val false [.sl .any 9 .str a1]] => some ((g_Aw_eqStringS a0 a1),.val false [.bool (g_Vw_eqStringS_0 a0 a1)],[])
 | _ => none
theorem vw_eqStringS (a0:List ByteArray) (a1:List ByteArray):collapseH .std Ew_eqStringS Ow_eqStringS_1 (execFn Ew_eqStringS Tryd.f71 msw_eqStringS [.val false [.sl .any 9 .str a0],.val false [.sl .any 9 .str a1]]) = some ((g_Aw_eqStringS a0 a1),.val false [.bool (g_Vw_eqStringS_0 a0 a1)],[]) := by kernel_rfl
theorem sw_eqStringS:Sound Tryd.prog 71 msw_eqStringS Fw_eqStringS := by
 refine fn_gen goodw_eqStringS (by kernel_rfl) .std (fn := Tryd.f71) (c := (Tryd.f71.body.getD .skip)) (o := Ow_eqStringS_1) (k := 1) (by kernel_rfl) (by kernel_rfl) (by kernel_rfl) (by kernel_rfl) (by decide) kw_eqStringS_1 ?_
 intro ys r outs h
 unfold Fw_eqStringS at h
 split at h
 ·exact (vw_eqStringS _ _).trans h
 ·cases h
noncomputable def Ew_eqLogNote:Env where
 tt := mkTI Tryd.prog
 fn := fun f => match f with
  | 71 => some (msw_eqStringS,FSem.wk msw_eqStringS Fw_eqStringS)
  | 72 => some (msw_eqStoWriteS,FSem.wk msw_eqStoWriteS Fw_eqStoWriteS)
  | _ => none
 bxf := fun _ => none
 mv := []
 keep := fun _ => []
 keepB := fun _ => []
 keepX := fun _ => []
 keepXB := fun _ => []
theorem goodFw_eqLogNote:∀ f ms F,Ew_eqLogNote.fn f = some (ms,F) → Sound Tryd.prog f ms F := fun f ms F h => by
 unfold Ew_eqLogNote at h
 dsimp only at h
 split at h
 ·injection h with h; injection h with e1 e2; subst e1 e2; exact Sound.wk sw_eqStringS
 ·injection h with h; injection h with e1 e2; subst e1 e2; exact Sound.wk sw_eqStoWriteS
 ·cases h
theorem goodBw_eqLogNote:∀ f ms F,Ew_eqLogNote.bxf f = some (ms,F) → SoundB Tryd.prog f ms F := fun f ms F h => by cases h
theorem goodw_eqLogNote:Good Tryd.prog Ew_eqLogNote := ⟨rfl,goodFw_eqLogNote,goodBw_eqLogNote⟩
noncomputable def Ow_eqLogNote_0:Orc := fun _ _ => none
noncomputable def msw_eqLogNote:List PM := [.rd,.rd]
noncomputable def lsw_eqLogNote:List (Nat×Code) := loopsAll 0 (Tryd.f58.body.getD .skip)
theorem kw_eqLogNote_0:OrcOk Ew_eqLogNote Ow_eqLogNote_0 lsw_eqLogNote 0 := orcOk_none
noncomputable def g_Aw_eqLogNote (a0:Int) (a1:Int) (a2:List ByteArray) (a3:List (ByteArray×(Bool×(List Int)))) (a4:Int) (a5:Int) (a6:List ByteArray) (a7:List (ByteArray×(Bool×(List Int)))):Bool := a0 != a4 || (a1 != a5 || g_Aw_eqStringS a2 a6&&(!g_Vw_eqStringS_0 a2 a6 || g_Aw_eqStoWriteS a3 a7))
noncomputable def g_Vw_eqLogNote_0 (a0:Int) (a1:Int) (a2:List ByteArray) (a3:List (ByteArray×(Bool×(List Int)))) (a4:Int) (a5:Int) (a6:List ByteArray) (a7:List (ByteArray×(Bool×(List Int)))):Bool := bif a0 != a4 then false else bif a1 != a5 then false else bif !g_Vw_eqStringS_0 a2 a6 then false else bif !g_Vw_eqStoWriteS_0 a3 a7 then false else true
noncomputable def Fw_eqLogNote:FSem := fun ys => match ys with
 | [.val true [.int .i64 a0,.int .i64 a1,.sl .any 9 .str a2,.sl .any 84 (.pair .str (.pair .bool (.sl 3 (.int .i64)))) a3],.val true [.int .i64 a4,.int .i64 a5,.sl .any 9 .str a6,.sl .any 84 (.pair .str (.pair .bool (.sl 3 (.int .i64)))) a7]] => some ((g_Aw_eqLogNote a0 a1 a2 a3 a4 a5 a6 a7),.val false [.bool (g_Vw_eqLogNote_0 a0 a1 a2 a3 a4 a5 a6 a7)],[])
 | _ => none
theorem vw_eqLogNote (a0:Int) (a1:Int) (a2:List ByteArray) (a3:List (ByteArray×(Bool×(List Int)))) (a4:Int) (a5:Int) (a6:List ByteArray) (a7:List (ByteArray×(Bool×(List Int)))):collapseH .std Ew_eqLogNote Ow_eqLogNote_0 (execFn Ew_eqLogNote Tryd.f58 msw_eqLogNote [.val true [.int .i64 a0,.int .i64 a1,.sl .any 9 .str a2,.sl .any 84 (.pair .str (.pair .bool (.sl 3 (.int .i64)))) a3],.val true [.int .i64 a4,.int .i64 a5,.sl .any 9 .str a6,.sl .any 84 (.pair .str (.pair .bool (.sl 3 (.int .i64)))) a7]]) = some ((g_Aw_eqLogNote a0 a1 a2 a3 a4 a5 a6 a7),.val false [.bool (g_Vw_eqLogNote_0 a0 a1 a2 a3 a4 a5 a6 a7)],[]) := by kernel_rfl
theorem sw_eqLogNote:Sound Tryd.prog 58 msw_eqLogNote Fw_eqLogNote := by
 refine fn_gen goodw_eqLogNote (by kernel_rfl) .std (fn := Tryd.f58) (c := (Tryd.f58.body.getD .skip)) (o := Ow_eqLogNote_0) (k := 0) (by kernel_rfl) (by kernel_rfl) (by kernel_rfl) (by kernel_rfl) (by decide) kw_eqLogNote_0 ?_
 intro ys r outs h
 unfold Fw_eqLogNote at h
 split at h
 ·exact (vw_eqLogNote _ _ _ _ _ _ _ _).trans h
 ·cases h
noncomputable def Ew_eqLogNoteS:Env where
 tt := mkTI Tryd.prog
 fn := fun f => match f with
  | 58 => some (msw_eqLogNote,FSem.wk msw_eqLogNote Fw_eqLogNote)
  | _ => none
 bxf := fun _ => none
 mv := []
 keep := fun b => match b with
  | 0 => [(0,false),(1,false),(5,false)]
  | _ => []
 keepB := fun b => match b with
  | 0 => []
  | _ => []
 keepX := fun b => match b with
  | 0 => [(4,false)]
  | _ => []
 keepXB := fun b => match b with
  | 0 => []
  | _ => []
theorem goodFw_eqLogNoteS:∀ f ms F,Ew_eqLogNoteS.fn f = some (ms,F) → Sound Tryd.prog f ms F := fun f ms F h => by
 unfold Ew_eqLogNoteS at h
 dsimp only at h
 split at h
 ·injection h with h; injection h with e1 e2; subst e1 e2; exact Sound.wk sw_eqLogNote
 ·cases h
theorem goodBw_eqLogNoteS:∀ f ms F,Ew_eqLogNoteS.bxf f = some (ms,F) → SoundB Tryd.prog f ms F := fun f ms F h => by cases h
theorem goodw_eqLogNoteS:Good Tryd.prog Ew_eqLogNoteS := ⟨rfl,goodFw_eqLogNoteS,goodBw_eqLogNoteS⟩
noncomputable def Ow_eqLogNoteS_0:Orc := fun _ _ => none
noncomputable def msw_eqLogNoteS:List PM := [.rd,.rd]
noncomputable def lsw_eqLogNoteS:List (Nat×Code) := loopsAll 0 (Tryd.f40.body.getD .skip)
noncomputable def cw_eqLogNoteS_0:Code := (loopOf 0 (Tryd.f40.body.getD .skip)).getD .skip
theorem lseqw_eqLogNoteS:lsw_eqLogNoteS = [(0,cw_eqLogNoteS_0)] := by kernel_rfl
theorem mw_eqLogNoteS_0:∀ p,p ∈ lsw_eqLogNoteS → p.1 = 0 → p.2 = cw_eqLogNoteS_0 := by
 intro p hp
 rw [lseqw_eqLogNoteS] at hp
 simp only [List.mem_cons,List.not_mem_nil,or_false] at hp
 subst hp; simp
theorem kw_eqLogNoteS_0:OrcOk Ew_eqLogNoteS Ow_eqLogNoteS_0 lsw_eqLogNoteS 0 := orcOk_none
noncomputable def hw_eqLogNoteS_0 (y0:List (Int×(Int×((List ByteArray)×(List (ByteArray×(Bool×(List Int)))))))) (y1:List (Int×(Int×((List ByteArray)×(List (ByteArray×(Bool×(List Int)))))))) (y2:Int):List (Pl×LV) := [(.T 0,.t (.val false [.sl .any 45 (.pair (.int .i64) (.pair (.int .i64) (.pair (.sl 9 .str) (.sl 84 (.pair .str (.pair .bool (.sl 3 (.int .i64)))))))) y0])),(.T 1,.t (.val false [.sl .any 45 (.pair (.int .i64) (.pair (.int .i64) (.pair (.sl 9 .str) (.sl 84 (.pair .str (.pair .bool (.sl 3 (.int .i64)))))))) y1])),(.T 5,.t (.val false [.int .i64 y2]))]
noncomputable def g_Sw_eqLogNoteS_0 (y0:List (Int×(Int×((List ByteArray)×(List (ByteArray×(Bool×(List Int)))))))) (y1:List (Int×(Int×((List ByteArray)×(List (ByteArray×(Bool×(List Int)))))))):(Int) → RT (Int) ((Bool) ⊕ (Unit))
 | y2 => .br (true) (.br (decide (y2 < (↑(List.length y0):Int))) (.br (decide ((0:Int) ≤ y2 ∧ y2 < (↑(List.length y0):Int))) (.br (decide ((0:Int) ≤ y2 ∧ y2 < (↑(List.length y1):Int))) (.br (g_Aw_eqLogNote (at_ (Ty.pair (Ty.int IntKind.i64) (Ty.pair (Ty.int IntKind.i64) (Ty.pair (Ty.sl (nat_lit 9) Ty.str) (Ty.sl (nat_lit 84) (Ty.pair Ty.str (Ty.pair Ty.bool (Ty.sl (nat_lit 3) (Ty.int IntKind.i64)))))))) y0 (Int.toNat y2)).1 (at_ (Ty.pair (Ty.int IntKind.i64) (Ty.pair (Ty.int IntKind.i64) (Ty.pair (Ty.sl (nat_lit 9) Ty.str) (Ty.sl (nat_lit 84) (Ty.pair Ty.str (Ty.pair Ty.bool (Ty.sl (nat_lit 3) (Ty.int IntKind.i64)))))))) y0 (Int.toNat y2)).2.1 (at_ (Ty.pair (Ty.int IntKind.i64) (Ty.pair (Ty.int IntKind.i64) (Ty.pair (Ty.sl (nat_lit 9) Ty.str) (Ty.sl (nat_lit 84) (Ty.pair Ty.str (Ty.pair Ty.bool (Ty.sl (nat_lit 3) (Ty.int IntKind.i64)))))))) y0 (Int.toNat y2)).2.2.1 (at_ (Ty.pair (Ty.int IntKind.i64) (Ty.pair (Ty.int IntKind.i64) (Ty.pair (Ty.sl (nat_lit 9) Ty.str) (Ty.sl (nat_lit 84) (Ty.pair Ty.str (Ty.pair Ty.bool (Ty.sl (nat_lit 3) (Ty.int IntKind.i64)))))))) y0 (Int.toNat y2)).2.2.2 (at_ (Ty.pair (Ty.int IntKind.i64) (Ty.pair (Ty.int IntKind.i64) (Ty.pair (Ty.sl (nat_lit 9) Ty.str) (Ty.sl (nat_lit 84) (Ty.pair Ty.str (Ty.pair Ty.bool (Ty.sl (nat_lit 3) (Ty.int IntKind.i64)))))))) y1 (Int.toNat y2)).1 (at_ (Ty.pair (Ty.int IntKind.i64) (Ty.pair (Ty.int IntKind.i64) (Ty.pair (Ty.sl (nat_lit 9) Ty.str) (Ty.sl (nat_lit 84) (Ty.pair Ty.str (Ty.pair Ty.bool (Ty.sl (nat_lit 3) (Ty.int IntKind.i64)))))))) y1 (Int.toNat y2)).2.1 (at_ (Ty.pair (Ty.int IntKind.i64) (Ty.pair (Ty.int IntKind.i64) (Ty.pair (Ty.sl (nat_lit 9) Ty.str) (Ty.sl (nat_lit 84) (Ty.pair Ty.str (Ty.pair Ty.bool (Ty.sl (nat_lit 3) (Ty.int IntKind.i64)))))))) y1 (Int.toNat y2)).2.2.1 (at_ (Ty.pair (Ty.int IntKind.i64) (Ty.pair (Ty.int IntKind.i64) (Ty.pair (Ty.sl (nat_lit 9) Ty.str) (Ty.sl (nat_lit 84) (Ty.pair Ty.str (Ty.pair Ty.bool (Ty.sl (nat_lit 3) (Ty.int IntKind.i64)))))))) y1 (Int.toNat y2)).2.2.2) (.br (!g_Vw_eqLogNote_0 (at_ (Ty.pair (Ty.int IntKind.i64) (Ty.pair (Ty.int IntKind.i64) (Ty.pair (Ty.sl (nat_lit 9) Ty.str) (Ty.sl (nat_lit 84) (Ty.pair Ty.str (Ty.pair Ty.bool (Ty.sl (nat_lit 3) (Ty.int IntKind.i64)))))))) y0 (Int.toNat y2)).1 (at_ (Ty.pair (Ty.int IntKind.i64) (Ty.pair (Ty.int IntKind.i64) (Ty.pair (Ty.sl (nat_lit 9) Ty.str) (Ty.sl (nat_lit 84) (Ty.pair Ty.str (Ty.pair Ty.bool (Ty.sl (nat_lit 3) (Ty.int IntKind.i64)))))))) y0 (Int.toNat y2)).2.1 (at_ (Ty.pair (Ty.int IntKind.i64) (Ty.pair (Ty.int IntKind.i64) (Ty.pair (Ty.sl (nat_lit 9) Ty.str) (Ty.sl (nat_lit 84) (Ty.pair Ty.str (Ty.pair Ty.bool (Ty.sl (nat_lit 3) (Ty.int IntKind.i64)))))))) y0 (Int.toNat y2)).2.2.1 (at_ (Ty.pair (Ty.int IntKind.i64) (Ty.pair (Ty.int IntKind.i64) (Ty.pair (Ty.sl (nat_lit 9) Ty.str) (Ty.sl (nat_lit 84) (Ty.pair Ty.str (Ty.pair Ty.bool (Ty.sl (nat_lit 3) (Ty.int IntKind.i64)))))))) y0 (Int.toNat y2)).2.2.2 (at_ (Ty.pair (Ty.int IntKind.i64) (Ty.pair (Ty.int IntKind.i64) (Ty.pair (Ty.sl (nat_lit 9) Ty.str) (Ty.sl (nat_lit 84) (Ty.pair Ty.str (Ty.pair Ty.bool (Ty.sl (nat_lit 3) (Ty.int IntKind.i64)))))))) y1 (Int.toNat y2)).1 (at_ (Ty.pair (Ty.int IntKind.i64) (Ty.pair (Ty.int IntKind.i64) (Ty.pair (Ty.sl (nat_lit 9) Ty.str) (Ty.sl (nat_lit 84) (Ty.pair Ty.str (Ty.pair Ty.bool (Ty.sl (nat_lit 3) (Ty.int IntKind.i64)))))))) y1 (Int.toNat y2)).2.1 (at_ (Ty.pair (Ty.int IntKind.i64) (Ty.pair (Ty.int IntKind.i64) (Ty.pair (Ty.sl (nat_lit 9) Ty.str) (Ty.sl (nat_lit 84) (Ty.pair Ty.str (Ty.pair Ty.bool (Ty.sl (nat_lit 3) (Ty.int IntKind.i64)))))))) y1 (Int.toNat y2)).2.2.1 (at_ (Ty.pair (Ty.int IntKind.i64) (Ty.pair (Ty.int IntKind.i64) (Ty.pair (Ty.sl (nat_lit 9) Ty.str) (Ty.sl (nat_lit 84) (Ty.pair Ty.str (Ty.pair Ty.bool (Ty.sl (nat_lit 3) (Ty.int IntKind.i64)))))))) y1 (Int.toNat y2)).2.2.2) (.out (.inl false)) (.br (true) (.go (IntKind.wrap IntKind.i64 (y2 + (1:Int)))) .bad)) .bad) .bad) .bad) (.out (.inr (())))) .bad
noncomputable def g_Lw_eqLogNoteS_0 (y0:List (Int×(Int×((List ByteArray)×(List (ByteArray×(Bool×(List Int)))))))) (y1:List (Int×(Int×((List ByteArray)×(List (ByteArray×(Bool×(List Int)))))))) (x:Int):Option ((Bool) ⊕ (Unit)) := loopO (g_Sw_eqLogNoteS_0 y0 y1) x
noncomputable def xw_eqLogNoteS_0 (y0:List (Int×(Int×((List ByteArray)×(List (ByteArray×(Bool×(List Int)))))))) (y1:List (Int×(Int×((List ByteArray)×(List (ByteArray×(Bool×(List Int)))))))):((Bool) ⊕ (Unit)) → Ex×List (Pl×LV) := fun
 | .inl r => (.ret,[(.T 4,.t (.val false [.bool r]))])
 | .inr (r) => (.exit 0,[(.T 4,.t (.val false [.undef]))])
noncomputable def Ow_eqLogNoteS_1:Orc := fun b h => match b,h with
 | 0,[(.T 0,.t (.val false [.sl .any 45 (.pair (.int .i64) (.pair (.int .i64) (.pair (.sl 9 .str) (.sl 84 (.pair .str (.pair .bool (.sl 3 (.int .i64)))))))) y0])),(.T 1,.t (.val false [.sl .any 45 (.pair (.int .i64) (.pair (.int .i64) (.pair (.sl 9 .str) (.sl 84 (.pair .str (.pair .bool (.sl 3 (.int .i64)))))))) y1])),(.T 5,.t (.val false [.int .i64 y2]))] => some (okO (g_Lw_eqLogNoteS_0 y0 y1 y2),(.br (isL (valO (g_Lw_eqLogNoteS_0 y0 y1 y2))) (.leaf .ret [(.T 4,.t (.val false [.bool (getL (valO (g_Lw_eqLogNoteS_0 y0 y1 y2)))]))]) (.leaf (.exit 0) [(.T 4,.t (.val false [.undef]))])))
 | b,h => Ow_eqLogNoteS_0 b h
theorem bw_eqLogNoteS_0 (y0:List (Int×(Int×((List ByteArray)×(List (ByteArray×(Bool×(List Int)))))))) (y1:List (Int×(Int×((List ByteArray)×(List (ByteArray×(Bool×(List Int)))))))) (y2:Int):Tr.bt Ew_eqLogNoteS Ow_eqLogNoteS_0 (exec Ew_eqLogNoteS 0 cw_eqLogNoteS_0 (St.of (hw_eqLogNoteS_0 y0 y1 y2)) (leafRd Ew_eqLogNoteS 0)) = (g_Sw_eqLogNoteS_0 y0 y1 y2).bt (fun (y2:Int) => (hw_eqLogNoteS_0 y0 y1 y2)) (xw_eqLogNoteS_0 y0 y1) := by kernel_rfl
theorem kw_eqLogNoteS_1:OrcOk Ew_eqLogNoteS Ow_eqLogNoteS_1 lsw_eqLogNoteS 1 := orc_add kw_eqLogNoteS_0 (fun n p hp h ex h' ho => by
 obtain ⟨b,c⟩ := p
 obtain ⟨xt,h1,h2⟩ := ho
 have h1:Ow_eqLogNoteS_1 b h = some (true,xt) := h1
 unfold Ow_eqLogNoteS_1 at h1
 split at h1
 ·injection h1 with h1
  injection h1 with e1 e2
  subst e2
  have hc:c = cw_eqLogNoteS_0 := mw_eqLogNoteS_0 _ hp rfl
  subst hc
  right
  rename_i y0 y1 y2
  have key := LT_step kw_eqLogNoteS_0 hp (fun q hq => loopsAll_in _ _ _ _ hp hq) (fun (y2:Int) => (hw_eqLogNoteS_0 y0 y1 y2)) (xw_eqLogNoteS_0 y0 y1) (g_Sw_eqLogNoteS_0 y0 y1) (fun x => by first | exact bw_eqLogNoteS_0 y0 y1 x) n (x := y2) (okO_some e1)
  have hx:∀ r,XT.sel (.br (isL r) (.leaf .ret [(.T 4,.t (.val false [.bool (getL r)]))]) (.leaf (.exit 0) [(.T 4,.t (.val false [.undef]))])) = xw_eqLogNoteS_0 y0 y1 r := fun r => by first | rfl | (rcases r with r | r <;> rfl) | (rcases r with r | r | r <;> rfl) | (rcases r with r | r | r | r <;> rfl)
  have h3 := (hx (valO (g_Lw_eqLogNoteS_0 y0 y1 y2))).symm.trans h2
  have e3 := congrArg Prod.fst h3
  have e4 := congrArg Prod.snd h3
  simp only at e3 e4
  rw [← e3,← e4]
  exact key
 ·exact .inl ⟨xt,h1,h2⟩)
noncomputable def g_Aw_eqLogNoteS (a0:List (Int×(Int×((List ByteArray)×(List (ByteArray×(Bool×(List Int)))))))) (a1:List (Int×(Int×((List ByteArray)×(List (ByteArray×(Bool×(List Int)))))))):Bool := (↑(List.length a0):Int) != (↑(List.length a1):Int) || okO (g_Lw_eqLogNoteS_0 a0 a1 (0:Int))
noncomputable def g_Vw_eqLogNoteS_0 (a0:List (Int×(Int×((List ByteArray)×(List (ByteArray×(Bool×(List Int)))))))) (a1:List (Int×(Int×((List ByteArray)×(List (ByteArray×(Bool×(List Int)))))))):Bool := bif (↑(List.length a0):Int) != (↑(List.length a1):Int) then false else bif isL (valO (g_Lw_eqLogNoteS_0 a0 a1 (0:Int))) then getL (valO (g_Lw_eqLogNoteS_0 a0 a1 (0:Int))) else true
noncomputable def Fw_eqLogNoteS:FSem := fun ys => match ys with
 | [.val false [.sl .any 45 (.pair (.int .i64) (.pair (.int .i64) (.pair (.sl 9 .str) (.sl 84 (.pair .str (.pair .bool (.sl 3 (.int .i64)))))))) a0],.val false [.sl .any 45 (.pair (.int .i64) (.pair (.int .i64) (.pair (.sl 9 .str) (.sl 84 (.pair .str (.pair .bool (.sl 3 (.int .i64)))))))) a1]] => some ((g_Aw_eqLogNoteS a0 a1),.val false [.bool (g_Vw_eqLogNoteS_0 a0 a1)],[])
 | _ => none
theorem vw_eqLogNoteS (a0:List (Int×(Int×((List ByteArray)×(List (ByteArray×(Bool×(List Int)))))))) (a1:List (Int×(Int×((List ByteArray)×(List (ByteArray×(Bool×(List Int)))))))):collapseH .std Ew_eqLogNoteS Ow_eqLogNoteS_1 (execFn Ew_eqLogNoteS Tryd.f40 msw_eqLogNoteS [.val false [.sl .any 45 (.pair (.int .i64) (.pair (.int .i64) (.pair (.sl 9 .str) (.sl 84 (.pair .str (.pair .bool (.sl 3 (.int .i64)))))))) a0],.val false [.sl .any 45 (.pair (.int .i64) (.pair (.int .i64) (.pair (.sl 9 .str) (.sl 84 (.pair .str (.pair .bool (.sl 3 (.int .i64)))))))) a1]]) = some ((g_Aw_eqLogNoteS a0 a1),.val false [.bool (g_Vw_eqLogNoteS_0 a0 a1)],[]) := by kernel_rfl
theorem sw_eqLogNoteS:Sound Tryd.prog 40 msw_eqLogNoteS Fw_eqLogNoteS := by
 refine fn_gen goodw_eqLogNoteS (by kernel_rfl) .std (fn := Tryd.f40) (c := (Tryd.f40.body.getD .skip)) (o := Ow_eqLogNoteS_1) (k := 1) (by kernel_rfl) (by kernel_rfl) (by kernel_rfl) (by kernel_rfl) (by decide) kw_eqLogNoteS_1 ?_
 intro ys r outs h
 unfold Fw_eqLogNoteS at h
 split at h
 ·exact (vw_eqLogNoteS _ _).trans h
 ·cases h
noncomputable def Ew_eqLogDisk:Env where
 tt := mkTI Tryd.prog
 fn := fun f => match f with
  | 40 => some (msw_eqLogNoteS,FSem.wk msw_eqLogNoteS Fw_eqLogNoteS)
  | _ => none
 bxf := fun _ => none
 mv := []
 keep := fun _ => []
 keepB := fun _ => []
 keepX := fun _ => []
 keepXB := fun _ => []
theorem goodFw_eqLogDisk:∀ f ms F,Ew_eqLogDisk.fn f = some (ms,F) → Sound Tryd.prog f ms F := fun f ms F h => by
 unfold Ew_eqLogDisk at h
 dsimp only at h
 split at h
 ·injection h with h; injection h with e1 e2; subst e1 e2; exact Sound.wk sw_eqLogNoteS
 ·cases h
theorem goodBw_eqLogDisk:∀ f ms F,Ew_eqLogDisk.bxf f = some (ms,F) → SoundB Tryd.prog f ms F := fun f ms F h => by cases h
theorem goodw_eqLogDisk:Good Tryd.prog Ew_eqLogDisk := ⟨rfl,goodFw_eqLogDisk,goodBw_eqLogDisk⟩
noncomputable def Ow_eqLogDisk_0:Orc := fun _ _ => none
noncomputable def msw_eqLogDisk:List PM := [.rd,.rd]
noncomputable def lsw_eqLogDisk:List (Nat×Code) := loopsAll 0 (Tryd.f25.body.getD .skip)
theorem kw_eqLogDisk_0:OrcOk Ew_eqLogDisk Ow_eqLogDisk_0 lsw_eqLogDisk 0 := orcOk_none
noncomputable def g_Aw_eqLogDisk (a0:List (Int×(Int×((List ByteArray)×(List (ByteArray×(Bool×(List Int)))))))) (a1:Int) (a2:List (Int×(Int×((List ByteArray)×(List (ByteArray×(Bool×(List Int)))))))) (a3:Int):Bool := g_Aw_eqLogNoteS a0 a2&&(!g_Vw_eqLogNoteS_0 a0 a2 || true)
noncomputable def g_Vw_eqLogDisk_0 (a0:List (Int×(Int×((List ByteArray)×(List (ByteArray×(Bool×(List Int)))))))) (a1:Int) (a2:List (Int×(Int×((List ByteArray)×(List (ByteArray×(Bool×(List Int)))))))) (a3:Int):Bool := bif !g_Vw_eqLogNoteS_0 a0 a2 then false else bif a1 != a3 then false else true
noncomputable def Fw_eqLogDisk:FSem := fun ys => match ys with
 | [.val true [.sl .any 45 (.pair (.int .i64) (.pair (.int .i64) (.pair (.sl 9 .str) (.sl 84 (.pair .str (.pair .bool (.sl 3 (.int .i64)))))))) a0,.int .i64 a1],.val true [.sl .any 45 (.pair (.int .i64) (.pair (.int .i64) (.pair (.sl 9 .str) (.sl 84 (.pair .str (.pair .bool (.sl 3 (.int .i64)))))))) a2,.int .i64 a3]] => some ((g_Aw_eqLogDisk a0 a1 a2 a3),.val false [.bool (g_Vw_eqLogDisk_0 a0 a1 a2 a3)],[])
 | _ => none
theorem vw_eqLogDisk (a0:List (Int×(Int×((List ByteArray)×(List (ByteArray×(Bool×(List Int)))))))) (a1:Int) (a2:List (Int×(Int×((List ByteArray)×(List (ByteArray×(Bool×(List Int)))))))) (a3:Int):collapseH .std Ew_eqLogDisk Ow_eqLogDisk_0 (execFn Ew_eqLogDisk Tryd.f25 msw_eqLogDisk [.val true [.sl .any 45 (.pair (.int .i64) (.pair (.int .i64) (.pair (.sl 9 .str) (.sl 84 (.pair .str (.pair .bool (.sl 3 (.int .i64)))))))) a0,.int .i64 a1],.val true [.sl .any 45 (.pair (.int .i64) (.pair (.int .i64) (.pair (.sl 9 .str) (.sl 84 (.pair .str (.pair .bool (.sl 3 (.int .i64)))))))) a2,.int .i64 a3]]) = some ((g_Aw_eqLogDisk a0 a1 a2 a3),.val false [.bool (g_Vw_eqLogDisk_0 a0 a1 a2 a3)],[]) := by kernel_rfl
theorem sw_eqLogDisk:Sound Tryd.prog 25 msw_eqLogDisk Fw_eqLogDisk := by
 refine fn_gen goodw_eqLogDisk (by kernel_rfl) .std (fn := Tryd.f25) (c := (Tryd.f25.body.getD .skip)) (o := Ow_eqLogDisk_0) (k := 0) (by kernel_rfl) (by kernel_rfl) (by kernel_rfl) (by kernel_rfl) (by decide) kw_eqLogDisk_0 ?_
 intro ys r outs h
 unfold Fw_eqLogDisk at h
 split at h
 ·exact (vw_eqLogDisk _ _ _ _).trans h
 ·cases h
noncomputable def Ew_eqFroState:Env where
 tt := mkTI Tryd.prog
 fn := fun f => match f with
  | 25 => some (msw_eqLogDisk,FSem.wk msw_eqLogDisk Fw_eqLogDisk)
  | 26 => some (msw_eqFroTxS,FSem.wk msw_eqFroTxS Fw_eqFroTxS)
  | _ => none
 bxf := fun _ => none
 mv := []
 keep := fun _ => []
 keepB := fun _ => []
 keepX := fun _ => []
 keepXB := fun _ => []
theorem goodFw_eqFroState:∀ f ms F,Ew_eqFroState.fn f = some (ms,F) → Sound Tryd.prog f ms F := fun f ms F h => by
 unfold Ew_eqFroState at h
 dsimp only at h
 split at h
 ·injection h with h; injection h with e1 e2; subst e1 e2; exact Sound.wk sw_eqLogDisk
 ·injection h with h; injection h with e1 e2; subst e1 e2; exact Sound.wk sw_eqFroTxS
 ·cases h
theorem goodBw_eqFroState:∀ f ms F,Ew_eqFroState.bxf f = some (ms,F) → SoundB Tryd.prog f ms F := fun f ms F h => by cases h
theorem goodw_eqFroState:Good Tryd.prog Ew_eqFroState := ⟨rfl,goodFw_eqFroState,goodBw_eqFroState⟩
noncomputable def Ow_eqFroState_0:Orc := fun _ _ => none
noncomputable def msw_eqFroState:List PM := [.rd,.rd]
noncomputable def lsw_eqFroState:List (Nat×Code) := loopsAll 0 (Tryd.f8.body.getD .skip)
theorem kw_eqFroState_0:OrcOk Ew_eqFroState Ow_eqFroState_0 lsw_eqFroState 0 := orcOk_none
noncomputable def g_Aw_eqFroState (a0:List (Int×(Int×((List ByteArray)×(List (ByteArray×(Bool×(List Int)))))))) (a1:Int) (a2:List (Int×((Int×(Int×(Int×(Int×(Int×(Int×Int))))))×(Bool×((List Int)×(List Int)))))) (a3:List (Int×(Int×((List ByteArray)×(List (ByteArray×(Bool×(List Int)))))))) (a4:Int) (a5:List (Int×((Int×(Int×(Int×(Int×(Int×(Int×Int))))))×(Bool×((List Int)×(List Int)))))):Bool := g_Aw_eqLogDisk a0 a1 a3 a4&&(!g_Vw_eqLogDisk_0 a0 a1 a3 a4 || g_Aw_eqFroTxS a2 a5)
noncomputable def g_Vw_eqFroState_0 (a0:List (Int×(Int×((List ByteArray)×(List (ByteArray×(Bool×(List Int)))))))) (a1:Int) (a2:List (Int×((Int×(Int×(Int×(Int×(Int×(Int×Int))))))×(Bool×((List Int)×(List Int)))))) (a3:List (Int×(Int×((List ByteArray)×(List (ByteArray×(Bool×(List Int)))))))) (a4:Int) (a5:List (Int×((Int×(Int×(Int×(Int×(Int×(Int×Int))))))×(Bool×((List Int)×(List Int)))))):Bool := bif !g_Vw_eqLogDisk_0 a0 a1 a3 a4 then false else bif !g_Vw_eqFroTxS_0 a2 a5 then false else true
noncomputable def Fw_eqFroState:FSem := fun ys => match ys with
 | [.val true [.sl .any 45 (.pair (.int .i64) (.pair (.int .i64) (.pair (.sl 9 .str) (.sl 84 (.pair .str (.pair .bool (.sl 3 (.int .i64)))))))) a0,.int .i64 a1,.sl .any 50 (.pair (.int .i64) (.pair (.pair (.int .i64) (.pair (.int .i64) (.pair (.int .i64) (.pair (.int .i64) (.pair (.int .i64) (.pair (.int .i64) (.int .i64))))))) (.pair .bool (.pair (.sl 3 (.int .i64)) (.sl 3 (.int .i64)))))) a2],.val true [.sl .any 45 (.pair (.int .i64) (.pair (.int .i64) (.pair (.sl 9 .str) (.sl 84 (.pair .str (.pair .bool (.sl 3 (.int .i64)))))))) a3,.int .i64 a4,.sl .any 50 (.pair (.int .i64) (.pair (.pair (.int .i64) (.pair (.int .i64) (.pair (.int .i64) (.pair (.int .i64) (.pair (.int .i64) (.pair (.int .i64) (.int .i64))))))) (.pair .bool (.pair (.sl 3 (.int .i64)) (.sl 3 (.int .i64)))))) a5]] => some ((g_Aw_eqFroState a0 a1 a2 a3 a4 a5),.val false [.bool (g_Vw_eqFroState_0 a0 a1 a2 a3 a4 a5)],[])
 | _ => none
theorem vw_eqFroState (a0:List (Int×(Int×((List ByteArray)×(List (ByteArray×(Bool×(List Int)))))))) (a1:Int) (a2:List (Int×((Int×(Int×(Int×(Int×(Int×(Int×Int))))))×(Bool×((List Int)×(List Int)))))) (a3:List (Int×(Int×((List ByteArray)×(List (ByteArray×(Bool×(List Int)))))))) (a4:Int) (a5:List (Int×((Int×(Int×(Int×(Int×(Int×(Int×Int))))))×(Bool×((List Int)×(List Int)))))):collapseH .std Ew_eqFroState Ow_eqFroState_0 (execFn Ew_eqFroState Tryd.f8 msw_eqFroState [.val true [.sl .any 45 (.pair (.int .i64) (.pair (.int .i64) (.pair (.sl 9 .str) (.sl 84 (.pair .str (.pair .bool (.sl 3 (.int .i64)))))))) a0,.int .i64 a1,.sl .any 50 (.pair (.int .i64) (.pair (.pair (.int .i64) (.pair (.int .i64) (.pair (.int .i64) (.pair (.int .i64) (.pair (.int .i64) (.pair (.int .i64) (.int .i64))))))) (.pair .bool (.pair (.sl 3 (.int .i64)) (.sl 3 (.int .i64)))))) a2],.val true [.sl .any 45 (.pair (.int .i64) (.pair (.int .i64) (.pair (.sl 9 .str) (.sl 84 (.pair .str (.pair .bool (.sl 3 (.int .i64)))))))) a3,.int .i64 a4,.sl .any 50 (.pair (.int .i64) (.pair (.pair (.int .i64) (.pair (.int .i64) (.pair (.int .i64) (.pair (.int .i64) (.pair (.int .i64) (.pair (.int .i64) (.int .i64))))))) (.pair .bool (.pair (.sl 3 (.int .i64)) (.sl 3 (.int .i64)))))) a5]]) = some ((g_Aw_eqFroState a0 a1 a2 a3 a4 a5),.val false [.bool (g_Vw_eqFroState_0 a0 a1 a2 a3 a4 a5)],[]) := by kernel_rfl
theorem sw_eqFroState:Sound Tryd.prog 8 msw_eqFroState Fw_eqFroState := by
 refine fn_gen goodw_eqFroState (by kernel_rfl) .std (fn := Tryd.f8) (c := (Tryd.f8.body.getD .skip)) (o := Ow_eqFroState_0) (k := 0) (by kernel_rfl) (by kernel_rfl) (by kernel_rfl) (by kernel_rfl) (by decide) kw_eqFroState_0 ?_
 intro ys r outs h
 unfold Fw_eqFroState at h
 split at h
 ·exact (vw_eqFroState _ _ _ _ _ _).trans h
 ·cases h
noncomputable def Ew_szIntS:Env where
 tt := mkTI Tryd.prog
 fn := fun _ => none
 bxf := fun _ => none
 mv := []
 keep := fun _ => []
 keepB := fun _ => []
 keepX := fun _ => []
 keepXB := fun _ => []
theorem goodFw_szIntS:∀ f ms F,Ew_szIntS.fn f = some (ms,F) → Sound Tryd.prog f ms F := fun f ms F h => by cases h
theorem goodBw_szIntS:∀ f ms F,Ew_szIntS.bxf f = some (ms,F) → SoundB Tryd.prog f ms F := fun f ms F h => by cases h
theorem goodw_szIntS:Good Tryd.prog Ew_szIntS := ⟨rfl,goodFw_szIntS,goodBw_szIntS⟩
noncomputable def Ow_szIntS_0:Orc := fun _ _ => none
noncomputable def msw_szIntS:List PM := [.rd,.own]
noncomputable def lsw_szIntS:List (Nat×Code) := loopsAll 0 (Tryd.f43.body.getD .skip)
theorem kw_szIntS_0:OrcOk Ew_szIntS Ow_szIntS_0 lsw_szIntS 0 := orcOk_none
noncomputable def g_Vw_szIntS_0 (a0:List Int) (a1:Int):Int := bif decide (IntKind.wrap IntKind.i64 (a1 - (↑(List.length a0):Int)) < (0:Int)) then (-1:Int) else IntKind.wrap IntKind.i64 (a1 - (↑(List.length a0):Int))
noncomputable def Fw_szIntS:FSem := fun ys => match ys with
 | [.val false [.sl .any 3 (.int .i64) a0],.val false [.int .i64 a1]] => some (true,.val false [.int .i64 (g_Vw_szIntS_0 a0 a1)],[])
 | _ => none
theorem vw_szIntS (a0:List Int) (a1:Int):collapseH .std Ew_szIntS Ow_szIntS_0 (execFn Ew_szIntS Tryd.f43 msw_szIntS [.val false [.sl .any 3 (.int .i64) a0],.val false [.int .i64 a1]]) = some (true,.val false [.int .i64 (g_Vw_szIntS_0 a0 a1)],[]) := by kernel_rfl
theorem sw_szIntS:Sound Tryd.prog 43 msw_szIntS Fw_szIntS := by
 refine fn_gen goodw_szIntS (by kernel_rfl) .std (fn := Tryd.f43) (c := (Tryd.f43.body.getD .skip)) (o := Ow_szIntS_0) (k := 0) (by kernel_rfl) (by kernel_rfl) (by kernel_rfl) (by kernel_rfl) (by decide) kw_szIntS_0 ?_
 intro ys r outs h
 unfold Fw_szIntS at h
 split at h
 ·exact (vw_szIntS _ _).trans h
 ·cases h
noncomputable def Ew_szFroTx:Env where
 tt := mkTI Tryd.prog
 fn := fun f => match f with
  | 43 => some (msw_szIntS,FSem.wk msw_szIntS Fw_szIntS)
  | _ => none
 bxf := fun _ => none
 mv := []
 keep := fun _ => []
 keepB := fun _ => []
 keepX := fun _ => []
 keepXB := fun _ => []
theorem goodFw_szFroTx:∀ f ms F,Ew_szFroTx.fn f = some (ms,F) → Sound Tryd.prog f ms F := fun f ms F h => by
 unfold Ew_szFroTx at h
 dsimp only at h
 split at h
 ·injection h with h; injection h with e1 e2; subst e1 e2; exact Sound.wk sw_szIntS
 ·cases h
theorem goodBw_szFroTx:∀ f ms F,Ew_szFroTx.bxf f = some (ms,F) → SoundB Tryd.prog f ms F := fun f ms F h => by cases h
theorem goodw_szFroTx:Good Tryd.prog Ew_szFroTx := ⟨rfl,goodFw_szFroTx,goodBw_szFroTx⟩
noncomputable def Ow_szFroTx_0:Orc := fun _ _ => none
noncomputable def msw_szFroTx:List PM := [.rd,.own]
noncomputable def lsw_szFroTx:List (Nat×Code) := loopsAll 0 (Tryd.f28.body.getD .skip)
theorem kw_szFroTx_0:OrcOk Ew_szFroTx Ow_szFroTx_0 lsw_szFroTx 0 := orcOk_none
noncomputable def g_Aw_szFroTx (a0:Int) (a1:Int) (a2:Int) (a3:Int) (a4:Int) (a5:Int) (a6:Int) (a7:Int) (a8:Bool) (a9:List Int) (a10:List Int) (a11:Int):Bool := decide (g_Vw_szIntS_0 a9 a11 < (0:Int)) || true
noncomputable def g_Vw_szFroTx_0 (a0:Int) (a1:Int) (a2:Int) (a3:Int) (a4:Int) (a5:Int) (a6:Int) (a7:Int) (a8:Bool) (a9:List Int) (a10:List Int) (a11:Int):Int := bif decide (g_Vw_szIntS_0 a9 a11 < (0:Int)) then (-1:Int) else bif decide (g_Vw_szIntS_0 a10 (g_Vw_szIntS_0 a9 a11) < (0:Int)) then (-1:Int) else g_Vw_szIntS_0 a10 (g_Vw_szIntS_0 a9 a11)
noncomputable def Fw_szFroTx:FSem := fun ys => match ys with
 | [.val true [.int .i64 a0,.int .i64 a1,.int .i64 a2,.int .i64 a3,.int .i64 a4,.int .i64 a5,.int .i64 a6,.int .i64 a7,.bool a8,.sl .any 3 (.int .i64) a9,.sl .any 3 (.int .i64) a10],.val false [.int .i64 a11]] => some ((g_Aw_szFroTx a0 a1 a2 a3 a4 a5 a6 a7 a8 a9 a10 a11),.val false [.int .i64 (g_Vw_szFroTx_0 a0 a1 a2 a3 a4 a5 a6 a7 a8 a9 a10 a11)],[])
 | _ => none
theorem vw_szFroTx (a0:Int) (a1:Int) (a2:Int) (a3:Int) (a4:Int) (a5:Int) (a6:Int) (a7:Int) (a8:Bool) (a9:List Int) (a10:List Int) (a11:Int):collapseH .std Ew_szFroTx Ow_szFroTx_0 (execFn Ew_szFroTx Tryd.f28 msw_szFroTx [.val true [.int .i64 a0,.int .i64 a1,.int .i64 a2,.int .i64 a3,.int .i64 a4,.int .i64 a5,.int .i64 a6,.int .i64 a7,.bool a8,.sl .any 3 (.int .i64) a9,.sl .any 3 (.int .i64) a10],.val false [.int .i64 a11]]) = some ((g_Aw_szFroTx a0 a1 a2 a3 a4 a5 a6 a7 a8 a9 a10 a11),.val false [.int .i64 (g_Vw_szFroTx_0 a0 a1 a2 a3 a4 a5 a6 a7 a8 a9 a10 a11)],[]) := by kernel_rfl
theorem sw_szFroTx:Sound Tryd.prog 28 msw_szFroTx Fw_szFroTx := by
 refine fn_gen goodw_szFroTx (by kernel_rfl) .std (fn := Tryd.f28) (c := (Tryd.f28.body.getD .skip)) (o := Ow_szFroTx_0) (k := 0) (by kernel_rfl) (by kernel_rfl) (by kernel_rfl) (by kernel_rfl) (by decide) kw_szFroTx_0 ?_
 intro ys r outs h
 unfold Fw_szFroTx at h
 split at h
 ·exact (vw_szFroTx _ _ _ _ _ _ _ _ _ _ _ _).trans h
 ·cases h
noncomputable def Ew_szFroTxS:Env where
 tt := mkTI Tryd.prog
 fn := fun f => match f with
  | 28 => some (msw_szFroTx,FSem.wk msw_szFroTx Fw_szFroTx)
  | _ => none
 bxf := fun _ => none
 mv := []
 keep := fun b => match b with
  | 0 => [(0,false),(1,false),(5,false)]
  | _ => []
 keepB := fun b => match b with
  | 0 => []
  | _ => []
 keepX := fun b => match b with
  | 0 => [(1,false),(4,false)]
  | _ => []
 keepXB := fun b => match b with
  | 0 => []
  | _ => []
theorem goodFw_szFroTxS:∀ f ms F,Ew_szFroTxS.fn f = some (ms,F) → Sound Tryd.prog f ms F := fun f ms F h => by
 unfold Ew_szFroTxS at h
 dsimp only at h
 split at h
 ·injection h with h; injection h with e1 e2; subst e1 e2; exact Sound.wk sw_szFroTx
 ·cases h
theorem goodBw_szFroTxS:∀ f ms F,Ew_szFroTxS.bxf f = some (ms,F) → SoundB Tryd.prog f ms F := fun f ms F h => by cases h
theorem goodw_szFroTxS:Good Tryd.prog Ew_szFroTxS := ⟨rfl,goodFw_szFroTxS,goodBw_szFroTxS⟩
noncomputable def Ow_szFroTxS_0:Orc := fun _ _ => none
noncomputable def msw_szFroTxS:List PM := [.rd,.own]
noncomputable def lsw_szFroTxS:List (Nat×Code) := loopsAll 0 (Tryd.f10.body.getD .skip)
noncomputable def cw_szFroTxS_0:Code := (loopOf 0 (Tryd.f10.body.getD .skip)).getD .skip
theorem lseqw_szFroTxS:lsw_szFroTxS = [(0,cw_szFroTxS_0)] := by kernel_rfl
theorem mw_szFroTxS_0:∀ p,p ∈ lsw_szFroTxS → p.1 = 0 → p.2 = cw_szFroTxS_0 := by
 intro p hp
 rw [lseqw_szFroTxS] at hp
 simp only [List.mem_cons,List.not_mem_nil,or_false] at hp
 subst hp; simp
theorem kw_szFroTxS_0:OrcOk Ew_szFroTxS Ow_szFroTxS_0 lsw_szFroTxS 0 := orcOk_none
noncomputable def hw_szFroTxS_0 (y0:List (Int×((Int×(Int×(Int×(Int×(Int×(Int×Int))))))×(Bool×((List Int)×(List Int)))))) (y1:Int) (y2:Int):List (Pl×LV) := [(.T 0,.t (.val false [.sl .any 67 (.pair (.int .i64) (.pair (.pair (.int .i64) (.pair (.int .i64) (.pair (.int .i64) (.pair (.int .i64) (.pair (.int .i64) (.pair (.int .i64) (.int .i64))))))) (.pair .bool (.pair (.sl 3 (.int .i64)) (.sl 3 (.int .i64)))))) y0])),(.T 1,.t (.val false [.int .i64 y1])),(.T 5,.t (.val false [.int .i64 y2]))]
noncomputable def g_Sw_szFroTxS_0 (y0:List (Int×((Int×(Int×(Int×(Int×(Int×(Int×Int))))))×(Bool×((List Int)×(List Int)))))):(Int×Int) → RT (Int×Int) ((Int×Int) ⊕ (Int))
 | (y1,y2) => .br (true) (.br (decide (y2 < (↑(List.length y0):Int))) (.br (decide ((0:Int) ≤ y2 ∧ y2 < (↑(List.length y0):Int))) (.br (g_Aw_szFroTx (at_ (Ty.pair (Ty.int IntKind.i64) (Ty.pair (Ty.pair (Ty.int IntKind.i64) (Ty.pair (Ty.int IntKind.i64) (Ty.pair (Ty.int IntKind.i64) (Ty.pair (Ty.int IntKind.i64) (Ty.pair (Ty.int IntKind.i64) (Ty.pair (Ty.int IntKind.i64) (Ty.int IntKind.i64))))))) (Ty.pair Ty.bool (Ty.pair (Ty.sl (nat_lit 3) (Ty.int IntKind.i64)) (Ty.sl (nat_lit 3) (Ty.int IntKind.i64)))))) y0 (Int.toNat y2)).1 (at_ (Ty.pair (Ty.int IntKind.i64) (Ty.pair (Ty.pair (Ty.int IntKind.i64) (Ty.pair (Ty.int IntKind.i64) (Ty.pair (Ty.int IntKind.i64) (Ty.pair (Ty.int IntKind.i64) (Ty.pair (Ty.int IntKind.i64) (Ty.pair (Ty.int IntKind.i64) (Ty.int IntKind.i64))))))) (Ty.pair Ty.bool (Ty.pair (Ty.sl (nat_lit 3) (Ty.int IntKind.i64)) (Ty.sl (nat_lit 3) (Ty.int IntKind.i64)))))) y0 (Int.toNat y2)).2.1.1 (at_ (Ty.pair (Ty.int IntKind.i64) (Ty.pair (Ty.pair (Ty.int IntKind.i64) (Ty.pair (Ty.int IntKind.i64) (Ty.pair (Ty.int IntKind.i64) (Ty.pair (Ty.int IntKind.i64) (Ty.pair (Ty.int IntKind.i64) (Ty.pair (Ty.int IntKind.i64) (Ty.int IntKind.i64))))))) (Ty.pair Ty.bool (Ty.pair (Ty.sl (nat_lit 3) (Ty.int IntKind.i64)) (Ty.sl (nat_lit 3) (Ty.int IntKind.i64)))))) y0 (Int.toNat y2)).2.1.2.1 (at_ (Ty.pair (Ty.int IntKind.i64) (Ty.pair (Ty.pair (Ty.int IntKind.i64) (Ty.pair (Ty.int IntKind.i64) (Ty.pair (Ty.int IntKind.i64) (Ty.pair (Ty.int IntKind.i64) (Ty.pair (Ty.int IntKind.i64) (Ty.pair (Ty.int IntKind.i64) (Ty.int IntKind.i64))))))) (Ty.pair Ty.bool (Ty.pair (Ty.sl (nat_lit 3) (Ty.int IntKind.i64)) (Ty.sl (nat_lit 3) (Ty.int IntKind.i64)))))) y0 (Int.toNat y2)).2.1.2.2.1 (at_ (Ty.pair (Ty.int IntKind.i64) (Ty.pair (Ty.pair (Ty.int IntKind.i64) (Ty.pair (Ty.int IntKind.i64) (Ty.pair (Ty.int IntKind.i64) (Ty.pair (Ty.int IntKind.i64) (Ty.pair (Ty.int IntKind.i64) (Ty.pair (Ty.int IntKind.i64) (Ty.int IntKind.i64))))))) (Ty.pair Ty.bool (Ty.pair (Ty.sl (nat_lit 3) (Ty.int IntKind.i64)) (Ty.sl (nat_lit 3) (Ty.int IntKind.i64)))))) y0 (Int.toNat y2)).2.1.2.2.2.1 (at_ (Ty.pair (Ty.int IntKind.i64) (Ty.pair (Ty.pair (Ty.int IntKind.i64) (Ty.pair (Ty.int IntKind.i64) (Ty.pair (Ty.int IntKind.i64) (Ty.pair (Ty.int IntKind.i64) (Ty.pair (Ty.int IntKind.i64) (Ty.pair (Ty.int IntKind.i64) (Ty.int IntKind.i64))))))) (Ty.pair Ty.bool (Ty.pair (Ty.sl (nat_lit 3) (Ty.int IntKind.i64)) (Ty.sl (nat_lit 3) (Ty.int IntKind.i64)))))) y0 (Int.toNat y2)).2.1.2.2.2.2.1 (at_ (Ty.pair (Ty.int IntKind.i64) (Ty.pair (Ty.pair (Ty.int IntKind.i64) (Ty.pair (Ty.int IntKind.i64) (Ty.pair (Ty.int IntKind.i64) (Ty.pair (Ty.int IntKind.i64) (Ty.pair (Ty.int IntKind.i64) (Ty.pair (Ty.int IntKind.i64) (Ty.int IntKind.i64))))))) (Ty.pair Ty.bool (Ty.pair (Ty.sl (nat_lit 3) (Ty.int IntKind.i64)) (Ty.sl (nat_lit 3) (Ty.int IntKind.i64)))))) y0 (Int.toNat y2)).2.1.2.2.2.2.2.1 (at_ (Ty.pair (Ty.int IntKind.i64) (Ty.pair (Ty.pair (Ty.int IntKind.i64) (Ty.pair (Ty.int IntKind.i64) (Ty.pair (Ty.int IntKind.i64) (Ty.pair (Ty.int IntKind.i64) (Ty.pair (Ty.int IntKind.i64) (Ty.pair (Ty.int IntKind.i64) (Ty.int IntKind.i64))))))) (Ty.pair Ty.bool (Ty.pair (Ty.sl (nat_lit 3) (Ty.int IntKind.i64)) (Ty.sl (nat_lit 3) (Ty.int IntKind.i64)))))) y0 (Int.toNat y2)).2.1.2.2.2.2.2.2 (at_ (Ty.pair (Ty.int IntKind.i64) (Ty.pair (Ty.pair (Ty.int IntKind.i64) (Ty.pair (Ty.int IntKind.i64) (Ty.pair (Ty.int IntKind.i64) (Ty.pair (Ty.int IntKind.i64) (Ty.pair (Ty.int IntKind.i64) (Ty.pair (Ty.int IntKind.i64) (Ty.int IntKind.i64))))))) (Ty.pair Ty.bool (Ty.pair (Ty.sl (nat_lit 3) (Ty.int IntKind.i64)) (Ty.sl (nat_lit 3) (Ty.int IntKind.i64)))))) y0 (Int.toNat y2)).2.2.1 (at_ (Ty.pair (Ty.int IntKind.i64) (Ty.pair (Ty.pair (Ty.int IntKind.i64) (Ty.pair (Ty.int IntKind.i64) (Ty.pair (Ty.int IntKind.i64) (Ty.pair (Ty.int IntKind.i64) (Ty.pair (Ty.int IntKind.i64) (Ty.pair (Ty.int IntKind.i64) (Ty.int IntKind.i64))))))) (Ty.pair Ty.bool (Ty.pair (Ty.sl (nat_lit 3) (Ty.int IntKind.i64)) (Ty.sl (nat_lit 3) (Ty.int IntKind.i64)))))) y0 (Int.toNat y2)).2.2.2.1 (at_ (Ty.pair (Ty.int IntKind.i64) (Ty.pair (Ty.pair (Ty.int IntKind.i64) (Ty.pair (Ty.int IntKind.i64) (Ty.pair (Ty.int IntKind.i64) (Ty.pair (Ty.int IntKind.i64) (Ty.pair (Ty.int IntKind.i64) (Ty.pair (Ty.int IntKind.i64) (Ty.int IntKind.i64))))))) (Ty.pair Ty.bool (Ty.pair (Ty.sl (nat_lit 3) (Ty.int IntKind.i64)) (Ty.sl (nat_lit 3) (Ty.int IntKind.i64)))))) y0 (Int.toNat y2)).2.2.2.2 y1) (.br (true) (.br (decide (g_Vw_szFroTx_0 (at_ (Ty.pair (Ty.int IntKind.i64) (Ty.pair (Ty.pair (Ty.int IntKind.i64) (Ty.pair (Ty.int IntKind.i64) (Ty.pair (Ty.int IntKind.i64) (Ty.pair (Ty.int IntKind.i64) (Ty.pair (Ty.int IntKind.i64) (Ty.pair (Ty.int IntKind.i64) (Ty.int IntKind.i64))))))) (Ty.pair Ty.bool (Ty.pair (Ty.sl (nat_lit 3) (Ty.int IntKind.i64)) (Ty.sl (nat_lit 3) (Ty.int IntKind.i64)))))) y0 (Int.toNat y2)).1 (at_ (Ty.pair (Ty.int IntKind.i64) (Ty.pair (Ty.pair (Ty.int IntKind.i64) (Ty.pair (Ty.int IntKind.i64) (Ty.pair (Ty.int IntKind.i64) (Ty.pair (Ty.int IntKind.i64) (Ty.pair (Ty.int IntKind.i64) (Ty.pair (Ty.int IntKind.i64) (Ty.int IntKind.i64))))))) (Ty.pair Ty.bool (Ty.pair (Ty.sl (nat_lit 3) (Ty.int IntKind.i64)) (Ty.sl (nat_lit 3) (Ty.int IntKind.i64)))))) y0 (Int.toNat y2)).2.1.1 (at_ (Ty.pair (Ty.int IntKind.i64) (Ty.pair (Ty.pair (Ty.int IntKind.i64) (Ty.pair (Ty.int IntKind.i64) (Ty.pair (Ty.int IntKind.i64) (Ty.pair (Ty.int IntKind.i64) (Ty.pair (Ty.int IntKind.i64) (Ty.pair (Ty.int IntKind.i64) (Ty.int IntKind.i64))))))) (Ty.pair Ty.bool (Ty.pair (Ty.sl (nat_lit 3) (Ty.int IntKind.i64)) (Ty.sl (nat_lit 3) (Ty.int IntKind.i64)))))) y0 (Int.toNat y2)).2.1.2.1 (at_ (Ty.pair (Ty.int IntKind.i64) (Ty.pair (Ty.pair (Ty.int IntKind.i64) (Ty.pair (Ty.int IntKind.i64) (Ty.pair (Ty.int IntKind.i64) (Ty.pair (Ty.int IntKind.i64) (Ty.pair (Ty.int IntKind.i64) (Ty.pair (Ty.int IntKind.i64) (Ty.int IntKind.i64))))))) (Ty.pair Ty.bool (Ty.pair (Ty.sl (nat_lit 3) (Ty.int IntKind.i64)) (Ty.sl (nat_lit 3) (Ty.int IntKind.i64)))))) y0 (Int.toNat y2)).2.1.2.2.1 (at_ (Ty.pair (Ty.int IntKind.i64) (Ty.pair (Ty.pair (Ty.int IntKind.i64) (Ty.pair (Ty.int IntKind.i64) (Ty.pair (Ty.int IntKind.i64) (Ty.pair (Ty.int IntKind.i64) (Ty.pair (Ty.int IntKind.i64) (Ty.pair (Ty.int IntKind.i64) (Ty.int IntKind.i64))))))) (Ty.pair Ty.bool (Ty.pair (Ty.sl (nat_lit 3) (Ty.int IntKind.i64)) (Ty.sl (nat_lit 3) (Ty.int IntKind.i64)))))) y0 (Int.toNat y2)).2.1.2.2.2.1 (at_ (Ty.pair (Ty.int IntKind.i64) (Ty.pair (Ty.pair (Ty.int IntKind.i64) (Ty.pair (Ty.int IntKind.i64) (Ty.pair (Ty.int IntKind.i64) (Ty.pair (Ty.int IntKind.i64) (Ty.pair (Ty.int IntKind.i64) (Ty.pair (Ty.int IntKind.i64) (Ty.int IntKind.i64))))))) (Ty.pair Ty.bool (Ty.pair (Ty.sl (nat_lit 3) (Ty.int IntKind.i64)) (Ty.sl (nat_lit 3) (Ty.int IntKind.i64)))))) y0 (Int.toNat y2)).2.1.2.2.2.2.1 (at_ (Ty.pair (Ty.int IntKind.i64) (Ty.pair (Ty.pair (Ty.int IntKind.i64) (Ty.pair (Ty.int IntKind.i64) (Ty.pair (Ty.int IntKind.i64) (Ty.pair (Ty.int IntKind.i64) (Ty.pair (Ty.int IntKind.i64) (Ty.pair (Ty.int IntKind.i64) (Ty.int IntKind.i64))))))) (Ty.pair Ty.bool (Ty.pair (Ty.sl (nat_lit 3) (Ty.int IntKind.i64)) (Ty.sl (nat_lit 3) (Ty.int IntKind.i64)))))) y0 (Int.toNat y2)).2.1.2.2.2.2.2.1 (at_ (Ty.pair (Ty.int IntKind.i64) (Ty.pair (Ty.pair (Ty.int IntKind.i64) (Ty.pair (Ty.int IntKind.i64) (Ty.pair (Ty.int IntKind.i64) (Ty.pair (Ty.int IntKind.i64) (Ty.pair (Ty.int IntKind.i64) (Ty.pair (Ty.int IntKind.i64) (Ty.int IntKind.i64))))))) (Ty.pair Ty.bool (Ty.pair (Ty.sl (nat_lit 3) (Ty.int IntKind.i64)) (Ty.sl (nat_lit 3) (Ty.int IntKind.i64)))))) y0 (Int.toNat y2)).2.1.2.2.2.2.2.2 (at_ (Ty.pair (Ty.int IntKind.i64) (Ty.pair (Ty.pair (Ty.int IntKind.i64) (Ty.pair (Ty.int IntKind.i64) (Ty.pair (Ty.int IntKind.i64) (Ty.pair (Ty.int IntKind.i64) (Ty.pair (Ty.int IntKind.i64) (Ty.pair (Ty.int IntKind.i64) (Ty.int IntKind.i64))))))) (Ty.pair Ty.bool (Ty.pair (Ty.sl (nat_lit 3) (Ty.int IntKind.i64)) (Ty.sl (nat_lit 3) (Ty.int IntKind.i64)))))) y0 (Int.toNat y2)).2.2.1 (at_ (Ty.pair (Ty.int IntKind.i64) (Ty.pair (Ty.pair (Ty.int IntKind.i64) (Ty.pair (Ty.int IntKind.i64) (Ty.pair (Ty.int IntKind.i64) (Ty.pair (Ty.int IntKind.i64) (Ty.pair (Ty.int IntKind.i64) (Ty.pair (Ty.int IntKind.i64) (Ty.int IntKind.i64))))))) (Ty.pair Ty.bool (Ty.pair (Ty.sl (nat_lit 3) (Ty.int IntKind.i64)) (Ty.sl (nat_lit 3) (Ty.int IntKind.i64)))))) y0 (Int.toNat y2)).2.2.2.1 (at_ (Ty.pair (Ty.int IntKind.i64) (Ty.pair (Ty.pair (Ty.int IntKind.i64) (Ty.pair (Ty.int IntKind.i64) (Ty.pair (Ty.int IntKind.i64) (Ty.pair (Ty.int IntKind.i64) (Ty.pair (Ty.int IntKind.i64) (Ty.pair (Ty.int IntKind.i64) (Ty.int IntKind.i64))))))) (Ty.pair Ty.bool (Ty.pair (Ty.sl (nat_lit 3) (Ty.int IntKind.i64)) (Ty.sl (nat_lit 3) (Ty.int IntKind.i64)))))) y0 (Int.toNat y2)).2.2.2.2 y1 < (0:Int))) (.out (.inl ((g_Vw_szFroTx_0 (at_ (Ty.pair (Ty.int IntKind.i64) (Ty.pair (Ty.pair (Ty.int IntKind.i64) (Ty.pair (Ty.int IntKind.i64) (Ty.pair (Ty.int IntKind.i64) (Ty.pair (Ty.int IntKind.i64) (Ty.pair (Ty.int IntKind.i64) (Ty.pair (Ty.int IntKind.i64) (Ty.int IntKind.i64))))))) (Ty.pair Ty.bool (Ty.pair (Ty.sl (nat_lit 3) (Ty.int IntKind.i64)) (Ty.sl (nat_lit 3) (Ty.int IntKind.i64)))))) y0 (Int.toNat y2)).1 (at_ (Ty.pair (Ty.int IntKind.i64) (Ty.pair (Ty.pair (Ty.int IntKind.i64) (Ty.pair (Ty.int IntKind.i64) (Ty.pair (Ty.int IntKind.i64) (Ty.pair (Ty.int IntKind.i64) (Ty.pair (Ty.int IntKind.i64) (Ty.pair (Ty.int IntKind.i64) (Ty.int IntKind.i64))))))) (Ty.pair Ty.bool (Ty.pair (Ty.sl (nat_lit 3) (Ty.int IntKind.i64)) (Ty.sl (nat_lit 3) (Ty.int IntKind.i64)))))) y0 (Int.toNat y2)).2.1.1 (at_ (Ty.pair (Ty.int IntKind.i64) (Ty.pair (Ty.pair (Ty.int IntKind.i64) (Ty.pair (Ty.int IntKind.i64) (Ty.pair (Ty.int IntKind.i64) (Ty.pair (Ty.int IntKind.i64) (Ty.pair (Ty.int IntKind.i64) (Ty.pair (Ty.int IntKind.i64) (Ty.int IntKind.i64))))))) (Ty.pair Ty.bool (Ty.pair (Ty.sl (nat_lit 3) (Ty.int IntKind.i64)) (Ty.sl (nat_lit 3) (Ty.int IntKind.i64)))))) y0 (Int.toNat y2)).2.1.2.1 (at_ (Ty.pair (Ty.int IntKind.i64) (Ty.pair (Ty.pair (Ty.int IntKind.i64) (Ty.pair (Ty.int IntKind.i64) (Ty.pair (Ty.int IntKind.i64) (Ty.pair (Ty.int IntKind.i64) (Ty.pair (Ty.int IntKind.i64) (Ty.pair (Ty.int IntKind.i64) (Ty.int IntKind.i64))))))) (Ty.pair Ty.bool (Ty.pair (Ty.sl (nat_lit 3) (Ty.int IntKind.i64)) (Ty.sl (nat_lit 3) (Ty.int IntKind.i64)))))) y0 (Int.toNat y2)).2.1.2.2.1 (at_ (Ty.pair (Ty.int IntKind.i64) (Ty.pair (Ty.pair (Ty.int IntKind.i64) (Ty.pair (Ty.int IntKind.i64) (Ty.pair (Ty.int IntKind.i64) (Ty.pair (Ty.int IntKind.i64) (Ty.pair (Ty.int IntKind.i64) (Ty.pair (Ty.int IntKind.i64) (Ty.int IntKind.i64))))))) (Ty.pair Ty.bool (Ty.pair (Ty.sl (nat_lit 3) (Ty.int IntKind.i64)) (Ty.sl (nat_lit 3) (Ty.int IntKind.i64)))))) y0 (Int.toNat y2)).2.1.2.2.2.1 (at_ (Ty.pair (Ty.int IntKind.i64) (Ty.pair (Ty.pair (Ty.int IntKind.i64) (Ty.pair (Ty.int IntKind.i64) (Ty.pair (Ty.int IntKind.i64) (Ty.pair (Ty.int IntKind.i64) (Ty.pair (Ty.int IntKind.i64) (Ty.pair (Ty.int IntKind.i64) (Ty.int IntKind.i64))))))) (Ty.pair Ty.bool (Ty.pair (Ty.sl (nat_lit 3) (Ty.int IntKind.i64)) (Ty.sl (nat_lit 3) (Ty.int IntKind.i64)))))) y0 (Int.toNat y2)).2.1.2.2.2.2.1 (at_ (Ty.pair (Ty.int IntKind.i64) (Ty.pair (Ty.pair (Ty.int IntKind.i64) (Ty.pair (Ty.int IntKind.i64) (Ty.pair (Ty.int IntKind.i64) (Ty.pair (Ty.int IntKind.i64) (Ty.pair (Ty.int IntKind.i64) (Ty.pair (Ty.int IntKind.i64) (Ty.int IntKind.i64))))))) (Ty.pair Ty.bool (Ty.pair (Ty.sl (nat_lit 3) (Ty.int IntKind.i64)) (Ty.sl (nat_lit 3) (Ty.int IntKind.i64)))))) y0 (Int.toNat y2)).2.1.2.2.2.2.2.1 (at_ (Ty.pair (Ty.int IntKind.i64) (Ty.pair (Ty.pair (Ty.int IntKind.i64) (Ty.pair (Ty.int IntKind.i64) (Ty.pair (Ty.int IntKind.i64) (Ty.pair (Ty.int IntKind.i64) (Ty.pair (Ty.int IntKind.i64) (Ty.pair (Ty.int IntKind.i64) (Ty.int IntKind.i64))))))) (Ty.pair Ty.bool (Ty.pair (Ty.sl (nat_lit 3) (Ty.int IntKind.i64)) (Ty.sl (nat_lit 3) (Ty.int IntKind.i64)))))) y0 (Int.toNat y2)).2.1.2.2.2.2.2.2 (at_ (Ty.pair (Ty.int IntKind.i64) (Ty.pair (Ty.pair (Ty.int IntKind.i64) (Ty.pair (Ty.int IntKind.i64) (Ty.pair (Ty.int IntKind.i64) (Ty.pair (Ty.int IntKind.i64) (Ty.pair (Ty.int IntKind.i64) (Ty.pair (Ty.int IntKind.i64) (Ty.int IntKind.i64))))))) (Ty.pair Ty.bool (Ty.pair (Ty.sl (nat_lit 3) (Ty.int IntKind.i64)) (Ty.sl (nat_lit 3) (Ty.int IntKind.i64)))))) y0 (Int.toNat y2)).2.2.1 (at_ (Ty.pair (Ty.int IntKind.i64) (Ty.pair (Ty.pair (Ty.int IntKind.i64) (Ty.pair (Ty.int IntKind.i64) (Ty.pair (Ty.int IntKind.i64) (Ty.pair (Ty.int IntKind.i64) (Ty.pair (Ty.int IntKind.i64) (Ty.pair (Ty.int IntKind.i64) (Ty.int IntKind.i64))))))) (Ty.pair Ty.bool (Ty.pair (Ty.sl (nat_lit 3) (Ty.int IntKind.i64)) (Ty.sl (nat_lit 3) (Ty.int IntKind.i64)))))) y0 (Int.toNat y2)).2.2.2.1 (at_ (Ty.pair (Ty.int IntKind.i64) (Ty.pair (Ty.pair (Ty.int IntKind.i64) (Ty.pair (Ty.int IntKind.i64) (Ty.pair (Ty.int IntKind.i64) (Ty.pair (Ty.int IntKind.i64) (Ty.pair (Ty.int IntKind.i64) (Ty.pair (Ty.int IntKind.i64) (Ty.int IntKind.i64))))))) (Ty.pair Ty.bool (Ty.pair (Ty.sl (nat_lit 3) (Ty.int IntKind.i64)) (Ty.sl (nat_lit 3) (Ty.int IntKind.i64)))))) y0 (Int.toNat y2)).2.2.2.2 y1,(-1:Int))))) (.br (true) (.go ((g_Vw_szFroTx_0 (at_ (Ty.pair (Ty.int IntKind.i64) (Ty.pair (Ty.pair (Ty.int IntKind.i64) (Ty.pair (Ty.int IntKind.i64) (Ty.pair (Ty.int IntKind.i64) (Ty.pair (Ty.int IntKind.i64) (Ty.pair (Ty.int IntKind.i64) (Ty.pair (Ty.int IntKind.i64) (Ty.int IntKind.i64))))))) (Ty.pair Ty.bool (Ty.pair (Ty.sl (nat_lit 3) (Ty.int IntKind.i64)) (Ty.sl (nat_lit 3) (Ty.int IntKind.i64)))))) y0 (Int.toNat y2)).1 (at_ (Ty.pair (Ty.int IntKind.i64) (Ty.pair (Ty.pair (Ty.int IntKind.i64) (Ty.pair (Ty.int IntKind.i64) (Ty.pair (Ty.int IntKind.i64) (Ty.pair (Ty.int IntKind.i64) (Ty.pair (Ty.int IntKind.i64) (Ty.pair (Ty.int IntKind.i64) (Ty.int IntKind.i64))))))) (Ty.pair Ty.bool (Ty.pair (Ty.sl (nat_lit 3) (Ty.int IntKind.i64)) (Ty.sl (nat_lit 3) (Ty.int IntKind.i64)))))) y0 (Int.toNat y2)).2.1.1 (at_ (Ty.pair (Ty.int IntKind.i64) (Ty.pair (Ty.pair (Ty.int IntKind.i64) (Ty.pair (Ty.int IntKind.i64) (Ty.pair (Ty.int IntKind.i64) (Ty.pair (Ty.int IntKind.i64) (Ty.pair (Ty.int IntKind.i64) (Ty.pair (Ty.int IntKind.i64) (Ty.int IntKind.i64))))))) (Ty.pair Ty.bool (Ty.pair (Ty.sl (nat_lit 3) (Ty.int IntKind.i64)) (Ty.sl (nat_lit 3) (Ty.int IntKind.i64)))))) y0 (Int.toNat y2)).2.1.2.1 (at_ (Ty.pair (Ty.int IntKind.i64) (Ty.pair (Ty.pair (Ty.int IntKind.i64) (Ty.pair (Ty.int IntKind.i64) (Ty.pair (Ty.int IntKind.i64) (Ty.pair (Ty.int IntKind.i64) (Ty.pair (Ty.int IntKind.i64) (Ty.pair (Ty.int IntKind.i64) (Ty.int IntKind.i64))))))) (Ty.pair Ty.bool (Ty.pair (Ty.sl (nat_lit 3) (Ty.int IntKind.i64)) (Ty.sl (nat_lit 3) (Ty.int IntKind.i64)))))) y0 (Int.toNat y2)).2.1.2.2.1 (at_ (Ty.pair (Ty.int IntKind.i64) (Ty.pair (Ty.pair (Ty.int IntKind.i64) (Ty.pair (Ty.int IntKind.i64) (Ty.pair (Ty.int IntKind.i64) (Ty.pair (Ty.int IntKind.i64) (Ty.pair (Ty.int IntKind.i64) (Ty.pair (Ty.int IntKind.i64) (Ty.int IntKind.i64))))))) (Ty.pair Ty.bool (Ty.pair (Ty.sl (nat_lit 3) (Ty.int IntKind.i64)) (Ty.sl (nat_lit 3) (Ty.int IntKind.i64)))))) y0 (Int.toNat y2)).2.1.2.2.2.1 (at_ (Ty.pair (Ty.int IntKind.i64) (Ty.pair (Ty.pair (Ty.int IntKind.i64) (Ty.pair (Ty.int IntKind.i64) (Ty.pair (Ty.int IntKind.i64) (Ty.pair (Ty.int IntKind.i64) (Ty.pair (Ty.int IntKind.i64) (Ty.pair (Ty.int IntKind.i64) (Ty.int IntKind.i64))))))) (Ty.pair Ty.bool (Ty.pair (Ty.sl (nat_lit 3) (Ty.int IntKind.i64)) (Ty.sl (nat_lit 3) (Ty.int IntKind.i64)))))) y0 (Int.toNat y2)).2.1.2.2.2.2.1 (at_ (Ty.pair (Ty.int IntKind.i64) (Ty.pair (Ty.pair (Ty.int IntKind.i64) (Ty.pair (Ty.int IntKind.i64) (Ty.pair (Ty.int IntKind.i64) (Ty.pair (Ty.int IntKind.i64) (Ty.pair (Ty.int IntKind.i64) (Ty.pair (Ty.int IntKind.i64) (Ty.int IntKind.i64))))))) (Ty.pair Ty.bool (Ty.pair (Ty.sl (nat_lit 3) (Ty.int IntKind.i64)) (Ty.sl (nat_lit 3) (Ty.int IntKind.i64)))))) y0 (Int.toNat y2)).2.1.2.2.2.2.2.1 (at_ (Ty.pair (Ty.int IntKind.i64) (Ty.pair (Ty.pair (Ty.int IntKind.i64) (Ty.pair (Ty.int IntKind.i64) (Ty.pair (Ty.int IntKind.i64) (Ty.pair (Ty.int IntKind.i64) (Ty.pair (Ty.int IntKind.i64) (Ty.pair (Ty.int IntKind.i64) (Ty.int IntKind.i64))))))) (Ty.pair Ty.bool (Ty.pair (Ty.sl (nat_lit 3) (Ty.int IntKind.i64)) (Ty.sl (nat_lit 3) (Ty.int IntKind.i64)))))) y0 (Int.toNat y2)).2.1.2.2.2.2.2.2 (at_ (Ty.pair (Ty.int IntKind.i64) (Ty.pair (Ty.pair (Ty.int IntKind.i64) (Ty.pair (Ty.int IntKind.i64) (Ty.pair (Ty.int IntKind.i64) (Ty.pair (Ty.int IntKind.i64) (Ty.pair (Ty.int IntKind.i64) (Ty.pair (Ty.int IntKind.i64) (Ty.int IntKind.i64))))))) (Ty.pair Ty.bool (Ty.pair (Ty.sl (nat_lit 3) (Ty.int IntKind.i64)) (Ty.sl (nat_lit 3) (Ty.int IntKind.i64)))))) y0 (Int.toNat y2)).2.2.1 (at_ (Ty.pair (Ty.int IntKind.i64) (Ty.pair (Ty.pair (Ty.int IntKind.i64) (Ty.pair (Ty.int IntKind.i64) (Ty.pair (Ty.int IntKind.i64) (Ty.pair (Ty.int IntKind.i64) (Ty.pair (Ty.int IntKind.i64) (Ty.pair (Ty.int IntKind.i64) (Ty.int IntKind.i64))))))) (Ty.pair Ty.bool (Ty.pair (Ty.sl (nat_lit 3) (Ty.int IntKind.i64)) (Ty.sl (nat_lit 3) (Ty.int IntKind.i64)))))) y0 (Int.toNat y2)).2.2.2.1 (at_ (Ty.pair (Ty.int IntKind.i64) (Ty.pair (Ty.pair (Ty.int IntKind.i64) (Ty.pair (Ty.int IntKind.i64) (Ty.pair (Ty.int IntKind.i64) (Ty.pair (Ty.int IntKind.i64) (Ty.pair (Ty.int IntKind.i64) (Ty.pair (Ty.int IntKind.i64) (Ty.int IntKind.i64))))))) (Ty.pair Ty.bool (Ty.pair (Ty.sl (nat_lit 3) (Ty.int IntKind.i64)) (Ty.sl (nat_lit 3) (Ty.int IntKind.i64)))))) y0 (Int.toNat y2)).2.2.2.2 y1,IntKind.wrap IntKind.i64 (y2 + (1:Int))))) .bad)) .bad) .bad) .bad) (.out (.inr (y1)))) .bad
noncomputable def g_Lw_szFroTxS_0 (y0:List (Int×((Int×(Int×(Int×(Int×(Int×(Int×Int))))))×(Bool×((List Int)×(List Int)))))) (x:Int×Int):Option ((Int×Int) ⊕ (Int)) := loopO (g_Sw_szFroTxS_0 y0) x
noncomputable def xw_szFroTxS_0 (y0:List (Int×((Int×(Int×(Int×(Int×(Int×(Int×Int))))))×(Bool×((List Int)×(List Int)))))):((Int×Int) ⊕ (Int)) → Ex×List (Pl×LV) := fun
 | .inl r => (.ret,[(.T 1,.t (.val false [.int .i64 r.1])),(.T 4,.t (.val false [.int .i64 r.2]))])
 | .inr (r) => (.exit 0,[(.T 1,.t (.val false [.int .i64 r])),(.T 4,.t (.val false [.undef]))])
noncomputable def Ow_szFroTxS_1:Orc := fun b h => match b,h with
 | 0,[(.T 0,.t (.val false [.sl .any 67 (.pair (.int .i64) (.pair (.pair (.int .i64) (.pair (.int .i64) (.pair (.int .i64) (.pair (.int .i64) (.pair (.int .i64) (.pair (.int .i64) (.int .i64))))))) (.pair .bool (.pair (.sl 3 (.int .i64)) (.sl 3 (.int .i64)))))) y0])),(.T 1,.t (.val false [.int .i64 y1])),(.T 5,.t (.val false [.int .i64 y2]))] => some (okO (g_Lw_szFroTxS_0 y0 (y1,y2)),(.br (isL (valO (g_Lw_szFroTxS_0 y0 (y1,y2)))) (.leaf .ret [(.T 1,.t (.val false [.int .i64 (getL (valO (g_Lw_szFroTxS_0 y0 (y1,y2)))).1])),(.T 4,.t (.val false [.int .i64 (getL (valO (g_Lw_szFroTxS_0 y0 (y1,y2)))).2]))]) (.leaf (.exit 0) [(.T 1,.t (.val false [.int .i64 (getR (valO (g_Lw_szFroTxS_0 y0 (y1,y2))))])),(.T 4,.t (.val false [.undef]))])))
 | b,h => Ow_szFroTxS_0 b h
theorem bw_szFroTxS_0 (y0:List (Int×((Int×(Int×(Int×(Int×(Int×(Int×Int))))))×(Bool×((List Int)×(List Int)))))) (y1:Int) (y2:Int):Tr.bt Ew_szFroTxS Ow_szFroTxS_0 (exec Ew_szFroTxS 0 cw_szFroTxS_0 (St.of (hw_szFroTxS_0 y0 y1 y2)) (leafRd Ew_szFroTxS 0)) = (g_Sw_szFroTxS_0 y0 (y1,y2)).bt (fun ((y1,y2):Int×Int) => (hw_szFroTxS_0 y0 y1 y2)) (xw_szFroTxS_0 y0) := by kernel_rfl
theorem kw_szFroTxS_1:OrcOk Ew_szFroTxS Ow_szFroTxS_1 lsw_szFroTxS 1 := orc_add kw_szFroTxS_0 (fun n p hp h ex h' ho => by
 obtain ⟨b,c⟩ := p
 obtain ⟨xt,h1,h2⟩ := ho
 have h1:Ow_szFroTxS_1 b h = some (true,xt) := h1
 unfold Ow_szFroTxS_1 at h1
 split at h1
 ·injection h1 with h1
  injection h1 with e1 e2
  subst e2
  have hc:c = cw_szFroTxS_0 := mw_szFroTxS_0 _ hp rfl
  subst hc
  right
  rename_i y0 y1 y2
  have key := LT_step kw_szFroTxS_0 hp (fun q hq => loopsAll_in _ _ _ _ hp hq) (fun ((y1,y2):Int×Int) => (hw_szFroTxS_0 y0 y1 y2)) (xw_szFroTxS_0 y0) (g_Sw_szFroTxS_0 y0) (fun x => by first | exact bw_szFroTxS_0 y0 x.1 x.2) n (x := (y1,y2)) (okO_some e1)
  have hx:∀ r,XT.sel (.br (isL r) (.leaf .ret [(.T 1,.t (.val false [.int .i64 (getL r).1])),(.T 4,.t (.val false [.int .i64 (getL r).2]))]) (.leaf (.exit 0) [(.T 1,.t (.val false [.int .i64 (getR r)])),(.T 4,.t (.val false [.undef]))])) = xw_szFroTxS_0 y0 r := fun r => by first | rfl | (rcases r with r | r <;> rfl) | (rcases r with r | r | r <;> rfl) | (rcases r with r | r | r | r <;> rfl)
  have h3 := (hx (valO (g_Lw_szFroTxS_0 y0 (y1,y2)))).symm.trans h2
  have e3 := congrArg Prod.fst h3
  have e4 := congrArg Prod.snd h3
  simp only at e3 e4
  rw [← e3,← e4]
  exact key
 ·exact .inl ⟨xt,h1,h2⟩)
noncomputable def g_Aw_szFroTxS (a0:List (Int×((Int×(Int×(Int×(Int×(Int×(Int×Int))))))×(Bool×((List Int)×(List Int)))))) (a1:Int):Bool := decide (IntKind.wrap IntKind.i64 (a1 - (↑(List.length a0):Int)) < (0:Int)) || okO (g_Lw_szFroTxS_0 a0 (IntKind.wrap IntKind.i64 (a1 - (↑(List.length a0):Int)),(0:Int)))
noncomputable def g_Vw_szFroTxS_0 (a0:List (Int×((Int×(Int×(Int×(Int×(Int×(Int×Int))))))×(Bool×((List Int)×(List Int)))))) (a1:Int):Int := bif decide (IntKind.wrap IntKind.i64 (a1 - (↑(List.length a0):Int)) < (0:Int)) then (-1:Int) else bif isL (valO (g_Lw_szFroTxS_0 a0 (IntKind.wrap IntKind.i64 (a1 - (↑(List.length a0):Int)),(0:Int)))) then (getL (valO (g_Lw_szFroTxS_0 a0 (IntKind.wrap IntKind.i64 (a1 - (↑(List.length a0):Int)),(0:Int))))).2 else getR (valO (g_Lw_szFroTxS_0 a0 (IntKind.wrap IntKind.i64 (a1 - (↑(List.length a0):Int)),(0:Int))))
noncomputable def Fw_szFroTxS:FSem := fun ys => match ys with
 | [.val false [.sl .any 67 (.pair (.int .i64) (.pair (.pair (.int .i64) (.pair (.int .i64) (.pair (.int .i64) (.pair (.int .i64) (.pair (.int .i64) (.pair (.int .i64) (.int .i64))))))) (.pair .bool (.pair (.sl 3 (.int .i64)) (.sl 3 (.int .i64)))))) a0],.val false [.int .i64 a1]] => some ((g_Aw_szFroTxS a0 a1),.val false [.int .i64 (g_Vw_szFroTxS_0 a0 a1)],[])
 | _ => none
theorem vw_szFroTxS (a0:List (Int×((Int×(Int×(Int×(Int×(Int×(Int×Int))))))×(Bool×((List Int)×(List Int)))))) (a1:Int):collapseH .std Ew_szFroTxS Ow_szFroTxS_1 (execFn Ew_szFroTxS Tryd.f10 msw_szFroTxS [.val false [.sl .any 67 (.pair (.int .i64) (.pair (.pair (.int .i64) (.pair (.int .i64) (.pair (.int .i64) (.pair (.int .i64) (.pair (.int .i64) (.pair (.int .i64) (.int .i64))))))) (.pair .bool (.pair (.sl 3 (.int .i64)) (.sl 3 (.int .i64)))))) a0],.val false [.int .i64 a1]]) = some ((g_Aw_szFroTxS a0 a1),.val false [.int .i64 (g_Vw_szFroTxS_0 a0 a1)],[]) := by kernel_rfl
theorem sw_szFroTxS:Sound Tryd.prog 10 msw_szFroTxS Fw_szFroTxS := by
 refine fn_gen goodw_szFroTxS (by kernel_rfl) .std (fn := Tryd.f10) (c := (Tryd.f10.body.getD .skip)) (o := Ow_szFroTxS_1) (k := 1) (by kernel_rfl) (by kernel_rfl) (by kernel_rfl) (by kernel_rfl) (by decide) kw_szFroTxS_1 ?_
 intro ys r outs h
 unfold Fw_szFroTxS at h
 split at h
 ·exact (vw_szFroTxS _ _).trans h
 ·cases h
noncomputable def Ew_szStoWrite:Env where
 tt := mkTI Tryd.prog
 fn := fun f => match f with
  | 43 => some (msw_szIntS,FSem.wk msw_szIntS Fw_szIntS)
  | _ => none
 bxf := fun _ => none
 mv := []
 keep := fun _ => []
 keepB := fun _ => []
 keepX := fun _ => []
 keepXB := fun _ => []
theorem goodFw_szStoWrite:∀ f ms F,Ew_szStoWrite.fn f = some (ms,F) → Sound Tryd.prog f ms F := fun f ms F h => by
 unfold Ew_szStoWrite at h
 dsimp only at h
 split at h
 ·injection h with h; injection h with e1 e2; subst e1 e2; exact Sound.wk sw_szIntS
 ·cases h
theorem goodBw_szStoWrite:∀ f ms F,Ew_szStoWrite.bxf f = some (ms,F) → SoundB Tryd.prog f ms F := fun f ms F h => by cases h
theorem goodw_szStoWrite:Good Tryd.prog Ew_szStoWrite := ⟨rfl,goodFw_szStoWrite,goodBw_szStoWrite⟩
noncomputable def Ow_szStoWrite_0:Orc := fun _ _ => none
noncomputable def msw_szStoWrite:List PM := [.rd,.own]
noncomputable def lsw_szStoWrite:List (Nat×Code) := loopsAll 0 (Tryd.f73.body.getD .skip)
theorem kw_szStoWrite_0:OrcOk Ew_szStoWrite Ow_szStoWrite_0 lsw_szStoWrite 0 := orcOk_none
noncomputable def g_Aw_szStoWrite (a0:ByteArray) (a1:Bool) (a2:List Int) (a3:Int):Bool := decide (IntKind.wrap IntKind.i64 (a3 - (↑(ByteArray.size a0):Int)) < (0:Int)) || true
noncomputable def g_Vw_szStoWrite_0 (a0:ByteArray) (a1:Bool) (a2:List Int) (a3:Int):Int := bif decide (IntKind.wrap IntKind.i64 (a3 - (↑(ByteArray.size a0):Int)) < (0:Int)) then (-1:Int) else bif decide (g_Vw_szIntS_0 a2 (IntKind.wrap IntKind.i64 (a3 - (↑(ByteArray.size a0):Int))) < (0:Int)) then (-1:Int) else g_Vw_szIntS_0 a2 (IntKind.wrap IntKind.i64 (a3 - (↑(ByteArray.size a0):Int)))
noncomputable def Fw_szStoWrite:FSem := fun ys => match ys with
 | [.val true [.str a0,.bool a1,.sl .any 3 (.int .i64) a2],.val false [.int .i64 a3]] => some ((g_Aw_szStoWrite a0 a1 a2 a3),.val false [.int .i64 (g_Vw_szStoWrite_0 a0 a1 a2 a3)],[])
 | _ => none
theorem vw_szStoWrite (a0:ByteArray) (a1:Bool) (a2:List Int) (a3:Int):collapseH .std Ew_szStoWrite Ow_szStoWrite_0 (execFn Ew_szStoWrite Tryd.f73 msw_szStoWrite [.val true [.str a0,.bool a1,.sl .any 3 (.int .i64) a2],.val false [.int .i64 a3]]) = some ((g_Aw_szStoWrite a0 a1 a2 a3),.val false [.int .i64 (g_Vw_szStoWrite_0 a0 a1 a2 a3)],[]) := by kernel_rfl
theorem sw_szStoWrite:Sound Tryd.prog 73 msw_szStoWrite Fw_szStoWrite := by
 refine fn_gen goodw_szStoWrite (by kernel_rfl) .std (fn := Tryd.f73) (c := (Tryd.f73.body.getD .skip)) (o := Ow_szStoWrite_0) (k := 0) (by kernel_rfl) (by kernel_rfl) (by kernel_rfl) (by kernel_rfl) (by decide) kw_szStoWrite_0 ?_
 intro ys r outs h
 unfold Fw_szStoWrite at h
 split at h
 ·exact (vw_szStoWrite _ _ _ _).trans h
 ·cases h
noncomputable def Ew_szStoWriteS:Env where
 tt := mkTI Tryd.prog
 fn := fun f => match f with
  | 73 => some (msw_szStoWrite,FSem.wk msw_szStoWrite Fw_szStoWrite)
  | _ => none
 bxf := fun _ => none
 mv := []
 keep := fun b => match b with
  | 0 => [(0,false),(1,false),(5,false)]
  | _ => []
 keepB := fun b => match b with
  | 0 => []
  | _ => []
 keepX := fun b => match b with
  | 0 => [(1,false),(4,false)]
  | _ => []
 keepXB := fun b => match b with
  | 0 => []
  | _ => []
theorem goodFw_szStoWriteS:∀ f ms F,Ew_szStoWriteS.fn f = some (ms,F) → Sound Tryd.prog f ms F := fun f ms F h => by
 unfold Ew_szStoWriteS at h
 dsimp only at h
 split at h
 ·injection h with h; injection h with e1 e2; subst e1 e2; exact Sound.wk sw_szStoWrite
 ·cases h
theorem goodBw_szStoWriteS:∀ f ms F,Ew_szStoWriteS.bxf f = some (ms,F) → SoundB Tryd.prog f ms F := fun f ms F h => by cases h
theorem goodw_szStoWriteS:Good Tryd.prog Ew_szStoWriteS := ⟨rfl,goodFw_szStoWriteS,goodBw_szStoWriteS⟩
noncomputable def Ow_szStoWriteS_0:Orc := fun _ _ => none
noncomputable def msw_szStoWriteS:List PM := [.rd,.own]
noncomputable def lsw_szStoWriteS:List (Nat×Code) := loopsAll 0 (Tryd.f62.body.getD .skip)
noncomputable def cw_szStoWriteS_0:Code := (loopOf 0 (Tryd.f62.body.getD .skip)).getD .skip
theorem lseqw_szStoWriteS:lsw_szStoWriteS = [(0,cw_szStoWriteS_0)] := by kernel_rfl
theorem mw_szStoWriteS_0:∀ p,p ∈ lsw_szStoWriteS → p.1 = 0 → p.2 = cw_szStoWriteS_0 := by
 intro p hp
 rw [lseqw_szStoWriteS] at hp
 simp only [List.mem_cons,List.not_mem_nil,or_false] at hp
 subst hp; simp
theorem kw_szStoWriteS_0:OrcOk Ew_szStoWriteS Ow_szStoWriteS_0 lsw_szStoWriteS 0 := orcOk_none
noncomputable def hw_szStoWriteS_0 (y0:List (ByteArray×(Bool×(List Int)))) (y1:Int) (y2:Int):List (Pl×LV) := [(.T 0,.t (.val false [.sl .any 106 (.pair .str (.pair .bool (.sl 3 (.int .i64)))) y0])),(.T 1,.t (.val false [.int .i64 y1])),(.T 5,.t (.val false [.int .i64 y2]))]
noncomputable def g_Sw_szStoWriteS_0 (y0:List (ByteArray×(Bool×(List Int)))):(Int×Int) → RT (Int×Int) ((Int×Int) ⊕ (Int))
 | (y1,y2) => .br (true) (.br (decide (y2 < (↑(List.length y0):Int))) (.br (decide ((0:Int) ≤ y2 ∧ y2 < (↑(List.length y0):Int))) (.br (g_Aw_szStoWrite (at_ (Ty.pair Ty.str (Ty.pair Ty.bool (Ty.sl (nat_lit 3) (Ty.int IntKind.i64)))) y0 (Int.toNat y2)).1 (at_ (Ty.pair Ty.str (Ty.pair Ty.bool (Ty.sl (nat_lit 3) (Ty.int IntKind.i64)))) y0 (Int.toNat y2)).2.1 (at_ (Ty.pair Ty.str (Ty.pair Ty.bool (Ty.sl (nat_lit 3) (Ty.int IntKind.i64)))) y0 (Int.toNat y2)).2.2 y1) (.br (true) (.br (decide (g_Vw_szStoWrite_0 (at_ (Ty.pair Ty.str (Ty.pair Ty.bool (Ty.sl (nat_lit 3) (Ty.int IntKind.i64)))) y0 (Int.toNat y2)).1 (at_ (Ty.pair Ty.str (Ty.pair Ty.bool (Ty.sl (nat_lit 3) (Ty.int IntKind.i64)))) y0 (Int.toNat y2)).2.1 (at_ (Ty.pair Ty.str (Ty.pair Ty.bool (Ty.sl (nat_lit 3) (Ty.int IntKind.i64)))) y0 (Int.toNat y2)).2.2 y1 < (0:Int))) (.out (.inl ((g_Vw_szStoWrite_0 (at_ (Ty.pair Ty.str (Ty.pair Ty.bool (Ty.sl (nat_lit 3) (Ty.int IntKind.i64)))) y0 (Int.toNat y2)).1 (at_ (Ty.pair Ty.str (Ty.pair Ty.bool (Ty.sl (nat_lit 3) (Ty.int IntKind.i64)))) y0 (Int.toNat y2)).2.1 (at_ (Ty.pair Ty.str (Ty.pair Ty.bool (Ty.sl (nat_lit 3) (Ty.int IntKind.i64)))) y0 (Int.toNat y2)).2.2 y1,(-1:Int))))) (.br (true) (.go ((g_Vw_szStoWrite_0 (at_ (Ty.pair Ty.str (Ty.pair Ty.bool (Ty.sl (nat_lit 3) (Ty.int IntKind.i64)))) y0 (Int.toNat y2)).1 (at_ (Ty.pair Ty.str (Ty.pair Ty.bool (Ty.sl (nat_lit 3) (Ty.int IntKind.i64)))) y0 (Int.toNat y2)).2.1 (at_ (Ty.pair Ty.str (Ty.pair Ty.bool (Ty.sl (nat_lit 3) (Ty.int IntKind.i64)))) y0 (Int.toNat y2)).2.2 y1,IntKind.wrap IntKind.i64 (y2 + (1:Int))))) .bad)) .bad) .bad) .bad) (.out (.inr (y1)))) .bad
noncomputable def g_Lw_szStoWriteS_0 (y0:List (ByteArray×(Bool×(List Int)))) (x:Int×Int):Option ((Int×Int) ⊕ (Int)) := loopO (g_Sw_szStoWriteS_0 y0) x
noncomputable def xw_szStoWriteS_0 (y0:List (ByteArray×(Bool×(List Int)))):((Int×Int) ⊕ (Int)) → Ex×List (Pl×LV) := fun
 | .inl r => (.ret,[(.T 1,.t (.val false [.int .i64 r.1])),(.T 4,.t (.val false [.int .i64 r.2]))])
 | .inr (r) => (.exit 0,[(.T 1,.t (.val false [.int .i64 r])),(.T 4,.t (.val false [.undef]))])
noncomputable def Ow_szStoWriteS_1:Orc := fun b h => match b,h with
 | 0,[(.T 0,.t (.val false [.sl .any 106 (.pair .str (.pair .bool (.sl 3 (.int .i64)))) y0])),(.T 1,.t (.val false [.int .i64 y1])),(.T 5,.t (.val false [.int .i64 y2]))] => some (okO (g_Lw_szStoWriteS_0 y0 (y1,y2)),(.br (isL (valO (g_Lw_szStoWriteS_0 y0 (y1,y2)))) (.leaf .ret [(.T 1,.t (.val false [.int .i64 (getL (valO (g_Lw_szStoWriteS_0 y0 (y1,y2)))).1])),(.T 4,.t (.val false [.int .i64 (getL (valO (g_Lw_szStoWriteS_0 y0 (y1,y2)))).2]))]) (.leaf (.exit 0) [(.T 1,.t (.val false [.int .i64 (getR (valO (g_Lw_szStoWriteS_0 y0 (y1,y2))))])),(.T 4,.t (.val false [.undef]))])))
 | b,h => Ow_szStoWriteS_0 b h
theorem bw_szStoWriteS_0 (y0:List (ByteArray×(Bool×(List Int)))) (y1:Int) (y2:Int):Tr.bt Ew_szStoWriteS Ow_szStoWriteS_0 (exec Ew_szStoWriteS 0 cw_szStoWriteS_0 (St.of (hw_szStoWriteS_0 y0 y1 y2)) (leafRd Ew_szStoWriteS 0)) = (g_Sw_szStoWriteS_0 y0 (y1,y2)).bt (fun ((y1,y2):Int×Int) => (hw_szStoWriteS_0 y0 y1 y2)) (xw_szStoWriteS_0 y0) := by kernel_rfl
theorem kw_szStoWriteS_1:OrcOk Ew_szStoWriteS Ow_szStoWriteS_1 lsw_szStoWriteS 1 := orc_add kw_szStoWriteS_0 (fun n p hp h ex h' ho => by
 obtain ⟨b,c⟩ := p
 obtain ⟨xt,h1,h2⟩ := ho
 have h1:Ow_szStoWriteS_1 b h = some (true,xt) := h1
 unfold Ow_szStoWriteS_1 at h1
 split at h1
 ·injection h1 with h1
  injection h1 with e1 e2
  subst e2
  have hc:c = cw_szStoWriteS_0 := mw_szStoWriteS_0 _ hp rfl
  subst hc
  right
  rename_i y0 y1 y2
  have key := LT_step kw_szStoWriteS_0 hp (fun q hq => loopsAll_in _ _ _ _ hp hq) (fun ((y1,y2):Int×Int) => (hw_szStoWriteS_0 y0 y1 y2)) (xw_szStoWriteS_0 y0) (g_Sw_szStoWriteS_0 y0) (fun x => by first | exact bw_szStoWriteS_0 y0 x.1 x.2) n (x := (y1,y2)) (okO_some e1)
  have hx:∀ r,XT.sel (.br (isL r) (.leaf .ret [(.T 1,.t (.val false [.int .i64 (getL r).1])),(.T 4,.t (.val false [.int .i64 (getL r).2]))]) (.leaf (.exit 0) [(.T 1,.t (.val false [.int .i64 (getR r)])),(.T 4,.t (.val false [.undef]))])) = xw_szStoWriteS_0 y0 r := fun r => by first | rfl | (rcases r with r | r <;> rfl) | (rcases r with r | r | r <;> rfl) | (rcases r with r | r | r | r <;> rfl)
  have h3 := (hx (valO (g_Lw_szStoWriteS_0 y0 (y1,y2)))).symm.trans h2
  have e3 := congrArg Prod.fst h3
  have e4 := congrArg Prod.snd h3
  simp only at e3 e4
  rw [← e3,← e4]
  exact key
 ·exact .inl ⟨xt,h1,h2⟩)
noncomputable def g_Aw_szStoWriteS (a0:List (ByteArray×(Bool×(List Int)))) (a1:Int):Bool := decide (IntKind.wrap IntKind.i64 (a1 - (↑(List.length a0):Int)) < (0:Int)) || okO (g_Lw_szStoWriteS_0 a0 (IntKind.wrap IntKind.i64 (a1 - (↑(List.length a0):Int)),(0:Int)))
noncomputable def g_Vw_szStoWriteS_0 (a0:List (ByteArray×(Bool×(List Int)))) (a1:Int):Int := bif decide (IntKind.wrap IntKind.i64 (a1 - (↑(List.length a0):Int)) < (0:Int)) then (-1:Int) else bif isL (valO (g_Lw_szStoWriteS_0 a0 (IntKind.wrap IntKind.i64 (a1 - (↑(List.length a0):Int)),(0:Int)))) then (getL (valO (g_Lw_szStoWriteS_0 a0 (IntKind.wrap IntKind.i64 (a1 - (↑(List.length a0):Int)),(0:Int))))).2 else getR (valO (g_Lw_szStoWriteS_0 a0 (IntKind.wrap IntKind.i64 (a1 - (↑(List.length a0):Int)),(0:Int))))
noncomputable def Fw_szStoWriteS:FSem := fun ys => match ys with
 | [.val false [.sl .any 106 (.pair .str (.pair .bool (.sl 3 (.int .i64)))) a0],.val false [.int .i64 a1]] => some ((g_Aw_szStoWriteS a0 a1),.val false [.int .i64 (g_Vw_szStoWriteS_0 a0 a1)],[])
 | _ => none
theorem vw_szStoWriteS (a0:List (ByteArray×(Bool×(List Int)))) (a1:Int):collapseH .std Ew_szStoWriteS Ow_szStoWriteS_1 (execFn Ew_szStoWriteS Tryd.f62 msw_szStoWriteS [.val false [.sl .any 106 (.pair .str (.pair .bool (.sl 3 (.int .i64)))) a0],.val false [.int .i64 a1]]) = some ((g_Aw_szStoWriteS a0 a1),.val false [.int .i64 (g_Vw_szStoWriteS_0 a0 a1)],[]) := by kernel_rfl
theorem sw_szStoWriteS:Sound Tryd.prog 62 msw_szStoWriteS Fw_szStoWriteS := by
 refine fn_gen goodw_szStoWriteS (by kernel_rfl) .std (fn := Tryd.f62) (c := (Tryd.f62.body.getD .skip)) (o := Ow_szStoWriteS_1) (k := 1) (by kernel_rfl) (by kernel_rfl) (by kernel_rfl) (by kernel_rfl) (by decide) kw_szStoWriteS_1 ?_
 intro ys r outs h
 unfold Fw_szStoWriteS at h
 split at h
 ·exact (vw_szStoWriteS _ _).trans h
 ·cases h
noncomputable def Ew_szStringS:Env where
 tt := mkTI Tryd.prog
 fn := fun _ => none
 bxf := fun _ => none
 mv := []
 keep := fun b => match b with
  | 0 => [(0,false),(1,false),(5,false)]
  | _ => []
 keepB := fun b => match b with
  | 0 => []
  | _ => []
 keepX := fun b => match b with
  | 0 => [(1,false),(4,false)]
  | _ => []
 keepXB := fun b => match b with
  | 0 => []
  | _ => []
theorem goodFw_szStringS:∀ f ms F,Ew_szStringS.fn f = some (ms,F) → Sound Tryd.prog f ms F := fun f ms F h => by cases h
theorem goodBw_szStringS:∀ f ms F,Ew_szStringS.bxf f = some (ms,F) → SoundB Tryd.prog f ms F := fun f ms F h => by cases h
theorem goodw_szStringS:Good Tryd.prog Ew_szStringS := ⟨rfl,goodFw_szStringS,goodBw_szStringS⟩
noncomputable def Ow_szStringS_0:Orc := fun _ _ => none
noncomputable def msw_szStringS:List PM := [.rd,.own]
noncomputable def lsw_szStringS:List (Nat×Code) := loopsAll 0 (Tryd.f61.body.getD .skip)
noncomputable def cw_szStringS_0:Code := (loopOf 0 (Tryd.f61.body.getD .skip)).getD .skip
theorem lseqw_szStringS:lsw_szStringS = [(0,cw_szStringS_0)] := by kernel_rfl
theorem mw_szStringS_0:∀ p,p ∈ lsw_szStringS → p.1 = 0 → p.2 = cw_szStringS_0 := by
 intro p hp
 rw [lseqw_szStringS] at hp
 simp only [List.mem_cons,List.not_mem_nil,or_false] at hp
 subst hp; simp
theorem kw_szStringS_0:OrcOk Ew_szStringS Ow_szStringS_0 lsw_szStringS 0 := orcOk_none
noncomputable def hw_szStringS_0 (y0:List ByteArray) (y1:Int) (y2:Int):List (Pl×LV) := [(.T 0,.t (.val false [.sl .any 9 .str y0])),(.T 1,.t (.val false [.int .i64 y1])),(.T 5,.t (.val false [.int .i64 y2]))]
noncomputable def g_Sw_szStringS_0 (y0:List ByteArray):(Int×Int) → RT (Int×Int) ((Int×Int) ⊕ (Int))
 | (y1,y2) => .br (true) (.br (decide (y2 < (↑(List.length y0):Int))) (.br (decide ((0:Int) ≤ y2 ∧ y2 < (↑(List.length y0):Int))) (.br (true) (.br (true) (.br (decide (IntKind.wrap IntKind.i64 (y1 - (↑(ByteArray.size (at_ Ty.str y0 (Int.toNat y2))):Int)) < (0:Int))) (.out (.inl ((IntKind.wrap IntKind.i64 (y1 - (↑(ByteArray.size (at_ Ty.str y0 (Int.toNat y2))):Int)),(-1:Int))))) (.br (true) (.go ((IntKind.wrap IntKind.i64 (y1 - (↑(ByteArray.size (at_ Ty.str y0 (Int.toNat y2))):Int)),IntKind.wrap IntKind.i64 (y2 + (1:Int))))) .bad)) .bad) .bad) .bad) (.out (.inr (y1)))) .bad
noncomputable def g_Lw_szStringS_0 (y0:List ByteArray) (x:Int×Int):Option ((Int×Int) ⊕ (Int)) := loopO (g_Sw_szStringS_0 y0) x
noncomputable def xw_szStringS_0 (y0:List ByteArray):((Int×Int) ⊕ (Int)) → Ex×List (Pl×LV) := fun
 | .inl r => (.ret,[(.T 1,.t (.val false [.int .i64 r.1])),(.T 4,.t (.val false [.int .i64 r.2]))])
 | .inr (r) => (.exit 0,[(.T 1,.t (.val false [.int .i64 r])),(.T 4,.t (.val false [.undef]))])
noncomputable def Ow_szStringS_1:Orc := fun b h => match b,h with
 | 0,[(.T 0,.t (.val false [.sl .any 9 .str y0])),(.T 1,.t (.val false [.int .i64 y1])),(.T 5,.t (.val false [.int .i64 y2]))] => some (okO (g_Lw_szStringS_0 y0 (y1,y2)),(.br (isL (valO (g_Lw_szStringS_0 y0 (y1,y2)))) (.leaf .ret [(.T 1,.t (.val false [.int .i64 (getL (valO (g_Lw_szStringS_0 y0 (y1,y2)))).1])),(.T 4,.t (.val false [.int .i64 (getL (valO (g_Lw_szStringS_0 y0 (y1,y2)))).2]))]) (.leaf (.exit 0) [(.T 1,.t (.val false [.int .i64 (getR (valO (g_Lw_szStringS_0 y0 (y1,y2))))])),(.T 4,.t (.val false [.undef]))])))
 | b,h => Ow_szStringS_0 b h
theorem bw_szStringS_0 (y0:List ByteArray) (y1:Int) (y2:Int):Tr.bt Ew_szStringS Ow_szStringS_0 (exec Ew_szStringS 0 cw_szStringS_0 (St.of (hw_szStringS_0 y0 y1 y2)) (leafRd Ew_szStringS 0)) = (g_Sw_szStringS_0 y0 (y1,y2)).bt (fun ((y1,y2):Int×Int) => (hw_szStringS_0 y0 y1 y2)) (xw_szStringS_0 y0) := by kernel_rfl
theorem kw_szStringS_1:OrcOk Ew_szStringS Ow_szStringS_1 lsw_szStringS 1 := orc_add kw_szStringS_0 (fun n p hp h ex h' ho => by
 obtain ⟨b,c⟩ := p
 obtain ⟨xt,h1,h2⟩ := ho
 have h1:Ow_szStringS_1 b h = some (true,xt) := h1
 unfold Ow_szStringS_1 at h1
 split at h1
 ·injection h1 with h1
  injection h1 with e1 e2
  subst e2
  have hc:c = cw_szStringS_0 := mw_szStringS_0 _ hp rfl
  subst hc
  right
  rename_i y0 y1 y2
  have key := LT_step kw_szStringS_0 hp (fun q hq => loopsAll_in _ _ _ _ hp hq) (fun ((y1,y2):Int×Int) => (hw_szStringS_0 y0 y1 y2)) (xw_szStringS_0 y0) (g_Sw_szStringS_0 y0) (fun x => by first | exact bw_szStringS_0 y0 x.1 x.2) n (x := (y1,y2)) (okO_some e1)
  have hx:∀ r,XT.sel (.br (isL r) (.leaf .ret [(.T 1,.t (.val false [.int .i64 (getL r).1])),(.T 4,.t (.val false [.int .i64 (getL r).2]))]) (.leaf (.exit 0) [(.T 1,.t (.val false [.int .i64 (getR r)])),(.T 4,.t (.val false [.undef]))])) = xw_szStringS_0 y0 r := fun r => by first | rfl | (rcases r with r | r <;> rfl) | (rcases r with r | r | r <;> rfl) | (rcases r with r | r | r | r <;> rfl)
  have h3 := (hx (valO (g_Lw_szStringS_0 y0 (y1,y2)))).symm.trans h2
  have e3 := congrArg Prod.fst h3
  have e4 := congrArg Prod.snd h3
  simp only at e3 e4
  rw [← e3,← e4]
  exact key
 ·exact .inl ⟨xt,h1,h2⟩)
noncomputable def g_Aw_szStringS (a0:List ByteArray) (a1:Int):Bool := decide (IntKind.wrap IntKind.i64 (a1 - (↑(List.length a0):Int)) < (0:Int)) || okO (g_Lw_szStringS_0 a0 (IntKind.wrap IntKind.i64 (a1 - (↑(List.length a0):Int)),(0:Int)))
noncomputable def g_Vw_szStringS_0 (a0:List ByteArray) (a1:Int):Int := bif decide (IntKind.wrap IntKind.i64 (a1 - (↑(List.length a0):Int)) < (0:Int)) then (-1:Int) else bif isL (valO (g_Lw_szStringS_0 a0 (IntKind.wrap IntKind.i64 (a1 - (↑(List.length a0):Int)),(0:Int)))) then (getL (valO (g_Lw_szStringS_0 a0 (IntKind.wrap IntKind.i64 (a1 - (↑(List.length a0):Int)),(0:Int))))).2 else getR (valO (g_Lw_szStringS_0 a0 (IntKind.wrap IntKind.i64 (a1 - (↑(List.length a0):Int)),(0:Int))))
noncomputable def Fw_szStringS:FSem := fun ys => match ys with
 | [.val false [.sl .any 9 .str a0],.val false [.int .i64 a1]] => some ((g_Aw_szStringS a0 a1),.val false [.int .i64 (g_Vw_szStringS_0 a0 a1)],[])
 | _ => none
theorem vw_szStringS (a0:List ByteArray) (a1:Int):collapseH .std Ew_szStringS Ow_szStringS_1 (execFn Ew_szStringS Tryd.f61 msw_szStringS [.val false [.sl .any 9 .str a0],.val false [.int .i64 a1]]) = some ((g_Aw_szStringS a0 a1),.val false [.int .i64 (g_Vw_szStringS_0 a0 a1)],[]) := by kernel_rfl
theorem sw_szStringS:Sound Tryd.prog 61 msw_szStringS Fw_szStringS := by
 refine fn_gen goodw_szStringS (by kernel_rfl) .std (fn := Tryd.f61) (c := (Tryd.f61.body.getD .skip)) (o := Ow_szStringS_1) (k := 1) (by kernel_rfl) (by kernel_rfl) (by kernel_rfl) (by kernel_rfl) (by decide) kw_szStringS_1 ?_
 intro ys r outs h
 unfold Fw_szStringS at h
 split at h
 ·exact (vw_szStringS _ _).trans h
 ·cases h
noncomputable def Ew_szLogNote:Env where
 tt := mkTI Tryd.prog
 fn := fun f => match f with
  | 61 => some (msw_szStringS,FSem.wk msw_szStringS Fw_szStringS)
  | 62 => some (msw_szStoWriteS,FSem.wk msw_szStoWriteS Fw_szStoWriteS)
  | _ => none
 bxf := fun _ => none
 mv := []
 keep := fun _ => []
 keepB := fun _ => []
 keepX := fun _ => []
 keepXB := fun _ => []
theorem goodFw_szLogNote:∀ f ms F,Ew_szLogNote.fn f = some (ms,F) → Sound Tryd.prog f ms F := fun f ms F h => by
 unfold Ew_szLogNote at h
 dsimp only at h
 split at h
 ·injection h with h; injection h with e1 e2; subst e1 e2; exact Sound.wk sw_szStringS
 ·injection h with h; injection h with e1 e2; subst e1 e2; exact Sound.wk sw_szStoWriteS
 ·cases h
theorem goodBw_szLogNote:∀ f ms F,Ew_szLogNote.bxf f = some (ms,F) → SoundB Tryd.prog f ms F := fun f ms F h => by cases h
theorem goodw_szLogNote:Good Tryd.prog Ew_szLogNote := ⟨rfl,goodFw_szLogNote,goodBw_szLogNote⟩
noncomputable def Ow_szLogNote_0:Orc := fun _ _ => none
noncomputable def msw_szLogNote:List PM := [.rd,.own]
noncomputable def lsw_szLogNote:List (Nat×Code) := loopsAll 0 (Tryd.f42.body.getD .skip)
theorem kw_szLogNote_0:OrcOk Ew_szLogNote Ow_szLogNote_0 lsw_szLogNote 0 := orcOk_none
noncomputable def g_Aw_szLogNote (a0:Int) (a1:Int) (a2:List ByteArray) (a3:List (ByteArray×(Bool×(List Int)))) (a4:Int):Bool := g_Aw_szStringS a2 a4&&(decide (g_Vw_szStringS_0 a2 a4 < (0:Int)) || g_Aw_szStoWriteS a3 (g_Vw_szStringS_0 a2 a4)&&true)
noncomputable def g_Vw_szLogNote_0 (a0:Int) (a1:Int) (a2:List ByteArray) (a3:List (ByteArray×(Bool×(List Int)))) (a4:Int):Int := bif decide (g_Vw_szStringS_0 a2 a4 < (0:Int)) then (-1:Int) else bif decide (g_Vw_szStoWriteS_0 a3 (g_Vw_szStringS_0 a2 a4) < (0:Int)) then (-1:Int) else g_Vw_szStoWriteS_0 a3 (g_Vw_szStringS_0 a2 a4)
noncomputable def Fw_szLogNote:FSem := fun ys => match ys with
 | [.val true [.int .i64 a0,.int .i64 a1,.sl .any 9 .str a2,.sl .any 106 (.pair .str (.pair .bool (.sl 3 (.int .i64)))) a3],.val false [.int .i64 a4]] => some ((g_Aw_szLogNote a0 a1 a2 a3 a4),.val false [.int .i64 (g_Vw_szLogNote_0 a0 a1 a2 a3 a4)],[])
 | _ => none
theorem vw_szLogNote (a0:Int) (a1:Int) (a2:List ByteArray) (a3:List (ByteArray×(Bool×(List Int)))) (a4:Int):collapseH .std Ew_szLogNote Ow_szLogNote_0 (execFn Ew_szLogNote Tryd.f42 msw_szLogNote [.val true [.int .i64 a0,.int .i64 a1,.sl .any 9 .str a2,.sl .any 106 (.pair .str (.pair .bool (.sl 3 (.int .i64)))) a3],.val false [.int .i64 a4]]) = some ((g_Aw_szLogNote a0 a1 a2 a3 a4),.val false [.int .i64 (g_Vw_szLogNote_0 a0 a1 a2 a3 a4)],[]) := by kernel_rfl
theorem sw_szLogNote:Sound Tryd.prog 42 msw_szLogNote Fw_szLogNote := by
 refine fn_gen goodw_szLogNote (by kernel_rfl) .std (fn := Tryd.f42) (c := (Tryd.f42.body.getD .skip)) (o := Ow_szLogNote_0) (k := 0) (by kernel_rfl) (by kernel_rfl) (by kernel_rfl) (by kernel_rfl) (by decide) kw_szLogNote_0 ?_
 intro ys r outs h
 unfold Fw_szLogNote at h
 split at h
 ·exact (vw_szLogNote _ _ _ _ _).trans h
 ·cases h
noncomputable def Ew_szLogNoteS:Env where
 tt := mkTI Tryd.prog
 fn := fun f => match f with
  | 42 => some (msw_szLogNote,FSem.wk msw_szLogNote Fw_szLogNote)
  | _ => none
 bxf := fun _ => none
 mv := []
 keep := fun b => match b with
  | 0 => [(0,false),(1,false),(5,false)]
  | _ => []
 keepB := fun b => match b with
  | 0 => []
  | _ => []
 keepX := fun b => match b with
  | 0 => [(1,false),(4,false)]
  | _ => []
 keepXB := fun b => match b with
  | 0 => []
  | _ => []
theorem goodFw_szLogNoteS:∀ f ms F,Ew_szLogNoteS.fn f = some (ms,F) → Sound Tryd.prog f ms F := fun f ms F h => by
 unfold Ew_szLogNoteS at h
 dsimp only at h
 split at h
 ·injection h with h; injection h with e1 e2; subst e1 e2; exact Sound.wk sw_szLogNote
 ·cases h
theorem goodBw_szLogNoteS:∀ f ms F,Ew_szLogNoteS.bxf f = some (ms,F) → SoundB Tryd.prog f ms F := fun f ms F h => by cases h
theorem goodw_szLogNoteS:Good Tryd.prog Ew_szLogNoteS := ⟨rfl,goodFw_szLogNoteS,goodBw_szLogNoteS⟩
noncomputable def Ow_szLogNoteS_0:Orc := fun _ _ => none
noncomputable def msw_szLogNoteS:List PM := [.rd,.own]
noncomputable def lsw_szLogNoteS:List (Nat×Code) := loopsAll 0 (Tryd.f27.body.getD .skip)
noncomputable def cw_szLogNoteS_0:Code := (loopOf 0 (Tryd.f27.body.getD .skip)).getD .skip
theorem lseqw_szLogNoteS:lsw_szLogNoteS = [(0,cw_szLogNoteS_0)] := by kernel_rfl
theorem mw_szLogNoteS_0:∀ p,p ∈ lsw_szLogNoteS → p.1 = 0 → p.2 = cw_szLogNoteS_0 := by
 intro p hp
 rw [lseqw_szLogNoteS] at hp
 simp only [List.mem_cons,List.not_mem_nil,or_false] at hp
 subst hp; simp
theorem kw_szLogNoteS_0:OrcOk Ew_szLogNoteS Ow_szLogNoteS_0 lsw_szLogNoteS 0 := orcOk_none
noncomputable def hw_szLogNoteS_0 (y0:List (Int×(Int×((List ByteArray)×(List (ByteArray×(Bool×(List Int)))))))) (y1:Int) (y2:Int):List (Pl×LV) := [(.T 0,.t (.val false [.sl .any 79 (.pair (.int .i64) (.pair (.int .i64) (.pair (.sl 9 .str) (.sl 106 (.pair .str (.pair .bool (.sl 3 (.int .i64)))))))) y0])),(.T 1,.t (.val false [.int .i64 y1])),(.T 5,.t (.val false [.int .i64 y2]))]
noncomputable def g_Sw_szLogNoteS_0 (y0:List (Int×(Int×((List ByteArray)×(List (ByteArray×(Bool×(List Int)))))))):(Int×Int) → RT (Int×Int) ((Int×Int) ⊕ (Int))
 | (y1,y2) => .br (true) (.br (decide (y2 < (↑(List.length y0):Int))) (.br (decide ((0:Int) ≤ y2 ∧ y2 < (↑(List.length y0):Int))) (.br (g_Aw_szLogNote (at_ (Ty.pair (Ty.int IntKind.i64) (Ty.pair (Ty.int IntKind.i64) (Ty.pair (Ty.sl (nat_lit 9) Ty.str) (Ty.sl (nat_lit 106) (Ty.pair Ty.str (Ty.pair Ty.bool (Ty.sl (nat_lit 3) (Ty.int IntKind.i64)))))))) y0 (Int.toNat y2)).1 (at_ (Ty.pair (Ty.int IntKind.i64) (Ty.pair (Ty.int IntKind.i64) (Ty.pair (Ty.sl (nat_lit 9) Ty.str) (Ty.sl (nat_lit 106) (Ty.pair Ty.str (Ty.pair Ty.bool (Ty.sl (nat_lit 3) (Ty.int IntKind.i64)))))))) y0 (Int.toNat y2)).2.1 (at_ (Ty.pair (Ty.int IntKind.i64) (Ty.pair (Ty.int IntKind.i64) (Ty.pair (Ty.sl (nat_lit 9) Ty.str) (Ty.sl (nat_lit 106) (Ty.pair Ty.str (Ty.pair Ty.bool (Ty.sl (nat_lit 3) (Ty.int IntKind.i64)))))))) y0 (Int.toNat y2)).2.2.1 (at_ (Ty.pair (Ty.int IntKind.i64) (Ty.pair (Ty.int IntKind.i64) (Ty.pair (Ty.sl (nat_lit 9) Ty.str) (Ty.sl (nat_lit 106) (Ty.pair Ty.str (Ty.pair Ty.bool (Ty.sl (nat_lit 3) (Ty.int IntKind.i64)))))))) y0 (Int.toNat y2)).2.2.2 y1) (.br (true) (.br (decide (g_Vw_szLogNote_0 (at_ (Ty.pair (Ty.int IntKind.i64) (Ty.pair (Ty.int IntKind.i64) (Ty.pair (Ty.sl (nat_lit 9) Ty.str) (Ty.sl (nat_lit 106) (Ty.pair Ty.str (Ty.pair Ty.bool (Ty.sl (nat_lit 3) (Ty.int IntKind.i64)))))))) y0 (Int.toNat y2)).1 (at_ (Ty.pair (Ty.int IntKind.i64) (Ty.pair (Ty.int IntKind.i64) (Ty.pair (Ty.sl (nat_lit 9) Ty.str) (Ty.sl (nat_lit 106) (Ty.pair Ty.str (Ty.pair Ty.bool (Ty.sl (nat_lit 3) (Ty.int IntKind.i64)))))))) y0 (Int.toNat y2)).2.1 (at_ (Ty.pair (Ty.int IntKind.i64) (Ty.pair (Ty.int IntKind.i64) (Ty.pair (Ty.sl (nat_lit 9) Ty.str) (Ty.sl (nat_lit 106) (Ty.pair Ty.str (Ty.pair Ty.bool (Ty.sl (nat_lit 3) (Ty.int IntKind.i64)))))))) y0 (Int.toNat y2)).2.2.1 (at_ (Ty.pair (Ty.int IntKind.i64) (Ty.pair (Ty.int IntKind.i64) (Ty.pair (Ty.sl (nat_lit 9) Ty.str) (Ty.sl (nat_lit 106) (Ty.pair Ty.str (Ty.pair Ty.bool (Ty.sl (nat_lit 3) (Ty.int IntKind.i64)))))))) y0 (Int.toNat y2)).2.2.2 y1 < (0:Int))) (.out (.inl ((g_Vw_szLogNote_0 (at_ (Ty.pair (Ty.int IntKind.i64) (Ty.pair (Ty.int IntKind.i64) (Ty.pair (Ty.sl (nat_lit 9) Ty.str) (Ty.sl (nat_lit 106) (Ty.pair Ty.str (Ty.pair Ty.bool (Ty.sl (nat_lit 3) (Ty.int IntKind.i64)))))))) y0 (Int.toNat y2)).1 (at_ (Ty.pair (Ty.int IntKind.i64) (Ty.pair (Ty.int IntKind.i64) (Ty.pair (Ty.sl (nat_lit 9) Ty.str) (Ty.sl (nat_lit 106) (Ty.pair Ty.str (Ty.pair Ty.bool (Ty.sl (nat_lit 3) (Ty.int IntKind.i64)))))))) y0 (Int.toNat y2)).2.1 (at_ (Ty.pair (Ty.int IntKind.i64) (Ty.pair (Ty.int IntKind.i64) (Ty.pair (Ty.sl (nat_lit 9) Ty.str) (Ty.sl (nat_lit 106) (Ty.pair Ty.str (Ty.pair Ty.bool (Ty.sl (nat_lit 3) (Ty.int IntKind.i64)))))))) y0 (Int.toNat y2)).2.2.1 (at_ (Ty.pair (Ty.int IntKind.i64) (Ty.pair (Ty.int IntKind.i64) (Ty.pair (Ty.sl (nat_lit 9) Ty.str) (Ty.sl (nat_lit 106) (Ty.pair Ty.str (Ty.pair Ty.bool (Ty.sl (nat_lit 3) (Ty.int IntKind.i64)))))))) y0 (Int.toNat y2)).2.2.2 y1,(-1:Int))))) (.br (true) (.go ((g_Vw_szLogNote_0 (at_ (Ty.pair (Ty.int IntKind.i64) (Ty.pair (Ty.int IntKind.i64) (Ty.pair (Ty.sl (nat_lit 9) Ty.str) (Ty.sl (nat_lit 106) (Ty.pair Ty.str (Ty.pair Ty.bool (Ty.sl (nat_lit 3) (Ty.int IntKind.i64)))))))) y0 (Int.toNat y2)).1 (at_ (Ty.pair (Ty.int IntKind.i64) (Ty.pair (Ty.int IntKind.i64) (Ty.pair (Ty.sl (nat_lit 9) Ty.str) (Ty.sl (nat_lit 106) (Ty.pair Ty.str (Ty.pair Ty.bool (Ty.sl (nat_lit 3) (Ty.int IntKind.i64)))))))) y0 (Int.toNat y2)).2.1 (at_ (Ty.pair (Ty.int IntKind.i64) (Ty.pair (Ty.int IntKind.i64) (Ty.pair (Ty.sl (nat_lit 9) Ty.str) (Ty.sl (nat_lit 106) (Ty.pair Ty.str (Ty.pair Ty.bool (Ty.sl (nat_lit 3) (Ty.int IntKind.i64)))))))) y0 (Int.toNat y2)).2.2.1 (at_ (Ty.pair (Ty.int IntKind.i64) (Ty.pair (Ty.int IntKind.i64) (Ty.pair (Ty.sl (nat_lit 9) Ty.str) (Ty.sl (nat_lit 106) (Ty.pair Ty.str (Ty.pair Ty.bool (Ty.sl (nat_lit 3) (Ty.int IntKind.i64)))))))) y0 (Int.toNat y2)).2.2.2 y1,IntKind.wrap IntKind.i64 (y2 + (1:Int))))) .bad)) .bad) .bad) .bad) (.out (.inr (y1)))) .bad
noncomputable def g_Lw_szLogNoteS_0 (y0:List (Int×(Int×((List ByteArray)×(List (ByteArray×(Bool×(List Int)))))))) (x:Int×Int):Option ((Int×Int) ⊕ (Int)) := loopO (g_Sw_szLogNoteS_0 y0) x
noncomputable def xw_szLogNoteS_0 (y0:List (Int×(Int×((List ByteArray)×(List (ByteArray×(Bool×(List Int)))))))):((Int×Int) ⊕ (Int)) → Ex×List (Pl×LV) := fun
 | .inl r => (.ret,[(.T 1,.t (.val false [.int .i64 r.1])),(.T 4,.t (.val false [.int .i64 r.2]))])
 | .inr (r) => (.exit 0,[(.T 1,.t (.val false [.int .i64 r])),(.T 4,.t (.val false [.undef]))])
noncomputable def Ow_szLogNoteS_1:Orc := fun b h => match b,h with
 | 0,[(.T 0,.t (.val false [.sl .any 79 (.pair (.int .i64) (.pair (.int .i64) (.pair (.sl 9 .str) (.sl 106 (.pair .str (.pair .bool (.sl 3 (.int .i64)))))))) y0])),(.T 1,.t (.val false [.int .i64 y1])),(.T 5,.t (.val false [.int .i64 y2]))] => some (okO (g_Lw_szLogNoteS_0 y0 (y1,y2)),(.br (isL (valO (g_Lw_szLogNoteS_0 y0 (y1,y2)))) (.leaf .ret [(.T 1,.t (.val false [.int .i64 (getL (valO (g_Lw_szLogNoteS_0 y0 (y1,y2)))).1])),(.T 4,.t (.val false [.int .i64 (getL (valO (g_Lw_szLogNoteS_0 y0 (y1,y2)))).2]))]) (.leaf (.exit 0) [(.T 1,.t (.val false [.int .i64 (getR (valO (g_Lw_szLogNoteS_0 y0 (y1,y2))))])),(.T 4,.t (.val false [.undef]))])))
 | b,h => Ow_szLogNoteS_0 b h
theorem bw_szLogNoteS_0 (y0:List (Int×(Int×((List ByteArray)×(List (ByteArray×(Bool×(List Int)))))))) (y1:Int) (y2:Int):Tr.bt Ew_szLogNoteS Ow_szLogNoteS_0 (exec Ew_szLogNoteS 0 cw_szLogNoteS_0 (St.of (hw_szLogNoteS_0 y0 y1 y2)) (leafRd Ew_szLogNoteS 0)) = (g_Sw_szLogNoteS_0 y0 (y1,y2)).bt (fun ((y1,y2):Int×Int) => (hw_szLogNoteS_0 y0 y1 y2)) (xw_szLogNoteS_0 y0) := by kernel_rfl
theorem kw_szLogNoteS_1:OrcOk Ew_szLogNoteS Ow_szLogNoteS_1 lsw_szLogNoteS 1 := orc_add kw_szLogNoteS_0 (fun n p hp h ex h' ho => by
 obtain ⟨b,c⟩ := p
 obtain ⟨xt,h1,h2⟩ := ho
 have h1:Ow_szLogNoteS_1 b h = some (true,xt) := h1
 unfold Ow_szLogNoteS_1 at h1
 split at h1
 ·injection h1 with h1
  injection h1 with e1 e2
  subst e2
  have hc:c = cw_szLogNoteS_0 := mw_szLogNoteS_0 _ hp rfl
  subst hc
  right
  rename_i y0 y1 y2
  have key := LT_step kw_szLogNoteS_0 hp (fun q hq => loopsAll_in _ _ _ _ hp hq) (fun ((y1,y2):Int×Int) => (hw_szLogNoteS_0 y0 y1 y2)) (xw_szLogNoteS_0 y0) (g_Sw_szLogNoteS_0 y0) (fun x => by first | exact bw_szLogNoteS_0 y0 x.1 x.2) n (x := (y1,y2)) (okO_some e1)
  have hx:∀ r,XT.sel (.br (isL r) (.leaf .ret [(.T 1,.t (.val false [.int .i64 (getL r).1])),(.T 4,.t (.val false [.int .i64 (getL r).2]))]) (.leaf (.exit 0) [(.T 1,.t (.val false [.int .i64 (getR r)])),(.T 4,.t (.val false [.undef]))])) = xw_szLogNoteS_0 y0 r := fun r => by first | rfl | (rcases r with r | r <;> rfl) | (rcases r with r | r | r <;> rfl) | (rcases r with r | r | r | r <;> rfl)
  have h3 := (hx (valO (g_Lw_szLogNoteS_0 y0 (y1,y2)))).symm.trans h2
  have e3 := congrArg Prod.fst h3
  have e4 := congrArg Prod.snd h3
  simp only at e3 e4
  rw [← e3,← e4]
  exact key
 ·exact .inl ⟨xt,h1,h2⟩)
noncomputable def g_Aw_szLogNoteS (a0:List (Int×(Int×((List ByteArray)×(List (ByteArray×(Bool×(List Int)))))))) (a1:Int):Bool := decide (IntKind.wrap IntKind.i64 (a1 - (↑(List.length a0):Int)) < (0:Int)) || okO (g_Lw_szLogNoteS_0 a0 (IntKind.wrap IntKind.i64 (a1 - (↑(List.length a0):Int)),(0:Int)))
noncomputable def g_Vw_szLogNoteS_0 (a0:List (Int×(Int×((List ByteArray)×(List (ByteArray×(Bool×(List Int)))))))) (a1:Int):Int := bif decide (IntKind.wrap IntKind.i64 (a1 - (↑(List.length a0):Int)) < (0:Int)) then (-1:Int) else bif isL (valO (g_Lw_szLogNoteS_0 a0 (IntKind.wrap IntKind.i64 (a1 - (↑(List.length a0):Int)),(0:Int)))) then (getL (valO (g_Lw_szLogNoteS_0 a0 (IntKind.wrap IntKind.i64 (a1 - (↑(List.length a0):Int)),(0:Int))))).2 else getR (valO (g_Lw_szLogNoteS_0 a0 (IntKind.wrap IntKind.i64 (a1 - (↑(List.length a0):Int)),(0:Int))))
noncomputable def Fw_szLogNoteS:FSem := fun ys => match ys with
 | [.val false [.sl .any 79 (.pair (.int .i64) (.pair (.int .i64) (.pair (.sl 9 .str) (.sl 106 (.pair .str (.pair .bool (.sl 3 (.int .i64)))))))) a0],.val false [.int .i64 a1]] => some ((g_Aw_szLogNoteS a0 a1),.val false [.int .i64 (g_Vw_szLogNoteS_0 a0 a1)],[])
 | _ => none
theorem vw_szLogNoteS (a0:List (Int×(Int×((List ByteArray)×(List (ByteArray×(Bool×(List Int)))))))) (a1:Int):collapseH .std Ew_szLogNoteS Ow_szLogNoteS_1 (execFn Ew_szLogNoteS Tryd.f27 msw_szLogNoteS [.val false [.sl .any 79 (.pair (.int .i64) (.pair (.int .i64) (.pair (.sl 9 .str) (.sl 106 (.pair .str (.pair .bool (.sl 3 (.int .i64)))))))) a0],.val false [.int .i64 a1]]) = some ((g_Aw_szLogNoteS a0 a1),.val false [.int .i64 (g_Vw_szLogNoteS_0 a0 a1)],[]) := by kernel_rfl
theorem sw_szLogNoteS:Sound Tryd.prog 27 msw_szLogNoteS Fw_szLogNoteS := by
 refine fn_gen goodw_szLogNoteS (by kernel_rfl) .std (fn := Tryd.f27) (c := (Tryd.f27.body.getD .skip)) (o := Ow_szLogNoteS_1) (k := 1) (by kernel_rfl) (by kernel_rfl) (by kernel_rfl) (by kernel_rfl) (by decide) kw_szLogNoteS_1 ?_
 intro ys r outs h
 unfold Fw_szLogNoteS at h
 split at h
 ·exact (vw_szLogNoteS _ _).trans h
 ·cases h
noncomputable def Ew_szLogDisk:Env where
 tt := mkTI Tryd.prog
 fn := fun f => match f with
  | 27 => some (msw_szLogNoteS,FSem.wk msw_szLogNoteS Fw_szLogNoteS)
  | _ => none
 bxf := fun _ => none
 mv := []
 keep := fun _ => []
 keepB := fun _ => []
 keepX := fun _ => []
 keepXB := fun _ => []
theorem goodFw_szLogDisk:∀ f ms F,Ew_szLogDisk.fn f = some (ms,F) → Sound Tryd.prog f ms F := fun f ms F h => by
 unfold Ew_szLogDisk at h
 dsimp only at h
 split at h
 ·injection h with h; injection h with e1 e2; subst e1 e2; exact Sound.wk sw_szLogNoteS
 ·cases h
theorem goodBw_szLogDisk:∀ f ms F,Ew_szLogDisk.bxf f = some (ms,F) → SoundB Tryd.prog f ms F := fun f ms F h => by cases h
theorem goodw_szLogDisk:Good Tryd.prog Ew_szLogDisk := ⟨rfl,goodFw_szLogDisk,goodBw_szLogDisk⟩
noncomputable def Ow_szLogDisk_0:Orc := fun _ _ => none
noncomputable def msw_szLogDisk:List PM := [.rd,.own]
noncomputable def lsw_szLogDisk:List (Nat×Code) := loopsAll 0 (Tryd.f9.body.getD .skip)
theorem kw_szLogDisk_0:OrcOk Ew_szLogDisk Ow_szLogDisk_0 lsw_szLogDisk 0 := orcOk_none
noncomputable def g_Aw_szLogDisk (a0:List (Int×(Int×((List ByteArray)×(List (ByteArray×(Bool×(List Int)))))))) (a1:Int) (a2:Int):Bool := g_Aw_szLogNoteS a0 a2&&true
noncomputable def g_Vw_szLogDisk_0 (a0:List (Int×(Int×((List ByteArray)×(List (ByteArray×(Bool×(List Int)))))))) (a1:Int) (a2:Int):Int := bif decide (g_Vw_szLogNoteS_0 a0 a2 < (0:Int)) then (-1:Int) else g_Vw_szLogNoteS_0 a0 a2
noncomputable def Fw_szLogDisk:FSem := fun ys => match ys with
 | [.val true [.sl .any 79 (.pair (.int .i64) (.pair (.int .i64) (.pair (.sl 9 .str) (.sl 106 (.pair .str (.pair .bool (.sl 3 (.int .i64)))))))) a0,.int .i64 a1],.val false [.int .i64 a2]] => some ((g_Aw_szLogDisk a0 a1 a2),.val false [.int .i64 (g_Vw_szLogDisk_0 a0 a1 a2)],[])
 | _ => none
theorem vw_szLogDisk (a0:List (Int×(Int×((List ByteArray)×(List (ByteArray×(Bool×(List Int)))))))) (a1:Int) (a2:Int):collapseH .std Ew_szLogDisk Ow_szLogDisk_0 (execFn Ew_szLogDisk Tryd.f9 msw_szLogDisk [.val true [.sl .any 79 (.pair (.int .i64) (.pair (.int .i64) (.pair (.sl 9 .str) (.sl 106 (.pair .str (.pair .bool (.sl 3 (.int .i64)))))))) a0,.int .i64 a1],.val false [.int .i64 a2]]) = some ((g_Aw_szLogDisk a0 a1 a2),.val false [.int .i64 (g_Vw_szLogDisk_0 a0 a1 a2)],[]) := by kernel_rfl
theorem sw_szLogDisk:Sound Tryd.prog 9 msw_szLogDisk Fw_szLogDisk := by
 refine fn_gen goodw_szLogDisk (by kernel_rfl) .std (fn := Tryd.f9) (c := (Tryd.f9.body.getD .skip)) (o := Ow_szLogDisk_0) (k := 0) (by kernel_rfl) (by kernel_rfl) (by kernel_rfl) (by kernel_rfl) (by decide) kw_szLogDisk_0 ?_
 intro ys r outs h
 unfold Fw_szLogDisk at h
 split at h
 ·exact (vw_szLogDisk _ _ _).trans h
 ·cases h
noncomputable def Ew_szFroState:Env where
 tt := mkTI Tryd.prog
 fn := fun f => match f with
  | 9 => some (msw_szLogDisk,FSem.wk msw_szLogDisk Fw_szLogDisk)
  | 10 => some (msw_szFroTxS,FSem.wk msw_szFroTxS Fw_szFroTxS)
  | _ => none
 bxf := fun _ => none
 mv := []
 keep := fun _ => []
 keepB := fun _ => []
 keepX := fun _ => []
 keepXB := fun _ => []
theorem goodFw_szFroState:∀ f ms F,Ew_szFroState.fn f = some (ms,F) → Sound Tryd.prog f ms F := fun f ms F h => by
 unfold Ew_szFroState at h
 dsimp only at h
 split at h
 ·injection h with h; injection h with e1 e2; subst e1 e2; exact Sound.wk sw_szLogDisk
 ·injection h with h; injection h with e1 e2; subst e1 e2; exact Sound.wk sw_szFroTxS
 ·cases h
theorem goodBw_szFroState:∀ f ms F,Ew_szFroState.bxf f = some (ms,F) → SoundB Tryd.prog f ms F := fun f ms F h => by cases h
theorem goodw_szFroState:Good Tryd.prog Ew_szFroState := ⟨rfl,goodFw_szFroState,goodBw_szFroState⟩
noncomputable def Ow_szFroState_0:Orc := fun _ _ => none
noncomputable def msw_szFroState:List PM := [.rd,.own]
noncomputable def lsw_szFroState:List (Nat×Code) := loopsAll 0 (Tryd.f4.body.getD .skip)
theorem kw_szFroState_0:OrcOk Ew_szFroState Ow_szFroState_0 lsw_szFroState 0 := orcOk_none
noncomputable def g_Aw_szFroState (a0:List (Int×(Int×((List ByteArray)×(List (ByteArray×(Bool×(List Int)))))))) (a1:Int) (a2:List (Int×((Int×(Int×(Int×(Int×(Int×(Int×Int))))))×(Bool×((List Int)×(List Int)))))) (a3:Int):Bool := g_Aw_szLogDisk a0 a1 a3&&(decide (g_Vw_szLogDisk_0 a0 a1 a3 < (0:Int)) || g_Aw_szFroTxS a2 (g_Vw_szLogDisk_0 a0 a1 a3)&&true)
noncomputable def g_Vw_szFroState_0 (a0:List (Int×(Int×((List ByteArray)×(List (ByteArray×(Bool×(List Int)))))))) (a1:Int) (a2:List (Int×((Int×(Int×(Int×(Int×(Int×(Int×Int))))))×(Bool×((List Int)×(List Int)))))) (a3:Int):Int := bif decide (g_Vw_szLogDisk_0 a0 a1 a3 < (0:Int)) then (-1:Int) else bif decide (g_Vw_szFroTxS_0 a2 (g_Vw_szLogDisk_0 a0 a1 a3) < (0:Int)) then (-1:Int) else g_Vw_szFroTxS_0 a2 (g_Vw_szLogDisk_0 a0 a1 a3)
noncomputable def Fw_szFroState:FSem := fun ys => match ys with
 | [.val true [.sl .any 79 (.pair (.int .i64) (.pair (.int .i64) (.pair (.sl 9 .str) (.sl 106 (.pair .str (.pair .bool (.sl 3 (.int .i64)))))))) a0,.int .i64 a1,.sl .any 67 (.pair (.int .i64) (.pair (.pair (.int .i64) (.pair (.int .i64) (.pair (.int .i64) (.pair (.int .i64) (.pair (.int .i64) (.pair (.int .i64) (.int .i64))))))) (.pair .bool (.pair (.sl 3 (.int .i64)) (.sl 3 (.int .i64)))))) a2],.val false [.int .i64 a3]] => some ((g_Aw_szFroState a0 a1 a2 a3),.val false [.int .i64 (g_Vw_szFroState_0 a0 a1 a2 a3)],[])
 | _ => none
theorem vw_szFroState (a0:List (Int×(Int×((List ByteArray)×(List (ByteArray×(Bool×(List Int)))))))) (a1:Int) (a2:List (Int×((Int×(Int×(Int×(Int×(Int×(Int×Int))))))×(Bool×((List Int)×(List Int)))))) (a3:Int):collapseH .std Ew_szFroState Ow_szFroState_0 (execFn Ew_szFroState Tryd.f4 msw_szFroState [.val true [.sl .any 79 (.pair (.int .i64) (.pair (.int .i64) (.pair (.sl 9 .str) (.sl 106 (.pair .str (.pair .bool (.sl 3 (.int .i64)))))))) a0,.int .i64 a1,.sl .any 67 (.pair (.int .i64) (.pair (.pair (.int .i64) (.pair (.int .i64) (.pair (.int .i64) (.pair (.int .i64) (.pair (.int .i64) (.pair (.int .i64) (.int .i64))))))) (.pair .bool (.pair (.sl 3 (.int .i64)) (.sl 3 (.int .i64)))))) a2],.val false [.int .i64 a3]]) = some ((g_Aw_szFroState a0 a1 a2 a3),.val false [.int .i64 (g_Vw_szFroState_0 a0 a1 a2 a3)],[]) := by kernel_rfl
theorem sw_szFroState:Sound Tryd.prog 4 msw_szFroState Fw_szFroState := by
 refine fn_gen goodw_szFroState (by kernel_rfl) .std (fn := Tryd.f4) (c := (Tryd.f4.body.getD .skip)) (o := Ow_szFroState_0) (k := 0) (by kernel_rfl) (by kernel_rfl) (by kernel_rfl) (by kernel_rfl) (by decide) kw_szFroState_0 ?_
 intro ys r outs h
 unfold Fw_szFroState at h
 split at h
 ·exact (vw_szFroState _ _ _ _).trans h
 ·cases h
noncomputable def Ew_toIntS:Env where
 tt := mkTI Tryd.prog
 fn := fun _ => none
 bxf := fun _ => none
 mv := []
 keep := fun b => match b with
  | 0 => [(0,false),(3,false),(4,false)]
  | _ => []
 keepB := fun b => match b with
  | 0 => []
  | _ => []
 keepX := fun b => match b with
  | 0 => [(3,false)]
  | _ => []
 keepXB := fun b => match b with
  | 0 => []
  | _ => []
theorem goodFw_toIntS:∀ f ms F,Ew_toIntS.fn f = some (ms,F) → Sound Tryd.prog f ms F := fun f ms F h => by cases h
theorem goodBw_toIntS:∀ f ms F,Ew_toIntS.bxf f = some (ms,F) → SoundB Tryd.prog f ms F := fun f ms F h => by cases h
theorem goodw_toIntS:Good Tryd.prog Ew_toIntS := ⟨rfl,goodFw_toIntS,goodBw_toIntS⟩
noncomputable def Ow_toIntS_0:Orc := fun _ _ => none
noncomputable def msw_toIntS:List PM := [.rd]
noncomputable def lsw_toIntS:List (Nat×Code) := loopsAll 0 (Tryd.f49.body.getD .skip)
noncomputable def cw_toIntS_0:Code := (loopOf 0 (Tryd.f49.body.getD .skip)).getD .skip
theorem lseqw_toIntS:lsw_toIntS = [(0,cw_toIntS_0)] := by kernel_rfl
theorem mw_toIntS_0:∀ p,p ∈ lsw_toIntS → p.1 = 0 → p.2 = cw_toIntS_0 := by
 intro p hp
 rw [lseqw_toIntS] at hp
 simp only [List.mem_cons,List.not_mem_nil,or_false] at hp
 subst hp; simp
theorem kw_toIntS_0:OrcOk Ew_toIntS Ow_toIntS_0 lsw_toIntS 0 := orcOk_none
noncomputable def hw_toIntS_0 (y0:List Int) (y1:List Int) (y2:Int):List (Pl×LV) := [(.T 0,.t (.val false [.sl .any 3 (.int .i64) y0])),(.T 3,.t (.val false [.row 3 0 0])),(.R 3 0,.r 0 (some ⟨false,.non,true,3,(.int .i64),y1⟩)),(.T 4,.t (.val false [.int .i64 y2]))]
noncomputable def g_Sw_toIntS_0 (y0:List Int):((List Int)×Int) → RT ((List Int)×Int) (((List Int)))
 | (y1,y2) => .br (true) (.br (decide (y2 < (↑(List.length y0):Int))) (.br (decide ((0:Int) ≤ y2 ∧ y2 < (↑(List.length y0):Int))) (.br (decide ((0:Int) ≤ y2 ∧ y2 < (↑(List.length y1):Int))) (.br (decide (Int.toNat y2 < List.length y1)) (.br (true) (.go ((List.set y1 (Int.toNat y2) (at_ (Ty.int IntKind.i64) y0 (Int.toNat y2)),IntKind.wrap IntKind.i64 (y2 + (1:Int))))) .bad) .bad) .bad) .bad) (.out (y1))) .bad
noncomputable def g_Lw_toIntS_0 (y0:List Int) (x:(List Int)×Int):Option (((List Int))) := loopO (g_Sw_toIntS_0 y0) x
noncomputable def xw_toIntS_0 (y0:List Int):(((List Int))) → Ex×List (Pl×LV) := fun r => (.exit 0,[(.T 3,.t (.val false [.row 3 0 0])),(.R 3 0,.r 0 (some ⟨false,.non,true,3,(.int .i64),r⟩))])
noncomputable def Ow_toIntS_1:Orc := fun b h => match b,h with
 | 0,[(.T 0,.t (.val false [.sl .any 3 (.int .i64) y0])),(.T 3,.t (.val false [.row 3 0 0])),(.R 3 0,.r 0 (some ⟨false,.non,true,3,(.int .i64),y1⟩)),(.T 4,.t (.val false [.int .i64 y2]))] => some (okO (g_Lw_toIntS_0 y0 (y1,y2)),(.leaf (.exit 0) [(.T 3,.t (.val false [.row 3 0 0])),(.R 3 0,.r 0 (some ⟨false,.non,true,3,(.int .i64),(valO (g_Lw_toIntS_0 y0 (y1,y2)))⟩))]))
 | b,h => Ow_toIntS_0 b h
theorem bw_toIntS_0 (y0:List Int) (y1:List Int) (y2:Int):Tr.bt Ew_toIntS Ow_toIntS_0 (exec Ew_toIntS 0 cw_toIntS_0 (St.of (hw_toIntS_0 y0 y1 y2)) (leafRd Ew_toIntS 0)) = (g_Sw_toIntS_0 y0 (y1,y2)).bt (fun ((y1,y2):(List Int)×Int) => (hw_toIntS_0 y0 y1 y2)) (xw_toIntS_0 y0) := by kernel_rfl
theorem kw_toIntS_1:OrcOk Ew_toIntS Ow_toIntS_1 lsw_toIntS 1 := orc_add kw_toIntS_0 (fun n p hp h ex h' ho => by
 obtain ⟨b,c⟩ := p
 obtain ⟨xt,h1,h2⟩ := ho
 have h1:Ow_toIntS_1 b h = some (true,xt) := h1
 unfold Ow_toIntS_1 at h1
 split at h1
 ·injection h1 with h1
  injection h1 with e1 e2
  subst e2
  have hc:c = cw_toIntS_0 := mw_toIntS_0 _ hp rfl
  subst hc
  right
  rename_i y0 y1 y2
  have key := LT_step kw_toIntS_0 hp (fun q hq => loopsAll_in _ _ _ _ hp hq) (fun ((y1,y2):(List Int)×Int) => (hw_toIntS_0 y0 y1 y2)) (xw_toIntS_0 y0) (g_Sw_toIntS_0 y0) (fun x => by first | exact bw_toIntS_0 y0 x.1 x.2) n (x := (y1,y2)) (okO_some e1)
  have hx:∀ r,XT.sel (.leaf (.exit 0) [(.T 3,.t (.val false [.row 3 0 0])),(.R 3 0,.r 0 (some ⟨false,.non,true,3,(.int .i64),r⟩))]) = xw_toIntS_0 y0 r := fun r => by first | rfl | (rcases r with r | r <;> rfl) | (rcases r with r | r | r <;> rfl) | (rcases r with r | r | r | r <;> rfl)
  have h3 := (hx (valO (g_Lw_toIntS_0 y0 (y1,y2)))).symm.trans h2
  have e3 := congrArg Prod.fst h3
  have e4 := congrArg Prod.snd h3
  simp only at e3 e4
  rw [← e3,← e4]
  exact key
 ·exact .inl ⟨xt,h1,h2⟩)
noncomputable def g_Aw_toIntS (a0:List Int):Bool := decide ((↑(List.length a0):Int) = (↑(List.length a0):Int) ∧ (0:Int) ≤ (↑(List.length a0):Int) ∧ (↑(List.length a0):Int) ≤ (9223372036854775807:Int) ∧ (8:Int) * (↑(List.length a0):Int) ≤ (281474976710656:Int))&&okO (g_Lw_toIntS_0 a0 (List.replicate (Int.toNat (↑(List.length a0):Int)) (0:Int),(0:Int)))
noncomputable def g_Vw_toIntS_0 (a0:List Int):List Int := valO (g_Lw_toIntS_0 a0 (List.replicate (Int.toNat (↑(List.length a0):Int)) (0:Int),(0:Int)))
noncomputable def Fw_toIntS:FSem := fun ys => match ys with
 | [.val false [.sl .any 3 (.int .i64) a0]] => some ((g_Aw_toIntS a0),.val false [.own .any true 3 (.int .i64) (g_Vw_toIntS_0 a0)],[])
 | _ => none
theorem vw_toIntS (a0:List Int):collapseH .std Ew_toIntS Ow_toIntS_1 (execFn Ew_toIntS Tryd.f49 msw_toIntS [.val false [.sl .any 3 (.int .i64) a0]]) = some ((g_Aw_toIntS a0),.val false [.own .any true 3 (.int .i64) (g_Vw_toIntS_0 a0)],[]) := by kernel_rfl
theorem sw_toIntS:Sound Tryd.prog 49 msw_toIntS Fw_toIntS := by
 refine fn_gen goodw_toIntS (by kernel_rfl) .std (fn := Tryd.f49) (c := (Tryd.f49.body.getD .skip)) (o := Ow_toIntS_1) (k := 1) (by kernel_rfl) (by kernel_rfl) (by kernel_rfl) (by kernel_rfl) (by decide) kw_toIntS_1 ?_
 intro ys r outs h
 unfold Fw_toIntS at h
 split at h
 ·exact (vw_toIntS _).trans h
 ·cases h
noncomputable def Ew_toOpOp:Env where
 tt := mkTI Tryd.prog
 fn := fun _ => none
 bxf := fun _ => none
 mv := []
 keep := fun _ => []
 keepB := fun _ => []
 keepX := fun _ => []
 keepXB := fun _ => []
theorem goodFw_toOpOp:∀ f ms F,Ew_toOpOp.fn f = some (ms,F) → Sound Tryd.prog f ms F := fun f ms F h => by cases h
theorem goodBw_toOpOp:∀ f ms F,Ew_toOpOp.bxf f = some (ms,F) → SoundB Tryd.prog f ms F := fun f ms F h => by cases h
theorem goodw_toOpOp:Good Tryd.prog Ew_toOpOp := ⟨rfl,goodFw_toOpOp,goodBw_toOpOp⟩
noncomputable def Ow_toOpOp_0:Orc := fun _ _ => none
noncomputable def msw_toOpOp:List PM := [.own]
noncomputable def lsw_toOpOp:List (Nat×Code) := loopsAll 0 (Tryd.f48.body.getD .skip)
theorem kw_toOpOp_0:OrcOk Ew_toOpOp Ow_toOpOp_0 lsw_toOpOp 0 := orcOk_none
noncomputable def Fw_toOpOp:FSem := fun ys => match ys with
 | [.val true [.int .i64 a0,.int .i64 a1,.int .i64 a2,.int .i64 a3,.int .i64 a4,.int .i64 a5,.int .i64 a6]] => some (true,.val true [.int .i64 a0,.int .i64 a1,.int .i64 a2,.int .i64 a3,.int .i64 a4,.int .i64 a5,.int .i64 a6],[])
 | _ => none
theorem vw_toOpOp (a0:Int) (a1:Int) (a2:Int) (a3:Int) (a4:Int) (a5:Int) (a6:Int):collapseH .std Ew_toOpOp Ow_toOpOp_0 (execFn Ew_toOpOp Tryd.f48 msw_toOpOp [.val true [.int .i64 a0,.int .i64 a1,.int .i64 a2,.int .i64 a3,.int .i64 a4,.int .i64 a5,.int .i64 a6]]) = some (true,.val true [.int .i64 a0,.int .i64 a1,.int .i64 a2,.int .i64 a3,.int .i64 a4,.int .i64 a5,.int .i64 a6],[]) := by kernel_rfl
theorem sw_toOpOp:Sound Tryd.prog 48 msw_toOpOp Fw_toOpOp := by
 refine fn_gen goodw_toOpOp (by kernel_rfl) .std (fn := Tryd.f48) (c := (Tryd.f48.body.getD .skip)) (o := Ow_toOpOp_0) (k := 0) (by kernel_rfl) (by kernel_rfl) (by kernel_rfl) (by kernel_rfl) (by decide) kw_toOpOp_0 ?_
 intro ys r outs h
 unfold Fw_toOpOp at h
 split at h
 ·exact (vw_toOpOp _ _ _ _ _ _ _).trans h
 ·cases h
noncomputable def Ew_toFroTx:Env where
 tt := mkTI Tryd.prog
 fn := fun f => match f with
  | 48 => some (msw_toOpOp,FSem.wk msw_toOpOp Fw_toOpOp)
  | 49 => some (msw_toIntS,FSem.wk msw_toIntS Fw_toIntS)
  | _ => none
 bxf := fun _ => none
 mv := []
 keep := fun _ => []
 keepB := fun _ => []
 keepX := fun _ => []
 keepXB := fun _ => []
theorem goodFw_toFroTx:∀ f ms F,Ew_toFroTx.fn f = some (ms,F) → Sound Tryd.prog f ms F := fun f ms F h => by
 unfold Ew_toFroTx at h
 dsimp only at h
 split at h
 ·injection h with h; injection h with e1 e2; subst e1 e2; exact Sound.wk sw_toOpOp
 ·injection h with h; injection h with e1 e2; subst e1 e2; exact Sound.wk sw_toIntS
 ·cases h
theorem goodBw_toFroTx:∀ f ms F,Ew_toFroTx.bxf f = some (ms,F) → SoundB Tryd.prog f ms F := fun f ms F h => by cases h
theorem goodw_toFroTx:Good Tryd.prog Ew_toFroTx := ⟨rfl,goodFw_toFroTx,goodBw_toFroTx⟩
noncomputable def Ow_toFroTx_0:Orc := fun _ _ => none
noncomputable def msw_toFroTx:List PM := [.rd]
noncomputable def lsw_toFroTx:List (Nat×Code) := loopsAll 0 (Tryd.f31.body.getD .skip)
theorem kw_toFroTx_0:OrcOk Ew_toFroTx Ow_toFroTx_0 lsw_toFroTx 0 := orcOk_none
noncomputable def g_Aw_toFroTx (a0:Int) (a1:Int) (a2:Int) (a3:Int) (a4:Int) (a5:Int) (a6:Int) (a7:Int) (a8:Bool) (a9:List Int) (a10:List Int):Bool := g_Aw_toIntS a9&&g_Aw_toIntS a10
noncomputable def Fw_toFroTx:FSem := fun ys => match ys with
 | [.val true [.int .i64 a0,.int .i64 a1,.int .i64 a2,.int .i64 a3,.int .i64 a4,.int .i64 a5,.int .i64 a6,.int .i64 a7,.bool a8,.sl .any 3 (.int .i64) a9,.sl .any 3 (.int .i64) a10]] => some ((g_Aw_toFroTx a0 a1 a2 a3 a4 a5 a6 a7 a8 a9 a10),.val true [.int .i64 a0,.int .i64 a1,.int .i64 a2,.int .i64 a3,.int .i64 a4,.int .i64 a5,.int .i64 a6,.int .i64 a7,.bool a8,.own .any true 3 (.int .i64) (g_Vw_toIntS_0 a9),.own .any true 3 (.int .i64) (g_Vw_toIntS_0 a10)],[])
 | _ => none
theorem vw_toFroTx (a0:Int) (a1:Int) (a2:Int) (a3:Int) (a4:Int) (a5:Int) (a6:Int) (a7:Int) (a8:Bool) (a9:List Int) (a10:List Int):collapseH .std Ew_toFroTx Ow_toFroTx_0 (execFn Ew_toFroTx Tryd.f31 msw_toFroTx [.val true [.int .i64 a0,.int .i64 a1,.int .i64 a2,.int .i64 a3,.int .i64 a4,.int .i64 a5,.int .i64 a6,.int .i64 a7,.bool a8,.sl .any 3 (.int .i64) a9,.sl .any 3 (.int .i64) a10]]) = some ((g_Aw_toFroTx a0 a1 a2 a3 a4 a5 a6 a7 a8 a9 a10),.val true [.int .i64 a0,.int .i64 a1,.int .i64 a2,.int .i64 a3,.int .i64 a4,.int .i64 a5,.int .i64 a6,.int .i64 a7,.bool a8,.own .any true 3 (.int .i64) (g_Vw_toIntS_0 a9),.own .any true 3 (.int .i64) (g_Vw_toIntS_0 a10)],[]) := by kernel_rfl
theorem sw_toFroTx:Sound Tryd.prog 31 msw_toFroTx Fw_toFroTx := by
 refine fn_gen goodw_toFroTx (by kernel_rfl) .std (fn := Tryd.f31) (c := (Tryd.f31.body.getD .skip)) (o := Ow_toFroTx_0) (k := 0) (by kernel_rfl) (by kernel_rfl) (by kernel_rfl) (by kernel_rfl) (by decide) kw_toFroTx_0 ?_
 intro ys r outs h
 unfold Fw_toFroTx at h
 split at h
 ·exact (vw_toFroTx _ _ _ _ _ _ _ _ _ _ _).trans h
 ·cases h
noncomputable def Ew_toFroTxS:Env where
 tt := mkTI Tryd.prog
 fn := fun f => match f with
  | 31 => some (msw_toFroTx,FSem.wk msw_toFroTx Fw_toFroTx)
  | _ => none
 bxf := fun _ => none
 mv := []
 keep := fun b => match b with
  | 0 => [(0,false),(3,false),(4,false)]
  | _ => []
 keepB := fun b => match b with
  | 0 => []
  | _ => []
 keepX := fun b => match b with
  | 0 => [(3,false)]
  | _ => []
 keepXB := fun b => match b with
  | 0 => []
  | _ => []
theorem goodFw_toFroTxS:∀ f ms F,Ew_toFroTxS.fn f = some (ms,F) → Sound Tryd.prog f ms F := fun f ms F h => by
 unfold Ew_toFroTxS at h
 dsimp only at h
 split at h
 ·injection h with h; injection h with e1 e2; subst e1 e2; exact Sound.wk sw_toFroTx
 ·cases h
theorem goodBw_toFroTxS:∀ f ms F,Ew_toFroTxS.bxf f = some (ms,F) → SoundB Tryd.prog f ms F := fun f ms F h => by cases h
theorem goodw_toFroTxS:Good Tryd.prog Ew_toFroTxS := ⟨rfl,goodFw_toFroTxS,goodBw_toFroTxS⟩
noncomputable def Ow_toFroTxS_0:Orc := fun _ _ => none
noncomputable def msw_toFroTxS:List PM := [.rd]
noncomputable def lsw_toFroTxS:List (Nat×Code) := loopsAll 0 (Tryd.f17.body.getD .skip)
noncomputable def cw_toFroTxS_0:Code := (loopOf 0 (Tryd.f17.body.getD .skip)).getD .skip
theorem lseqw_toFroTxS:lsw_toFroTxS = [(0,cw_toFroTxS_0)] := by kernel_rfl
theorem mw_toFroTxS_0:∀ p,p ∈ lsw_toFroTxS → p.1 = 0 → p.2 = cw_toFroTxS_0 := by
 intro p hp
 rw [lseqw_toFroTxS] at hp
 simp only [List.mem_cons,List.not_mem_nil,or_false] at hp
 subst hp; simp
theorem kw_toFroTxS_0:OrcOk Ew_toFroTxS Ow_toFroTxS_0 lsw_toFroTxS 0 := orcOk_none
noncomputable def hw_toFroTxS_0 (y0:List (Int×((Int×(Int×(Int×(Int×(Int×(Int×Int))))))×(Bool×((List Int)×(List Int)))))) (y1:List (Int×((Int×(Int×(Int×(Int×(Int×(Int×Int))))))×(Bool×((List Int)×(List Int)))))) (y2:Int):List (Pl×LV) := [(.T 0,.t (.val false [.sl .any 67 (.pair (.int .i64) (.pair (.pair (.int .i64) (.pair (.int .i64) (.pair (.int .i64) (.pair (.int .i64) (.pair (.int .i64) (.pair (.int .i64) (.int .i64))))))) (.pair .bool (.pair (.sl 3 (.int .i64)) (.sl 3 (.int .i64)))))) y0])),(.T 3,.t (.val false [.row 3 0 0])),(.R 3 0,.r 0 (some ⟨false,.non,true,50,(.pair (.int .i64) (.pair (.pair (.int .i64) (.pair (.int .i64) (.pair (.int .i64) (.pair (.int .i64) (.pair (.int .i64) (.pair (.int .i64) (.int .i64))))))) (.pair .bool (.pair (.sl 3 (.int .i64)) (.sl 3 (.int .i64)))))),y1⟩)),(.T 4,.t (.val false [.int .i64 y2]))]
noncomputable def g_Sw_toFroTxS_0 (y0:List (Int×((Int×(Int×(Int×(Int×(Int×(Int×Int))))))×(Bool×((List Int)×(List Int)))))):((List (Int×((Int×(Int×(Int×(Int×(Int×(Int×Int))))))×(Bool×((List Int)×(List Int))))))×Int) → RT ((List (Int×((Int×(Int×(Int×(Int×(Int×(Int×Int))))))×(Bool×((List Int)×(List Int))))))×Int) (((List (Int×((Int×(Int×(Int×(Int×(Int×(Int×Int))))))×(Bool×((List Int)×(List Int))))))))
 | (y1,y2) => .br (true) (.br (decide (y2 < (↑(List.length y0):Int))) (.br (decide ((0:Int) ≤ y2 ∧ y2 < (↑(List.length y0):Int))) (.br (g_Aw_toFroTx (at_ (Ty.pair (Ty.int IntKind.i64) (Ty.pair (Ty.pair (Ty.int IntKind.i64) (Ty.pair (Ty.int IntKind.i64) (Ty.pair (Ty.int IntKind.i64) (Ty.pair (Ty.int IntKind.i64) (Ty.pair (Ty.int IntKind.i64) (Ty.pair (Ty.int IntKind.i64) (Ty.int IntKind.i64))))))) (Ty.pair Ty.bool (Ty.pair (Ty.sl (nat_lit 3) (Ty.int IntKind.i64)) (Ty.sl (nat_lit 3) (Ty.int IntKind.i64)))))) y0 (Int.toNat y2)).1 (at_ (Ty.pair (Ty.int IntKind.i64) (Ty.pair (Ty.pair (Ty.int IntKind.i64) (Ty.pair (Ty.int IntKind.i64) (Ty.pair (Ty.int IntKind.i64) (Ty.pair (Ty.int IntKind.i64) (Ty.pair (Ty.int IntKind.i64) (Ty.pair (Ty.int IntKind.i64) (Ty.int IntKind.i64))))))) (Ty.pair Ty.bool (Ty.pair (Ty.sl (nat_lit 3) (Ty.int IntKind.i64)) (Ty.sl (nat_lit 3) (Ty.int IntKind.i64)))))) y0 (Int.toNat y2)).2.1.1 (at_ (Ty.pair (Ty.int IntKind.i64) (Ty.pair (Ty.pair (Ty.int IntKind.i64) (Ty.pair (Ty.int IntKind.i64) (Ty.pair (Ty.int IntKind.i64) (Ty.pair (Ty.int IntKind.i64) (Ty.pair (Ty.int IntKind.i64) (Ty.pair (Ty.int IntKind.i64) (Ty.int IntKind.i64))))))) (Ty.pair Ty.bool (Ty.pair (Ty.sl (nat_lit 3) (Ty.int IntKind.i64)) (Ty.sl (nat_lit 3) (Ty.int IntKind.i64)))))) y0 (Int.toNat y2)).2.1.2.1 (at_ (Ty.pair (Ty.int IntKind.i64) (Ty.pair (Ty.pair (Ty.int IntKind.i64) (Ty.pair (Ty.int IntKind.i64) (Ty.pair (Ty.int IntKind.i64) (Ty.pair (Ty.int IntKind.i64) (Ty.pair (Ty.int IntKind.i64) (Ty.pair (Ty.int IntKind.i64) (Ty.int IntKind.i64))))))) (Ty.pair Ty.bool (Ty.pair (Ty.sl (nat_lit 3) (Ty.int IntKind.i64)) (Ty.sl (nat_lit 3) (Ty.int IntKind.i64)))))) y0 (Int.toNat y2)).2.1.2.2.1 (at_ (Ty.pair (Ty.int IntKind.i64) (Ty.pair (Ty.pair (Ty.int IntKind.i64) (Ty.pair (Ty.int IntKind.i64) (Ty.pair (Ty.int IntKind.i64) (Ty.pair (Ty.int IntKind.i64) (Ty.pair (Ty.int IntKind.i64) (Ty.pair (Ty.int IntKind.i64) (Ty.int IntKind.i64))))))) (Ty.pair Ty.bool (Ty.pair (Ty.sl (nat_lit 3) (Ty.int IntKind.i64)) (Ty.sl (nat_lit 3) (Ty.int IntKind.i64)))))) y0 (Int.toNat y2)).2.1.2.2.2.1 (at_ (Ty.pair (Ty.int IntKind.i64) (Ty.pair (Ty.pair (Ty.int IntKind.i64) (Ty.pair (Ty.int IntKind.i64) (Ty.pair (Ty.int IntKind.i64) (Ty.pair (Ty.int IntKind.i64) (Ty.pair (Ty.int IntKind.i64) (Ty.pair (Ty.int IntKind.i64) (Ty.int IntKind.i64))))))) (Ty.pair Ty.bool (Ty.pair (Ty.sl (nat_lit 3) (Ty.int IntKind.i64)) (Ty.sl (nat_lit 3) (Ty.int IntKind.i64)))))) y0 (Int.toNat y2)).2.1.2.2.2.2.1 (at_ (Ty.pair (Ty.int IntKind.i64) (Ty.pair (Ty.pair (Ty.int IntKind.i64) (Ty.pair (Ty.int IntKind.i64) (Ty.pair (Ty.int IntKind.i64) (Ty.pair (Ty.int IntKind.i64) (Ty.pair (Ty.int IntKind.i64) (Ty.pair (Ty.int IntKind.i64) (Ty.int IntKind.i64))))))) (Ty.pair Ty.bool (Ty.pair (Ty.sl (nat_lit 3) (Ty.int IntKind.i64)) (Ty.sl (nat_lit 3) (Ty.int IntKind.i64)))))) y0 (Int.toNat y2)).2.1.2.2.2.2.2.1 (at_ (Ty.pair (Ty.int IntKind.i64) (Ty.pair (Ty.pair (Ty.int IntKind.i64) (Ty.pair (Ty.int IntKind.i64) (Ty.pair (Ty.int IntKind.i64) (Ty.pair (Ty.int IntKind.i64) (Ty.pair (Ty.int IntKind.i64) (Ty.pair (Ty.int IntKind.i64) (Ty.int IntKind.i64))))))) (Ty.pair Ty.bool (Ty.pair (Ty.sl (nat_lit 3) (Ty.int IntKind.i64)) (Ty.sl (nat_lit 3) (Ty.int IntKind.i64)))))) y0 (Int.toNat y2)).2.1.2.2.2.2.2.2 (at_ (Ty.pair (Ty.int IntKind.i64) (Ty.pair (Ty.pair (Ty.int IntKind.i64) (Ty.pair (Ty.int IntKind.i64) (Ty.pair (Ty.int IntKind.i64) (Ty.pair (Ty.int IntKind.i64) (Ty.pair (Ty.int IntKind.i64) (Ty.pair (Ty.int IntKind.i64) (Ty.int IntKind.i64))))))) (Ty.pair Ty.bool (Ty.pair (Ty.sl (nat_lit 3) (Ty.int IntKind.i64)) (Ty.sl (nat_lit 3) (Ty.int IntKind.i64)))))) y0 (Int.toNat y2)).2.2.1 (at_ (Ty.pair (Ty.int IntKind.i64) (Ty.pair (Ty.pair (Ty.int IntKind.i64) (Ty.pair (Ty.int IntKind.i64) (Ty.pair (Ty.int IntKind.i64) (Ty.pair (Ty.int IntKind.i64) (Ty.pair (Ty.int IntKind.i64) (Ty.pair (Ty.int IntKind.i64) (Ty.int IntKind.i64))))))) (Ty.pair Ty.bool (Ty.pair (Ty.sl (nat_lit 3) (Ty.int IntKind.i64)) (Ty.sl (nat_lit 3) (Ty.int IntKind.i64)))))) y0 (Int.toNat y2)).2.2.2.1 (at_ (Ty.pair (Ty.int IntKind.i64) (Ty.pair (Ty.pair (Ty.int IntKind.i64) (Ty.pair (Ty.int IntKind.i64) (Ty.pair (Ty.int IntKind.i64) (Ty.pair (Ty.int IntKind.i64) (Ty.pair (Ty.int IntKind.i64) (Ty.pair (Ty.int IntKind.i64) (Ty.int IntKind.i64))))))) (Ty.pair Ty.bool (Ty.pair (Ty.sl (nat_lit 3) (Ty.int IntKind.i64)) (Ty.sl (nat_lit 3) (Ty.int IntKind.i64)))))) y0 (Int.toNat y2)).2.2.2.2) (.br (decide ((0:Int) ≤ y2 ∧ y2 < (↑(List.length y1):Int))) (.br (decide (Int.toNat y2 < List.length y1)) (.br (true) (.go ((List.set y1 (Int.toNat y2) ((at_ (Ty.pair (Ty.int IntKind.i64) (Ty.pair (Ty.pair (Ty.int IntKind.i64) (Ty.pair (Ty.int IntKind.i64) (Ty.pair (Ty.int IntKind.i64) (Ty.pair (Ty.int IntKind.i64) (Ty.pair (Ty.int IntKind.i64) (Ty.pair (Ty.int IntKind.i64) (Ty.int IntKind.i64))))))) (Ty.pair Ty.bool (Ty.pair (Ty.sl (nat_lit 3) (Ty.int IntKind.i64)) (Ty.sl (nat_lit 3) (Ty.int IntKind.i64)))))) y0 (Int.toNat y2)).1,((at_ (Ty.pair (Ty.int IntKind.i64) (Ty.pair (Ty.pair (Ty.int IntKind.i64) (Ty.pair (Ty.int IntKind.i64) (Ty.pair (Ty.int IntKind.i64) (Ty.pair (Ty.int IntKind.i64) (Ty.pair (Ty.int IntKind.i64) (Ty.pair (Ty.int IntKind.i64) (Ty.int IntKind.i64))))))) (Ty.pair Ty.bool (Ty.pair (Ty.sl (nat_lit 3) (Ty.int IntKind.i64)) (Ty.sl (nat_lit 3) (Ty.int IntKind.i64)))))) y0 (Int.toNat y2)).2.1.1,(at_ (Ty.pair (Ty.int IntKind.i64) (Ty.pair (Ty.pair (Ty.int IntKind.i64) (Ty.pair (Ty.int IntKind.i64) (Ty.pair (Ty.int IntKind.i64) (Ty.pair (Ty.int IntKind.i64) (Ty.pair (Ty.int IntKind.i64) (Ty.pair (Ty.int IntKind.i64) (Ty.int IntKind.i64))))))) (Ty.pair Ty.bool (Ty.pair (Ty.sl (nat_lit 3) (Ty.int IntKind.i64)) (Ty.sl (nat_lit 3) (Ty.int IntKind.i64)))))) y0 (Int.toNat y2)).2.1.2.1,(at_ (Ty.pair (Ty.int IntKind.i64) (Ty.pair (Ty.pair (Ty.int IntKind.i64) (Ty.pair (Ty.int IntKind.i64) (Ty.pair (Ty.int IntKind.i64) (Ty.pair (Ty.int IntKind.i64) (Ty.pair (Ty.int IntKind.i64) (Ty.pair (Ty.int IntKind.i64) (Ty.int IntKind.i64))))))) (Ty.pair Ty.bool (Ty.pair (Ty.sl (nat_lit 3) (Ty.int IntKind.i64)) (Ty.sl (nat_lit 3) (Ty.int IntKind.i64)))))) y0 (Int.toNat y2)).2.1.2.2.1,(at_ (Ty.pair (Ty.int IntKind.i64) (Ty.pair (Ty.pair (Ty.int IntKind.i64) (Ty.pair (Ty.int IntKind.i64) (Ty.pair (Ty.int IntKind.i64) (Ty.pair (Ty.int IntKind.i64) (Ty.pair (Ty.int IntKind.i64) (Ty.pair (Ty.int IntKind.i64) (Ty.int IntKind.i64))))))) (Ty.pair Ty.bool (Ty.pair (Ty.sl (nat_lit 3) (Ty.int IntKind.i64)) (Ty.sl (nat_lit 3) (Ty.int IntKind.i64)))))) y0 (Int.toNat y2)).2.1.2.2.2.1,(at_ (Ty.pair (Ty.int IntKind.i64) (Ty.pair (Ty.pair (Ty.int IntKind.i64) (Ty.pair (Ty.int IntKind.i64) (Ty.pair (Ty.int IntKind.i64) (Ty.pair (Ty.int IntKind.i64) (Ty.pair (Ty.int IntKind.i64) (Ty.pair (Ty.int IntKind.i64) (Ty.int IntKind.i64))))))) (Ty.pair Ty.bool (Ty.pair (Ty.sl (nat_lit 3) (Ty.int IntKind.i64)) (Ty.sl (nat_lit 3) (Ty.int IntKind.i64)))))) y0 (Int.toNat y2)).2.1.2.2.2.2.1,(at_ (Ty.pair (Ty.int IntKind.i64) (Ty.pair (Ty.pair (Ty.int IntKind.i64) (Ty.pair (Ty.int IntKind.i64) (Ty.pair (Ty.int IntKind.i64) (Ty.pair (Ty.int IntKind.i64) (Ty.pair (Ty.int IntKind.i64) (Ty.pair (Ty.int IntKind.i64) (Ty.int IntKind.i64))))))) (Ty.pair Ty.bool (Ty.pair (Ty.sl (nat_lit 3) (Ty.int IntKind.i64)) (Ty.sl (nat_lit 3) (Ty.int IntKind.i64)))))) y0 (Int.toNat y2)).2.1.2.2.2.2.2.1,(at_ (Ty.pair (Ty.int IntKind.i64) (Ty.pair (Ty.pair (Ty.int IntKind.i64) (Ty.pair (Ty.int IntKind.i64) (Ty.pair (Ty.int IntKind.i64) (Ty.pair (Ty.int IntKind.i64) (Ty.pair (Ty.int IntKind.i64) (Ty.pair (Ty.int IntKind.i64) (Ty.int IntKind.i64))))))) (Ty.pair Ty.bool (Ty.pair (Ty.sl (nat_lit 3) (Ty.int IntKind.i64)) (Ty.sl (nat_lit 3) (Ty.int IntKind.i64)))))) y0 (Int.toNat y2)).2.1.2.2.2.2.2.2),(at_ (Ty.pair (Ty.int IntKind.i64) (Ty.pair (Ty.pair (Ty.int IntKind.i64) (Ty.pair (Ty.int IntKind.i64) (Ty.pair (Ty.int IntKind.i64) (Ty.pair (Ty.int IntKind.i64) (Ty.pair (Ty.int IntKind.i64) (Ty.pair (Ty.int IntKind.i64) (Ty.int IntKind.i64))))))) (Ty.pair Ty.bool (Ty.pair (Ty.sl (nat_lit 3) (Ty.int IntKind.i64)) (Ty.sl (nat_lit 3) (Ty.int IntKind.i64)))))) y0 (Int.toNat y2)).2.2.1,g_Vw_toIntS_0 (at_ (Ty.pair (Ty.int IntKind.i64) (Ty.pair (Ty.pair (Ty.int IntKind.i64) (Ty.pair (Ty.int IntKind.i64) (Ty.pair (Ty.int IntKind.i64) (Ty.pair (Ty.int IntKind.i64) (Ty.pair (Ty.int IntKind.i64) (Ty.pair (Ty.int IntKind.i64) (Ty.int IntKind.i64))))))) (Ty.pair Ty.bool (Ty.pair (Ty.sl (nat_lit 3) (Ty.int IntKind.i64)) (Ty.sl (nat_lit 3) (Ty.int IntKind.i64)))))) y0 (Int.toNat y2)).2.2.2.1,g_Vw_toIntS_0 (at_ (Ty.pair (Ty.int IntKind.i64) (Ty.pair (Ty.pair (Ty.int IntKind.i64) (Ty.pair (Ty.int IntKind.i64) (Ty.pair (Ty.int IntKind.i64) (Ty.pair (Ty.int IntKind.i64) (Ty.pair (Ty.int IntKind.i64) (Ty.pair (Ty.int IntKind.i64) (Ty.int IntKind.i64))))))) (Ty.pair Ty.bool (Ty.pair (Ty.sl (nat_lit 3) (Ty.int IntKind.i64)) (Ty.sl (nat_lit 3) (Ty.int IntKind.i64)))))) y0 (Int.toNat y2)).2.2.2.2),IntKind.wrap IntKind.i64 (y2 + (1:Int))))) .bad) .bad) .bad) .bad) .bad) (.out (y1))) .bad
noncomputable def g_Lw_toFroTxS_0 (y0:List (Int×((Int×(Int×(Int×(Int×(Int×(Int×Int))))))×(Bool×((List Int)×(List Int)))))) (x:(List (Int×((Int×(Int×(Int×(Int×(Int×(Int×Int))))))×(Bool×((List Int)×(List Int))))))×Int):Option (((List (Int×((Int×(Int×(Int×(Int×(Int×(Int×Int))))))×(Bool×((List Int)×(List Int)))))))) := loopO (g_Sw_toFroTxS_0 y0) x
noncomputable def xw_toFroTxS_0 (y0:List (Int×((Int×(Int×(Int×(Int×(Int×(Int×Int))))))×(Bool×((List Int)×(List Int)))))):(((List (Int×((Int×(Int×(Int×(Int×(Int×(Int×Int))))))×(Bool×((List Int)×(List Int)))))))) → Ex×List (Pl×LV) := fun r => (.exit 0,[(.T 3,.t (.val false [.row 3 0 0])),(.R 3 0,.r 0 (some ⟨false,.non,true,50,(.pair (.int .i64) (.pair (.pair (.int .i64) (.pair (.int .i64) (.pair (.int .i64) (.pair (.int .i64) (.pair (.int .i64) (.pair (.int .i64) (.int .i64))))))) (.pair .bool (.pair (.sl 3 (.int .i64)) (.sl 3 (.int .i64)))))),r⟩))])
noncomputable def Ow_toFroTxS_1:Orc := fun b h => match b,h with
 | 0,[(.T 0,.t (.val false [.sl .any 67 (.pair (.int .i64) (.pair (.pair (.int .i64) (.pair (.int .i64) (.pair (.int .i64) (.pair (.int .i64) (.pair (.int .i64) (.pair (.int .i64) (.int .i64))))))) (.pair .bool (.pair (.sl 3 (.int .i64)) (.sl 3 (.int .i64)))))) y0])),(.T 3,.t (.val false [.row 3 0 0])),(.R 3 0,.r 0 (some ⟨false,.non,true,50,(.pair (.int .i64) (.pair (.pair (.int .i64) (.pair (.int .i64) (.pair (.int .i64) (.pair (.int .i64) (.pair (.int .i64) (.pair (.int .i64) (.int .i64))))))) (.pair .bool (.pair (.sl 3 (.int .i64)) (.sl 3 (.int .i64)))))),y1⟩)),(.T 4,.t (.val false [.int .i64 y2]))] => some (okO (g_Lw_toFroTxS_0 y0 (y1,y2)),(.leaf (.exit 0) [(.T 3,.t (.val false [.row 3 0 0])),(.R 3 0,.r 0 (some ⟨false,.non,true,50,(.pair (.int .i64) (.pair (.pair (.int .i64) (.pair (.int .i64) (.pair (.int .i64) (.pair (.int .i64) (.pair (.int .i64) (.pair (.int .i64) (.int .i64))))))) (.pair .bool (.pair (.sl 3 (.int .i64)) (.sl 3 (.int .i64)))))),(valO (g_Lw_toFroTxS_0 y0 (y1,y2)))⟩))]))
 | b,h => Ow_toFroTxS_0 b h
theorem bw_toFroTxS_0 (y0:List (Int×((Int×(Int×(Int×(Int×(Int×(Int×Int))))))×(Bool×((List Int)×(List Int)))))) (y1:List (Int×((Int×(Int×(Int×(Int×(Int×(Int×Int))))))×(Bool×((List Int)×(List Int)))))) (y2:Int):Tr.bt Ew_toFroTxS Ow_toFroTxS_0 (exec Ew_toFroTxS 0 cw_toFroTxS_0 (St.of (hw_toFroTxS_0 y0 y1 y2)) (leafRd Ew_toFroTxS 0)) = (g_Sw_toFroTxS_0 y0 (y1,y2)).bt (fun ((y1,y2):(List (Int×((Int×(Int×(Int×(Int×(Int×(Int×Int))))))×(Bool×((List Int)×(List Int))))))×Int) => (hw_toFroTxS_0 y0 y1 y2)) (xw_toFroTxS_0 y0) := by kernel_rfl
theorem kw_toFroTxS_1:OrcOk Ew_toFroTxS Ow_toFroTxS_1 lsw_toFroTxS 1 := orc_add kw_toFroTxS_0 (fun n p hp h ex h' ho => by
 obtain ⟨b,c⟩ := p
 obtain ⟨xt,h1,h2⟩ := ho
 have h1:Ow_toFroTxS_1 b h = some (true,xt) := h1
 unfold Ow_toFroTxS_1 at h1
 split at h1
 ·injection h1 with h1
  injection h1 with e1 e2
  subst e2
  have hc:c = cw_toFroTxS_0 := mw_toFroTxS_0 _ hp rfl
  subst hc
  right
  rename_i y0 y1 y2
  have key := LT_step kw_toFroTxS_0 hp (fun q hq => loopsAll_in _ _ _ _ hp hq) (fun ((y1,y2):(List (Int×((Int×(Int×(Int×(Int×(Int×(Int×Int))))))×(Bool×((List Int)×(List Int))))))×Int) => (hw_toFroTxS_0 y0 y1 y2)) (xw_toFroTxS_0 y0) (g_Sw_toFroTxS_0 y0) (fun x => by first | exact bw_toFroTxS_0 y0 x.1 x.2) n (x := (y1,y2)) (okO_some e1)
  have hx:∀ r,XT.sel (.leaf (.exit 0) [(.T 3,.t (.val false [.row 3 0 0])),(.R 3 0,.r 0 (some ⟨false,.non,true,50,(.pair (.int .i64) (.pair (.pair (.int .i64) (.pair (.int .i64) (.pair (.int .i64) (.pair (.int .i64) (.pair (.int .i64) (.pair (.int .i64) (.int .i64))))))) (.pair .bool (.pair (.sl 3 (.int .i64)) (.sl 3 (.int .i64)))))),r⟩))]) = xw_toFroTxS_0 y0 r := fun r => by first | rfl | (rcases r with r | r <;> rfl) | (rcases r with r | r | r <;> rfl) | (rcases r with r | r | r | r <;> rfl)
  have h3 := (hx (valO (g_Lw_toFroTxS_0 y0 (y1,y2)))).symm.trans h2
  have e3 := congrArg Prod.fst h3
  have e4 := congrArg Prod.snd h3
  simp only at e3 e4
  rw [← e3,← e4]
  exact key
 ·exact .inl ⟨xt,h1,h2⟩)
noncomputable def g_Aw_toFroTxS (a0:List (Int×((Int×(Int×(Int×(Int×(Int×(Int×Int))))))×(Bool×((List Int)×(List Int)))))):Bool := decide ((↑(List.length a0):Int) = (↑(List.length a0):Int) ∧ (0:Int) ≤ (↑(List.length a0):Int) ∧ (↑(List.length a0):Int) ≤ (9223372036854775807:Int) ∧ (120:Int) * (↑(List.length a0):Int) ≤ (281474976710656:Int))&&okO (g_Lw_toFroTxS_0 a0 (List.replicate (Int.toNat (↑(List.length a0):Int)) ((0:Int),((0:Int),(0:Int),(0:Int),(0:Int),(0:Int),(0:Int),(0:Int)),false,[],[]),(0:Int)))
noncomputable def g_Vw_toFroTxS_0 (a0:List (Int×((Int×(Int×(Int×(Int×(Int×(Int×Int))))))×(Bool×((List Int)×(List Int)))))):List (Int×((Int×(Int×(Int×(Int×(Int×(Int×Int))))))×(Bool×((List Int)×(List Int))))) := valO (g_Lw_toFroTxS_0 a0 (List.replicate (Int.toNat (↑(List.length a0):Int)) ((0:Int),((0:Int),(0:Int),(0:Int),(0:Int),(0:Int),(0:Int),(0:Int)),false,[],[]),(0:Int)))
noncomputable def Fw_toFroTxS:FSem := fun ys => match ys with
 | [.val false [.sl .any 67 (.pair (.int .i64) (.pair (.pair (.int .i64) (.pair (.int .i64) (.pair (.int .i64) (.pair (.int .i64) (.pair (.int .i64) (.pair (.int .i64) (.int .i64))))))) (.pair .bool (.pair (.sl 3 (.int .i64)) (.sl 3 (.int .i64)))))) a0]] => some ((g_Aw_toFroTxS a0),.val false [.own .any true 50 (.pair (.int .i64) (.pair (.pair (.int .i64) (.pair (.int .i64) (.pair (.int .i64) (.pair (.int .i64) (.pair (.int .i64) (.pair (.int .i64) (.int .i64))))))) (.pair .bool (.pair (.sl 3 (.int .i64)) (.sl 3 (.int .i64)))))) (g_Vw_toFroTxS_0 a0)],[])
 | _ => none
theorem vw_toFroTxS (a0:List (Int×((Int×(Int×(Int×(Int×(Int×(Int×Int))))))×(Bool×((List Int)×(List Int)))))):collapseH .std Ew_toFroTxS Ow_toFroTxS_1 (execFn Ew_toFroTxS Tryd.f17 msw_toFroTxS [.val false [.sl .any 67 (.pair (.int .i64) (.pair (.pair (.int .i64) (.pair (.int .i64) (.pair (.int .i64) (.pair (.int .i64) (.pair (.int .i64) (.pair (.int .i64) (.int .i64))))))) (.pair .bool (.pair (.sl 3 (.int .i64)) (.sl 3 (.int .i64)))))) a0]]) = some ((g_Aw_toFroTxS a0),.val false [.own .any true 50 (.pair (.int .i64) (.pair (.pair (.int .i64) (.pair (.int .i64) (.pair (.int .i64) (.pair (.int .i64) (.pair (.int .i64) (.pair (.int .i64) (.int .i64))))))) (.pair .bool (.pair (.sl 3 (.int .i64)) (.sl 3 (.int .i64)))))) (g_Vw_toFroTxS_0 a0)],[]) := by kernel_rfl
theorem sw_toFroTxS:Sound Tryd.prog 17 msw_toFroTxS Fw_toFroTxS := by
 refine fn_gen goodw_toFroTxS (by kernel_rfl) .std (fn := Tryd.f17) (c := (Tryd.f17.body.getD .skip)) (o := Ow_toFroTxS_1) (k := 1) (by kernel_rfl) (by kernel_rfl) (by kernel_rfl) (by kernel_rfl) (by decide) kw_toFroTxS_1 ?_
 intro ys r outs h
 unfold Fw_toFroTxS at h
 split at h
 ·exact (vw_toFroTxS _).trans h
 ·cases h
noncomputable def Ew_toStoWrite:Env where
 tt := mkTI Tryd.prog
 fn := fun f => match f with
  | 49 => some (msw_toIntS,FSem.wk msw_toIntS Fw_toIntS)
  | _ => none
 bxf := fun _ => none
 mv := []
 keep := fun _ => []
 keepB := fun _ => []
 keepX := fun _ => []
 keepXB := fun _ => []
theorem goodFw_toStoWrite:∀ f ms F,Ew_toStoWrite.fn f = some (ms,F) → Sound Tryd.prog f ms F := fun f ms F h => by
 unfold Ew_toStoWrite at h
 dsimp only at h
 split at h
 ·injection h with h; injection h with e1 e2; subst e1 e2; exact Sound.wk sw_toIntS
 ·cases h
theorem goodBw_toStoWrite:∀ f ms F,Ew_toStoWrite.bxf f = some (ms,F) → SoundB Tryd.prog f ms F := fun f ms F h => by cases h
theorem goodw_toStoWrite:Good Tryd.prog Ew_toStoWrite := ⟨rfl,goodFw_toStoWrite,goodBw_toStoWrite⟩
noncomputable def Ow_toStoWrite_0:Orc := fun _ _ => none
noncomputable def msw_toStoWrite:List PM := [.rd]
noncomputable def lsw_toStoWrite:List (Nat×Code) := loopsAll 0 (Tryd.f74.body.getD .skip)
theorem kw_toStoWrite_0:OrcOk Ew_toStoWrite Ow_toStoWrite_0 lsw_toStoWrite 0 := orcOk_none
noncomputable def g_Aw_toStoWrite (a0:ByteArray) (a1:Bool) (a2:List Int):Bool := g_Aw_toIntS a2
noncomputable def Fw_toStoWrite:FSem := fun ys => match ys with
 | [.val true [.str a0,.bool a1,.sl .any 3 (.int .i64) a2]] => some ((g_Aw_toStoWrite a0 a1 a2),.val true [.str a0,.bool a1,.own .any true 3 (.int .i64) (g_Vw_toIntS_0 a2)],[])
 | _ => none
theorem vw_toStoWrite (a0:ByteArray) (a1:Bool) (a2:List Int):collapseH .std Ew_toStoWrite Ow_toStoWrite_0 (execFn Ew_toStoWrite Tryd.f74 msw_toStoWrite [.val true [.str a0,.bool a1,.sl .any 3 (.int .i64) a2]]) = some ((g_Aw_toStoWrite a0 a1 a2),.val true [.str a0,.bool a1,.own .any true 3 (.int .i64) (g_Vw_toIntS_0 a2)],[]) := by kernel_rfl
theorem sw_toStoWrite:Sound Tryd.prog 74 msw_toStoWrite Fw_toStoWrite := by
 refine fn_gen goodw_toStoWrite (by kernel_rfl) .std (fn := Tryd.f74) (c := (Tryd.f74.body.getD .skip)) (o := Ow_toStoWrite_0) (k := 0) (by kernel_rfl) (by kernel_rfl) (by kernel_rfl) (by kernel_rfl) (by decide) kw_toStoWrite_0 ?_
 intro ys r outs h
 unfold Fw_toStoWrite at h
 split at h
 ·exact (vw_toStoWrite _ _ _).trans h
 ·cases h
noncomputable def Ew_toStoWriteS:Env where
 tt := mkTI Tryd.prog
 fn := fun f => match f with
  | 74 => some (msw_toStoWrite,FSem.wk msw_toStoWrite Fw_toStoWrite)
  | _ => none
 bxf := fun _ => none
 mv := []
 keep := fun b => match b with
  | 0 => [(0,false),(3,false),(4,false)]
  | _ => []
 keepB := fun b => match b with
  | 0 => []
  | _ => []
 keepX := fun b => match b with
  | 0 => [(3,false)]
  | _ => []
 keepXB := fun b => match b with
  | 0 => []
  | _ => []
theorem goodFw_toStoWriteS:∀ f ms F,Ew_toStoWriteS.fn f = some (ms,F) → Sound Tryd.prog f ms F := fun f ms F h => by
 unfold Ew_toStoWriteS at h
 dsimp only at h
 split at h
 ·injection h with h; injection h with e1 e2; subst e1 e2; exact Sound.wk sw_toStoWrite
 ·cases h
theorem goodBw_toStoWriteS:∀ f ms F,Ew_toStoWriteS.bxf f = some (ms,F) → SoundB Tryd.prog f ms F := fun f ms F h => by cases h
theorem goodw_toStoWriteS:Good Tryd.prog Ew_toStoWriteS := ⟨rfl,goodFw_toStoWriteS,goodBw_toStoWriteS⟩
noncomputable def Ow_toStoWriteS_0:Orc := fun _ _ => none
noncomputable def msw_toStoWriteS:List PM := [.rd]
noncomputable def lsw_toStoWriteS:List (Nat×Code) := loopsAll 0 (Tryd.f65.body.getD .skip)
noncomputable def cw_toStoWriteS_0:Code := (loopOf 0 (Tryd.f65.body.getD .skip)).getD .skip
theorem lseqw_toStoWriteS:lsw_toStoWriteS = [(0,cw_toStoWriteS_0)] := by kernel_rfl
theorem mw_toStoWriteS_0:∀ p,p ∈ lsw_toStoWriteS → p.1 = 0 → p.2 = cw_toStoWriteS_0 := by
 intro p hp
 rw [lseqw_toStoWriteS] at hp
 simp only [List.mem_cons,List.not_mem_nil,or_false] at hp
 subst hp; simp
theorem kw_toStoWriteS_0:OrcOk Ew_toStoWriteS Ow_toStoWriteS_0 lsw_toStoWriteS 0 := orcOk_none
noncomputable def hw_toStoWriteS_0 (y0:List (ByteArray×(Bool×(List Int)))) (y1:List (ByteArray×(Bool×(List Int)))) (y2:Int):List (Pl×LV) := [(.T 0,.t (.val false [.sl .any 106 (.pair .str (.pair .bool (.sl 3 (.int .i64)))) y0])),(.T 3,.t (.val false [.row 3 0 0])),(.R 3 0,.r 0 (some ⟨false,.non,true,84,(.pair .str (.pair .bool (.sl 3 (.int .i64)))),y1⟩)),(.T 4,.t (.val false [.int .i64 y2]))]
noncomputable def g_Sw_toStoWriteS_0 (y0:List (ByteArray×(Bool×(List Int)))):((List (ByteArray×(Bool×(List Int))))×Int) → RT ((List (ByteArray×(Bool×(List Int))))×Int) (((List (ByteArray×(Bool×(List Int))))))
 | (y1,y2) => .br (true) (.br (decide (y2 < (↑(List.length y0):Int))) (.br (decide ((0:Int) ≤ y2 ∧ y2 < (↑(List.length y0):Int))) (.br (g_Aw_toStoWrite (at_ (Ty.pair Ty.str (Ty.pair Ty.bool (Ty.sl (nat_lit 3) (Ty.int IntKind.i64)))) y0 (Int.toNat y2)).1 (at_ (Ty.pair Ty.str (Ty.pair Ty.bool (Ty.sl (nat_lit 3) (Ty.int IntKind.i64)))) y0 (Int.toNat y2)).2.1 (at_ (Ty.pair Ty.str (Ty.pair Ty.bool (Ty.sl (nat_lit 3) (Ty.int IntKind.i64)))) y0 (Int.toNat y2)).2.2) (.br (decide ((0:Int) ≤ y2 ∧ y2 < (↑(List.length y1):Int))) (.br (decide (Int.toNat y2 < List.length y1)) (.br (true) (.go ((List.set y1 (Int.toNat y2) ((at_ (Ty.pair Ty.str (Ty.pair Ty.bool (Ty.sl (nat_lit 3) (Ty.int IntKind.i64)))) y0 (Int.toNat y2)).1,(at_ (Ty.pair Ty.str (Ty.pair Ty.bool (Ty.sl (nat_lit 3) (Ty.int IntKind.i64)))) y0 (Int.toNat y2)).2.1,g_Vw_toIntS_0 (at_ (Ty.pair Ty.str (Ty.pair Ty.bool (Ty.sl (nat_lit 3) (Ty.int IntKind.i64)))) y0 (Int.toNat y2)).2.2),IntKind.wrap IntKind.i64 (y2 + (1:Int))))) .bad) .bad) .bad) .bad) .bad) (.out (y1))) .bad
noncomputable def g_Lw_toStoWriteS_0 (y0:List (ByteArray×(Bool×(List Int)))) (x:(List (ByteArray×(Bool×(List Int))))×Int):Option (((List (ByteArray×(Bool×(List Int)))))) := loopO (g_Sw_toStoWriteS_0 y0) x
noncomputable def xw_toStoWriteS_0 (y0:List (ByteArray×(Bool×(List Int)))):(((List (ByteArray×(Bool×(List Int)))))) → Ex×List (Pl×LV) := fun r => (.exit 0,[(.T 3,.t (.val false [.row 3 0 0])),(.R 3 0,.r 0 (some ⟨false,.non,true,84,(.pair .str (.pair .bool (.sl 3 (.int .i64)))),r⟩))])
noncomputable def Ow_toStoWriteS_1:Orc := fun b h => match b,h with
 | 0,[(.T 0,.t (.val false [.sl .any 106 (.pair .str (.pair .bool (.sl 3 (.int .i64)))) y0])),(.T 3,.t (.val false [.row 3 0 0])),(.R 3 0,.r 0 (some ⟨false,.non,true,84,(.pair .str (.pair .bool (.sl 3 (.int .i64)))),y1⟩)),(.T 4,.t (.val false [.int .i64 y2]))] => some (okO (g_Lw_toStoWriteS_0 y0 (y1,y2)),(.leaf (.exit 0) [(.T 3,.t (.val false [.row 3 0 0])),(.R 3 0,.r 0 (some ⟨false,.non,true,84,(.pair .str (.pair .bool (.sl 3 (.int .i64)))),(valO (g_Lw_toStoWriteS_0 y0 (y1,y2)))⟩))]))
 | b,h => Ow_toStoWriteS_0 b h
theorem bw_toStoWriteS_0 (y0:List (ByteArray×(Bool×(List Int)))) (y1:List (ByteArray×(Bool×(List Int)))) (y2:Int):Tr.bt Ew_toStoWriteS Ow_toStoWriteS_0 (exec Ew_toStoWriteS 0 cw_toStoWriteS_0 (St.of (hw_toStoWriteS_0 y0 y1 y2)) (leafRd Ew_toStoWriteS 0)) = (g_Sw_toStoWriteS_0 y0 (y1,y2)).bt (fun ((y1,y2):(List (ByteArray×(Bool×(List Int))))×Int) => (hw_toStoWriteS_0 y0 y1 y2)) (xw_toStoWriteS_0 y0) := by kernel_rfl
theorem kw_toStoWriteS_1:OrcOk Ew_toStoWriteS Ow_toStoWriteS_1 lsw_toStoWriteS 1 := orc_add kw_toStoWriteS_0 (fun n p hp h ex h' ho => by
 obtain ⟨b,c⟩ := p
 obtain ⟨xt,h1,h2⟩ := ho
 have h1:Ow_toStoWriteS_1 b h = some (true,xt) := h1
 unfold Ow_toStoWriteS_1 at h1
 split at h1
 ·injection h1 with h1
  injection h1 with e1 e2
  subst e2
  have hc:c = cw_toStoWriteS_0 := mw_toStoWriteS_0 _ hp rfl
  subst hc
  right
  rename_i y0 y1 y2
  have key := LT_step kw_toStoWriteS_0 hp (fun q hq => loopsAll_in _ _ _ _ hp hq) (fun ((y1,y2):(List (ByteArray×(Bool×(List Int))))×Int) => (hw_toStoWriteS_0 y0 y1 y2)) (xw_toStoWriteS_0 y0) (g_Sw_toStoWriteS_0 y0) (fun x => by first | exact bw_toStoWriteS_0 y0 x.1 x.2) n (x := (y1,y2)) (okO_some e1)
  have hx:∀ r,XT.sel (.leaf (.exit 0) [(.T 3,.t (.val false [.row 3 0 0])),(.R 3 0,.r 0 (some ⟨false,.non,true,84,(.pair .str (.pair .bool (.sl 3 (.int .i64)))),r⟩))]) = xw_toStoWriteS_0 y0 r := fun r => by first | rfl | (rcases r with r | r <;> rfl) | (rcases r with r | r | r <;> rfl) | (rcases r with r | r | r | r <;> rfl)
  have h3 := (hx (valO (g_Lw_toStoWriteS_0 y0 (y1,y2)))).symm.trans h2
  have e3 := congrArg Prod.fst h3
  have e4 := congrArg Prod.snd h3
  simp only at e3 e4
  rw [← e3,← e4]
  exact key
 ·exact .inl ⟨xt,h1,h2⟩)
noncomputable def g_Aw_toStoWriteS (a0:List (ByteArray×(Bool×(List Int)))):Bool := decide ((↑(List.length a0):Int) = (↑(List.length a0):Int) ∧ (0:Int) ≤ (↑(List.length a0):Int) ∧ (↑(List.length a0):Int) ≤ (9223372036854775807:Int) ∧ (48:Int) * (↑(List.length a0):Int) ≤ (281474976710656:Int))&&okO (g_Lw_toStoWriteS_0 a0 (List.replicate (Int.toNat (↑(List.length a0):Int)) (lit [],false,[]),(0:Int)))
noncomputable def g_Vw_toStoWriteS_0 (a0:List (ByteArray×(Bool×(List Int)))):List (ByteArray×(Bool×(List Int))) := valO (g_Lw_toStoWriteS_0 a0 (List.replicate (Int.toNat (↑(List.length a0):Int)) (lit [],false,[]),(0:Int)))
noncomputable def Fw_toStoWriteS:FSem := fun ys => match ys with
 | [.val false [.sl .any 106 (.pair .str (.pair .bool (.sl 3 (.int .i64)))) a0]] => some ((g_Aw_toStoWriteS a0),.val false [.own .any true 84 (.pair .str (.pair .bool (.sl 3 (.int .i64)))) (g_Vw_toStoWriteS_0 a0)],[])
 | _ => none
theorem vw_toStoWriteS (a0:List (ByteArray×(Bool×(List Int)))):collapseH .std Ew_toStoWriteS Ow_toStoWriteS_1 (execFn Ew_toStoWriteS Tryd.f65 msw_toStoWriteS [.val false [.sl .any 106 (.pair .str (.pair .bool (.sl 3 (.int .i64)))) a0]]) = some ((g_Aw_toStoWriteS a0),.val false [.own .any true 84 (.pair .str (.pair .bool (.sl 3 (.int .i64)))) (g_Vw_toStoWriteS_0 a0)],[]) := by kernel_rfl
theorem sw_toStoWriteS:Sound Tryd.prog 65 msw_toStoWriteS Fw_toStoWriteS := by
 refine fn_gen goodw_toStoWriteS (by kernel_rfl) .std (fn := Tryd.f65) (c := (Tryd.f65.body.getD .skip)) (o := Ow_toStoWriteS_1) (k := 1) (by kernel_rfl) (by kernel_rfl) (by kernel_rfl) (by kernel_rfl) (by decide) kw_toStoWriteS_1 ?_
 intro ys r outs h
 unfold Fw_toStoWriteS at h
 split at h
 ·exact (vw_toStoWriteS _).trans h
 ·cases h
noncomputable def Ew_toStringS:Env where
 tt := mkTI Tryd.prog
 fn := fun _ => none
 bxf := fun _ => none
 mv := []
 keep := fun b => match b with
  | 0 => [(0,false),(3,false),(4,false)]
  | _ => []
 keepB := fun b => match b with
  | 0 => []
  | _ => []
 keepX := fun b => match b with
  | 0 => [(3,false)]
  | _ => []
 keepXB := fun b => match b with
  | 0 => []
  | _ => []
theorem goodFw_toStringS:∀ f ms F,Ew_toStringS.fn f = some (ms,F) → Sound Tryd.prog f ms F := fun f ms F h => by cases h
theorem goodBw_toStringS:∀ f ms F,Ew_toStringS.bxf f = some (ms,F) → SoundB Tryd.prog f ms F := fun f ms F h => by cases h
theorem goodw_toStringS:Good Tryd.prog Ew_toStringS := ⟨rfl,goodFw_toStringS,goodBw_toStringS⟩
noncomputable def Ow_toStringS_0:Orc := fun _ _ => none
noncomputable def msw_toStringS:List PM := [.rd]
noncomputable def lsw_toStringS:List (Nat×Code) := loopsAll 0 (Tryd.f64.body.getD .skip)
noncomputable def cw_toStringS_0:Code := (loopOf 0 (Tryd.f64.body.getD .skip)).getD .skip
theorem lseqw_toStringS:lsw_toStringS = [(0,cw_toStringS_0)] := by kernel_rfl
theorem mw_toStringS_0:∀ p,p ∈ lsw_toStringS → p.1 = 0 → p.2 = cw_toStringS_0 := by
 intro p hp
 rw [lseqw_toStringS] at hp
 simp only [List.mem_cons,List.not_mem_nil,or_false] at hp
 subst hp; simp
theorem kw_toStringS_0:OrcOk Ew_toStringS Ow_toStringS_0 lsw_toStringS 0 := orcOk_none
noncomputable def hw_toStringS_0 (y0:List ByteArray) (y1:List ByteArray) (y2:Int):List (Pl×LV) := [(.T 0,.t (.val false [.sl .any 9 .str y0])),(.T 3,.t (.val false [.row 3 0 0])),(.R 3 0,.r 0 (some ⟨false,.non,true,9,.str,y1⟩)),(.T 4,.t (.val false [.int .i64 y2]))]
noncomputable def g_Sw_toStringS_0 (y0:List ByteArray):((List ByteArray)×Int) → RT ((List ByteArray)×Int) (((List ByteArray)))
 | (y1,y2) => .br (true) (.br (decide (y2 < (↑(List.length y0):Int))) (.br (decide ((0:Int) ≤ y2 ∧ y2 < (↑(List.length y0):Int))) (.br (decide ((0:Int) ≤ y2 ∧ y2 < (↑(List.length y1):Int))) (.br (decide (Int.toNat y2 < List.length y1)) (.br (true) (.go ((List.set y1 (Int.toNat y2) (at_ Ty.str y0 (Int.toNat y2)),IntKind.wrap IntKind.i64 (y2 + (1:Int))))) .bad) .bad) .bad) .bad) (.out (y1))) .bad
noncomputable def g_Lw_toStringS_0 (y0:List ByteArray) (x:(List ByteArray)×Int):Option (((List ByteArray))) := loopO (g_Sw_toStringS_0 y0) x
noncomputable def xw_toStringS_0 (y0:List ByteArray):(((List ByteArray))) → Ex×List (Pl×LV) := fun r => (.exit 0,[(.T 3,.t (.val false [.row 3 0 0])),(.R 3 0,.r 0 (some ⟨false,.non,true,9,.str,r⟩))])
noncomputable def Ow_toStringS_1:Orc := fun b h => match b,h with
 | 0,[(.T 0,.t (.val false [.sl .any 9 .str y0])),(.T 3,.t (.val false [.row 3 0 0])),(.R 3 0,.r 0 (some ⟨false,.non,true,9,.str,y1⟩)),(.T 4,.t (.val false [.int .i64 y2]))] => some (okO (g_Lw_toStringS_0 y0 (y1,y2)),(.leaf (.exit 0) [(.T 3,.t (.val false [.row 3 0 0])),(.R 3 0,.r 0 (some ⟨false,.non,true,9,.str,(valO (g_Lw_toStringS_0 y0 (y1,y2)))⟩))]))
 | b,h => Ow_toStringS_0 b h
theorem bw_toStringS_0 (y0:List ByteArray) (y1:List ByteArray) (y2:Int):Tr.bt Ew_toStringS Ow_toStringS_0 (exec Ew_toStringS 0 cw_toStringS_0 (St.of (hw_toStringS_0 y0 y1 y2)) (leafRd Ew_toStringS 0)) = (g_Sw_toStringS_0 y0 (y1,y2)).bt (fun ((y1,y2):(List ByteArray)×Int) => (hw_toStringS_0 y0 y1 y2)) (xw_toStringS_0 y0) := by kernel_rfl
theorem kw_toStringS_1:OrcOk Ew_toStringS Ow_toStringS_1 lsw_toStringS 1 := orc_add kw_toStringS_0 (fun n p hp h ex h' ho => by
 obtain ⟨b,c⟩ := p
 obtain ⟨xt,h1,h2⟩ := ho
 have h1:Ow_toStringS_1 b h = some (true,xt) := h1
 unfold Ow_toStringS_1 at h1
 split at h1
 ·injection h1 with h1
  injection h1 with e1 e2
  subst e2
  have hc:c = cw_toStringS_0 := mw_toStringS_0 _ hp rfl
  subst hc
  right
  rename_i y0 y1 y2
  have key := LT_step kw_toStringS_0 hp (fun q hq => loopsAll_in _ _ _ _ hp hq) (fun ((y1,y2):(List ByteArray)×Int) => (hw_toStringS_0 y0 y1 y2)) (xw_toStringS_0 y0) (g_Sw_toStringS_0 y0) (fun x => by first | exact bw_toStringS_0 y0 x.1 x.2) n (x := (y1,y2)) (okO_some e1)
  have hx:∀ r,XT.sel (.leaf (.exit 0) [(.T 3,.t (.val false [.row 3 0 0])),(.R 3 0,.r 0 (some ⟨false,.non,true,9,.str,r⟩))]) = xw_toStringS_0 y0 r := fun r => by first | rfl | (rcases r with r | r <;> rfl) | (rcases r with r | r | r <;> rfl) | (rcases r with r | r | r | r <;> rfl)
  have h3 := (hx (valO (g_Lw_toStringS_0 y0 (y1,y2)))).symm.trans h2
  have e3 := congrArg Prod.fst h3
  have e4 := congrArg Prod.snd h3
  simp only at e3 e4
  rw [← e3,← e4]
  exact key
 ·exact .inl ⟨xt,h1,h2⟩)
noncomputable def g_Aw_toStringS (a0:List ByteArray):Bool := decide ((↑(List.length a0):Int) = (↑(List.length a0):Int) ∧ (0:Int) ≤ (↑(List.length a0):Int) ∧ (↑(List.length a0):Int) ≤ (9223372036854775807:Int) ∧ (16:Int) * (↑(List.length a0):Int) ≤ (281474976710656:Int))&&okO (g_Lw_toStringS_0 a0 (List.replicate (Int.toNat (↑(List.length a0):Int)) (lit []),(0:Int)))
noncomputable def g_Vw_toStringS_0 (a0:List ByteArray):List ByteArray := valO (g_Lw_toStringS_0 a0 (List.replicate (Int.toNat (↑(List.length a0):Int)) (lit []),(0:Int)))
noncomputable def Fw_toStringS:FSem := fun ys => match ys with
 | [.val false [.sl .any 9 .str a0]] => some ((g_Aw_toStringS a0),.val false [.own .any true 9 .str (g_Vw_toStringS_0 a0)],[])
 | _ => none
theorem vw_toStringS (a0:List ByteArray):collapseH .std Ew_toStringS Ow_toStringS_1 (execFn Ew_toStringS Tryd.f64 msw_toStringS [.val false [.sl .any 9 .str a0]]) = some ((g_Aw_toStringS a0),.val false [.own .any true 9 .str (g_Vw_toStringS_0 a0)],[]) := by kernel_rfl
theorem sw_toStringS:Sound Tryd.prog 64 msw_toStringS Fw_toStringS := by
 refine fn_gen goodw_toStringS (by kernel_rfl) .std (fn := Tryd.f64) (c := (Tryd.f64.body.getD .skip)) (o := Ow_toStringS_1) (k := 1) (by kernel_rfl) (by kernel_rfl) (by kernel_rfl) (by kernel_rfl) (by decide) kw_toStringS_1 ?_
 intro ys r outs h
 unfold Fw_toStringS at h
 split at h
 ·exact (vw_toStringS _).trans h
 ·cases h
noncomputable def Ew_toLogNote:Env where
 tt := mkTI Tryd.prog
 fn := fun f => match f with
  | 64 => some (msw_toStringS,FSem.wk msw_toStringS Fw_toStringS)
  | 65 => some (msw_toStoWriteS,FSem.wk msw_toStoWriteS Fw_toStoWriteS)
  | _ => none
 bxf := fun _ => none
 mv := []
 keep := fun _ => []
 keepB := fun _ => []
 keepX := fun _ => []
 keepXB := fun _ => []
theorem goodFw_toLogNote:∀ f ms F,Ew_toLogNote.fn f = some (ms,F) → Sound Tryd.prog f ms F := fun f ms F h => by
 unfold Ew_toLogNote at h
 dsimp only at h
 split at h
 ·injection h with h; injection h with e1 e2; subst e1 e2; exact Sound.wk sw_toStringS
 ·injection h with h; injection h with e1 e2; subst e1 e2; exact Sound.wk sw_toStoWriteS
 ·cases h
theorem goodBw_toLogNote:∀ f ms F,Ew_toLogNote.bxf f = some (ms,F) → SoundB Tryd.prog f ms F := fun f ms F h => by cases h
theorem goodw_toLogNote:Good Tryd.prog Ew_toLogNote := ⟨rfl,goodFw_toLogNote,goodBw_toLogNote⟩
noncomputable def Ow_toLogNote_0:Orc := fun _ _ => none
noncomputable def msw_toLogNote:List PM := [.rd]
noncomputable def lsw_toLogNote:List (Nat×Code) := loopsAll 0 (Tryd.f47.body.getD .skip)
theorem kw_toLogNote_0:OrcOk Ew_toLogNote Ow_toLogNote_0 lsw_toLogNote 0 := orcOk_none
noncomputable def g_Aw_toLogNote (a0:Int) (a1:Int) (a2:List ByteArray) (a3:List (ByteArray×(Bool×(List Int)))):Bool := g_Aw_toStringS a2&&g_Aw_toStoWriteS a3
noncomputable def Fw_toLogNote:FSem := fun ys => match ys with
 | [.val true [.int .i64 a0,.int .i64 a1,.sl .any 9 .str a2,.sl .any 106 (.pair .str (.pair .bool (.sl 3 (.int .i64)))) a3]] => some ((g_Aw_toLogNote a0 a1 a2 a3),.val true [.int .i64 a0,.int .i64 a1,.own .any true 9 .str (g_Vw_toStringS_0 a2),.own .any true 84 (.pair .str (.pair .bool (.sl 3 (.int .i64)))) (g_Vw_toStoWriteS_0 a3)],[])
 | _ => none
theorem vw_toLogNote (a0:Int) (a1:Int) (a2:List ByteArray) (a3:List (ByteArray×(Bool×(List Int)))):collapseH .std Ew_toLogNote Ow_toLogNote_0 (execFn Ew_toLogNote Tryd.f47 msw_toLogNote [.val true [.int .i64 a0,.int .i64 a1,.sl .any 9 .str a2,.sl .any 106 (.pair .str (.pair .bool (.sl 3 (.int .i64)))) a3]]) = some ((g_Aw_toLogNote a0 a1 a2 a3),.val true [.int .i64 a0,.int .i64 a1,.own .any true 9 .str (g_Vw_toStringS_0 a2),.own .any true 84 (.pair .str (.pair .bool (.sl 3 (.int .i64)))) (g_Vw_toStoWriteS_0 a3)],[]) := by kernel_rfl
theorem sw_toLogNote:Sound Tryd.prog 47 msw_toLogNote Fw_toLogNote := by
 refine fn_gen goodw_toLogNote (by kernel_rfl) .std (fn := Tryd.f47) (c := (Tryd.f47.body.getD .skip)) (o := Ow_toLogNote_0) (k := 0) (by kernel_rfl) (by kernel_rfl) (by kernel_rfl) (by kernel_rfl) (by decide) kw_toLogNote_0 ?_
 intro ys r outs h
 unfold Fw_toLogNote at h
 split at h
 ·exact (vw_toLogNote _ _ _ _).trans h
 ·cases h
noncomputable def Ew_toLogNoteS:Env where
 tt := mkTI Tryd.prog
 fn := fun f => match f with
  | 47 => some (msw_toLogNote,FSem.wk msw_toLogNote Fw_toLogNote)
  | _ => none
 bxf := fun _ => none
 mv := []
 keep := fun b => match b with
  | 0 => [(0,false),(3,false),(4,false)]
  | _ => []
 keepB := fun b => match b with
  | 0 => []
  | _ => []
 keepX := fun b => match b with
  | 0 => [(3,false)]
  | _ => []
 keepXB := fun b => match b with
  | 0 => []
  | _ => []
theorem goodFw_toLogNoteS:∀ f ms F,Ew_toLogNoteS.fn f = some (ms,F) → Sound Tryd.prog f ms F := fun f ms F h => by
 unfold Ew_toLogNoteS at h
 dsimp only at h
 split at h
 ·injection h with h; injection h with e1 e2; subst e1 e2; exact Sound.wk sw_toLogNote
 ·cases h
theorem goodBw_toLogNoteS:∀ f ms F,Ew_toLogNoteS.bxf f = some (ms,F) → SoundB Tryd.prog f ms F := fun f ms F h => by cases h
theorem goodw_toLogNoteS:Good Tryd.prog Ew_toLogNoteS := ⟨rfl,goodFw_toLogNoteS,goodBw_toLogNoteS⟩
noncomputable def Ow_toLogNoteS_0:Orc := fun _ _ => none
noncomputable def msw_toLogNoteS:List PM := [.rd]
noncomputable def lsw_toLogNoteS:List (Nat×Code) := loopsAll 0 (Tryd.f30.body.getD .skip)
noncomputable def cw_toLogNoteS_0:Code := (loopOf 0 (Tryd.f30.body.getD .skip)).getD .skip
theorem lseqw_toLogNoteS:lsw_toLogNoteS = [(0,cw_toLogNoteS_0)] := by kernel_rfl
theorem mw_toLogNoteS_0:∀ p,p ∈ lsw_toLogNoteS → p.1 = 0 → p.2 = cw_toLogNoteS_0 := by
 intro p hp
 rw [lseqw_toLogNoteS] at hp
 simp only [List.mem_cons,List.not_mem_nil,or_false] at hp
 subst hp; simp
theorem kw_toLogNoteS_0:OrcOk Ew_toLogNoteS Ow_toLogNoteS_0 lsw_toLogNoteS 0 := orcOk_none
noncomputable def hw_toLogNoteS_0 (y0:List (Int×(Int×((List ByteArray)×(List (ByteArray×(Bool×(List Int)))))))) (y1:List (Int×(Int×((List ByteArray)×(List (ByteArray×(Bool×(List Int)))))))) (y2:Int):List (Pl×LV) := [(.T 0,.t (.val false [.sl .any 79 (.pair (.int .i64) (.pair (.int .i64) (.pair (.sl 9 .str) (.sl 106 (.pair .str (.pair .bool (.sl 3 (.int .i64)))))))) y0])),(.T 3,.t (.val false [.row 3 0 0])),(.R 3 0,.r 0 (some ⟨false,.non,true,45,(.pair (.int .i64) (.pair (.int .i64) (.pair (.sl 9 .str) (.sl 84 (.pair .str (.pair .bool (.sl 3 (.int .i64)))))))),y1⟩)),(.T 4,.t (.val false [.int .i64 y2]))]
noncomputable def g_Sw_toLogNoteS_0 (y0:List (Int×(Int×((List ByteArray)×(List (ByteArray×(Bool×(List Int)))))))):((List (Int×(Int×((List ByteArray)×(List (ByteArray×(Bool×(List Int))))))))×Int) → RT ((List (Int×(Int×((List ByteArray)×(List (ByteArray×(Bool×(List Int))))))))×Int) (((List (Int×(Int×((List ByteArray)×(List (ByteArray×(Bool×(List Int))))))))))
 | (y1,y2) => .br (true) (.br (decide (y2 < (↑(List.length y0):Int))) (.br (decide ((0:Int) ≤ y2 ∧ y2 < (↑(List.length y0):Int))) (.br (g_Aw_toLogNote (at_ (Ty.pair (Ty.int IntKind.i64) (Ty.pair (Ty.int IntKind.i64) (Ty.pair (Ty.sl (nat_lit 9) Ty.str) (Ty.sl (nat_lit 106) (Ty.pair Ty.str (Ty.pair Ty.bool (Ty.sl (nat_lit 3) (Ty.int IntKind.i64)))))))) y0 (Int.toNat y2)).1 (at_ (Ty.pair (Ty.int IntKind.i64) (Ty.pair (Ty.int IntKind.i64) (Ty.pair (Ty.sl (nat_lit 9) Ty.str) (Ty.sl (nat_lit 106) (Ty.pair Ty.str (Ty.pair Ty.bool (Ty.sl (nat_lit 3) (Ty.int IntKind.i64)))))))) y0 (Int.toNat y2)).2.1 (at_ (Ty.pair (Ty.int IntKind.i64) (Ty.pair (Ty.int IntKind.i64) (Ty.pair (Ty.sl (nat_lit 9) Ty.str) (Ty.sl (nat_lit 106) (Ty.pair Ty.str (Ty.pair Ty.bool (Ty.sl (nat_lit 3) (Ty.int IntKind.i64)))))))) y0 (Int.toNat y2)).2.2.1 (at_ (Ty.pair (Ty.int IntKind.i64) (Ty.pair (Ty.int IntKind.i64) (Ty.pair (Ty.sl (nat_lit 9) Ty.str) (Ty.sl (nat_lit 106) (Ty.pair Ty.str (Ty.pair Ty.bool (Ty.sl (nat_lit 3) (Ty.int IntKind.i64)))))))) y0 (Int.toNat y2)).2.2.2) (.br (decide ((0:Int) ≤ y2 ∧ y2 < (↑(List.length y1):Int))) (.br (decide (Int.toNat y2 < List.length y1)) (.br (true) (.go ((List.set y1 (Int.toNat y2) ((at_ (Ty.pair (Ty.int IntKind.i64) (Ty.pair (Ty.int IntKind.i64) (Ty.pair (Ty.sl (nat_lit 9) Ty.str) (Ty.sl (nat_lit 106) (Ty.pair Ty.str (Ty.pair Ty.bool (Ty.sl (nat_lit 3) (Ty.int IntKind.i64)))))))) y0 (Int.toNat y2)).1,(at_ (Ty.pair (Ty.int IntKind.i64) (Ty.pair (Ty.int IntKind.i64) (Ty.pair (Ty.sl (nat_lit 9) Ty.str) (Ty.sl (nat_lit 106) (Ty.pair Ty.str (Ty.pair Ty.bool (Ty.sl (nat_lit 3) (Ty.int IntKind.i64)))))))) y0 (Int.toNat y2)).2.1,g_Vw_toStringS_0 (at_ (Ty.pair (Ty.int IntKind.i64) (Ty.pair (Ty.int IntKind.i64) (Ty.pair (Ty.sl (nat_lit 9) Ty.str) (Ty.sl (nat_lit 106) (Ty.pair Ty.str (Ty.pair Ty.bool (Ty.sl (nat_lit 3) (Ty.int IntKind.i64)))))))) y0 (Int.toNat y2)).2.2.1,g_Vw_toStoWriteS_0 (at_ (Ty.pair (Ty.int IntKind.i64) (Ty.pair (Ty.int IntKind.i64) (Ty.pair (Ty.sl (nat_lit 9) Ty.str) (Ty.sl (nat_lit 106) (Ty.pair Ty.str (Ty.pair Ty.bool (Ty.sl (nat_lit 3) (Ty.int IntKind.i64)))))))) y0 (Int.toNat y2)).2.2.2),IntKind.wrap IntKind.i64 (y2 + (1:Int))))) .bad) .bad) .bad) .bad) .bad) (.out (y1))) .bad
noncomputable def g_Lw_toLogNoteS_0 (y0:List (Int×(Int×((List ByteArray)×(List (ByteArray×(Bool×(List Int)))))))) (x:(List (Int×(Int×((List ByteArray)×(List (ByteArray×(Bool×(List Int))))))))×Int):Option (((List (Int×(Int×((List ByteArray)×(List (ByteArray×(Bool×(List Int)))))))))) := loopO (g_Sw_toLogNoteS_0 y0) x
noncomputable def xw_toLogNoteS_0 (y0:List (Int×(Int×((List ByteArray)×(List (ByteArray×(Bool×(List Int)))))))):(((List (Int×(Int×((List ByteArray)×(List (ByteArray×(Bool×(List Int)))))))))) → Ex×List (Pl×LV) := fun r => (.exit 0,[(.T 3,.t (.val false [.row 3 0 0])),(.R 3 0,.r 0 (some ⟨false,.non,true,45,(.pair (.int .i64) (.pair (.int .i64) (.pair (.sl 9 .str) (.sl 84 (.pair .str (.pair .bool (.sl 3 (.int .i64)))))))),r⟩))])
noncomputable def Ow_toLogNoteS_1:Orc := fun b h => match b,h with
 | 0,[(.T 0,.t (.val false [.sl .any 79 (.pair (.int .i64) (.pair (.int .i64) (.pair (.sl 9 .str) (.sl 106 (.pair .str (.pair .bool (.sl 3 (.int .i64)))))))) y0])),(.T 3,.t (.val false [.row 3 0 0])),(.R 3 0,.r 0 (some ⟨false,.non,true,45,(.pair (.int .i64) (.pair (.int .i64) (.pair (.sl 9 .str) (.sl 84 (.pair .str (.pair .bool (.sl 3 (.int .i64)))))))),y1⟩)),(.T 4,.t (.val false [.int .i64 y2]))] => some (okO (g_Lw_toLogNoteS_0 y0 (y1,y2)),(.leaf (.exit 0) [(.T 3,.t (.val false [.row 3 0 0])),(.R 3 0,.r 0 (some ⟨false,.non,true,45,(.pair (.int .i64) (.pair (.int .i64) (.pair (.sl 9 .str) (.sl 84 (.pair .str (.pair .bool (.sl 3 (.int .i64)))))))),(valO (g_Lw_toLogNoteS_0 y0 (y1,y2)))⟩))]))
 | b,h => Ow_toLogNoteS_0 b h
theorem bw_toLogNoteS_0 (y0:List (Int×(Int×((List ByteArray)×(List (ByteArray×(Bool×(List Int)))))))) (y1:List (Int×(Int×((List ByteArray)×(List (ByteArray×(Bool×(List Int)))))))) (y2:Int):Tr.bt Ew_toLogNoteS Ow_toLogNoteS_0 (exec Ew_toLogNoteS 0 cw_toLogNoteS_0 (St.of (hw_toLogNoteS_0 y0 y1 y2)) (leafRd Ew_toLogNoteS 0)) = (g_Sw_toLogNoteS_0 y0 (y1,y2)).bt (fun ((y1,y2):(List (Int×(Int×((List ByteArray)×(List (ByteArray×(Bool×(List Int))))))))×Int) => (hw_toLogNoteS_0 y0 y1 y2)) (xw_toLogNoteS_0 y0) := by kernel_rfl
theorem kw_toLogNoteS_1:OrcOk Ew_toLogNoteS Ow_toLogNoteS_1 lsw_toLogNoteS 1 := orc_add kw_toLogNoteS_0 (fun n p hp h ex h' ho => by
 obtain ⟨b,c⟩ := p
 obtain ⟨xt,h1,h2⟩ := ho
 have h1:Ow_toLogNoteS_1 b h = some (true,xt) := h1
 unfold Ow_toLogNoteS_1 at h1
 split at h1
 ·injection h1 with h1
  injection h1 with e1 e2
  subst e2
  have hc:c = cw_toLogNoteS_0 := mw_toLogNoteS_0 _ hp rfl
  subst hc
  right
  rename_i y0 y1 y2
  have key := LT_step kw_toLogNoteS_0 hp (fun q hq => loopsAll_in _ _ _ _ hp hq) (fun ((y1,y2):(List (Int×(Int×((List ByteArray)×(List (ByteArray×(Bool×(List Int))))))))×Int) => (hw_toLogNoteS_0 y0 y1 y2)) (xw_toLogNoteS_0 y0) (g_Sw_toLogNoteS_0 y0) (fun x => by first | exact bw_toLogNoteS_0 y0 x.1 x.2) n (x := (y1,y2)) (okO_some e1)
  have hx:∀ r,XT.sel (.leaf (.exit 0) [(.T 3,.t (.val false [.row 3 0 0])),(.R 3 0,.r 0 (some ⟨false,.non,true,45,(.pair (.int .i64) (.pair (.int .i64) (.pair (.sl 9 .str) (.sl 84 (.pair .str (.pair .bool (.sl 3 (.int .i64)))))))),r⟩))]) = xw_toLogNoteS_0 y0 r := fun r => by first | rfl | (rcases r with r | r <;> rfl) | (rcases r with r | r | r <;> rfl) | (rcases r with r | r | r | r <;> rfl)
  have h3 := (hx (valO (g_Lw_toLogNoteS_0 y0 (y1,y2)))).symm.trans h2
  have e3 := congrArg Prod.fst h3
  have e4 := congrArg Prod.snd h3
  simp only at e3 e4
  rw [← e3,← e4]
  exact key
 ·exact .inl ⟨xt,h1,h2⟩)
noncomputable def g_Aw_toLogNoteS (a0:List (Int×(Int×((List ByteArray)×(List (ByteArray×(Bool×(List Int)))))))):Bool := decide ((↑(List.length a0):Int) = (↑(List.length a0):Int) ∧ (0:Int) ≤ (↑(List.length a0):Int) ∧ (↑(List.length a0):Int) ≤ (9223372036854775807:Int) ∧ (64:Int) * (↑(List.length a0):Int) ≤ (281474976710656:Int))&&okO (g_Lw_toLogNoteS_0 a0 (List.replicate (Int.toNat (↑(List.length a0):Int)) ((0:Int),(0:Int),[],[]),(0:Int)))
noncomputable def g_Vw_toLogNoteS_0 (a0:List (Int×(Int×((List ByteArray)×(List (ByteArray×(Bool×(List Int)))))))):List (Int×(Int×((List ByteArray)×(List (ByteArray×(Bool×(List Int))))))) := valO (g_Lw_toLogNoteS_0 a0 (List.replicate (Int.toNat (↑(List.length a0):Int)) ((0:Int),(0:Int),[],[]),(0:Int)))
noncomputable def Fw_toLogNoteS:FSem := fun ys => match ys with
 | [.val false [.sl .any 79 (.pair (.int .i64) (.pair (.int .i64) (.pair (.sl 9 .str) (.sl 106 (.pair .str (.pair .bool (.sl 3 (.int .i64)))))))) a0]] => some ((g_Aw_toLogNoteS a0),.val false [.own .any true 45 (.pair (.int .i64) (.pair (.int .i64) (.pair (.sl 9 .str) (.sl 84 (.pair .str (.pair .bool (.sl 3 (.int .i64)))))))) (g_Vw_toLogNoteS_0 a0)],[])
 | _ => none
theorem vw_toLogNoteS (a0:List (Int×(Int×((List ByteArray)×(List (ByteArray×(Bool×(List Int)))))))):collapseH .std Ew_toLogNoteS Ow_toLogNoteS_1 (execFn Ew_toLogNoteS Tryd.f30 msw_toLogNoteS [.val false [.sl .any 79 (.pair (.int .i64) (.pair (.int .i64) (.pair (.sl 9 .str) (.sl 106 (.pair .str (.pair .bool (.sl 3 (.int .i64)))))))) a0]]) = some ((g_Aw_toLogNoteS a0),.val false [.own .any true 45 (.pair (.int .i64) (.pair (.int .i64) (.pair (.sl 9 .str) (.sl 84 (.pair .str (.pair .bool (.sl 3 (.int .i64)))))))) (g_Vw_toLogNoteS_0 a0)],[]) := by kernel_rfl
theorem sw_toLogNoteS:Sound Tryd.prog 30 msw_toLogNoteS Fw_toLogNoteS := by
 refine fn_gen goodw_toLogNoteS (by kernel_rfl) .std (fn := Tryd.f30) (c := (Tryd.f30.body.getD .skip)) (o := Ow_toLogNoteS_1) (k := 1) (by kernel_rfl) (by kernel_rfl) (by kernel_rfl) (by kernel_rfl) (by decide) kw_toLogNoteS_1 ?_
 intro ys r outs h
 unfold Fw_toLogNoteS at h
 split at h
 ·exact (vw_toLogNoteS _).trans h
 ·cases h
noncomputable def Ew_toLogDisk:Env where
 tt := mkTI Tryd.prog
 fn := fun f => match f with
  | 30 => some (msw_toLogNoteS,FSem.wk msw_toLogNoteS Fw_toLogNoteS)
  | _ => none
 bxf := fun _ => none
 mv := []
 keep := fun _ => []
 keepB := fun _ => []
 keepX := fun _ => []
 keepXB := fun _ => []
theorem goodFw_toLogDisk:∀ f ms F,Ew_toLogDisk.fn f = some (ms,F) → Sound Tryd.prog f ms F := fun f ms F h => by
 unfold Ew_toLogDisk at h
 dsimp only at h
 split at h
 ·injection h with h; injection h with e1 e2; subst e1 e2; exact Sound.wk sw_toLogNoteS
 ·cases h
theorem goodBw_toLogDisk:∀ f ms F,Ew_toLogDisk.bxf f = some (ms,F) → SoundB Tryd.prog f ms F := fun f ms F h => by cases h
theorem goodw_toLogDisk:Good Tryd.prog Ew_toLogDisk := ⟨rfl,goodFw_toLogDisk,goodBw_toLogDisk⟩
noncomputable def Ow_toLogDisk_0:Orc := fun _ _ => none
noncomputable def msw_toLogDisk:List PM := [.rd]
noncomputable def lsw_toLogDisk:List (Nat×Code) := loopsAll 0 (Tryd.f16.body.getD .skip)
theorem kw_toLogDisk_0:OrcOk Ew_toLogDisk Ow_toLogDisk_0 lsw_toLogDisk 0 := orcOk_none
noncomputable def g_Aw_toLogDisk (a0:List (Int×(Int×((List ByteArray)×(List (ByteArray×(Bool×(List Int)))))))) (a1:Int):Bool := g_Aw_toLogNoteS a0
noncomputable def Fw_toLogDisk:FSem := fun ys => match ys with
 | [.val true [.sl .any 79 (.pair (.int .i64) (.pair (.int .i64) (.pair (.sl 9 .str) (.sl 106 (.pair .str (.pair .bool (.sl 3 (.int .i64)))))))) a0,.int .i64 a1]] => some ((g_Aw_toLogDisk a0 a1),.val true [.own .any true 45 (.pair (.int .i64) (.pair (.int .i64) (.pair (.sl 9 .str) (.sl 84 (.pair .str (.pair .bool (.sl 3 (.int .i64)))))))) (g_Vw_toLogNoteS_0 a0),.int .i64 a1],[])
 | _ => none
theorem vw_toLogDisk (a0:List (Int×(Int×((List ByteArray)×(List (ByteArray×(Bool×(List Int)))))))) (a1:Int):collapseH .std Ew_toLogDisk Ow_toLogDisk_0 (execFn Ew_toLogDisk Tryd.f16 msw_toLogDisk [.val true [.sl .any 79 (.pair (.int .i64) (.pair (.int .i64) (.pair (.sl 9 .str) (.sl 106 (.pair .str (.pair .bool (.sl 3 (.int .i64)))))))) a0,.int .i64 a1]]) = some ((g_Aw_toLogDisk a0 a1),.val true [.own .any true 45 (.pair (.int .i64) (.pair (.int .i64) (.pair (.sl 9 .str) (.sl 84 (.pair .str (.pair .bool (.sl 3 (.int .i64)))))))) (g_Vw_toLogNoteS_0 a0),.int .i64 a1],[]) := by kernel_rfl
theorem sw_toLogDisk:Sound Tryd.prog 16 msw_toLogDisk Fw_toLogDisk := by
 refine fn_gen goodw_toLogDisk (by kernel_rfl) .std (fn := Tryd.f16) (c := (Tryd.f16.body.getD .skip)) (o := Ow_toLogDisk_0) (k := 0) (by kernel_rfl) (by kernel_rfl) (by kernel_rfl) (by kernel_rfl) (by decide) kw_toLogDisk_0 ?_
 intro ys r outs h
 unfold Fw_toLogDisk at h
 split at h
 ·exact (vw_toLogDisk _ _).trans h
 ·cases h
noncomputable def Ew_toFroState:Env where
 tt := mkTI Tryd.prog
 fn := fun f => match f with
  | 16 => some (msw_toLogDisk,FSem.wk msw_toLogDisk Fw_toLogDisk)
  | 17 => some (msw_toFroTxS,FSem.wk msw_toFroTxS Fw_toFroTxS)
  | _ => none
 bxf := fun _ => none
 mv := []
 keep := fun _ => []
 keepB := fun _ => []
 keepX := fun _ => []
 keepXB := fun _ => []
theorem goodFw_toFroState:∀ f ms F,Ew_toFroState.fn f = some (ms,F) → Sound Tryd.prog f ms F := fun f ms F h => by
 unfold Ew_toFroState at h
 dsimp only at h
 split at h
 ·injection h with h; injection h with e1 e2; subst e1 e2; exact Sound.wk sw_toLogDisk
 ·injection h with h; injection h with e1 e2; subst e1 e2; exact Sound.wk sw_toFroTxS
 ·cases h
theorem goodBw_toFroState:∀ f ms F,Ew_toFroState.bxf f = some (ms,F) → SoundB Tryd.prog f ms F := fun f ms F h => by cases h
theorem goodw_toFroState:Good Tryd.prog Ew_toFroState := ⟨rfl,goodFw_toFroState,goodBw_toFroState⟩
noncomputable def Ow_toFroState_0:Orc := fun _ _ => none
noncomputable def msw_toFroState:List PM := [.rd]
noncomputable def lsw_toFroState:List (Nat×Code) := loopsAll 0 (Tryd.f6.body.getD .skip)
theorem kw_toFroState_0:OrcOk Ew_toFroState Ow_toFroState_0 lsw_toFroState 0 := orcOk_none
noncomputable def g_Aw_toFroState (a0:List (Int×(Int×((List ByteArray)×(List (ByteArray×(Bool×(List Int)))))))) (a1:Int) (a2:List (Int×((Int×(Int×(Int×(Int×(Int×(Int×Int))))))×(Bool×((List Int)×(List Int)))))):Bool := g_Aw_toLogDisk a0 a1&&g_Aw_toFroTxS a2
noncomputable def Fw_toFroState:FSem := fun ys => match ys with
 | [.val true [.sl .any 79 (.pair (.int .i64) (.pair (.int .i64) (.pair (.sl 9 .str) (.sl 106 (.pair .str (.pair .bool (.sl 3 (.int .i64)))))))) a0,.int .i64 a1,.sl .any 67 (.pair (.int .i64) (.pair (.pair (.int .i64) (.pair (.int .i64) (.pair (.int .i64) (.pair (.int .i64) (.pair (.int .i64) (.pair (.int .i64) (.int .i64))))))) (.pair .bool (.pair (.sl 3 (.int .i64)) (.sl 3 (.int .i64)))))) a2]] => some ((g_Aw_toFroState a0 a1 a2),.val true [.own .any true 45 (.pair (.int .i64) (.pair (.int .i64) (.pair (.sl 9 .str) (.sl 84 (.pair .str (.pair .bool (.sl 3 (.int .i64)))))))) (g_Vw_toLogNoteS_0 a0),.int .i64 a1,.own .any true 50 (.pair (.int .i64) (.pair (.pair (.int .i64) (.pair (.int .i64) (.pair (.int .i64) (.pair (.int .i64) (.pair (.int .i64) (.pair (.int .i64) (.int .i64))))))) (.pair .bool (.pair (.sl 3 (.int .i64)) (.sl 3 (.int .i64)))))) (g_Vw_toFroTxS_0 a2)],[])
 | _ => none
theorem vw_toFroState (a0:List (Int×(Int×((List ByteArray)×(List (ByteArray×(Bool×(List Int)))))))) (a1:Int) (a2:List (Int×((Int×(Int×(Int×(Int×(Int×(Int×Int))))))×(Bool×((List Int)×(List Int)))))):collapseH .std Ew_toFroState Ow_toFroState_0 (execFn Ew_toFroState Tryd.f6 msw_toFroState [.val true [.sl .any 79 (.pair (.int .i64) (.pair (.int .i64) (.pair (.sl 9 .str) (.sl 106 (.pair .str (.pair .bool (.sl 3 (.int .i64)))))))) a0,.int .i64 a1,.sl .any 67 (.pair (.int .i64) (.pair (.pair (.int .i64) (.pair (.int .i64) (.pair (.int .i64) (.pair (.int .i64) (.pair (.int .i64) (.pair (.int .i64) (.int .i64))))))) (.pair .bool (.pair (.sl 3 (.int .i64)) (.sl 3 (.int .i64)))))) a2]]) = some ((g_Aw_toFroState a0 a1 a2),.val true [.own .any true 45 (.pair (.int .i64) (.pair (.int .i64) (.pair (.sl 9 .str) (.sl 84 (.pair .str (.pair .bool (.sl 3 (.int .i64)))))))) (g_Vw_toLogNoteS_0 a0),.int .i64 a1,.own .any true 50 (.pair (.int .i64) (.pair (.pair (.int .i64) (.pair (.int .i64) (.pair (.int .i64) (.pair (.int .i64) (.pair (.int .i64) (.pair (.int .i64) (.int .i64))))))) (.pair .bool (.pair (.sl 3 (.int .i64)) (.sl 3 (.int .i64)))))) (g_Vw_toFroTxS_0 a2)],[]) := by kernel_rfl
theorem sw_toFroState:Sound Tryd.prog 6 msw_toFroState Fw_toFroState := by
 refine fn_gen goodw_toFroState (by kernel_rfl) .std (fn := Tryd.f6) (c := (Tryd.f6.body.getD .skip)) (o := Ow_toFroState_0) (k := 0) (by kernel_rfl) (by kernel_rfl) (by kernel_rfl) (by kernel_rfl) (by decide) kw_toFroState_0 ?_
 intro ys r outs h
 unfold Fw_toFroState at h
 split at h
 ·exact (vw_toFroState _ _ _).trans h
 ·cases h
noncomputable def Ew_FnExactFroOk:Env where
 tt := mkTI Tryd.prog
 fn := fun f => match f with
  | 4 => some (msw_szFroState,FSem.wk msw_szFroState Fw_szFroState)
  | 5 => some (mss_FroOk,FSem.wk mss_FroOk Fs_FroOk)
  | 6 => some (msw_toFroState,FSem.wk msw_toFroState Fw_toFroState)
  | 7 => some (msi_FroOk,FSem.wk msi_FroOk Fi_FroOk)
  | 8 => some (msw_eqFroState,FSem.wk msw_eqFroState Fw_eqFroState)
  | _ => none
 bxf := fun _ => none
 mv := []
 keep := fun _ => []
 keepB := fun _ => []
 keepX := fun _ => []
 keepXB := fun _ => []
theorem goodFw_FnExactFroOk:∀ f ms F,Ew_FnExactFroOk.fn f = some (ms,F) → Sound Tryd.prog f ms F := fun f ms F h => by
 unfold Ew_FnExactFroOk at h
 dsimp only at h
 split at h
 ·injection h with h; injection h with e1 e2; subst e1 e2; exact Sound.wk sw_szFroState
 ·injection h with h; injection h with e1 e2; subst e1 e2; exact Sound.wk ss_FroOk
 ·injection h with h; injection h with e1 e2; subst e1 e2; exact Sound.wk sw_toFroState
 ·injection h with h; injection h with e1 e2; subst e1 e2; exact Sound.wk si_FroOk
 ·injection h with h; injection h with e1 e2; subst e1 e2; exact Sound.wk sw_eqFroState
 ·cases h
theorem goodBw_FnExactFroOk:∀ f ms F,Ew_FnExactFroOk.bxf f = some (ms,F) → SoundB Tryd.prog f ms F := fun f ms F h => by cases h
theorem goodw_FnExactFroOk:Good Tryd.prog Ew_FnExactFroOk := ⟨rfl,goodFw_FnExactFroOk,goodBw_FnExactFroOk⟩
noncomputable def Ow_FnExactFroOk_0:Orc := fun _ _ => none
noncomputable def msw_FnExactFroOk:List PM := [.rd]
noncomputable def lsw_FnExactFroOk:List (Nat×Code) := loopsAll 0 (Tryd.f3.body.getD .skip)
theorem kw_FnExactFroOk_0:OrcOk Ew_FnExactFroOk Ow_FnExactFroOk_0 lsw_FnExactFroOk 0 := orcOk_none
noncomputable def g_Aw_FnExactFroOk (a0:List (Int×(Int×((List ByteArray)×(List (ByteArray×(Bool×(List Int)))))))) (a1:Int) (a2:List (Int×((Int×(Int×(Int×(Int×(Int×(Int×Int))))))×(Bool×((List Int)×(List Int)))))):Bool := g_Aw_szFroState a0 a1 a2 (1048576:Int)&&(decide (g_Vw_szFroState_0 a0 a1 a2 (1048576:Int) < (0:Int)) || g_Aw_toFroState a0 a1 a2&&(g_As_FroOk (g_Vw_toLogNoteS_0 a0) a1 (g_Vw_toFroTxS_0 a2)&&(g_Aw_toFroState a0 a1 a2&&(g_Ai_FroOk (g_Vw_toLogNoteS_0 a0) a1 (g_Vw_toFroTxS_0 a2)&&(!g_Vi_FroOk_0 (g_Vw_toLogNoteS_0 a0) a1 (g_Vw_toFroTxS_0 a2) == g_Vs_FroOk_0 (g_Vw_toLogNoteS_0 a0) a1 (g_Vw_toFroTxS_0 a2) || g_Aw_toFroState a0 a1 a2&&g_Aw_eqFroState (g_Vw_toLogNoteS_0 a0) a1 (g_Vw_toFroTxS_0 a2) (g_Vw_toLogNoteS_0 a0) a1 (g_Vw_toFroTxS_0 a2))))))
noncomputable def g_Vw_FnExactFroOk_0 (a0:List (Int×(Int×((List ByteArray)×(List (ByteArray×(Bool×(List Int)))))))) (a1:Int) (a2:List (Int×((Int×(Int×(Int×(Int×(Int×(Int×Int))))))×(Bool×((List Int)×(List Int)))))):Bool := bif decide (g_Vw_szFroState_0 a0 a1 a2 (1048576:Int) < (0:Int)) then true else bif !g_Vi_FroOk_0 (g_Vw_toLogNoteS_0 a0) a1 (g_Vw_toFroTxS_0 a2) == g_Vs_FroOk_0 (g_Vw_toLogNoteS_0 a0) a1 (g_Vw_toFroTxS_0 a2) then false else bif !g_Vw_eqFroState_0 (g_Vw_toLogNoteS_0 a0) a1 (g_Vw_toFroTxS_0 a2) (g_Vw_toLogNoteS_0 a0) a1 (g_Vw_toFroTxS_0 a2) then false else true
noncomputable def Fw_FnExactFroOk:FSem := fun ys => match ys with
 | [.val true [.sl .any 79 (.pair (.int .i64) (.pair (.int .i64) (.pair (.sl 9 .str) (.sl 106 (.pair .str (.pair .bool (.sl 3 (.int .i64)))))))) a0,.int .i64 a1,.sl .any 67 (.pair (.int .i64) (.pair (.pair (.int .i64) (.pair (.int .i64) (.pair (.int .i64) (.pair (.int .i64) (.pair (.int .i64) (.pair (.int .i64) (.int .i64))))))) (.pair .bool (.pair (.sl 3 (.int .i64)) (.sl 3 (.int .i64)))))) a2]] => some ((g_Aw_FnExactFroOk a0 a1 a2),.val false [.bool (g_Vw_FnExactFroOk_0 a0 a1 a2)],[])
 | _ => none
theorem vw_FnExactFroOk (a0:List (Int×(Int×((List ByteArray)×(List (ByteArray×(Bool×(List Int)))))))) (a1:Int) (a2:List (Int×((Int×(Int×(Int×(Int×(Int×(Int×Int))))))×(Bool×((List Int)×(List Int)))))):collapseH .std Ew_FnExactFroOk Ow_FnExactFroOk_0 (execFn Ew_FnExactFroOk Tryd.f3 msw_FnExactFroOk [.val true [.sl .any 79 (.pair (.int .i64) (.pair (.int .i64) (.pair (.sl 9 .str) (.sl 106 (.pair .str (.pair .bool (.sl 3 (.int .i64)))))))) a0,.int .i64 a1,.sl .any 67 (.pair (.int .i64) (.pair (.pair (.int .i64) (.pair (.int .i64) (.pair (.int .i64) (.pair (.int .i64) (.pair (.int .i64) (.pair (.int .i64) (.int .i64))))))) (.pair .bool (.pair (.sl 3 (.int .i64)) (.sl 3 (.int .i64)))))) a2]]) = some ((g_Aw_FnExactFroOk a0 a1 a2),.val false [.bool (g_Vw_FnExactFroOk_0 a0 a1 a2)],[]) := by kernel_rfl
theorem sw_FnExactFroOk:Sound Tryd.prog 3 msw_FnExactFroOk Fw_FnExactFroOk := by
 refine fn_gen goodw_FnExactFroOk (by kernel_rfl) .std (fn := Tryd.f3) (c := (Tryd.f3.body.getD .skip)) (o := Ow_FnExactFroOk_0) (k := 0) (by kernel_rfl) (by kernel_rfl) (by kernel_rfl) (by kernel_rfl) (by decide) kw_FnExactFroOk_0 ?_
 intro ys r outs h
 unfold Fw_FnExactFroOk at h
 split at h
 ·exact (vw_FnExactFroOk _ _ _).trans h
 ·cases h
end Go.Proofs.YtedhpmhlmdcpbaaDoor.E
