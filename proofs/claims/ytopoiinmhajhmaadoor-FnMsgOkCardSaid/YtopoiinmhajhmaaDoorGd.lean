/- What the functions that are reached do, by the engine: for the proof (laws.FnMsgOk): part 4. No conditions. -/
import Derived.Test.YtopoiinmhajhmaaDoorGc
import Derived.Test.YtopoiinmhajhmaaDoorProg
set_option linter.all false
section
namespace Go.Proofs.YtopoiinmhajhmaaDoor.E
open Go
set_option maxRecDepth 100000
set_option maxHeartbeats 0
set_option linter.all false
noncomputable def Ew_FnMsgOk : Env where
  tt := mkTI Go.Proofs.Tryd.prog
  fn := fun f => match f with
    | 18 => some (msw_jaOk, FSem.wk msw_jaOk Fw_jaOk)
    | 38 => some (mss_DrawMsgOk, FSem.wk mss_DrawMsgOk Fs_DrawMsgOk)
    | 39 => some (msi_MsgOk, FSem.wk msi_MsgOk Fi_MsgOk)
    | 40 => some (mss_MsgOk, FSem.wk mss_MsgOk Fs_MsgOk)
    | _ => none
  bxf := fun _ => none
  mv := []
  keep := fun _ => []
  keepB := fun _ => []
  keepX := fun _ => []
  keepXB := fun _ => []
theorem goodFw_FnMsgOk : ∀ f ms F, Ew_FnMsgOk.fn f = some (ms, F) → Sound Go.Proofs.Tryd.prog f ms F := fun f ms F h => by
  unfold Ew_FnMsgOk at h
  dsimp only at h
  split at h
  · injection h with h; injection h with e1 e2; subst e1 e2; exact Sound.wk sw_jaOk
  · injection h with h; injection h with e1 e2; subst e1 e2; exact Sound.wk ss_DrawMsgOk
  · injection h with h; injection h with e1 e2; subst e1 e2; exact Sound.wk si_MsgOk
  · injection h with h; injection h with e1 e2; subst e1 e2; exact Sound.wk ss_MsgOk
  · cases h
theorem goodBw_FnMsgOk : ∀ f ms F, Ew_FnMsgOk.bxf f = some (ms, F) → SoundB Go.Proofs.Tryd.prog f ms F := fun f ms F h => by cases h
theorem goodw_FnMsgOk : Good Go.Proofs.Tryd.prog Ew_FnMsgOk := ⟨rfl, goodFw_FnMsgOk, goodBw_FnMsgOk⟩
noncomputable def Ow_FnMsgOk_0 : Orc := fun _ _ => none
noncomputable def msw_FnMsgOk : List PM := [.rd]
noncomputable def lsw_FnMsgOk : List (Nat × Code) := loopsAll 0 (Go.Proofs.Tryd.f9.body.getD .skip)

theorem kw_FnMsgOk_0 : OrcOk Ew_FnMsgOk Ow_FnMsgOk_0 lsw_FnMsgOk 0 := orcOk_none
noncomputable def g_Aw_FnMsgOk (a0 : List (Int)) : Bool := decide ((↑(List.length a0) : Int) > (1048576 : Int)) || g_As_DrawMsgOk a0 && (g_Ai_MsgOk (g_Vs_DrawMsgOk_0 a0) (g_Vs_DrawMsgOk_1 a0) (g_Vs_DrawMsgOk_2 a0) (g_Vs_DrawMsgOk_3 a0) (g_Vs_DrawMsgOk_4 a0) (g_Vs_DrawMsgOk_5 a0) (g_Vs_DrawMsgOk_6 a0) (g_Vs_DrawMsgOk_7 a0) (g_Vs_DrawMsgOk_8 a0) (g_Vs_DrawMsgOk_9 a0) (g_Vs_DrawMsgOk_10 a0) && (g_As_MsgOk (g_Vs_DrawMsgOk_0 a0) (g_Vs_DrawMsgOk_1 a0) (g_Vs_DrawMsgOk_2 a0) (g_Vs_DrawMsgOk_3 a0) (g_Vs_DrawMsgOk_4 a0) (g_Vs_DrawMsgOk_5 a0) (g_Vs_DrawMsgOk_6 a0) (g_Vs_DrawMsgOk_7 a0) (g_Vs_DrawMsgOk_8 a0) (g_Vs_DrawMsgOk_9 a0) (g_Vs_DrawMsgOk_10 a0) && (!g_Vi_MsgOk_0 (g_Vs_DrawMsgOk_0 a0) (g_Vs_DrawMsgOk_1 a0) (g_Vs_DrawMsgOk_2 a0) (g_Vs_DrawMsgOk_3 a0) (g_Vs_DrawMsgOk_4 a0) (g_Vs_DrawMsgOk_5 a0) (g_Vs_DrawMsgOk_6 a0) (g_Vs_DrawMsgOk_7 a0) (g_Vs_DrawMsgOk_8 a0) (g_Vs_DrawMsgOk_9 a0) (g_Vs_DrawMsgOk_10 a0) == g_Vs_MsgOk_0 (g_Vs_DrawMsgOk_0 a0) (g_Vs_DrawMsgOk_1 a0) (g_Vs_DrawMsgOk_2 a0) (g_Vs_DrawMsgOk_3 a0) (g_Vs_DrawMsgOk_4 a0) (g_Vs_DrawMsgOk_5 a0) (g_Vs_DrawMsgOk_6 a0) (g_Vs_DrawMsgOk_7 a0) (g_Vs_DrawMsgOk_8 a0) (g_Vs_DrawMsgOk_9 a0) (g_Vs_DrawMsgOk_10 a0) || bif !g_Vi_MsgOk_0 (g_Vs_DrawMsgOk_0 a0) (g_Vs_DrawMsgOk_1 a0) (g_Vs_DrawMsgOk_2 a0) (g_Vs_DrawMsgOk_3 a0) (g_Vs_DrawMsgOk_4 a0) (g_Vs_DrawMsgOk_5 a0) (g_Vs_DrawMsgOk_6 a0) (g_Vs_DrawMsgOk_7 a0) (g_Vs_DrawMsgOk_8 a0) (g_Vs_DrawMsgOk_9 a0) (g_Vs_DrawMsgOk_10 a0) then g_Aw_jaOk else g_Ai_MsgOk (g_Vs_DrawMsgOk_0 a0) (g_Vs_DrawMsgOk_2 a0) (g_Vs_DrawMsgOk_1 a0) (g_Vs_DrawMsgOk_3 a0) (g_Vs_DrawMsgOk_4 a0) (g_Vs_DrawMsgOk_5 a0) (g_Vs_DrawMsgOk_6 a0) (g_Vs_DrawMsgOk_7 a0) (g_Vs_DrawMsgOk_8 a0) (g_Vs_DrawMsgOk_9 a0) (g_Vs_DrawMsgOk_10 a0) && (!!g_Vi_MsgOk_0 (g_Vs_DrawMsgOk_0 a0) (g_Vs_DrawMsgOk_2 a0) (g_Vs_DrawMsgOk_1 a0) (g_Vs_DrawMsgOk_3 a0) (g_Vs_DrawMsgOk_4 a0) (g_Vs_DrawMsgOk_5 a0) (g_Vs_DrawMsgOk_6 a0) (g_Vs_DrawMsgOk_7 a0) (g_Vs_DrawMsgOk_8 a0) (g_Vs_DrawMsgOk_9 a0) (g_Vs_DrawMsgOk_10 a0) || (!!(g_Vs_DrawMsgOk_1 a0 == (0 : Int)) == (g_Vs_DrawMsgOk_2 a0 == (0 : Int)) || true)))))
noncomputable def g_Vw_FnMsgOk_0 (a0 : List (Int)) : Bool := bif decide ((↑(List.length a0) : Int) > (1048576 : Int)) then true else bif !g_Vi_MsgOk_0 (g_Vs_DrawMsgOk_0 a0) (g_Vs_DrawMsgOk_1 a0) (g_Vs_DrawMsgOk_2 a0) (g_Vs_DrawMsgOk_3 a0) (g_Vs_DrawMsgOk_4 a0) (g_Vs_DrawMsgOk_5 a0) (g_Vs_DrawMsgOk_6 a0) (g_Vs_DrawMsgOk_7 a0) (g_Vs_DrawMsgOk_8 a0) (g_Vs_DrawMsgOk_9 a0) (g_Vs_DrawMsgOk_10 a0) == g_Vs_MsgOk_0 (g_Vs_DrawMsgOk_0 a0) (g_Vs_DrawMsgOk_1 a0) (g_Vs_DrawMsgOk_2 a0) (g_Vs_DrawMsgOk_3 a0) (g_Vs_DrawMsgOk_4 a0) (g_Vs_DrawMsgOk_5 a0) (g_Vs_DrawMsgOk_6 a0) (g_Vs_DrawMsgOk_7 a0) (g_Vs_DrawMsgOk_8 a0) (g_Vs_DrawMsgOk_9 a0) (g_Vs_DrawMsgOk_10 a0) then false else bif !g_Vi_MsgOk_0 (g_Vs_DrawMsgOk_0 a0) (g_Vs_DrawMsgOk_1 a0) (g_Vs_DrawMsgOk_2 a0) (g_Vs_DrawMsgOk_3 a0) (g_Vs_DrawMsgOk_4 a0) (g_Vs_DrawMsgOk_5 a0) (g_Vs_DrawMsgOk_6 a0) (g_Vs_DrawMsgOk_7 a0) (g_Vs_DrawMsgOk_8 a0) (g_Vs_DrawMsgOk_9 a0) (g_Vs_DrawMsgOk_10 a0) then g_Vw_jaOk_0 else bif !g_Vi_MsgOk_0 (g_Vs_DrawMsgOk_0 a0) (g_Vs_DrawMsgOk_2 a0) (g_Vs_DrawMsgOk_1 a0) (g_Vs_DrawMsgOk_3 a0) (g_Vs_DrawMsgOk_4 a0) (g_Vs_DrawMsgOk_5 a0) (g_Vs_DrawMsgOk_6 a0) (g_Vs_DrawMsgOk_7 a0) (g_Vs_DrawMsgOk_8 a0) (g_Vs_DrawMsgOk_9 a0) (g_Vs_DrawMsgOk_10 a0) then bif !(g_Vs_DrawMsgOk_1 a0 == (0 : Int)) == (g_Vs_DrawMsgOk_2 a0 == (0 : Int)) then (g_Vs_DrawMsgOk_4 a0 != (0 : Int)) == (g_Vs_DrawMsgOk_0 a0 == (1 : Int)) else false else false
noncomputable def Fw_FnMsgOk : FSem := fun ys => match ys with
  | [.val false [.sl .any 5 (.int .u8) a0]] => some ((g_Aw_FnMsgOk a0), .val false [.bool (g_Vw_FnMsgOk_0 a0)], [])
  | _ => none
theorem vw_FnMsgOk (a0 : List (Int)) : collapseH .std Ew_FnMsgOk Ow_FnMsgOk_0 (execFn Ew_FnMsgOk Go.Proofs.Tryd.f9 msw_FnMsgOk [.val false [.sl .any 5 (.int .u8) a0]]) = some ((g_Aw_FnMsgOk a0), .val false [.bool (g_Vw_FnMsgOk_0 a0)], []) := by kernel_rfl
theorem sw_FnMsgOk : Sound Go.Proofs.Tryd.prog 9 msw_FnMsgOk Fw_FnMsgOk := by
  refine fn_gen goodw_FnMsgOk (by kernel_rfl) .std (fn := Go.Proofs.Tryd.f9) (c := (Go.Proofs.Tryd.f9.body.getD .skip)) (o := Ow_FnMsgOk_0) (k := 0) (by kernel_rfl) (by kernel_rfl) (by kernel_rfl) (by kernel_rfl) (by decide) kw_FnMsgOk_0 ?_
  intro ys r outs h
  unfold Fw_FnMsgOk at h
  split at h
  · exact (vw_FnMsgOk _).trans h
  · cases h
end Go.Proofs.YtopoiinmhajhmaaDoor.E
end
section
namespace Go.Proofs.YtopoiinmhajhmaaDoor.E
open Go
set_option maxRecDepth 100000
set_option maxHeartbeats 0
set_option linter.all false
noncomputable def Es_l1Key : Env where
  tt := mkTI Go.Proofs.Tryd.prog
  fn := fun f => match f with
    | 61 => some (mss_l1In, FSem.wk mss_l1In Fs_l1In)
    | _ => none
  bxf := fun _ => none
  mv := []
  keep := fun b => match b with
    | 0 => [(0, false), (3, false)]
    | _ => []
  keepB := fun b => match b with
    | 0 => []
    | _ => []
  keepX := fun b => match b with
    | 0 => [(2, false)]
    | _ => []
  keepXB := fun b => match b with
    | 0 => []
    | _ => []
theorem goodFs_l1Key : ∀ f ms F, Es_l1Key.fn f = some (ms, F) → Sound Go.Proofs.Tryd.prog f ms F := fun f ms F h => by
  unfold Es_l1Key at h
  dsimp only at h
  split at h
  · injection h with h; injection h with e1 e2; subst e1 e2; exact Sound.wk ss_l1In
  · cases h
theorem goodBs_l1Key : ∀ f ms F, Es_l1Key.bxf f = some (ms, F) → SoundB Go.Proofs.Tryd.prog f ms F := fun f ms F h => by cases h
theorem goods_l1Key : Good Go.Proofs.Tryd.prog Es_l1Key := ⟨rfl, goodFs_l1Key, goodBs_l1Key⟩
noncomputable def Os_l1Key_0 : Orc := fun _ _ => none
noncomputable def mss_l1Key : List PM := [.own]
noncomputable def lss_l1Key : List (Nat × Code) := loopsAll 0 (Go.Proofs.Tryd.f63.body.getD .skip)
noncomputable def cs_l1Key_0 : Code := (loopOf 0 (Go.Proofs.Tryd.f63.body.getD .skip)).getD .skip
theorem lseqs_l1Key : lss_l1Key = [(0, cs_l1Key_0)] := by kernel_rfl
theorem ms_l1Key_0 : ∀ p, p ∈ lss_l1Key → p.1 = 0 → p.2 = cs_l1Key_0 := by
  intro p hp
  rw [lseqs_l1Key] at hp
  simp only [List.mem_cons, List.not_mem_nil, or_false] at hp
  subst hp; simp
theorem ks_l1Key_0 : OrcOk Es_l1Key Os_l1Key_0 lss_l1Key 0 := orcOk_none
noncomputable def hs_l1Key_0 (y0 : ByteArray) (y1 : Int) : List (Pl × LV) := [(.T 0, .t (.val false [.str y0])), (.T 3, .t (.val false [.int .i64 y1]))]
noncomputable def g_Ss_l1Key_0 (y0 : ByteArray) : ((Int)) → RT ((Int)) (((Bool)) ⊕ (Unit))
  | y1 => .br (true) (.br (decide (y1 < (↑(ByteArray.size y0) : Int))) (.br (decide ((0 : Int) ≤ y1 ∧ y1 < (↑(ByteArray.size y0) : Int))) (.br (true) (.br (decide (byteAt y0 (Int.toNat y1) < (48 : Int))) (.out (.inl false)) (.br (decide ((0 : Int) ≤ y1 ∧ y1 < (↑(ByteArray.size y0) : Int))) (.br (true) (.br (decide (byteAt y0 (Int.toNat y1) > (57 : Int))) (.out (.inl false)) (.br (true) (.go (IntKind.wrap IntKind.i64 (y1 + (1 : Int)))) (.bad))) (.bad)) (.bad))) (.bad)) (.bad)) (.out (.inr (())))) (.bad)
noncomputable def g_Ls_l1Key_0 (y0 : ByteArray) (x : (Int)) : Option (((Bool)) ⊕ (Unit)) := loopO (g_Ss_l1Key_0 y0) x
noncomputable def xs_l1Key_0 (y0 : ByteArray) : (((Bool)) ⊕ (Unit)) → Ex × List (Pl × LV) := fun
  | .inl r => (.ret, [(.T 2, .t (.val false [.bool r]))])
  | .inr (r) => (.exit 0, [(.T 2, .t (.val false [.undef]))])
noncomputable def Os_l1Key_1 : Orc := fun b h => match b, h with
  | 0, [(.T 0, .t (.val false [.str y0])), (.T 3, .t (.val false [.int .i64 y1]))] => some (okO (g_Ls_l1Key_0 y0 y1), (.br (isL (valO (g_Ls_l1Key_0 y0 y1))) (.leaf .ret [(.T 2, .t (.val false [.bool (getL (valO (g_Ls_l1Key_0 y0 y1)))]))]) (.leaf (.exit 0) [(.T 2, .t (.val false [.undef]))])))
  | b, h => Os_l1Key_0 b h
theorem bs_l1Key_0 (y0 : ByteArray) (y1 : Int) : Tr.bt Es_l1Key Os_l1Key_0 (exec Es_l1Key 0 cs_l1Key_0 (St.of (hs_l1Key_0 y0 y1)) (leafRd Es_l1Key 0)) = (g_Ss_l1Key_0 y0 y1).bt (fun (y1 : (Int)) => (hs_l1Key_0 y0 y1)) (xs_l1Key_0 y0) := by kernel_rfl
theorem ks_l1Key_1 : OrcOk Es_l1Key Os_l1Key_1 lss_l1Key 1 := orc_add ks_l1Key_0 (fun n p hp h ex h' ho => by
  obtain ⟨b, c⟩ := p
  obtain ⟨xt, h1, h2⟩ := ho
  have h1 : Os_l1Key_1 b h = some (true, xt) := h1
  unfold Os_l1Key_1 at h1
  split at h1
  · injection h1 with h1
    injection h1 with e1 e2
    subst e2
    have hc : c = cs_l1Key_0 := ms_l1Key_0 _ hp rfl
    subst hc
    right
    rename_i y0 y1
    have key := LT_step ks_l1Key_0 hp (fun q hq => loopsAll_in _ _ _ _ hp hq) (fun (y1 : (Int)) => (hs_l1Key_0 y0 y1)) (xs_l1Key_0 y0) (g_Ss_l1Key_0 y0) (fun x => by first | exact bs_l1Key_0 y0 x) n (x := y1) (okO_some e1)
    have hx : ∀ r, XT.sel (.br (isL r) (.leaf .ret [(.T 2, .t (.val false [.bool (getL r)]))]) (.leaf (.exit 0) [(.T 2, .t (.val false [.undef]))])) = xs_l1Key_0 y0 r := fun r => by first | rfl | (rcases r with r | r <;> rfl) | (rcases r with r | r | r <;> rfl) | (rcases r with r | r | r | r <;> rfl)
    have h3 := (hx (valO (g_Ls_l1Key_0 y0 y1))).symm.trans h2
    have e3 := congrArg Prod.fst h3
    have e4 := congrArg Prod.snd h3
    simp only at e3 e4
    rw [← e3, ← e4]
    exact key
  · exact .inl ⟨xt, h1, h2⟩)
noncomputable def g_As_l1Key (a0 : ByteArray) : Bool := g_As_l1In (↑(ByteArray.size a0) : Int) (2 : Int) (3 : Int) && (!g_Vs_l1In_0 (↑(ByteArray.size a0) : Int) (2 : Int) (3 : Int) || decide ((0 : Int) ≤ (0 : Int) ∧ (0 : Int) < (↑(ByteArray.size a0) : Int)) && (decide (byteAt a0 (nat_lit 0) < (97 : Int)) || decide ((0 : Int) ≤ (0 : Int) ∧ (0 : Int) < (↑(ByteArray.size a0) : Int)) && (decide (byteAt a0 (nat_lit 0) > (122 : Int)) || okO (g_Ls_l1Key_0 a0 (1 : Int)))))
noncomputable def g_Vs_l1Key_0 (a0 : ByteArray) : Bool := bif !g_Vs_l1In_0 (↑(ByteArray.size a0) : Int) (2 : Int) (3 : Int) then false else bif decide (byteAt a0 (nat_lit 0) < (97 : Int)) then false else bif decide (byteAt a0 (nat_lit 0) > (122 : Int)) then false else bif isL (valO (g_Ls_l1Key_0 a0 (1 : Int))) then getL (valO (g_Ls_l1Key_0 a0 (1 : Int))) else true
noncomputable def Fs_l1Key : FSem := fun ys => match ys with
  | [.val false [.str a0]] => some ((g_As_l1Key a0), .val false [.bool (g_Vs_l1Key_0 a0)], [])
  | _ => none
theorem vs_l1Key (a0 : ByteArray) : collapseH .std Es_l1Key Os_l1Key_1 (execFn Es_l1Key Go.Proofs.Tryd.f63 mss_l1Key [.val false [.str a0]]) = some ((g_As_l1Key a0), .val false [.bool (g_Vs_l1Key_0 a0)], []) := by kernel_rfl
theorem ss_l1Key : Sound Go.Proofs.Tryd.prog 63 mss_l1Key Fs_l1Key := by
  refine fn_gen goods_l1Key (by kernel_rfl) .std (fn := Go.Proofs.Tryd.f63) (c := (Go.Proofs.Tryd.f63.body.getD .skip)) (o := Os_l1Key_1) (k := 1) (by kernel_rfl) (by kernel_rfl) (by kernel_rfl) (by kernel_rfl) (by decide) ks_l1Key_1 ?_
  intro ys r outs h
  unfold Fs_l1Key at h
  split at h
  · exact (vs_l1Key _).trans h
  · cases h
end Go.Proofs.YtopoiinmhajhmaaDoor.E
end
section
namespace Go.Proofs.YtopoiinmhajhmaaDoor.E
open Go
set_option maxRecDepth 100000
set_option maxHeartbeats 0
set_option linter.all false
noncomputable def Es_l1Val : Env where
  tt := mkTI Go.Proofs.Tryd.prog
  fn := fun f => match f with
    | 61 => some (mss_l1In, FSem.wk mss_l1In Fs_l1In)
    | _ => none
  bxf := fun _ => none
  mv := []
  keep := fun b => match b with
    | 0 => [(0, false), (3, false)]
    | _ => []
  keepB := fun b => match b with
    | 0 => []
    | _ => []
  keepX := fun b => match b with
    | 0 => [(0, false), (2, false)]
    | _ => []
  keepXB := fun b => match b with
    | 0 => []
    | _ => []
theorem goodFs_l1Val : ∀ f ms F, Es_l1Val.fn f = some (ms, F) → Sound Go.Proofs.Tryd.prog f ms F := fun f ms F h => by
  unfold Es_l1Val at h
  dsimp only at h
  split at h
  · injection h with h; injection h with e1 e2; subst e1 e2; exact Sound.wk ss_l1In
  · cases h
theorem goodBs_l1Val : ∀ f ms F, Es_l1Val.bxf f = some (ms, F) → SoundB Go.Proofs.Tryd.prog f ms F := fun f ms F h => by cases h
theorem goods_l1Val : Good Go.Proofs.Tryd.prog Es_l1Val := ⟨rfl, goodFs_l1Val, goodBs_l1Val⟩
noncomputable def Os_l1Val_0 : Orc := fun _ _ => none
noncomputable def mss_l1Val : List PM := [.rd]
noncomputable def lss_l1Val : List (Nat × Code) := loopsAll 0 (Go.Proofs.Tryd.f64.body.getD .skip)
noncomputable def cs_l1Val_0 : Code := (loopOf 0 (Go.Proofs.Tryd.f64.body.getD .skip)).getD .skip
theorem lseqs_l1Val : lss_l1Val = [(0, cs_l1Val_0)] := by kernel_rfl
theorem ms_l1Val_0 : ∀ p, p ∈ lss_l1Val → p.1 = 0 → p.2 = cs_l1Val_0 := by
  intro p hp
  rw [lseqs_l1Val] at hp
  simp only [List.mem_cons, List.not_mem_nil, or_false] at hp
  subst hp; simp
theorem ks_l1Val_0 : OrcOk Es_l1Val Os_l1Val_0 lss_l1Val 0 := orcOk_none
noncomputable def hs_l1Val_0 (y0 : List (Int)) (y1 : Int) : List (Pl × LV) := [(.T 0, .t (.val false [.sl .any 3 (.int .i64) y0])), (.T 3, .t (.val false [.int .i64 y1]))]
noncomputable def g_Ss_l1Val_0 (y0 : List (Int)) : ((Int)) → RT ((Int)) (((Bool)) ⊕ (Unit))
  | y1 => .br (true) (.br (decide (y1 < (↑(List.length y0) : Int))) (.br (decide ((0 : Int) ≤ y1 ∧ y1 < (↑(List.length y0) : Int))) (.br (g_As_l1In (at_ (Ty.int IntKind.i64) y0 (Int.toNat y1)) (0 : Int) (9999 : Int)) (.br (!g_Vs_l1In_0 (at_ (Ty.int IntKind.i64) y0 (Int.toNat y1)) (0 : Int) (9999 : Int)) (.out (.inl false)) (.br (true) (.go (IntKind.wrap IntKind.i64 (y1 + (1 : Int)))) (.bad))) (.bad)) (.bad)) (.out (.inr (())))) (.bad)
noncomputable def g_Ls_l1Val_0 (y0 : List (Int)) (x : (Int)) : Option (((Bool)) ⊕ (Unit)) := loopO (g_Ss_l1Val_0 y0) x
noncomputable def xs_l1Val_0 (y0 : List (Int)) : (((Bool)) ⊕ (Unit)) → Ex × List (Pl × LV) := fun
  | .inl r => (.ret, [(.T 0, .t (.val false [.sl .any 3 (.int .i64) y0])), (.T 2, .t (.val false [.bool r]))])
  | .inr (r) => (.exit 0, [(.T 0, .t (.val false [.sl .any 3 (.int .i64) y0])), (.T 2, .t (.val false [.undef]))])
noncomputable def Os_l1Val_1 : Orc := fun b h => match b, h with
  | 0, [(.T 0, .t (.val false [.sl .any 3 (.int .i64) y0])), (.T 3, .t (.val false [.int .i64 y1]))] => some (okO (g_Ls_l1Val_0 y0 y1), (.br (isL (valO (g_Ls_l1Val_0 y0 y1))) (.leaf .ret [(.T 0, .t (.val false [.sl .any 3 (.int .i64) y0])), (.T 2, .t (.val false [.bool (getL (valO (g_Ls_l1Val_0 y0 y1)))]))]) (.leaf (.exit 0) [(.T 0, .t (.val false [.sl .any 3 (.int .i64) y0])), (.T 2, .t (.val false [.undef]))])))
  | b, h => Os_l1Val_0 b h
theorem bs_l1Val_0 (y0 : List (Int)) (y1 : Int) : Tr.bt Es_l1Val Os_l1Val_0 (exec Es_l1Val 0 cs_l1Val_0 (St.of (hs_l1Val_0 y0 y1)) (leafRd Es_l1Val 0)) = (g_Ss_l1Val_0 y0 y1).bt (fun (y1 : (Int)) => (hs_l1Val_0 y0 y1)) (xs_l1Val_0 y0) := by kernel_rfl
theorem ks_l1Val_1 : OrcOk Es_l1Val Os_l1Val_1 lss_l1Val 1 := orc_add ks_l1Val_0 (fun n p hp h ex h' ho => by
  obtain ⟨b, c⟩ := p
  obtain ⟨xt, h1, h2⟩ := ho
  have h1 : Os_l1Val_1 b h = some (true, xt) := h1
  unfold Os_l1Val_1 at h1
  split at h1
  · injection h1 with h1
    injection h1 with e1 e2
    subst e2
    have hc : c = cs_l1Val_0 := ms_l1Val_0 _ hp rfl
    subst hc
    right
    rename_i y0 y1
    have key := LT_step ks_l1Val_0 hp (fun q hq => loopsAll_in _ _ _ _ hp hq) (fun (y1 : (Int)) => (hs_l1Val_0 y0 y1)) (xs_l1Val_0 y0) (g_Ss_l1Val_0 y0) (fun x => by first | exact bs_l1Val_0 y0 x) n (x := y1) (okO_some e1)
    have hx : ∀ r, XT.sel (.br (isL r) (.leaf .ret [(.T 0, .t (.val false [.sl .any 3 (.int .i64) y0])), (.T 2, .t (.val false [.bool (getL r)]))]) (.leaf (.exit 0) [(.T 0, .t (.val false [.sl .any 3 (.int .i64) y0])), (.T 2, .t (.val false [.undef]))])) = xs_l1Val_0 y0 r := fun r => by first | rfl | (rcases r with r | r <;> rfl) | (rcases r with r | r | r <;> rfl) | (rcases r with r | r | r | r <;> rfl)
    have h3 := (hx (valO (g_Ls_l1Val_0 y0 y1))).symm.trans h2
    have e3 := congrArg Prod.fst h3
    have e4 := congrArg Prod.snd h3
    simp only at e3 e4
    rw [← e3, ← e4]
    exact key
  · exact .inl ⟨xt, h1, h2⟩)
noncomputable def g_As_l1Val (a0 : List (Int)) : Bool := okO (g_Ls_l1Val_0 a0 (0 : Int)) && (isL (valO (g_Ls_l1Val_0 a0 (0 : Int))) || g_As_l1In (↑(List.length a0) : Int) (1 : Int) (3 : Int))
noncomputable def g_Vs_l1Val_0 (a0 : List (Int)) : Bool := bif isL (valO (g_Ls_l1Val_0 a0 (0 : Int))) then getL (valO (g_Ls_l1Val_0 a0 (0 : Int))) else g_Vs_l1In_0 (↑(List.length a0) : Int) (1 : Int) (3 : Int)
noncomputable def Fs_l1Val : FSem := fun ys => match ys with
  | [.val false [.sl .any 3 (.int .i64) a0]] => some ((g_As_l1Val a0), .val false [.bool (g_Vs_l1Val_0 a0)], [])
  | _ => none
theorem vs_l1Val (a0 : List (Int)) : collapseH .std Es_l1Val Os_l1Val_1 (execFn Es_l1Val Go.Proofs.Tryd.f64 mss_l1Val [.val false [.sl .any 3 (.int .i64) a0]]) = some ((g_As_l1Val a0), .val false [.bool (g_Vs_l1Val_0 a0)], []) := by kernel_rfl
theorem ss_l1Val : Sound Go.Proofs.Tryd.prog 64 mss_l1Val Fs_l1Val := by
  refine fn_gen goods_l1Val (by kernel_rfl) .std (fn := Go.Proofs.Tryd.f64) (c := (Go.Proofs.Tryd.f64.body.getD .skip)) (o := Os_l1Val_1) (k := 1) (by kernel_rfl) (by kernel_rfl) (by kernel_rfl) (by kernel_rfl) (by decide) ks_l1Val_1 ?_
  intro ys r outs h
  unfold Fs_l1Val at h
  split at h
  · exact (vs_l1Val _).trans h
  · cases h
end Go.Proofs.YtopoiinmhajhmaaDoor.E
end
section
namespace Go.Proofs.YtopoiinmhajhmaaDoor.E
open Go
set_option maxRecDepth 100000
set_option maxHeartbeats 0
set_option linter.all false
noncomputable def Es_WrtOk : Env where
  tt := mkTI Go.Proofs.Tryd.prog
  fn := fun f => match f with
    | 63 => some (mss_l1Key, FSem.wk mss_l1Key Fs_l1Key)
    | 64 => some (mss_l1Val, FSem.wk mss_l1Val Fs_l1Val)
    | _ => none
  bxf := fun _ => none
  mv := []
  keep := fun _ => []
  keepB := fun _ => []
  keepX := fun _ => []
  keepXB := fun _ => []
theorem goodFs_WrtOk : ∀ f ms F, Es_WrtOk.fn f = some (ms, F) → Sound Go.Proofs.Tryd.prog f ms F := fun f ms F h => by
  unfold Es_WrtOk at h
  dsimp only at h
  split at h
  · injection h with h; injection h with e1 e2; subst e1 e2; exact Sound.wk ss_l1Key
  · injection h with h; injection h with e1 e2; subst e1 e2; exact Sound.wk ss_l1Val
  · cases h
theorem goodBs_WrtOk : ∀ f ms F, Es_WrtOk.bxf f = some (ms, F) → SoundB Go.Proofs.Tryd.prog f ms F := fun f ms F h => by cases h
theorem goods_WrtOk : Good Go.Proofs.Tryd.prog Es_WrtOk := ⟨rfl, goodFs_WrtOk, goodBs_WrtOk⟩
noncomputable def Os_WrtOk_0 : Orc := fun _ _ => none
noncomputable def mss_WrtOk : List PM := [.rd]
noncomputable def lss_WrtOk : List (Nat × Code) := loopsAll 0 (Go.Proofs.Tryd.f20.body.getD .skip)

theorem ks_WrtOk_0 : OrcOk Es_WrtOk Os_WrtOk_0 lss_WrtOk 0 := orcOk_none
noncomputable def g_As_WrtOk (a0 : ByteArray) (a1 : Bool) (a2 : List (Int)) : Bool := bif a1 then g_As_l1Key a0 && (!g_Vs_l1Key_0 a0 || true) else g_As_l1Key a0 && (!g_Vs_l1Key_0 a0 || g_As_l1Val a2)
noncomputable def g_Vs_WrtOk_0 (a0 : ByteArray) (a1 : Bool) (a2 : List (Int)) : Bool := bif a1 then bif g_Vs_l1Key_0 a0 then (↑(List.length a2) : Int) == (0 : Int) else false else bif g_Vs_l1Key_0 a0 then g_Vs_l1Val_0 a2 else false
noncomputable def Fs_WrtOk : FSem := fun ys => match ys with
  | [.val true [.str a0, .bool a1, .sl .any 3 (.int .i64) a2]] => some ((g_As_WrtOk a0 a1 a2), .val false [.bool (g_Vs_WrtOk_0 a0 a1 a2)], [])
  | _ => none
theorem vs_WrtOk (a0 : ByteArray) (a1 : Bool) (a2 : List (Int)) : collapseH .std Es_WrtOk Os_WrtOk_0 (execFn Es_WrtOk Go.Proofs.Tryd.f20 mss_WrtOk [.val true [.str a0, .bool a1, .sl .any 3 (.int .i64) a2]]) = some ((g_As_WrtOk a0 a1 a2), .val false [.bool (g_Vs_WrtOk_0 a0 a1 a2)], []) := by kernel_rfl
theorem ss_WrtOk : Sound Go.Proofs.Tryd.prog 20 mss_WrtOk Fs_WrtOk := by
  refine fn_gen goods_WrtOk (by kernel_rfl) .std (fn := Go.Proofs.Tryd.f20) (c := (Go.Proofs.Tryd.f20.body.getD .skip)) (o := Os_WrtOk_0) (k := 0) (by kernel_rfl) (by kernel_rfl) (by kernel_rfl) (by kernel_rfl) (by decide) ks_WrtOk_0 ?_
  intro ys r outs h
  unfold Fs_WrtOk at h
  split at h
  · exact (vs_WrtOk _ _ _).trans h
  · cases h
end Go.Proofs.YtopoiinmhajhmaaDoor.E
end
