/- What the functions that are reached do, by the engine: for the proof (laws.FnExactDiskFall): part 2. No conditions. -/
import Derived.Test.YtcceeikolcdodaaDoorGa
import Derived.Test.YtcceeikolcdodaaDoorProg
set_option linter.all false
namespace Go.Proofs.YtcceeikolcdodaaDoor.E
open Go
set_option maxRecDepth 100000
set_option maxHeartbeats 0
noncomputable def Ew_markText:Env where
 tt := mkTI Tryd.prog
 fn := fun _ => none
 bxf := fun _ => none
 mv := []
 keep := fun b => match b with
  | 0 => [(0,false),(3,false)]
  | _ => []
 keepB := fun b => match b with
  | 0 => []
  | _ => []
 keepX := fun b => match b with
  | 0 => [(3,false)]
  | _ => []
 keepXB := fun b => match b with
  | 0 => []
  | _ => []
theorem goodFw_markText:∀ f ms F,Ew_markText.fn f = some (ms,F) → Sound Tryd.prog f ms F := fun f ms F h => by cases h
theorem goodBw_markText:∀ f ms F,Ew_markText.bxf f = some (ms,F) → SoundB Tryd.prog f ms F := fun f ms F h => by cases h
theorem goodw_markText:Good Tryd.prog Ew_markText := ⟨rfl,goodFw_markText,goodBw_markText⟩
noncomputable def Ow_markText_0:Orc := fun _ _ => none
noncomputable def msw_markText:List PM := [.own]
noncomputable def lsw_markText:List (Nat×Code) := loopsAll 0 (Tryd.f56.body.getD .skip)
noncomputable def cw_markText_0:Code := (loopOf 0 (Tryd.f56.body.getD .skip)).getD .skip
theorem lseqw_markText:lsw_markText = [(0,cw_markText_0)] := by kernel_rfl
theorem mw_markText_0:∀ p,p ∈ lsw_markText → p.1 = 0 → p.2 = cw_markText_0 := by
 intro p hp
 rw [lseqw_markText] at hp
 simp only [List.mem_cons,List.not_mem_nil,or_false] at hp
 subst hp; simp
theorem kw_markText_0:OrcOk Ew_markText Ow_markText_0 lsw_markText 0 := orcOk_none
noncomputable def hw_markText_0 (y0:Int) (y1:ByteArray):List (Pl×LV) := [(.T 0,.t (.val false [.int .i64 y0])),(.T 3,.t (.val false [.str y1]))]
noncomputable def g_Sw_markText_0:(Int×ByteArray) → RT (Int×ByteArray) ((ByteArray))
 | (y0,y1) => .br (true) (.br (decide (y0 > (0:Int))) (.br (true) (.br (true) (.br (decide (ByteArray.size { data := List.toArray (List.map (fun n => UInt8.ofNat (Int.toNat n)) [IntKind.wrap IntKind.u8 (IntKind.wrap IntKind.i64 ((48:Int) + Int.tmod y0 (10:Int)))]) } + ByteArray.size y1 ≤ nat_lit 9223372036854775807)) (.br (true) (.go ((IntKind.wrap IntKind.i64 (Int.tdiv y0 (10:Int)),{ data := List.toArray (List.map (fun n => UInt8.ofNat (Int.toNat n)) [IntKind.wrap IntKind.u8 (IntKind.wrap IntKind.i64 ((48:Int) + Int.tmod y0 (10:Int)))]) } ++ y1))) .bad) .bad) .bad) .bad) (.out (y1))) .bad
noncomputable def g_Lw_markText_0 (x:Int×ByteArray):Option ((ByteArray)) := loopO (g_Sw_markText_0) x
noncomputable def xw_markText_0:((ByteArray)) → Ex×List (Pl×LV) := fun r => (.exit 0,[(.T 3,.t (.val false [.str r]))])
noncomputable def Ow_markText_1:Orc := fun b h => match b,h with
 | 0,[(.T 0,.t (.val false [.int .i64 y0])),(.T 3,.t (.val false [.str y1]))] => some (okO (g_Lw_markText_0 (y0,y1)),(.leaf (.exit 0) [(.T 3,.t (.val false [.str (valO (g_Lw_markText_0 (y0,y1)))]))]))
 | b,h => Ow_markText_0 b h
theorem bw_markText_0 (y0:Int) (y1:ByteArray):Tr.bt Ew_markText Ow_markText_0 (exec Ew_markText 0 cw_markText_0 (St.of (hw_markText_0 y0 y1)) (leafRd Ew_markText 0)) = (g_Sw_markText_0 (y0,y1)).bt (fun ((y0,y1):Int×ByteArray) => (hw_markText_0 y0 y1)) (xw_markText_0) := by kernel_rfl
theorem kw_markText_1:OrcOk Ew_markText Ow_markText_1 lsw_markText 1 := orc_add kw_markText_0 (fun n p hp h ex h' ho => by
 obtain ⟨b,c⟩ := p
 obtain ⟨xt,h1,h2⟩ := ho
 have h1:Ow_markText_1 b h = some (true,xt) := h1
 unfold Ow_markText_1 at h1
 split at h1
 ·injection h1 with h1
  injection h1 with e1 e2
  subst e2
  have hc:c = cw_markText_0 := mw_markText_0 _ hp rfl
  subst hc
  right
  rename_i y0 y1
  have key := LT_step kw_markText_0 hp (fun q hq => loopsAll_in _ _ _ _ hp hq) (fun ((y0,y1):Int×ByteArray) => (hw_markText_0 y0 y1)) (xw_markText_0) (g_Sw_markText_0) (fun x => by first | exact bw_markText_0 x.1 x.2) n (x := (y0,y1)) (okO_some e1)
  have hx:∀ r,XT.sel (.leaf (.exit 0) [(.T 3,.t (.val false [.str r]))]) = xw_markText_0 r := fun r => by first | rfl | (rcases r with r | r <;> rfl) | (rcases r with r | r | r <;> rfl) | (rcases r with r | r | r | r <;> rfl)
  have h3 := (hx (valO (g_Lw_markText_0 (y0,y1)))).symm.trans h2
  have e3 := congrArg Prod.fst h3
  have e4 := congrArg Prod.snd h3
  simp only at e3 e4
  rw [← e3,← e4]
  exact key
 ·exact .inl ⟨xt,h1,h2⟩)
noncomputable def g_Aw_markText (a0:Int):Bool := decide (a0 ≤ (0:Int)) || okO (g_Lw_markText_0 (a0,lit []))&&decide (nat_lit 1 + ByteArray.size (valO (g_Lw_markText_0 (a0,lit []))) ≤ nat_lit 9223372036854775807)
noncomputable def g_Vw_markText_0 (a0:Int):ByteArray := bif decide (a0 ≤ (0:Int)) then lit [(109:Nat),(48:Nat)] else lit [(109:Nat)] ++ valO (g_Lw_markText_0 (a0,lit []))
noncomputable def Fw_markText:FSem := fun ys => match ys with
 | [.val false [.int .i64 a0]] => some ((g_Aw_markText a0),.val false [.str (g_Vw_markText_0 a0)],[])
 | _ => none
theorem vw_markText (a0:Int):collapseH .std Ew_markText Ow_markText_1 (execFn Ew_markText Tryd.f56 msw_markText [.val false [.int .i64 a0]]) = some ((g_Aw_markText a0),.val false [.str (g_Vw_markText_0 a0)],[]) := by kernel_rfl
theorem sw_markText:Sound Tryd.prog 56 msw_markText Fw_markText := by
 refine fn_gen goodw_markText (by kernel_rfl) .std (fn := Tryd.f56) (c := (Tryd.f56.body.getD .skip)) (o := Ow_markText_1) (k := 1) (by kernel_rfl) (by kernel_rfl) (by kernel_rfl) (by kernel_rfl) (by decide) kw_markText_1 ?_
 intro ys r outs h
 unfold Fw_markText at h
 split at h
 ·exact (vw_markText _).trans h
 ·cases h
noncomputable def Ew_heldStoWriteS:Env where
 tt := mkTI Tryd.prog
 fn := fun f => match f with
  | 56 => some (msw_markText,FSem.wk msw_markText Fw_markText)
  | 58 => some (msw_heldIntS,FSem.wk msw_heldIntS Fw_heldIntS)
  | _ => none
 bxf := fun _ => none
 mv := []
 keep := fun b => match b with
  | 0 => [(0,false),(1,false),(5,false)]
  | _ => []
 keepB := fun b => match b with
  | 0 => []
  | _ => []
 keepX := fun b => match b with
  | 0 => [(1,false),(4,false)]
  | _ => []
 keepXB := fun b => match b with
  | 0 => []
  | _ => []
theorem goodFw_heldStoWriteS:∀ f ms F,Ew_heldStoWriteS.fn f = some (ms,F) → Sound Tryd.prog f ms F := fun f ms F h => by
 unfold Ew_heldStoWriteS at h
 dsimp only at h
 split at h
 ·injection h with h; injection h with e1 e2; subst e1 e2; exact Sound.wk sw_markText
 ·injection h with h; injection h with e1 e2; subst e1 e2; exact Sound.wk sw_heldIntS
 ·cases h
theorem goodBw_heldStoWriteS:∀ f ms F,Ew_heldStoWriteS.bxf f = some (ms,F) → SoundB Tryd.prog f ms F := fun f ms F h => by cases h
theorem goodw_heldStoWriteS:Good Tryd.prog Ew_heldStoWriteS := ⟨rfl,goodFw_heldStoWriteS,goodBw_heldStoWriteS⟩
noncomputable def Ow_heldStoWriteS_0:Orc := fun _ _ => none
noncomputable def msw_heldStoWriteS:List PM := [.rd,.own]
noncomputable def lsw_heldStoWriteS:List (Nat×Code) := loopsAll 0 (Tryd.f35.body.getD .skip)
noncomputable def cw_heldStoWriteS_0:Code := (loopOf 0 (Tryd.f35.body.getD .skip)).getD .skip
theorem lseqw_heldStoWriteS:lsw_heldStoWriteS = [(0,cw_heldStoWriteS_0)] := by kernel_rfl
theorem mw_heldStoWriteS_0:∀ p,p ∈ lsw_heldStoWriteS → p.1 = 0 → p.2 = cw_heldStoWriteS_0 := by
 intro p hp
 rw [lseqw_heldStoWriteS] at hp
 simp only [List.mem_cons,List.not_mem_nil,or_false] at hp
 subst hp; simp
theorem kw_heldStoWriteS_0:OrcOk Ew_heldStoWriteS Ow_heldStoWriteS_0 lsw_heldStoWriteS 0 := orcOk_none
noncomputable def hw_heldStoWriteS_0 (y0:List (ByteArray×(Bool×(List Int)))) (y1:Int) (y2:Int):List (Pl×LV) := [(.T 0,.t (.val false [.sl .any 64 (.pair .str (.pair .bool (.sl 3 (.int .i64)))) y0])),(.T 1,.t (.val false [.int .i64 y1])),(.T 5,.t (.val false [.int .i64 y2]))]
noncomputable def g_Sw_heldStoWriteS_0 (y0:List (ByteArray×(Bool×(List Int)))):(Int×Int) → RT (Int×Int) ((Int×Int) ⊕ (Int))
 | (y1,y2) => .br (true) (.br (decide (y2 < (↑(List.length y0):Int))) (.br (decide ((0:Int) ≤ y2 ∧ y2 < (↑(List.length y0):Int))) (.br (g_Aw_markText y1) (.br (true) (.br (!ByteArray.toList (at_ (Ty.pair Ty.str (Ty.pair Ty.bool (Ty.sl (nat_lit 3) (Ty.int IntKind.i64)))) y0 (Int.toNat y2)).1 == ByteArray.toList (g_Vw_markText_0 y1)) (.out (.inl ((y1,(-1:Int))))) (.br (true) (.br (decide ((0:Int) ≤ y2 ∧ y2 < (↑(List.length y0):Int))) (.br (true) (.br (true) (.br (!(at_ (Ty.pair Ty.str (Ty.pair Ty.bool (Ty.sl (nat_lit 3) (Ty.int IntKind.i64)))) y0 (Int.toNat y2)).2.1 == (Int.tmod (IntKind.wrap IntKind.i64 (y1 + (1:Int))) (3:Int) == (0:Int))) (.out (.inl ((IntKind.wrap IntKind.i64 (y1 + (1:Int)),(-1:Int))))) (.br (true) (.br (decide ((0:Int) ≤ y2 ∧ y2 < (↑(List.length y0):Int))) (.br (g_Aw_heldIntS (at_ (Ty.pair Ty.str (Ty.pair Ty.bool (Ty.sl (nat_lit 3) (Ty.int IntKind.i64)))) y0 (Int.toNat y2)).2.2 (IntKind.wrap IntKind.i64 (IntKind.wrap IntKind.i64 (y1 + (1:Int)) + (1:Int)))) (.br (true) (.br (decide (g_Vw_heldIntS_0 (at_ (Ty.pair Ty.str (Ty.pair Ty.bool (Ty.sl (nat_lit 3) (Ty.int IntKind.i64)))) y0 (Int.toNat y2)).2.2 (IntKind.wrap IntKind.i64 (IntKind.wrap IntKind.i64 (y1 + (1:Int)) + (1:Int))) < (0:Int))) (.out (.inl ((g_Vw_heldIntS_0 (at_ (Ty.pair Ty.str (Ty.pair Ty.bool (Ty.sl (nat_lit 3) (Ty.int IntKind.i64)))) y0 (Int.toNat y2)).2.2 (IntKind.wrap IntKind.i64 (IntKind.wrap IntKind.i64 (y1 + (1:Int)) + (1:Int))),(-1:Int))))) (.br (true) (.go ((g_Vw_heldIntS_0 (at_ (Ty.pair Ty.str (Ty.pair Ty.bool (Ty.sl (nat_lit 3) (Ty.int IntKind.i64)))) y0 (Int.toNat y2)).2.2 (IntKind.wrap IntKind.i64 (IntKind.wrap IntKind.i64 (y1 + (1:Int)) + (1:Int))),IntKind.wrap IntKind.i64 (y2 + (1:Int))))) .bad)) .bad) .bad) .bad) .bad)) .bad) .bad) .bad) .bad)) .bad) .bad) .bad) (.out (.inr (y1)))) .bad
noncomputable def g_Lw_heldStoWriteS_0 (y0:List (ByteArray×(Bool×(List Int)))) (x:Int×Int):Option ((Int×Int) ⊕ (Int)) := loopO (g_Sw_heldStoWriteS_0 y0) x
noncomputable def xw_heldStoWriteS_0 (y0:List (ByteArray×(Bool×(List Int)))):((Int×Int) ⊕ (Int)) → Ex×List (Pl×LV) := fun
 | .inl r => (.ret,[(.T 1,.t (.val false [.int .i64 r.1])),(.T 4,.t (.val false [.int .i64 r.2]))])
 | .inr (r) => (.exit 0,[(.T 1,.t (.val false [.int .i64 r])),(.T 4,.t (.val false [.undef]))])
noncomputable def Ow_heldStoWriteS_1:Orc := fun b h => match b,h with
 | 0,[(.T 0,.t (.val false [.sl .any 64 (.pair .str (.pair .bool (.sl 3 (.int .i64)))) y0])),(.T 1,.t (.val false [.int .i64 y1])),(.T 5,.t (.val false [.int .i64 y2]))] => some (okO (g_Lw_heldStoWriteS_0 y0 (y1,y2)),(.br (isL (valO (g_Lw_heldStoWriteS_0 y0 (y1,y2)))) (.leaf .ret [(.T 1,.t (.val false [.int .i64 (getL (valO (g_Lw_heldStoWriteS_0 y0 (y1,y2)))).1])),(.T 4,.t (.val false [.int .i64 (getL (valO (g_Lw_heldStoWriteS_0 y0 (y1,y2)))).2]))]) (.leaf (.exit 0) [(.T 1,.t (.val false [.int .i64 (getR (valO (g_Lw_heldStoWriteS_0 y0 (y1,y2))))])),(.T 4,.t (.val false [.undef]))])))
 | b,h => Ow_heldStoWriteS_0 b h
theorem bw_heldStoWriteS_0 (y0:List (ByteArray×(Bool×(List Int)))) (y1:Int) (y2:Int):Tr.bt Ew_heldStoWriteS Ow_heldStoWriteS_0 (exec Ew_heldStoWriteS 0 cw_heldStoWriteS_0 (St.of (hw_heldStoWriteS_0 y0 y1 y2)) (leafRd Ew_heldStoWriteS 0)) = (g_Sw_heldStoWriteS_0 y0 (y1,y2)).bt (fun ((y1,y2):Int×Int) => (hw_heldStoWriteS_0 y0 y1 y2)) (xw_heldStoWriteS_0 y0) := by kernel_rfl
theorem kw_heldStoWriteS_1:OrcOk Ew_heldStoWriteS Ow_heldStoWriteS_1 lsw_heldStoWriteS 1 := orc_add kw_heldStoWriteS_0 (fun n p hp h ex h' ho => by
 obtain ⟨b,c⟩ := p
 obtain ⟨xt,h1,h2⟩ := ho
 have h1:Ow_heldStoWriteS_1 b h = some (true,xt) := h1
 unfold Ow_heldStoWriteS_1 at h1
 split at h1
 ·injection h1 with h1
  injection h1 with e1 e2
  subst e2
  have hc:c = cw_heldStoWriteS_0 := mw_heldStoWriteS_0 _ hp rfl
  subst hc
  right
  rename_i y0 y1 y2
  have key := LT_step kw_heldStoWriteS_0 hp (fun q hq => loopsAll_in _ _ _ _ hp hq) (fun ((y1,y2):Int×Int) => (hw_heldStoWriteS_0 y0 y1 y2)) (xw_heldStoWriteS_0 y0) (g_Sw_heldStoWriteS_0 y0) (fun x => by first | exact bw_heldStoWriteS_0 y0 x.1 x.2) n (x := (y1,y2)) (okO_some e1)
  have hx:∀ r,XT.sel (.br (isL r) (.leaf .ret [(.T 1,.t (.val false [.int .i64 (getL r).1])),(.T 4,.t (.val false [.int .i64 (getL r).2]))]) (.leaf (.exit 0) [(.T 1,.t (.val false [.int .i64 (getR r)])),(.T 4,.t (.val false [.undef]))])) = xw_heldStoWriteS_0 y0 r := fun r => by first | rfl | (rcases r with r | r <;> rfl) | (rcases r with r | r | r <;> rfl) | (rcases r with r | r | r | r <;> rfl)
  have h3 := (hx (valO (g_Lw_heldStoWriteS_0 y0 (y1,y2)))).symm.trans h2
  have e3 := congrArg Prod.fst h3
  have e4 := congrArg Prod.snd h3
  simp only at e3 e4
  rw [← e3,← e4]
  exact key
 ·exact .inl ⟨xt,h1,h2⟩)
noncomputable def g_Aw_heldStoWriteS (a0:List (ByteArray×(Bool×(List Int)))) (a1:Int):Bool := okO (g_Lw_heldStoWriteS_0 a0 (a1,(0:Int)))
noncomputable def g_Vw_heldStoWriteS_0 (a0:List (ByteArray×(Bool×(List Int)))) (a1:Int):Int := bif isL (valO (g_Lw_heldStoWriteS_0 a0 (a1,(0:Int)))) then (getL (valO (g_Lw_heldStoWriteS_0 a0 (a1,(0:Int))))).2 else getR (valO (g_Lw_heldStoWriteS_0 a0 (a1,(0:Int))))
noncomputable def Fw_heldStoWriteS:FSem := fun ys => match ys with
 | [.val false [.sl .any 64 (.pair .str (.pair .bool (.sl 3 (.int .i64)))) a0],.val false [.int .i64 a1]] => some ((g_Aw_heldStoWriteS a0 a1),.val false [.int .i64 (g_Vw_heldStoWriteS_0 a0 a1)],[])
 | _ => none
theorem vw_heldStoWriteS (a0:List (ByteArray×(Bool×(List Int)))) (a1:Int):collapseH .std Ew_heldStoWriteS Ow_heldStoWriteS_1 (execFn Ew_heldStoWriteS Tryd.f35 msw_heldStoWriteS [.val false [.sl .any 64 (.pair .str (.pair .bool (.sl 3 (.int .i64)))) a0],.val false [.int .i64 a1]]) = some ((g_Aw_heldStoWriteS a0 a1),.val false [.int .i64 (g_Vw_heldStoWriteS_0 a0 a1)],[]) := by kernel_rfl
theorem sw_heldStoWriteS:Sound Tryd.prog 35 msw_heldStoWriteS Fw_heldStoWriteS := by
 refine fn_gen goodw_heldStoWriteS (by kernel_rfl) .std (fn := Tryd.f35) (c := (Tryd.f35.body.getD .skip)) (o := Ow_heldStoWriteS_1) (k := 1) (by kernel_rfl) (by kernel_rfl) (by kernel_rfl) (by kernel_rfl) (by decide) kw_heldStoWriteS_1 ?_
 intro ys r outs h
 unfold Fw_heldStoWriteS at h
 split at h
 ·exact (vw_heldStoWriteS _ _).trans h
 ·cases h
noncomputable def Ew_heldStringS:Env where
 tt := mkTI Tryd.prog
 fn := fun f => match f with
  | 56 => some (msw_markText,FSem.wk msw_markText Fw_markText)
  | _ => none
 bxf := fun _ => none
 mv := []
 keep := fun b => match b with
  | 0 => [(0,false),(1,false),(5,false)]
  | _ => []
 keepB := fun b => match b with
  | 0 => []
  | _ => []
 keepX := fun b => match b with
  | 0 => [(1,false),(4,false)]
  | _ => []
 keepXB := fun b => match b with
  | 0 => []
  | _ => []
theorem goodFw_heldStringS:∀ f ms F,Ew_heldStringS.fn f = some (ms,F) → Sound Tryd.prog f ms F := fun f ms F h => by
 unfold Ew_heldStringS at h
 dsimp only at h
 split at h
 ·injection h with h; injection h with e1 e2; subst e1 e2; exact Sound.wk sw_markText
 ·cases h
theorem goodBw_heldStringS:∀ f ms F,Ew_heldStringS.bxf f = some (ms,F) → SoundB Tryd.prog f ms F := fun f ms F h => by cases h
theorem goodw_heldStringS:Good Tryd.prog Ew_heldStringS := ⟨rfl,goodFw_heldStringS,goodBw_heldStringS⟩
noncomputable def Ow_heldStringS_0:Orc := fun _ _ => none
noncomputable def msw_heldStringS:List PM := [.rd,.own]
noncomputable def lsw_heldStringS:List (Nat×Code) := loopsAll 0 (Tryd.f34.body.getD .skip)
noncomputable def cw_heldStringS_0:Code := (loopOf 0 (Tryd.f34.body.getD .skip)).getD .skip
theorem lseqw_heldStringS:lsw_heldStringS = [(0,cw_heldStringS_0)] := by kernel_rfl
theorem mw_heldStringS_0:∀ p,p ∈ lsw_heldStringS → p.1 = 0 → p.2 = cw_heldStringS_0 := by
 intro p hp
 rw [lseqw_heldStringS] at hp
 simp only [List.mem_cons,List.not_mem_nil,or_false] at hp
 subst hp; simp
theorem kw_heldStringS_0:OrcOk Ew_heldStringS Ow_heldStringS_0 lsw_heldStringS 0 := orcOk_none
noncomputable def hw_heldStringS_0 (y0:List ByteArray) (y1:Int) (y2:Int):List (Pl×LV) := [(.T 0,.t (.val false [.sl .any 9 .str y0])),(.T 1,.t (.val false [.int .i64 y1])),(.T 5,.t (.val false [.int .i64 y2]))]
noncomputable def g_Sw_heldStringS_0 (y0:List ByteArray):(Int×Int) → RT (Int×Int) ((Int×Int) ⊕ (Int))
 | (y1,y2) => .br (true) (.br (decide (y2 < (↑(List.length y0):Int))) (.br (decide ((0:Int) ≤ y2 ∧ y2 < (↑(List.length y0):Int))) (.br (g_Aw_markText y1) (.br (true) (.br (!ByteArray.toList (at_ Ty.str y0 (Int.toNat y2)) == ByteArray.toList (g_Vw_markText_0 y1)) (.out (.inl ((y1,(-1:Int))))) (.br (true) (.br (true) (.go ((IntKind.wrap IntKind.i64 (y1 + (1:Int)),IntKind.wrap IntKind.i64 (y2 + (1:Int))))) .bad) .bad)) .bad) .bad) .bad) (.out (.inr (y1)))) .bad
noncomputable def g_Lw_heldStringS_0 (y0:List ByteArray) (x:Int×Int):Option ((Int×Int) ⊕ (Int)) := loopO (g_Sw_heldStringS_0 y0) x
noncomputable def xw_heldStringS_0 (y0:List ByteArray):((Int×Int) ⊕ (Int)) → Ex×List (Pl×LV) := fun
 | .inl r => (.ret,[(.T 1,.t (.val false [.int .i64 r.1])),(.T 4,.t (.val false [.int .i64 r.2]))])
 | .inr (r) => (.exit 0,[(.T 1,.t (.val false [.int .i64 r])),(.T 4,.t (.val false [.undef]))])
noncomputable def Ow_heldStringS_1:Orc := fun b h => match b,h with
 | 0,[(.T 0,.t (.val false [.sl .any 9 .str y0])),(.T 1,.t (.val false [.int .i64 y1])),(.T 5,.t (.val false [.int .i64 y2]))] => some (okO (g_Lw_heldStringS_0 y0 (y1,y2)),(.br (isL (valO (g_Lw_heldStringS_0 y0 (y1,y2)))) (.leaf .ret [(.T 1,.t (.val false [.int .i64 (getL (valO (g_Lw_heldStringS_0 y0 (y1,y2)))).1])),(.T 4,.t (.val false [.int .i64 (getL (valO (g_Lw_heldStringS_0 y0 (y1,y2)))).2]))]) (.leaf (.exit 0) [(.T 1,.t (.val false [.int .i64 (getR (valO (g_Lw_heldStringS_0 y0 (y1,y2))))])),(.T 4,.t (.val false [.undef]))])))
 | b,h => Ow_heldStringS_0 b h
theorem bw_heldStringS_0 (y0:List ByteArray) (y1:Int) (y2:Int):Tr.bt Ew_heldStringS Ow_heldStringS_0 (exec Ew_heldStringS 0 cw_heldStringS_0 (St.of (hw_heldStringS_0 y0 y1 y2)) (leafRd Ew_heldStringS 0)) = (g_Sw_heldStringS_0 y0 (y1,y2)).bt (fun ((y1,y2):Int×Int) => (hw_heldStringS_0 y0 y1 y2)) (xw_heldStringS_0 y0) := by kernel_rfl
theorem kw_heldStringS_1:OrcOk Ew_heldStringS Ow_heldStringS_1 lsw_heldStringS 1 := orc_add kw_heldStringS_0 (fun n p hp h ex h' ho => by
 obtain ⟨b,c⟩ := p
 obtain ⟨xt,h1,h2⟩ := ho
 have h1:Ow_heldStringS_1 b h = some (true,xt) := h1
 unfold Ow_heldStringS_1 at h1
 split at h1
 ·injection h1 with h1
  injection h1 with e1 e2
  subst e2
  have hc:c = cw_heldStringS_0 := mw_heldStringS_0 _ hp rfl
  subst hc
  right
  rename_i y0 y1 y2
  have key := LT_step kw_heldStringS_0 hp (fun q hq => loopsAll_in _ _ _ _ hp hq) (fun ((y1,y2):Int×Int) => (hw_heldStringS_0 y0 y1 y2)) (xw_heldStringS_0 y0) (g_Sw_heldStringS_0 y0) (fun x => by first | exact bw_heldStringS_0 y0 x.1 x.2) n (x := (y1,y2)) (okO_some e1)
  have hx:∀ r,XT.sel (.br (isL r) (.leaf .ret [(.T 1,.t (.val false [.int .i64 (getL r).1])),(.T 4,.t (.val false [.int .i64 (getL r).2]))]) (.leaf (.exit 0) [(.T 1,.t (.val false [.int .i64 (getR r)])),(.T 4,.t (.val false [.undef]))])) = xw_heldStringS_0 y0 r := fun r => by first | rfl | (rcases r with r | r <;> rfl) | (rcases r with r | r | r <;> rfl) | (rcases r with r | r | r | r <;> rfl)
  have h3 := (hx (valO (g_Lw_heldStringS_0 y0 (y1,y2)))).symm.trans h2
  have e3 := congrArg Prod.fst h3
  have e4 := congrArg Prod.snd h3
  simp only at e3 e4
  rw [← e3,← e4]
  exact key
 ·exact .inl ⟨xt,h1,h2⟩)
noncomputable def g_Aw_heldStringS (a0:List ByteArray) (a1:Int):Bool := okO (g_Lw_heldStringS_0 a0 (a1,(0:Int)))
noncomputable def g_Vw_heldStringS_0 (a0:List ByteArray) (a1:Int):Int := bif isL (valO (g_Lw_heldStringS_0 a0 (a1,(0:Int)))) then (getL (valO (g_Lw_heldStringS_0 a0 (a1,(0:Int))))).2 else getR (valO (g_Lw_heldStringS_0 a0 (a1,(0:Int))))
noncomputable def Fw_heldStringS:FSem := fun ys => match ys with
 | [.val false [.sl .any 9 .str a0],.val false [.int .i64 a1]] => some ((g_Aw_heldStringS a0 a1),.val false [.int .i64 (g_Vw_heldStringS_0 a0 a1)],[])
 | _ => none
theorem vw_heldStringS (a0:List ByteArray) (a1:Int):collapseH .std Ew_heldStringS Ow_heldStringS_1 (execFn Ew_heldStringS Tryd.f34 msw_heldStringS [.val false [.sl .any 9 .str a0],.val false [.int .i64 a1]]) = some ((g_Aw_heldStringS a0 a1),.val false [.int .i64 (g_Vw_heldStringS_0 a0 a1)],[]) := by kernel_rfl
theorem sw_heldStringS:Sound Tryd.prog 34 msw_heldStringS Fw_heldStringS := by
 refine fn_gen goodw_heldStringS (by kernel_rfl) .std (fn := Tryd.f34) (c := (Tryd.f34.body.getD .skip)) (o := Ow_heldStringS_1) (k := 1) (by kernel_rfl) (by kernel_rfl) (by kernel_rfl) (by kernel_rfl) (by decide) kw_heldStringS_1 ?_
 intro ys r outs h
 unfold Fw_heldStringS at h
 split at h
 ·exact (vw_heldStringS _ _).trans h
 ·cases h
noncomputable def Ew_heldLogNoteS:Env where
 tt := mkTI Tryd.prog
 fn := fun f => match f with
  | 34 => some (msw_heldStringS,FSem.wk msw_heldStringS Fw_heldStringS)
  | 35 => some (msw_heldStoWriteS,FSem.wk msw_heldStoWriteS Fw_heldStoWriteS)
  | _ => none
 bxf := fun _ => none
 mv := []
 keep := fun b => match b with
  | 0 => [(0,false),(1,false),(5,false)]
  | _ => []
 keepB := fun b => match b with
  | 0 => []
  | _ => []
 keepX := fun b => match b with
  | 0 => [(1,false),(4,false)]
  | _ => []
 keepXB := fun b => match b with
  | 0 => []
  | _ => []
theorem goodFw_heldLogNoteS:∀ f ms F,Ew_heldLogNoteS.fn f = some (ms,F) → Sound Tryd.prog f ms F := fun f ms F h => by
 unfold Ew_heldLogNoteS at h
 dsimp only at h
 split at h
 ·injection h with h; injection h with e1 e2; subst e1 e2; exact Sound.wk sw_heldStringS
 ·injection h with h; injection h with e1 e2; subst e1 e2; exact Sound.wk sw_heldStoWriteS
 ·cases h
theorem goodBw_heldLogNoteS:∀ f ms F,Ew_heldLogNoteS.bxf f = some (ms,F) → SoundB Tryd.prog f ms F := fun f ms F h => by cases h
theorem goodw_heldLogNoteS:Good Tryd.prog Ew_heldLogNoteS := ⟨rfl,goodFw_heldLogNoteS,goodBw_heldLogNoteS⟩
noncomputable def Ow_heldLogNoteS_0:Orc := fun _ _ => none
noncomputable def msw_heldLogNoteS:List PM := [.rd,.own]
noncomputable def lsw_heldLogNoteS:List (Nat×Code) := loopsAll 0 (Tryd.f20.body.getD .skip)
noncomputable def cw_heldLogNoteS_0:Code := (loopOf 0 (Tryd.f20.body.getD .skip)).getD .skip
theorem lseqw_heldLogNoteS:lsw_heldLogNoteS = [(0,cw_heldLogNoteS_0)] := by kernel_rfl
theorem mw_heldLogNoteS_0:∀ p,p ∈ lsw_heldLogNoteS → p.1 = 0 → p.2 = cw_heldLogNoteS_0 := by
 intro p hp
 rw [lseqw_heldLogNoteS] at hp
 simp only [List.mem_cons,List.not_mem_nil,or_false] at hp
 subst hp; simp
theorem kw_heldLogNoteS_0:OrcOk Ew_heldLogNoteS Ow_heldLogNoteS_0 lsw_heldLogNoteS 0 := orcOk_none
noncomputable def hw_heldLogNoteS_0 (y0:List (Int×(Int×((List ByteArray)×(List (ByteArray×(Bool×(List Int)))))))) (y1:Int) (y2:Int):List (Pl×LV) := [(.T 0,.t (.val false [.sl .any 43 (.pair (.int .i64) (.pair (.int .i64) (.pair (.sl 9 .str) (.sl 64 (.pair .str (.pair .bool (.sl 3 (.int .i64)))))))) y0])),(.T 1,.t (.val false [.int .i64 y1])),(.T 5,.t (.val false [.int .i64 y2]))]
noncomputable def g_Sw_heldLogNoteS_0 (y0:List (Int×(Int×((List ByteArray)×(List (ByteArray×(Bool×(List Int)))))))):(Int×Int) → RT (Int×Int) ((Int×Int) ⊕ (Int))
 | (y1,y2) => .br (true) (.br (decide (y2 < (↑(List.length y0):Int))) (.br (decide ((0:Int) ≤ y2 ∧ y2 < (↑(List.length y0):Int))) (.br (true) (.br ((at_ (Ty.pair (Ty.int IntKind.i64) (Ty.pair (Ty.int IntKind.i64) (Ty.pair (Ty.sl (nat_lit 9) Ty.str) (Ty.sl (nat_lit 64) (Ty.pair Ty.str (Ty.pair Ty.bool (Ty.sl (nat_lit 3) (Ty.int IntKind.i64)))))))) y0 (Int.toNat y2)).1 != y1) (.out (.inl ((y1,(-1:Int))))) (.br (true) (.br (decide ((0:Int) ≤ y2 ∧ y2 < (↑(List.length y0):Int))) (.br (true) (.br ((at_ (Ty.pair (Ty.int IntKind.i64) (Ty.pair (Ty.int IntKind.i64) (Ty.pair (Ty.sl (nat_lit 9) Ty.str) (Ty.sl (nat_lit 64) (Ty.pair Ty.str (Ty.pair Ty.bool (Ty.sl (nat_lit 3) (Ty.int IntKind.i64)))))))) y0 (Int.toNat y2)).2.1 != IntKind.wrap IntKind.i64 (y1 + (1:Int))) (.out (.inl ((IntKind.wrap IntKind.i64 (y1 + (1:Int)),(-1:Int))))) (.br (true) (.br (decide ((0:Int) ≤ y2 ∧ y2 < (↑(List.length y0):Int))) (.br (g_Aw_heldStringS (at_ (Ty.pair (Ty.int IntKind.i64) (Ty.pair (Ty.int IntKind.i64) (Ty.pair (Ty.sl (nat_lit 9) Ty.str) (Ty.sl (nat_lit 64) (Ty.pair Ty.str (Ty.pair Ty.bool (Ty.sl (nat_lit 3) (Ty.int IntKind.i64)))))))) y0 (Int.toNat y2)).2.2.1 (IntKind.wrap IntKind.i64 (IntKind.wrap IntKind.i64 (y1 + (1:Int)) + (1:Int)))) (.br (true) (.br (decide (g_Vw_heldStringS_0 (at_ (Ty.pair (Ty.int IntKind.i64) (Ty.pair (Ty.int IntKind.i64) (Ty.pair (Ty.sl (nat_lit 9) Ty.str) (Ty.sl (nat_lit 64) (Ty.pair Ty.str (Ty.pair Ty.bool (Ty.sl (nat_lit 3) (Ty.int IntKind.i64)))))))) y0 (Int.toNat y2)).2.2.1 (IntKind.wrap IntKind.i64 (IntKind.wrap IntKind.i64 (y1 + (1:Int)) + (1:Int))) < (0:Int))) (.out (.inl ((g_Vw_heldStringS_0 (at_ (Ty.pair (Ty.int IntKind.i64) (Ty.pair (Ty.int IntKind.i64) (Ty.pair (Ty.sl (nat_lit 9) Ty.str) (Ty.sl (nat_lit 64) (Ty.pair Ty.str (Ty.pair Ty.bool (Ty.sl (nat_lit 3) (Ty.int IntKind.i64)))))))) y0 (Int.toNat y2)).2.2.1 (IntKind.wrap IntKind.i64 (IntKind.wrap IntKind.i64 (y1 + (1:Int)) + (1:Int))),(-1:Int))))) (.br (decide ((0:Int) ≤ y2 ∧ y2 < (↑(List.length y0):Int))) (.br (g_Aw_heldStoWriteS (at_ (Ty.pair (Ty.int IntKind.i64) (Ty.pair (Ty.int IntKind.i64) (Ty.pair (Ty.sl (nat_lit 9) Ty.str) (Ty.sl (nat_lit 64) (Ty.pair Ty.str (Ty.pair Ty.bool (Ty.sl (nat_lit 3) (Ty.int IntKind.i64)))))))) y0 (Int.toNat y2)).2.2.2 (g_Vw_heldStringS_0 (at_ (Ty.pair (Ty.int IntKind.i64) (Ty.pair (Ty.int IntKind.i64) (Ty.pair (Ty.sl (nat_lit 9) Ty.str) (Ty.sl (nat_lit 64) (Ty.pair Ty.str (Ty.pair Ty.bool (Ty.sl (nat_lit 3) (Ty.int IntKind.i64)))))))) y0 (Int.toNat y2)).2.2.1 (IntKind.wrap IntKind.i64 (IntKind.wrap IntKind.i64 (y1 + (1:Int)) + (1:Int))))) (.br (true) (.br (decide (g_Vw_heldStoWriteS_0 (at_ (Ty.pair (Ty.int IntKind.i64) (Ty.pair (Ty.int IntKind.i64) (Ty.pair (Ty.sl (nat_lit 9) Ty.str) (Ty.sl (nat_lit 64) (Ty.pair Ty.str (Ty.pair Ty.bool (Ty.sl (nat_lit 3) (Ty.int IntKind.i64)))))))) y0 (Int.toNat y2)).2.2.2 (g_Vw_heldStringS_0 (at_ (Ty.pair (Ty.int IntKind.i64) (Ty.pair (Ty.int IntKind.i64) (Ty.pair (Ty.sl (nat_lit 9) Ty.str) (Ty.sl (nat_lit 64) (Ty.pair Ty.str (Ty.pair Ty.bool (Ty.sl (nat_lit 3) (Ty.int IntKind.i64)))))))) y0 (Int.toNat y2)).2.2.1 (IntKind.wrap IntKind.i64 (IntKind.wrap IntKind.i64 (y1 + (1:Int)) + (1:Int)))) < (0:Int))) (.out (.inl ((g_Vw_heldStoWriteS_0 (at_ (Ty.pair (Ty.int IntKind.i64) (Ty.pair (Ty.int IntKind.i64) (Ty.pair (Ty.sl (nat_lit 9) Ty.str) (Ty.sl (nat_lit 64) (Ty.pair Ty.str (Ty.pair Ty.bool (Ty.sl (nat_lit 3) (Ty.int IntKind.i64)))))))) y0 (Int.toNat y2)).2.2.2 (g_Vw_heldStringS_0 (at_ (Ty.pair (Ty.int IntKind.i64) (Ty.pair (Ty.int IntKind.i64) (Ty.pair (Ty.sl (nat_lit 9) Ty.str) (Ty.sl (nat_lit 64) (Ty.pair Ty.str (Ty.pair Ty.bool (Ty.sl (nat_lit 3) (Ty.int IntKind.i64)))))))) y0 (Int.toNat y2)).2.2.1 (IntKind.wrap IntKind.i64 (IntKind.wrap IntKind.i64 (y1 + (1:Int)) + (1:Int)))),(-1:Int))))) (.br (true) (.go ((g_Vw_heldStoWriteS_0 (at_ (Ty.pair (Ty.int IntKind.i64) (Ty.pair (Ty.int IntKind.i64) (Ty.pair (Ty.sl (nat_lit 9) Ty.str) (Ty.sl (nat_lit 64) (Ty.pair Ty.str (Ty.pair Ty.bool (Ty.sl (nat_lit 3) (Ty.int IntKind.i64)))))))) y0 (Int.toNat y2)).2.2.2 (g_Vw_heldStringS_0 (at_ (Ty.pair (Ty.int IntKind.i64) (Ty.pair (Ty.int IntKind.i64) (Ty.pair (Ty.sl (nat_lit 9) Ty.str) (Ty.sl (nat_lit 64) (Ty.pair Ty.str (Ty.pair Ty.bool (Ty.sl (nat_lit 3) (Ty.int IntKind.i64)))))))) y0 (Int.toNat y2)).2.2.1 (IntKind.wrap IntKind.i64 (IntKind.wrap IntKind.i64 (y1 + (1:Int)) + (1:Int)))),IntKind.wrap IntKind.i64 (y2 + (1:Int))))) .bad)) .bad) .bad) .bad)) .bad) .bad) .bad) .bad)) .bad) .bad) .bad)) .bad) .bad) (.out (.inr (y1)))) .bad
noncomputable def g_Lw_heldLogNoteS_0 (y0:List (Int×(Int×((List ByteArray)×(List (ByteArray×(Bool×(List Int)))))))) (x:Int×Int):Option ((Int×Int) ⊕ (Int)) := loopO (g_Sw_heldLogNoteS_0 y0) x
noncomputable def xw_heldLogNoteS_0 (y0:List (Int×(Int×((List ByteArray)×(List (ByteArray×(Bool×(List Int)))))))):((Int×Int) ⊕ (Int)) → Ex×List (Pl×LV) := fun
 | .inl r => (.ret,[(.T 1,.t (.val false [.int .i64 r.1])),(.T 4,.t (.val false [.int .i64 r.2]))])
 | .inr (r) => (.exit 0,[(.T 1,.t (.val false [.int .i64 r])),(.T 4,.t (.val false [.undef]))])
noncomputable def Ow_heldLogNoteS_1:Orc := fun b h => match b,h with
 | 0,[(.T 0,.t (.val false [.sl .any 43 (.pair (.int .i64) (.pair (.int .i64) (.pair (.sl 9 .str) (.sl 64 (.pair .str (.pair .bool (.sl 3 (.int .i64)))))))) y0])),(.T 1,.t (.val false [.int .i64 y1])),(.T 5,.t (.val false [.int .i64 y2]))] => some (okO (g_Lw_heldLogNoteS_0 y0 (y1,y2)),(.br (isL (valO (g_Lw_heldLogNoteS_0 y0 (y1,y2)))) (.leaf .ret [(.T 1,.t (.val false [.int .i64 (getL (valO (g_Lw_heldLogNoteS_0 y0 (y1,y2)))).1])),(.T 4,.t (.val false [.int .i64 (getL (valO (g_Lw_heldLogNoteS_0 y0 (y1,y2)))).2]))]) (.leaf (.exit 0) [(.T 1,.t (.val false [.int .i64 (getR (valO (g_Lw_heldLogNoteS_0 y0 (y1,y2))))])),(.T 4,.t (.val false [.undef]))])))
 | b,h => Ow_heldLogNoteS_0 b h
theorem bw_heldLogNoteS_0 (y0:List (Int×(Int×((List ByteArray)×(List (ByteArray×(Bool×(List Int)))))))) (y1:Int) (y2:Int):Tr.bt Ew_heldLogNoteS Ow_heldLogNoteS_0 (exec Ew_heldLogNoteS 0 cw_heldLogNoteS_0 (St.of (hw_heldLogNoteS_0 y0 y1 y2)) (leafRd Ew_heldLogNoteS 0)) = (g_Sw_heldLogNoteS_0 y0 (y1,y2)).bt (fun ((y1,y2):Int×Int) => (hw_heldLogNoteS_0 y0 y1 y2)) (xw_heldLogNoteS_0 y0) := by kernel_rfl
theorem kw_heldLogNoteS_1:OrcOk Ew_heldLogNoteS Ow_heldLogNoteS_1 lsw_heldLogNoteS 1 := orc_add kw_heldLogNoteS_0 (fun n p hp h ex h' ho => by
 obtain ⟨b,c⟩ := p
 obtain ⟨xt,h1,h2⟩ := ho
 have h1:Ow_heldLogNoteS_1 b h = some (true,xt) := h1
 unfold Ow_heldLogNoteS_1 at h1
 split at h1
 ·injection h1 with h1
  injection h1 with e1 e2
  subst e2
  have hc:c = cw_heldLogNoteS_0 := mw_heldLogNoteS_0 _ hp rfl
  subst hc
  right
  rename_i y0 y1 y2
  have key := LT_step kw_heldLogNoteS_0 hp (fun q hq => loopsAll_in _ _ _ _ hp hq) (fun ((y1,y2):Int×Int) => (hw_heldLogNoteS_0 y0 y1 y2)) (xw_heldLogNoteS_0 y0) (g_Sw_heldLogNoteS_0 y0) (fun x => by first | exact bw_heldLogNoteS_0 y0 x.1 x.2) n (x := (y1,y2)) (okO_some e1)
  have hx:∀ r,XT.sel (.br (isL r) (.leaf .ret [(.T 1,.t (.val false [.int .i64 (getL r).1])),(.T 4,.t (.val false [.int .i64 (getL r).2]))]) (.leaf (.exit 0) [(.T 1,.t (.val false [.int .i64 (getR r)])),(.T 4,.t (.val false [.undef]))])) = xw_heldLogNoteS_0 y0 r := fun r => by first | rfl | (rcases r with r | r <;> rfl) | (rcases r with r | r | r <;> rfl) | (rcases r with r | r | r | r <;> rfl)
  have h3 := (hx (valO (g_Lw_heldLogNoteS_0 y0 (y1,y2)))).symm.trans h2
  have e3 := congrArg Prod.fst h3
  have e4 := congrArg Prod.snd h3
  simp only at e3 e4
  rw [← e3,← e4]
  exact key
 ·exact .inl ⟨xt,h1,h2⟩)
noncomputable def g_Aw_heldLogNoteS (a0:List (Int×(Int×((List ByteArray)×(List (ByteArray×(Bool×(List Int)))))))) (a1:Int):Bool := okO (g_Lw_heldLogNoteS_0 a0 (a1,(0:Int)))
noncomputable def g_Vw_heldLogNoteS_0 (a0:List (Int×(Int×((List ByteArray)×(List (ByteArray×(Bool×(List Int)))))))) (a1:Int):Int := bif isL (valO (g_Lw_heldLogNoteS_0 a0 (a1,(0:Int)))) then (getL (valO (g_Lw_heldLogNoteS_0 a0 (a1,(0:Int))))).2 else getR (valO (g_Lw_heldLogNoteS_0 a0 (a1,(0:Int))))
noncomputable def Fw_heldLogNoteS:FSem := fun ys => match ys with
 | [.val false [.sl .any 43 (.pair (.int .i64) (.pair (.int .i64) (.pair (.sl 9 .str) (.sl 64 (.pair .str (.pair .bool (.sl 3 (.int .i64)))))))) a0],.val false [.int .i64 a1]] => some ((g_Aw_heldLogNoteS a0 a1),.val false [.int .i64 (g_Vw_heldLogNoteS_0 a0 a1)],[])
 | _ => none
theorem vw_heldLogNoteS (a0:List (Int×(Int×((List ByteArray)×(List (ByteArray×(Bool×(List Int)))))))) (a1:Int):collapseH .std Ew_heldLogNoteS Ow_heldLogNoteS_1 (execFn Ew_heldLogNoteS Tryd.f20 msw_heldLogNoteS [.val false [.sl .any 43 (.pair (.int .i64) (.pair (.int .i64) (.pair (.sl 9 .str) (.sl 64 (.pair .str (.pair .bool (.sl 3 (.int .i64)))))))) a0],.val false [.int .i64 a1]]) = some ((g_Aw_heldLogNoteS a0 a1),.val false [.int .i64 (g_Vw_heldLogNoteS_0 a0 a1)],[]) := by kernel_rfl
theorem sw_heldLogNoteS:Sound Tryd.prog 20 msw_heldLogNoteS Fw_heldLogNoteS := by
 refine fn_gen goodw_heldLogNoteS (by kernel_rfl) .std (fn := Tryd.f20) (c := (Tryd.f20.body.getD .skip)) (o := Ow_heldLogNoteS_1) (k := 1) (by kernel_rfl) (by kernel_rfl) (by kernel_rfl) (by kernel_rfl) (by decide) kw_heldLogNoteS_1 ?_
 intro ys r outs h
 unfold Fw_heldLogNoteS at h
 split at h
 ·exact (vw_heldLogNoteS _ _).trans h
 ·cases h
noncomputable def Ew_heldLogDisk:Env where
 tt := mkTI Tryd.prog
 fn := fun f => match f with
  | 20 => some (msw_heldLogNoteS,FSem.wk msw_heldLogNoteS Fw_heldLogNoteS)
  | _ => none
 bxf := fun _ => none
 mv := []
 keep := fun _ => []
 keepB := fun _ => []
 keepX := fun _ => []
 keepXB := fun _ => []
theorem goodFw_heldLogDisk:∀ f ms F,Ew_heldLogDisk.fn f = some (ms,F) → Sound Tryd.prog f ms F := fun f ms F h => by
 unfold Ew_heldLogDisk at h
 dsimp only at h
 split at h
 ·injection h with h; injection h with e1 e2; subst e1 e2; exact Sound.wk sw_heldLogNoteS
 ·cases h
theorem goodBw_heldLogDisk:∀ f ms F,Ew_heldLogDisk.bxf f = some (ms,F) → SoundB Tryd.prog f ms F := fun f ms F h => by cases h
theorem goodw_heldLogDisk:Good Tryd.prog Ew_heldLogDisk := ⟨rfl,goodFw_heldLogDisk,goodBw_heldLogDisk⟩
noncomputable def Ow_heldLogDisk_0:Orc := fun _ _ => none
noncomputable def msw_heldLogDisk:List PM := [.rd,.own]
noncomputable def lsw_heldLogDisk:List (Nat×Code) := loopsAll 0 (Tryd.f10.body.getD .skip)
theorem kw_heldLogDisk_0:OrcOk Ew_heldLogDisk Ow_heldLogDisk_0 lsw_heldLogDisk 0 := orcOk_none
noncomputable def g_Aw_heldLogDisk (a0:List (Int×(Int×((List ByteArray)×(List (ByteArray×(Bool×(List Int)))))))) (a1:Int) (a2:Int):Bool := g_Aw_heldLogNoteS a0 a2&&true
noncomputable def g_Vw_heldLogDisk_0 (a0:List (Int×(Int×((List ByteArray)×(List (ByteArray×(Bool×(List Int)))))))) (a1:Int) (a2:Int):Int := bif decide (g_Vw_heldLogNoteS_0 a0 a2 < (0:Int)) then (-1:Int) else g_Vw_heldLogNoteS_0 a0 a2
noncomputable def Fw_heldLogDisk:FSem := fun ys => match ys with
 | [.val true [.sl .any 43 (.pair (.int .i64) (.pair (.int .i64) (.pair (.sl 9 .str) (.sl 64 (.pair .str (.pair .bool (.sl 3 (.int .i64)))))))) a0,.int .i64 a1],.val false [.int .i64 a2]] => some ((g_Aw_heldLogDisk a0 a1 a2),.val false [.int .i64 (g_Vw_heldLogDisk_0 a0 a1 a2)],[])
 | _ => none
theorem vw_heldLogDisk (a0:List (Int×(Int×((List ByteArray)×(List (ByteArray×(Bool×(List Int)))))))) (a1:Int) (a2:Int):collapseH .std Ew_heldLogDisk Ow_heldLogDisk_0 (execFn Ew_heldLogDisk Tryd.f10 msw_heldLogDisk [.val true [.sl .any 43 (.pair (.int .i64) (.pair (.int .i64) (.pair (.sl 9 .str) (.sl 64 (.pair .str (.pair .bool (.sl 3 (.int .i64)))))))) a0,.int .i64 a1],.val false [.int .i64 a2]]) = some ((g_Aw_heldLogDisk a0 a1 a2),.val false [.int .i64 (g_Vw_heldLogDisk_0 a0 a1 a2)],[]) := by kernel_rfl
theorem sw_heldLogDisk:Sound Tryd.prog 10 msw_heldLogDisk Fw_heldLogDisk := by
 refine fn_gen goodw_heldLogDisk (by kernel_rfl) .std (fn := Tryd.f10) (c := (Tryd.f10.body.getD .skip)) (o := Ow_heldLogDisk_0) (k := 0) (by kernel_rfl) (by kernel_rfl) (by kernel_rfl) (by kernel_rfl) (by decide) kw_heldLogDisk_0 ?_
 intro ys r outs h
 unfold Fw_heldLogDisk at h
 split at h
 ·exact (vw_heldLogDisk _ _ _).trans h
 ·cases h
noncomputable def Ew_markIntS:Env where
 tt := mkTI Tryd.prog
 fn := fun _ => none
 bxf := fun _ => none
 mv := []
 keep := fun b => match b with
  | 0 => [(0,false),(1,false),(5,false)]
  | _ => []
 keepB := fun b => match b with
  | 0 => []
  | _ => []
 keepX := fun b => match b with
  | 0 => [(0,false),(1,false)]
  | _ => []
 keepXB := fun b => match b with
  | 0 => []
  | _ => []
theorem goodFw_markIntS:∀ f ms F,Ew_markIntS.fn f = some (ms,F) → Sound Tryd.prog f ms F := fun f ms F h => by cases h
theorem goodBw_markIntS:∀ f ms F,Ew_markIntS.bxf f = some (ms,F) → SoundB Tryd.prog f ms F := fun f ms F h => by cases h
theorem goodw_markIntS:Good Tryd.prog Ew_markIntS := ⟨rfl,goodFw_markIntS,goodBw_markIntS⟩
noncomputable def Ow_markIntS_0:Orc := fun _ _ => none
noncomputable def msw_markIntS:List PM := [.«mut»,.own]
noncomputable def lsw_markIntS:List (Nat×Code) := loopsAll 0 (Tryd.f57.body.getD .skip)
noncomputable def cw_markIntS_0:Code := (loopOf 0 (Tryd.f57.body.getD .skip)).getD .skip
theorem lseqw_markIntS:lsw_markIntS = [(0,cw_markIntS_0)] := by kernel_rfl
theorem mw_markIntS_0:∀ p,p ∈ lsw_markIntS → p.1 = 0 → p.2 = cw_markIntS_0 := by
 intro p hp
 rw [lseqw_markIntS] at hp
 simp only [List.mem_cons,List.not_mem_nil,or_false] at hp
 subst hp; simp
theorem kw_markIntS_0:OrcOk Ew_markIntS Ow_markIntS_0 lsw_markIntS 0 := orcOk_none
noncomputable def hw_markIntS_0 (y0:List Int) (y1:Int) (y2:Int):List (Pl×LV) := [(.T 0,.t (.val false [.row 0 0 0])),(.R 0 0,.r 0 (some ⟨false,.any,true,3,(.int .i64),y0⟩)),(.T 1,.t (.val false [.int .i64 y1])),(.T 5,.t (.val false [.int .i64 y2]))]
noncomputable def g_Sw_markIntS_0:((List Int)×Int×Int) → RT ((List Int)×Int×Int) (((List Int)×Int))
 | (y0,y1,y2) => .br (true) (.br (decide (y2 < (↑(List.length y0):Int))) (.br (decide ((0:Int) ≤ y2 ∧ y2 < (↑(List.length y0):Int))) (.br (decide (Int.toNat y2 < List.length y0)) (.br (true) (.br (true) (.go ((List.set y0 (Int.toNat y2) y1,IntKind.wrap IntKind.i64 (y1 + (1:Int)),IntKind.wrap IntKind.i64 (y2 + (1:Int))))) .bad) .bad) .bad) .bad) (.out ((y0,y1)))) .bad
noncomputable def g_Lw_markIntS_0 (x:(List Int)×Int×Int):Option (((List Int)×Int)) := loopO (g_Sw_markIntS_0) x
noncomputable def xw_markIntS_0:(((List Int)×Int)) → Ex×List (Pl×LV) := fun r => (.exit 0,[(.T 0,.t (.val false [.row 0 0 0])),(.R 0 0,.r 0 (some ⟨false,.any,true,3,(.int .i64),r.1⟩)),(.T 1,.t (.val false [.int .i64 r.2]))])
noncomputable def Ow_markIntS_1:Orc := fun b h => match b,h with
 | 0,[(.T 0,.t (.val false [.row 0 0 0])),(.R 0 0,.r 0 (some ⟨false,.any,true,3,(.int .i64),y0⟩)),(.T 1,.t (.val false [.int .i64 y1])),(.T 5,.t (.val false [.int .i64 y2]))] => some (okO (g_Lw_markIntS_0 (y0,y1,y2)),(.leaf (.exit 0) [(.T 0,.t (.val false [.row 0 0 0])),(.R 0 0,.r 0 (some ⟨false,.any,true,3,(.int .i64),(valO (g_Lw_markIntS_0 (y0,y1,y2))).1⟩)),(.T 1,.t (.val false [.int .i64 (valO (g_Lw_markIntS_0 (y0,y1,y2))).2]))]))
 | b,h => Ow_markIntS_0 b h
theorem bw_markIntS_0 (y0:List Int) (y1:Int) (y2:Int):Tr.bt Ew_markIntS Ow_markIntS_0 (exec Ew_markIntS 0 cw_markIntS_0 (St.of (hw_markIntS_0 y0 y1 y2)) (leafRd Ew_markIntS 0)) = (g_Sw_markIntS_0 (y0,y1,y2)).bt (fun ((y0,y1,y2):(List Int)×Int×Int) => (hw_markIntS_0 y0 y1 y2)) (xw_markIntS_0) := by kernel_rfl
theorem kw_markIntS_1:OrcOk Ew_markIntS Ow_markIntS_1 lsw_markIntS 1 := orc_add kw_markIntS_0 (fun n p hp h ex h' ho => by
 obtain ⟨b,c⟩ := p
 obtain ⟨xt,h1,h2⟩ := ho
 have h1:Ow_markIntS_1 b h = some (true,xt) := h1
 unfold Ow_markIntS_1 at h1
 split at h1
 ·injection h1 with h1
  injection h1 with e1 e2
  subst e2
  have hc:c = cw_markIntS_0 := mw_markIntS_0 _ hp rfl
  subst hc
  right
  rename_i y0 y1 y2
  have key := LT_step kw_markIntS_0 hp (fun q hq => loopsAll_in _ _ _ _ hp hq) (fun ((y0,y1,y2):(List Int)×Int×Int) => (hw_markIntS_0 y0 y1 y2)) (xw_markIntS_0) (g_Sw_markIntS_0) (fun x => by first | exact bw_markIntS_0 x.1 x.2.1 x.2.2) n (x := (y0,y1,y2)) (okO_some e1)
  have hx:∀ r,XT.sel (.leaf (.exit 0) [(.T 0,.t (.val false [.row 0 0 0])),(.R 0 0,.r 0 (some ⟨false,.any,true,3,(.int .i64),r.1⟩)),(.T 1,.t (.val false [.int .i64 r.2]))]) = xw_markIntS_0 r := fun r => by first | rfl | (rcases r with r | r <;> rfl) | (rcases r with r | r | r <;> rfl) | (rcases r with r | r | r | r <;> rfl)
  have h3 := (hx (valO (g_Lw_markIntS_0 (y0,y1,y2)))).symm.trans h2
  have e3 := congrArg Prod.fst h3
  have e4 := congrArg Prod.snd h3
  simp only at e3 e4
  rw [← e3,← e4]
  exact key
 ·exact .inl ⟨xt,h1,h2⟩)
noncomputable def g_Aw_markIntS (a0:List Int) (a1:Int):Bool := okO (g_Lw_markIntS_0 (a0,a1,(0:Int)))
noncomputable def g_Vw_markIntS_0 (a0:List Int) (a1:Int):Int := (valO (g_Lw_markIntS_0 (a0,a1,(0:Int)))).2
noncomputable def g_Vw_markIntS_1 (a0:List Int) (a1:Int):List Int := (valO (g_Lw_markIntS_0 (a0,a1,(0:Int)))).1
noncomputable def Fw_markIntS:FSem := fun ys => match ys with
 | [.val false [.own .any true 3 (.int .i64) a0],.val false [.int .i64 a1]] => some ((g_Aw_markIntS a0 a1),.val false [.int .i64 (g_Vw_markIntS_0 a0 a1)],[[.own .any true 3 (.int .i64) (g_Vw_markIntS_1 a0 a1)]])
 | _ => none
theorem vw_markIntS (a0:List Int) (a1:Int):collapseH .std Ew_markIntS Ow_markIntS_1 (execFn Ew_markIntS Tryd.f57 msw_markIntS [.val false [.own .any true 3 (.int .i64) a0],.val false [.int .i64 a1]]) = some ((g_Aw_markIntS a0 a1),.val false [.int .i64 (g_Vw_markIntS_0 a0 a1)],[[.own .any true 3 (.int .i64) (g_Vw_markIntS_1 a0 a1)]]) := by kernel_rfl
theorem sw_markIntS:Sound Tryd.prog 57 msw_markIntS Fw_markIntS := by
 refine fn_gen goodw_markIntS (by kernel_rfl) .std (fn := Tryd.f57) (c := (Tryd.f57.body.getD .skip)) (o := Ow_markIntS_1) (k := 1) (by kernel_rfl) (by kernel_rfl) (by kernel_rfl) (by kernel_rfl) (by decide) kw_markIntS_1 ?_
 intro ys r outs h
 unfold Fw_markIntS at h
 split at h
 ·exact (vw_markIntS _ _).trans h
 ·cases h
noncomputable def Ew_markStoWriteS:Env where
 tt := mkTI Tryd.prog
 fn := fun f => match f with
  | 56 => some (msw_markText,FSem.wk msw_markText Fw_markText)
  | 57 => some (msw_markIntS,FSem.wk msw_markIntS Fw_markIntS)
  | _ => none
 bxf := fun _ => none
 mv := []
 keep := fun b => match b with
  | 0 => [(0,false),(1,false),(5,false)]
  | _ => []
 keepB := fun b => match b with
  | 0 => []
  | _ => []
 keepX := fun b => match b with
  | 0 => [(0,false),(1,false)]
  | _ => []
 keepXB := fun b => match b with
  | 0 => []
  | _ => []
 nest := [33]
theorem goodFw_markStoWriteS:∀ f ms F,Ew_markStoWriteS.fn f = some (ms,F) → Sound Tryd.prog f ms F := fun f ms F h => by
 unfold Ew_markStoWriteS at h
 dsimp only at h
 split at h
 ·injection h with h; injection h with e1 e2; subst e1 e2; exact Sound.wk sw_markText
 ·injection h with h; injection h with e1 e2; subst e1 e2; exact Sound.wk sw_markIntS
 ·cases h
theorem goodBw_markStoWriteS:∀ f ms F,Ew_markStoWriteS.bxf f = some (ms,F) → SoundB Tryd.prog f ms F := fun f ms F h => by cases h
theorem goodw_markStoWriteS:Good Tryd.prog Ew_markStoWriteS := ⟨rfl,goodFw_markStoWriteS,goodBw_markStoWriteS⟩
noncomputable def Ow_markStoWriteS_0:Orc := fun _ _ => none
noncomputable def msw_markStoWriteS:List PM := [.«mut»,.own]
noncomputable def lsw_markStoWriteS:List (Nat×Code) := loopsAll 0 (Tryd.f33.body.getD .skip)
noncomputable def cw_markStoWriteS_0:Code := (loopOf 0 (Tryd.f33.body.getD .skip)).getD .skip
theorem lseqw_markStoWriteS:lsw_markStoWriteS = [(0,cw_markStoWriteS_0)] := by kernel_rfl
theorem mw_markStoWriteS_0:∀ p,p ∈ lsw_markStoWriteS → p.1 = 0 → p.2 = cw_markStoWriteS_0 := by
 intro p hp
 rw [lseqw_markStoWriteS] at hp
 simp only [List.mem_cons,List.not_mem_nil,or_false] at hp
 subst hp; simp
theorem kw_markStoWriteS_0:OrcOk Ew_markStoWriteS Ow_markStoWriteS_0 lsw_markStoWriteS 0 := orcOk_none
noncomputable def hw_markStoWriteS_0 (y0:List (ByteArray×(Bool×(List Int)))) (y1:Int) (y2:Int):List (Pl×LV) := [(.T 0,.t (.val false [.row 0 0 0])),(.R 0 0,.r 0 (some ⟨false,.any,true,64,(.pair .str (.pair .bool (.sl 3 (.int .i64)))),y0⟩)),(.T 1,.t (.val false [.int .i64 y1])),(.T 5,.t (.val false [.int .i64 y2]))]
noncomputable def g_Sw_markStoWriteS_0:((List (ByteArray×(Bool×(List Int))))×Int×Int) → RT ((List (ByteArray×(Bool×(List Int))))×Int×Int) (((List (ByteArray×(Bool×(List Int))))×Int))
 | (y0,y1,y2) => .br (true) (.br (decide (y2 < (↑(List.length y0):Int))) (.br (g_Aw_markText y1) (.br (decide ((0:Int) ≤ y2 ∧ y2 < (↑(List.length y0):Int))) (.br (decide (Int.toNat y2 < List.length y0)) (.br (true) (.br (true) (.br (true) (.br (decide ((0:Int) ≤ y2 ∧ y2 < (↑(List.length (updE (Ty.pair Ty.str (Ty.pair Ty.bool (Ty.sl (nat_lit 3) (Ty.int IntKind.i64)))) y0 (Int.toNat y2) fun x => (g_Vw_markText_0 y1,x.2.1,x.2.2))):Int))) (.br (decide (Int.toNat y2 < List.length (updE (Ty.pair Ty.str (Ty.pair Ty.bool (Ty.sl (nat_lit 3) (Ty.int IntKind.i64)))) y0 (Int.toNat y2) fun x => (g_Vw_markText_0 y1,x.2.1,x.2.2)))) (.br (true) (.br (decide ((0:Int) ≤ y2 ∧ y2 < (↑(List.length (updE (Ty.pair Ty.str (Ty.pair Ty.bool (Ty.sl (nat_lit 3) (Ty.int IntKind.i64)))) (updE (Ty.pair Ty.str (Ty.pair Ty.bool (Ty.sl (nat_lit 3) (Ty.int IntKind.i64)))) y0 (Int.toNat y2) fun x => (g_Vw_markText_0 y1,x.2.1,x.2.2)) (Int.toNat y2) fun x => (x.1,Int.tmod (IntKind.wrap IntKind.i64 (y1 + (1:Int))) (3:Int) == (0:Int),x.2.2))):Int))) (.br (decide (Int.toNat y2 < List.length (updE (Ty.pair Ty.str (Ty.pair Ty.bool (Ty.sl (nat_lit 3) (Ty.int IntKind.i64)))) (updE (Ty.pair Ty.str (Ty.pair Ty.bool (Ty.sl (nat_lit 3) (Ty.int IntKind.i64)))) y0 (Int.toNat y2) fun x => (g_Vw_markText_0 y1,x.2.1,x.2.2)) (Int.toNat y2) fun x => (x.1,Int.tmod (IntKind.wrap IntKind.i64 (y1 + (1:Int))) (3:Int) == (0:Int),x.2.2)))) (.br (g_Aw_markIntS (at_ (Ty.pair Ty.str (Ty.pair Ty.bool (Ty.sl (nat_lit 3) (Ty.int IntKind.i64)))) (updE (Ty.pair Ty.str (Ty.pair Ty.bool (Ty.sl (nat_lit 3) (Ty.int IntKind.i64)))) (updE (Ty.pair Ty.str (Ty.pair Ty.bool (Ty.sl (nat_lit 3) (Ty.int IntKind.i64)))) y0 (Int.toNat y2) fun x => (g_Vw_markText_0 y1,x.2.1,x.2.2)) (Int.toNat y2) fun x => (x.1,Int.tmod (IntKind.wrap IntKind.i64 (y1 + (1:Int))) (3:Int) == (0:Int),x.2.2)) (Int.toNat y2)).2.2 (IntKind.wrap IntKind.i64 (IntKind.wrap IntKind.i64 (y1 + (1:Int)) + (1:Int)))) (.br (true) (.go ((List.set (updE (Ty.pair Ty.str (Ty.pair Ty.bool (Ty.sl (nat_lit 3) (Ty.int IntKind.i64)))) (updE (Ty.pair Ty.str (Ty.pair Ty.bool (Ty.sl (nat_lit 3) (Ty.int IntKind.i64)))) y0 (Int.toNat y2) fun x => (g_Vw_markText_0 y1,x.2.1,x.2.2)) (Int.toNat y2) fun x => (x.1,Int.tmod (IntKind.wrap IntKind.i64 (y1 + (1:Int))) (3:Int) == (0:Int),x.2.2)) (Int.toNat y2) ((at_ (Ty.pair Ty.str (Ty.pair Ty.bool (Ty.sl (nat_lit 3) (Ty.int IntKind.i64)))) (updE (Ty.pair Ty.str (Ty.pair Ty.bool (Ty.sl (nat_lit 3) (Ty.int IntKind.i64)))) (updE (Ty.pair Ty.str (Ty.pair Ty.bool (Ty.sl (nat_lit 3) (Ty.int IntKind.i64)))) y0 (Int.toNat y2) fun x => (g_Vw_markText_0 y1,x.2.1,x.2.2)) (Int.toNat y2) fun x => (x.1,Int.tmod (IntKind.wrap IntKind.i64 (y1 + (1:Int))) (3:Int) == (0:Int),x.2.2)) (Int.toNat y2)).1,(at_ (Ty.pair Ty.str (Ty.pair Ty.bool (Ty.sl (nat_lit 3) (Ty.int IntKind.i64)))) (updE (Ty.pair Ty.str (Ty.pair Ty.bool (Ty.sl (nat_lit 3) (Ty.int IntKind.i64)))) (updE (Ty.pair Ty.str (Ty.pair Ty.bool (Ty.sl (nat_lit 3) (Ty.int IntKind.i64)))) y0 (Int.toNat y2) fun x => (g_Vw_markText_0 y1,x.2.1,x.2.2)) (Int.toNat y2) fun x => (x.1,Int.tmod (IntKind.wrap IntKind.i64 (y1 + (1:Int))) (3:Int) == (0:Int),x.2.2)) (Int.toNat y2)).2.1,g_Vw_markIntS_1 (at_ (Ty.pair Ty.str (Ty.pair Ty.bool (Ty.sl (nat_lit 3) (Ty.int IntKind.i64)))) (updE (Ty.pair Ty.str (Ty.pair Ty.bool (Ty.sl (nat_lit 3) (Ty.int IntKind.i64)))) (updE (Ty.pair Ty.str (Ty.pair Ty.bool (Ty.sl (nat_lit 3) (Ty.int IntKind.i64)))) y0 (Int.toNat y2) fun x => (g_Vw_markText_0 y1,x.2.1,x.2.2)) (Int.toNat y2) fun x => (x.1,Int.tmod (IntKind.wrap IntKind.i64 (y1 + (1:Int))) (3:Int) == (0:Int),x.2.2)) (Int.toNat y2)).2.2 (IntKind.wrap IntKind.i64 (IntKind.wrap IntKind.i64 (y1 + (1:Int)) + (1:Int)))),g_Vw_markIntS_0 (at_ (Ty.pair Ty.str (Ty.pair Ty.bool (Ty.sl (nat_lit 3) (Ty.int IntKind.i64)))) (updE (Ty.pair Ty.str (Ty.pair Ty.bool (Ty.sl (nat_lit 3) (Ty.int IntKind.i64)))) (updE (Ty.pair Ty.str (Ty.pair Ty.bool (Ty.sl (nat_lit 3) (Ty.int IntKind.i64)))) y0 (Int.toNat y2) fun x => (g_Vw_markText_0 y1,x.2.1,x.2.2)) (Int.toNat y2) fun x => (x.1,Int.tmod (IntKind.wrap IntKind.i64 (y1 + (1:Int))) (3:Int) == (0:Int),x.2.2)) (Int.toNat y2)).2.2 (IntKind.wrap IntKind.i64 (IntKind.wrap IntKind.i64 (y1 + (1:Int)) + (1:Int))),IntKind.wrap IntKind.i64 (y2 + (1:Int))))) .bad) .bad) .bad) .bad) .bad) .bad) .bad) .bad) .bad) .bad) .bad) .bad) .bad) (.out ((y0,y1)))) .bad
noncomputable def g_Lw_markStoWriteS_0 (x:(List (ByteArray×(Bool×(List Int))))×Int×Int):Option (((List (ByteArray×(Bool×(List Int))))×Int)) := loopO (g_Sw_markStoWriteS_0) x
noncomputable def xw_markStoWriteS_0:(((List (ByteArray×(Bool×(List Int))))×Int)) → Ex×List (Pl×LV) := fun r => (.exit 0,[(.T 0,.t (.val false [.row 0 0 0])),(.R 0 0,.r 0 (some ⟨false,.any,true,64,(.pair .str (.pair .bool (.sl 3 (.int .i64)))),r.1⟩)),(.T 1,.t (.val false [.int .i64 r.2]))])
noncomputable def Ow_markStoWriteS_1:Orc := fun b h => match b,h with
 | 0,[(.T 0,.t (.val false [.row 0 0 0])),(.R 0 0,.r 0 (some ⟨false,.any,true,64,(.pair .str (.pair .bool (.sl 3 (.int .i64)))),y0⟩)),(.T 1,.t (.val false [.int .i64 y1])),(.T 5,.t (.val false [.int .i64 y2]))] => some (okO (g_Lw_markStoWriteS_0 (y0,y1,y2)),(.leaf (.exit 0) [(.T 0,.t (.val false [.row 0 0 0])),(.R 0 0,.r 0 (some ⟨false,.any,true,64,(.pair .str (.pair .bool (.sl 3 (.int .i64)))),(valO (g_Lw_markStoWriteS_0 (y0,y1,y2))).1⟩)),(.T 1,.t (.val false [.int .i64 (valO (g_Lw_markStoWriteS_0 (y0,y1,y2))).2]))]))
 | b,h => Ow_markStoWriteS_0 b h
theorem bw_markStoWriteS_0 (y0:List (ByteArray×(Bool×(List Int)))) (y1:Int) (y2:Int):Tr.bt Ew_markStoWriteS Ow_markStoWriteS_0 (exec Ew_markStoWriteS 0 cw_markStoWriteS_0 (St.of (hw_markStoWriteS_0 y0 y1 y2)) (leafRd Ew_markStoWriteS 0)) = (g_Sw_markStoWriteS_0 (y0,y1,y2)).bt (fun ((y0,y1,y2):(List (ByteArray×(Bool×(List Int))))×Int×Int) => (hw_markStoWriteS_0 y0 y1 y2)) (xw_markStoWriteS_0) := by kernel_rfl
theorem kw_markStoWriteS_1:OrcOk Ew_markStoWriteS Ow_markStoWriteS_1 lsw_markStoWriteS 1 := orc_add kw_markStoWriteS_0 (fun n p hp h ex h' ho => by
 obtain ⟨b,c⟩ := p
 obtain ⟨xt,h1,h2⟩ := ho
 have h1:Ow_markStoWriteS_1 b h = some (true,xt) := h1
 unfold Ow_markStoWriteS_1 at h1
 split at h1
 ·injection h1 with h1
  injection h1 with e1 e2
  subst e2
  have hc:c = cw_markStoWriteS_0 := mw_markStoWriteS_0 _ hp rfl
  subst hc
  right
  rename_i y0 y1 y2
  have key := LT_step kw_markStoWriteS_0 hp (fun q hq => loopsAll_in _ _ _ _ hp hq) (fun ((y0,y1,y2):(List (ByteArray×(Bool×(List Int))))×Int×Int) => (hw_markStoWriteS_0 y0 y1 y2)) (xw_markStoWriteS_0) (g_Sw_markStoWriteS_0) (fun x => by first | exact bw_markStoWriteS_0 x.1 x.2.1 x.2.2) n (x := (y0,y1,y2)) (okO_some e1)
  have hx:∀ r,XT.sel (.leaf (.exit 0) [(.T 0,.t (.val false [.row 0 0 0])),(.R 0 0,.r 0 (some ⟨false,.any,true,64,(.pair .str (.pair .bool (.sl 3 (.int .i64)))),r.1⟩)),(.T 1,.t (.val false [.int .i64 r.2]))]) = xw_markStoWriteS_0 r := fun r => by first | rfl | (rcases r with r | r <;> rfl) | (rcases r with r | r | r <;> rfl) | (rcases r with r | r | r | r <;> rfl)
  have h3 := (hx (valO (g_Lw_markStoWriteS_0 (y0,y1,y2)))).symm.trans h2
  have e3 := congrArg Prod.fst h3
  have e4 := congrArg Prod.snd h3
  simp only at e3 e4
  rw [← e3,← e4]
  exact key
 ·exact .inl ⟨xt,h1,h2⟩)
noncomputable def g_Aw_markStoWriteS (a0:List (ByteArray×(Bool×(List Int)))) (a1:Int):Bool := okO (g_Lw_markStoWriteS_0 (a0,a1,(0:Int)))
noncomputable def g_Vw_markStoWriteS_0 (a0:List (ByteArray×(Bool×(List Int)))) (a1:Int):Int := (valO (g_Lw_markStoWriteS_0 (a0,a1,(0:Int)))).2
noncomputable def g_Vw_markStoWriteS_1 (a0:List (ByteArray×(Bool×(List Int)))) (a1:Int):List (ByteArray×(Bool×(List Int))) := (valO (g_Lw_markStoWriteS_0 (a0,a1,(0:Int)))).1
noncomputable def Fw_markStoWriteS:FSem := fun ys => match ys with
 | [.val false [.own .any true 64 (.pair .str (.pair .bool (.sl 3 (.int .i64)))) a0],.val false [.int .i64 a1]] => some ((g_Aw_markStoWriteS a0 a1),.val false [.int .i64 (g_Vw_markStoWriteS_0 a0 a1)],[[.own .any true 64 (.pair .str (.pair .bool (.sl 3 (.int .i64)))) (g_Vw_markStoWriteS_1 a0 a1)]])
 | _ => none
theorem vw_markStoWriteS (a0:List (ByteArray×(Bool×(List Int)))) (a1:Int):collapseH .std Ew_markStoWriteS Ow_markStoWriteS_1 (execFn Ew_markStoWriteS Tryd.f33 msw_markStoWriteS [.val false [.own .any true 64 (.pair .str (.pair .bool (.sl 3 (.int .i64)))) a0],.val false [.int .i64 a1]]) = some ((g_Aw_markStoWriteS a0 a1),.val false [.int .i64 (g_Vw_markStoWriteS_0 a0 a1)],[[.own .any true 64 (.pair .str (.pair .bool (.sl 3 (.int .i64)))) (g_Vw_markStoWriteS_1 a0 a1)]]) := by kernel_rfl
theorem sw_markStoWriteS:Sound Tryd.prog 33 msw_markStoWriteS Fw_markStoWriteS := by
 refine fn_gen goodw_markStoWriteS (by kernel_rfl) .std (fn := Tryd.f33) (c := (Tryd.f33.body.getD .skip)) (o := Ow_markStoWriteS_1) (k := 1) (by kernel_rfl) (by kernel_rfl) (by kernel_rfl) (by kernel_rfl) (by decide) kw_markStoWriteS_1 ?_
 intro ys r outs h
 unfold Fw_markStoWriteS at h
 split at h
 ·exact (vw_markStoWriteS _ _).trans h
 ·cases h
noncomputable def Ew_markStringS:Env where
 tt := mkTI Tryd.prog
 fn := fun f => match f with
  | 56 => some (msw_markText,FSem.wk msw_markText Fw_markText)
  | _ => none
 bxf := fun _ => none
 mv := []
 keep := fun b => match b with
  | 0 => [(0,false),(1,false),(5,false)]
  | _ => []
 keepB := fun b => match b with
  | 0 => []
  | _ => []
 keepX := fun b => match b with
  | 0 => [(0,false),(1,false)]
  | _ => []
 keepXB := fun b => match b with
  | 0 => []
  | _ => []
theorem goodFw_markStringS:∀ f ms F,Ew_markStringS.fn f = some (ms,F) → Sound Tryd.prog f ms F := fun f ms F h => by
 unfold Ew_markStringS at h
 dsimp only at h
 split at h
 ·injection h with h; injection h with e1 e2; subst e1 e2; exact Sound.wk sw_markText
 ·cases h
theorem goodBw_markStringS:∀ f ms F,Ew_markStringS.bxf f = some (ms,F) → SoundB Tryd.prog f ms F := fun f ms F h => by cases h
theorem goodw_markStringS:Good Tryd.prog Ew_markStringS := ⟨rfl,goodFw_markStringS,goodBw_markStringS⟩
noncomputable def Ow_markStringS_0:Orc := fun _ _ => none
noncomputable def msw_markStringS:List PM := [.«mut»,.own]
noncomputable def lsw_markStringS:List (Nat×Code) := loopsAll 0 (Tryd.f32.body.getD .skip)
noncomputable def cw_markStringS_0:Code := (loopOf 0 (Tryd.f32.body.getD .skip)).getD .skip
theorem lseqw_markStringS:lsw_markStringS = [(0,cw_markStringS_0)] := by kernel_rfl
theorem mw_markStringS_0:∀ p,p ∈ lsw_markStringS → p.1 = 0 → p.2 = cw_markStringS_0 := by
 intro p hp
 rw [lseqw_markStringS] at hp
 simp only [List.mem_cons,List.not_mem_nil,or_false] at hp
 subst hp; simp
theorem kw_markStringS_0:OrcOk Ew_markStringS Ow_markStringS_0 lsw_markStringS 0 := orcOk_none
noncomputable def hw_markStringS_0 (y0:List ByteArray) (y1:Int) (y2:Int):List (Pl×LV) := [(.T 0,.t (.val false [.row 0 0 0])),(.R 0 0,.r 0 (some ⟨false,.any,true,9,.str,y0⟩)),(.T 1,.t (.val false [.int .i64 y1])),(.T 5,.t (.val false [.int .i64 y2]))]
noncomputable def g_Sw_markStringS_0:((List ByteArray)×Int×Int) → RT ((List ByteArray)×Int×Int) (((List ByteArray)×Int))
 | (y0,y1,y2) => .br (true) (.br (decide (y2 < (↑(List.length y0):Int))) (.br (g_Aw_markText y1) (.br (decide ((0:Int) ≤ y2 ∧ y2 < (↑(List.length y0):Int))) (.br (decide (Int.toNat y2 < List.length y0)) (.br (true) (.br (true) (.go ((List.set y0 (Int.toNat y2) (g_Vw_markText_0 y1),IntKind.wrap IntKind.i64 (y1 + (1:Int)),IntKind.wrap IntKind.i64 (y2 + (1:Int))))) .bad) .bad) .bad) .bad) .bad) (.out ((y0,y1)))) .bad
noncomputable def g_Lw_markStringS_0 (x:(List ByteArray)×Int×Int):Option (((List ByteArray)×Int)) := loopO (g_Sw_markStringS_0) x
noncomputable def xw_markStringS_0:(((List ByteArray)×Int)) → Ex×List (Pl×LV) := fun r => (.exit 0,[(.T 0,.t (.val false [.row 0 0 0])),(.R 0 0,.r 0 (some ⟨false,.any,true,9,.str,r.1⟩)),(.T 1,.t (.val false [.int .i64 r.2]))])
noncomputable def Ow_markStringS_1:Orc := fun b h => match b,h with
 | 0,[(.T 0,.t (.val false [.row 0 0 0])),(.R 0 0,.r 0 (some ⟨false,.any,true,9,.str,y0⟩)),(.T 1,.t (.val false [.int .i64 y1])),(.T 5,.t (.val false [.int .i64 y2]))] => some (okO (g_Lw_markStringS_0 (y0,y1,y2)),(.leaf (.exit 0) [(.T 0,.t (.val false [.row 0 0 0])),(.R 0 0,.r 0 (some ⟨false,.any,true,9,.str,(valO (g_Lw_markStringS_0 (y0,y1,y2))).1⟩)),(.T 1,.t (.val false [.int .i64 (valO (g_Lw_markStringS_0 (y0,y1,y2))).2]))]))
 | b,h => Ow_markStringS_0 b h
theorem bw_markStringS_0 (y0:List ByteArray) (y1:Int) (y2:Int):Tr.bt Ew_markStringS Ow_markStringS_0 (exec Ew_markStringS 0 cw_markStringS_0 (St.of (hw_markStringS_0 y0 y1 y2)) (leafRd Ew_markStringS 0)) = (g_Sw_markStringS_0 (y0,y1,y2)).bt (fun ((y0,y1,y2):(List ByteArray)×Int×Int) => (hw_markStringS_0 y0 y1 y2)) (xw_markStringS_0) := by kernel_rfl
theorem kw_markStringS_1:OrcOk Ew_markStringS Ow_markStringS_1 lsw_markStringS 1 := orc_add kw_markStringS_0 (fun n p hp h ex h' ho => by
 obtain ⟨b,c⟩ := p
 obtain ⟨xt,h1,h2⟩ := ho
 have h1:Ow_markStringS_1 b h = some (true,xt) := h1
 unfold Ow_markStringS_1 at h1
 split at h1
 ·injection h1 with h1
  injection h1 with e1 e2
  subst e2
  have hc:c = cw_markStringS_0 := mw_markStringS_0 _ hp rfl
  subst hc
  right
  rename_i y0 y1 y2
  have key := LT_step kw_markStringS_0 hp (fun q hq => loopsAll_in _ _ _ _ hp hq) (fun ((y0,y1,y2):(List ByteArray)×Int×Int) => (hw_markStringS_0 y0 y1 y2)) (xw_markStringS_0) (g_Sw_markStringS_0) (fun x => by first | exact bw_markStringS_0 x.1 x.2.1 x.2.2) n (x := (y0,y1,y2)) (okO_some e1)
  have hx:∀ r,XT.sel (.leaf (.exit 0) [(.T 0,.t (.val false [.row 0 0 0])),(.R 0 0,.r 0 (some ⟨false,.any,true,9,.str,r.1⟩)),(.T 1,.t (.val false [.int .i64 r.2]))]) = xw_markStringS_0 r := fun r => by first | rfl | (rcases r with r | r <;> rfl) | (rcases r with r | r | r <;> rfl) | (rcases r with r | r | r | r <;> rfl)
  have h3 := (hx (valO (g_Lw_markStringS_0 (y0,y1,y2)))).symm.trans h2
  have e3 := congrArg Prod.fst h3
  have e4 := congrArg Prod.snd h3
  simp only at e3 e4
  rw [← e3,← e4]
  exact key
 ·exact .inl ⟨xt,h1,h2⟩)
noncomputable def g_Aw_markStringS (a0:List ByteArray) (a1:Int):Bool := okO (g_Lw_markStringS_0 (a0,a1,(0:Int)))
noncomputable def g_Vw_markStringS_0 (a0:List ByteArray) (a1:Int):Int := (valO (g_Lw_markStringS_0 (a0,a1,(0:Int)))).2
noncomputable def g_Vw_markStringS_1 (a0:List ByteArray) (a1:Int):List ByteArray := (valO (g_Lw_markStringS_0 (a0,a1,(0:Int)))).1
noncomputable def Fw_markStringS:FSem := fun ys => match ys with
 | [.val false [.own .any true 9 .str a0],.val false [.int .i64 a1]] => some ((g_Aw_markStringS a0 a1),.val false [.int .i64 (g_Vw_markStringS_0 a0 a1)],[[.own .any true 9 .str (g_Vw_markStringS_1 a0 a1)]])
 | _ => none
theorem vw_markStringS (a0:List ByteArray) (a1:Int):collapseH .std Ew_markStringS Ow_markStringS_1 (execFn Ew_markStringS Tryd.f32 msw_markStringS [.val false [.own .any true 9 .str a0],.val false [.int .i64 a1]]) = some ((g_Aw_markStringS a0 a1),.val false [.int .i64 (g_Vw_markStringS_0 a0 a1)],[[.own .any true 9 .str (g_Vw_markStringS_1 a0 a1)]]) := by kernel_rfl
theorem sw_markStringS:Sound Tryd.prog 32 msw_markStringS Fw_markStringS := by
 refine fn_gen goodw_markStringS (by kernel_rfl) .std (fn := Tryd.f32) (c := (Tryd.f32.body.getD .skip)) (o := Ow_markStringS_1) (k := 1) (by kernel_rfl) (by kernel_rfl) (by kernel_rfl) (by kernel_rfl) (by decide) kw_markStringS_1 ?_
 intro ys r outs h
 unfold Fw_markStringS at h
 split at h
 ·exact (vw_markStringS _ _).trans h
 ·cases h
noncomputable def Ew_markLogNoteS:Env where
 tt := mkTI Tryd.prog
 fn := fun f => match f with
  | 32 => some (msw_markStringS,FSem.wk msw_markStringS Fw_markStringS)
  | 33 => some (msw_markStoWriteS,FSem.wk msw_markStoWriteS Fw_markStoWriteS)
  | _ => none
 bxf := fun _ => none
 mv := []
 keep := fun b => match b with
  | 0 => [(0,false),(1,false),(5,false)]
  | _ => []
 keepB := fun b => match b with
  | 0 => []
  | _ => []
 keepX := fun b => match b with
  | 0 => [(0,false),(1,false)]
  | _ => []
 keepXB := fun b => match b with
  | 0 => []
  | _ => []
 nest := [30,37]
theorem goodFw_markLogNoteS:∀ f ms F,Ew_markLogNoteS.fn f = some (ms,F) → Sound Tryd.prog f ms F := fun f ms F h => by
 unfold Ew_markLogNoteS at h
 dsimp only at h
 split at h
 ·injection h with h; injection h with e1 e2; subst e1 e2; exact Sound.wk sw_markStringS
 ·injection h with h; injection h with e1 e2; subst e1 e2; exact Sound.wk sw_markStoWriteS
 ·cases h
theorem goodBw_markLogNoteS:∀ f ms F,Ew_markLogNoteS.bxf f = some (ms,F) → SoundB Tryd.prog f ms F := fun f ms F h => by cases h
theorem goodw_markLogNoteS:Good Tryd.prog Ew_markLogNoteS := ⟨rfl,goodFw_markLogNoteS,goodBw_markLogNoteS⟩
noncomputable def Ow_markLogNoteS_0:Orc := fun _ _ => none
noncomputable def msw_markLogNoteS:List PM := [.«mut»,.own]
noncomputable def lsw_markLogNoteS:List (Nat×Code) := loopsAll 0 (Tryd.f19.body.getD .skip)
noncomputable def cw_markLogNoteS_0:Code := (loopOf 0 (Tryd.f19.body.getD .skip)).getD .skip
theorem lseqw_markLogNoteS:lsw_markLogNoteS = [(0,cw_markLogNoteS_0)] := by kernel_rfl
theorem mw_markLogNoteS_0:∀ p,p ∈ lsw_markLogNoteS → p.1 = 0 → p.2 = cw_markLogNoteS_0 := by
 intro p hp
 rw [lseqw_markLogNoteS] at hp
 simp only [List.mem_cons,List.not_mem_nil,or_false] at hp
 subst hp; simp
theorem kw_markLogNoteS_0:OrcOk Ew_markLogNoteS Ow_markLogNoteS_0 lsw_markLogNoteS 0 := orcOk_none
noncomputable def hw_markLogNoteS_0 (y0:List (Int×(Int×((List ByteArray)×(List (ByteArray×(Bool×(List Int)))))))) (y1:Int) (y2:Int):List (Pl×LV) := [(.T 0,.t (.val false [.row 0 0 0])),(.R 0 0,.r 0 (some ⟨false,.any,true,43,(.pair (.int .i64) (.pair (.int .i64) (.pair (.sl 9 .str) (.sl 64 (.pair .str (.pair .bool (.sl 3 (.int .i64)))))))),y0⟩)),(.T 1,.t (.val false [.int .i64 y1])),(.T 5,.t (.val false [.int .i64 y2]))]
noncomputable def g_Sw_markLogNoteS_0:((List (Int×(Int×((List ByteArray)×(List (ByteArray×(Bool×(List Int))))))))×Int×Int) → RT ((List (Int×(Int×((List ByteArray)×(List (ByteArray×(Bool×(List Int))))))))×Int×Int) (((List (Int×(Int×((List ByteArray)×(List (ByteArray×(Bool×(List Int))))))))×Int))
 | (y0,y1,y2) => .br (true) (.br (decide (y2 < (↑(List.length y0):Int))) (.br (decide ((0:Int) ≤ y2 ∧ y2 < (↑(List.length y0):Int))) (.br (decide (Int.toNat y2 < List.length y0)) (.br (true) (.br (decide ((0:Int) ≤ y2 ∧ y2 < (↑(List.length (updE (Ty.pair (Ty.int IntKind.i64) (Ty.pair (Ty.int IntKind.i64) (Ty.pair (Ty.sl (nat_lit 9) Ty.str) (Ty.sl (nat_lit 64) (Ty.pair Ty.str (Ty.pair Ty.bool (Ty.sl (nat_lit 3) (Ty.int IntKind.i64)))))))) y0 (Int.toNat y2) fun x => (y1,x.2.1,x.2.2.1,x.2.2.2))):Int))) (.br (decide (Int.toNat y2 < List.length (updE (Ty.pair (Ty.int IntKind.i64) (Ty.pair (Ty.int IntKind.i64) (Ty.pair (Ty.sl (nat_lit 9) Ty.str) (Ty.sl (nat_lit 64) (Ty.pair Ty.str (Ty.pair Ty.bool (Ty.sl (nat_lit 3) (Ty.int IntKind.i64)))))))) y0 (Int.toNat y2) fun x => (y1,x.2.1,x.2.2.1,x.2.2.2)))) (.br (true) (.br (decide ((0:Int) ≤ y2 ∧ y2 < (↑(List.length (updE (Ty.pair (Ty.int IntKind.i64) (Ty.pair (Ty.int IntKind.i64) (Ty.pair (Ty.sl (nat_lit 9) Ty.str) (Ty.sl (nat_lit 64) (Ty.pair Ty.str (Ty.pair Ty.bool (Ty.sl (nat_lit 3) (Ty.int IntKind.i64)))))))) (updE (Ty.pair (Ty.int IntKind.i64) (Ty.pair (Ty.int IntKind.i64) (Ty.pair (Ty.sl (nat_lit 9) Ty.str) (Ty.sl (nat_lit 64) (Ty.pair Ty.str (Ty.pair Ty.bool (Ty.sl (nat_lit 3) (Ty.int IntKind.i64)))))))) y0 (Int.toNat y2) fun x => (y1,x.2.1,x.2.2.1,x.2.2.2)) (Int.toNat y2) fun x => (x.1,IntKind.wrap IntKind.i64 (y1 + (1:Int)),x.2.2.1,x.2.2.2))):Int))) (.br (decide (Int.toNat y2 < List.length (updE (Ty.pair (Ty.int IntKind.i64) (Ty.pair (Ty.int IntKind.i64) (Ty.pair (Ty.sl (nat_lit 9) Ty.str) (Ty.sl (nat_lit 64) (Ty.pair Ty.str (Ty.pair Ty.bool (Ty.sl (nat_lit 3) (Ty.int IntKind.i64)))))))) (updE (Ty.pair (Ty.int IntKind.i64) (Ty.pair (Ty.int IntKind.i64) (Ty.pair (Ty.sl (nat_lit 9) Ty.str) (Ty.sl (nat_lit 64) (Ty.pair Ty.str (Ty.pair Ty.bool (Ty.sl (nat_lit 3) (Ty.int IntKind.i64)))))))) y0 (Int.toNat y2) fun x => (y1,x.2.1,x.2.2.1,x.2.2.2)) (Int.toNat y2) fun x => (x.1,IntKind.wrap IntKind.i64 (y1 + (1:Int)),x.2.2.1,x.2.2.2)))) (.br (g_Aw_markStringS (at_ (Ty.pair (Ty.int IntKind.i64) (Ty.pair (Ty.int IntKind.i64) (Ty.pair (Ty.sl (nat_lit 9) Ty.str) (Ty.sl (nat_lit 64) (Ty.pair Ty.str (Ty.pair Ty.bool (Ty.sl (nat_lit 3) (Ty.int IntKind.i64)))))))) (updE (Ty.pair (Ty.int IntKind.i64) (Ty.pair (Ty.int IntKind.i64) (Ty.pair (Ty.sl (nat_lit 9) Ty.str) (Ty.sl (nat_lit 64) (Ty.pair Ty.str (Ty.pair Ty.bool (Ty.sl (nat_lit 3) (Ty.int IntKind.i64)))))))) (updE (Ty.pair (Ty.int IntKind.i64) (Ty.pair (Ty.int IntKind.i64) (Ty.pair (Ty.sl (nat_lit 9) Ty.str) (Ty.sl (nat_lit 64) (Ty.pair Ty.str (Ty.pair Ty.bool (Ty.sl (nat_lit 3) (Ty.int IntKind.i64)))))))) y0 (Int.toNat y2) fun x => (y1,x.2.1,x.2.2.1,x.2.2.2)) (Int.toNat y2) fun x => (x.1,IntKind.wrap IntKind.i64 (y1 + (1:Int)),x.2.2.1,x.2.2.2)) (Int.toNat y2)).2.2.1 (IntKind.wrap IntKind.i64 (IntKind.wrap IntKind.i64 (y1 + (1:Int)) + (1:Int)))) (.br (decide ((0:Int) ≤ y2 ∧ y2 < (↑(List.length (List.set (updE (Ty.pair (Ty.int IntKind.i64) (Ty.pair (Ty.int IntKind.i64) (Ty.pair (Ty.sl (nat_lit 9) Ty.str) (Ty.sl (nat_lit 64) (Ty.pair Ty.str (Ty.pair Ty.bool (Ty.sl (nat_lit 3) (Ty.int IntKind.i64)))))))) (updE (Ty.pair (Ty.int IntKind.i64) (Ty.pair (Ty.int IntKind.i64) (Ty.pair (Ty.sl (nat_lit 9) Ty.str) (Ty.sl (nat_lit 64) (Ty.pair Ty.str (Ty.pair Ty.bool (Ty.sl (nat_lit 3) (Ty.int IntKind.i64)))))))) y0 (Int.toNat y2) fun x => (y1,x.2.1,x.2.2.1,x.2.2.2)) (Int.toNat y2) fun x => (x.1,IntKind.wrap IntKind.i64 (y1 + (1:Int)),x.2.2.1,x.2.2.2)) (Int.toNat y2) ((at_ (Ty.pair (Ty.int IntKind.i64) (Ty.pair (Ty.int IntKind.i64) (Ty.pair (Ty.sl (nat_lit 9) Ty.str) (Ty.sl (nat_lit 64) (Ty.pair Ty.str (Ty.pair Ty.bool (Ty.sl (nat_lit 3) (Ty.int IntKind.i64)))))))) (updE (Ty.pair (Ty.int IntKind.i64) (Ty.pair (Ty.int IntKind.i64) (Ty.pair (Ty.sl (nat_lit 9) Ty.str) (Ty.sl (nat_lit 64) (Ty.pair Ty.str (Ty.pair Ty.bool (Ty.sl (nat_lit 3) (Ty.int IntKind.i64)))))))) (updE (Ty.pair (Ty.int IntKind.i64) (Ty.pair (Ty.int IntKind.i64) (Ty.pair (Ty.sl (nat_lit 9) Ty.str) (Ty.sl (nat_lit 64) (Ty.pair Ty.str (Ty.pair Ty.bool (Ty.sl (nat_lit 3) (Ty.int IntKind.i64)))))))) y0 (Int.toNat y2) fun x => (y1,x.2.1,x.2.2.1,x.2.2.2)) (Int.toNat y2) fun x => (x.1,IntKind.wrap IntKind.i64 (y1 + (1:Int)),x.2.2.1,x.2.2.2)) (Int.toNat y2)).1,(at_ (Ty.pair (Ty.int IntKind.i64) (Ty.pair (Ty.int IntKind.i64) (Ty.pair (Ty.sl (nat_lit 9) Ty.str) (Ty.sl (nat_lit 64) (Ty.pair Ty.str (Ty.pair Ty.bool (Ty.sl (nat_lit 3) (Ty.int IntKind.i64)))))))) (updE (Ty.pair (Ty.int IntKind.i64) (Ty.pair (Ty.int IntKind.i64) (Ty.pair (Ty.sl (nat_lit 9) Ty.str) (Ty.sl (nat_lit 64) (Ty.pair Ty.str (Ty.pair Ty.bool (Ty.sl (nat_lit 3) (Ty.int IntKind.i64)))))))) (updE (Ty.pair (Ty.int IntKind.i64) (Ty.pair (Ty.int IntKind.i64) (Ty.pair (Ty.sl (nat_lit 9) Ty.str) (Ty.sl (nat_lit 64) (Ty.pair Ty.str (Ty.pair Ty.bool (Ty.sl (nat_lit 3) (Ty.int IntKind.i64)))))))) y0 (Int.toNat y2) fun x => (y1,x.2.1,x.2.2.1,x.2.2.2)) (Int.toNat y2) fun x => (x.1,IntKind.wrap IntKind.i64 (y1 + (1:Int)),x.2.2.1,x.2.2.2)) (Int.toNat y2)).2.1,g_Vw_markStringS_1 (at_ (Ty.pair (Ty.int IntKind.i64) (Ty.pair (Ty.int IntKind.i64) (Ty.pair (Ty.sl (nat_lit 9) Ty.str) (Ty.sl (nat_lit 64) (Ty.pair Ty.str (Ty.pair Ty.bool (Ty.sl (nat_lit 3) (Ty.int IntKind.i64)))))))) (updE (Ty.pair (Ty.int IntKind.i64) (Ty.pair (Ty.int IntKind.i64) (Ty.pair (Ty.sl (nat_lit 9) Ty.str) (Ty.sl (nat_lit 64) (Ty.pair Ty.str (Ty.pair Ty.bool (Ty.sl (nat_lit 3) (Ty.int IntKind.i64)))))))) (updE (Ty.pair (Ty.int IntKind.i64) (Ty.pair (Ty.int IntKind.i64) (Ty.pair (Ty.sl (nat_lit 9) Ty.str) (Ty.sl (nat_lit 64) (Ty.pair Ty.str (Ty.pair Ty.bool (Ty.sl (nat_lit 3) (Ty.int IntKind.i64)))))))) y0 (Int.toNat y2) fun x => (y1,x.2.1,x.2.2.1,x.2.2.2)) (Int.toNat y2) fun x => (x.1,IntKind.wrap IntKind.i64 (y1 + (1:Int)),x.2.2.1,x.2.2.2)) (Int.toNat y2)).2.2.1 (IntKind.wrap IntKind.i64 (IntKind.wrap IntKind.i64 (y1 + (1:Int)) + (1:Int))),(at_ (Ty.pair (Ty.int IntKind.i64) (Ty.pair (Ty.int IntKind.i64) (Ty.pair (Ty.sl (nat_lit 9) Ty.str) (Ty.sl (nat_lit 64) (Ty.pair Ty.str (Ty.pair Ty.bool (Ty.sl (nat_lit 3) (Ty.int IntKind.i64)))))))) (updE (Ty.pair (Ty.int IntKind.i64) (Ty.pair (Ty.int IntKind.i64) (Ty.pair (Ty.sl (nat_lit 9) Ty.str) (Ty.sl (nat_lit 64) (Ty.pair Ty.str (Ty.pair Ty.bool (Ty.sl (nat_lit 3) (Ty.int IntKind.i64)))))))) (updE (Ty.pair (Ty.int IntKind.i64) (Ty.pair (Ty.int IntKind.i64) (Ty.pair (Ty.sl (nat_lit 9) Ty.str) (Ty.sl (nat_lit 64) (Ty.pair Ty.str (Ty.pair Ty.bool (Ty.sl (nat_lit 3) (Ty.int IntKind.i64)))))))) y0 (Int.toNat y2) fun x => (y1,x.2.1,x.2.2.1,x.2.2.2)) (Int.toNat y2) fun x => (x.1,IntKind.wrap IntKind.i64 (y1 + (1:Int)),x.2.2.1,x.2.2.2)) (Int.toNat y2)).2.2.2))):Int))) (.br (decide (Int.toNat y2 < List.length (List.set (updE (Ty.pair (Ty.int IntKind.i64) (Ty.pair (Ty.int IntKind.i64) (Ty.pair (Ty.sl (nat_lit 9) Ty.str) (Ty.sl (nat_lit 64) (Ty.pair Ty.str (Ty.pair Ty.bool (Ty.sl (nat_lit 3) (Ty.int IntKind.i64)))))))) (updE (Ty.pair (Ty.int IntKind.i64) (Ty.pair (Ty.int IntKind.i64) (Ty.pair (Ty.sl (nat_lit 9) Ty.str) (Ty.sl (nat_lit 64) (Ty.pair Ty.str (Ty.pair Ty.bool (Ty.sl (nat_lit 3) (Ty.int IntKind.i64)))))))) y0 (Int.toNat y2) fun x => (y1,x.2.1,x.2.2.1,x.2.2.2)) (Int.toNat y2) fun x => (x.1,IntKind.wrap IntKind.i64 (y1 + (1:Int)),x.2.2.1,x.2.2.2)) (Int.toNat y2) ((at_ (Ty.pair (Ty.int IntKind.i64) (Ty.pair (Ty.int IntKind.i64) (Ty.pair (Ty.sl (nat_lit 9) Ty.str) (Ty.sl (nat_lit 64) (Ty.pair Ty.str (Ty.pair Ty.bool (Ty.sl (nat_lit 3) (Ty.int IntKind.i64)))))))) (updE (Ty.pair (Ty.int IntKind.i64) (Ty.pair (Ty.int IntKind.i64) (Ty.pair (Ty.sl (nat_lit 9) Ty.str) (Ty.sl (nat_lit 64) (Ty.pair Ty.str (Ty.pair Ty.bool (Ty.sl (nat_lit 3) (Ty.int IntKind.i64)))))))) (updE (Ty.pair (Ty.int IntKind.i64) (Ty.pair (Ty.int IntKind.i64) (Ty.pair (Ty.sl (nat_lit 9) Ty.str) (Ty.sl (nat_lit 64) (Ty.pair Ty.str (Ty.pair Ty.bool (Ty.sl (nat_lit 3) (Ty.int IntKind.i64)))))))) y0 (Int.toNat y2) fun x => (y1,x.2.1,x.2.2.1,x.2.2.2)) (Int.toNat y2) fun x => (x.1,IntKind.wrap IntKind.i64 (y1 + (1:Int)),x.2.2.1,x.2.2.2)) (Int.toNat y2)).1,(at_ (Ty.pair (Ty.int IntKind.i64) (Ty.pair (Ty.int IntKind.i64) (Ty.pair (Ty.sl (nat_lit 9) Ty.str) (Ty.sl (nat_lit 64) (Ty.pair Ty.str (Ty.pair Ty.bool (Ty.sl (nat_lit 3) (Ty.int IntKind.i64)))))))) (updE (Ty.pair (Ty.int IntKind.i64) (Ty.pair (Ty.int IntKind.i64) (Ty.pair (Ty.sl (nat_lit 9) Ty.str) (Ty.sl (nat_lit 64) (Ty.pair Ty.str (Ty.pair Ty.bool (Ty.sl (nat_lit 3) (Ty.int IntKind.i64)))))))) (updE (Ty.pair (Ty.int IntKind.i64) (Ty.pair (Ty.int IntKind.i64) (Ty.pair (Ty.sl (nat_lit 9) Ty.str) (Ty.sl (nat_lit 64) (Ty.pair Ty.str (Ty.pair Ty.bool (Ty.sl (nat_lit 3) (Ty.int IntKind.i64)))))))) y0 (Int.toNat y2) fun x => (y1,x.2.1,x.2.2.1,x.2.2.2)) (Int.toNat y2) fun x => (x.1,IntKind.wrap IntKind.i64 (y1 + (1:Int)),x.2.2.1,x.2.2.2)) (Int.toNat y2)).2.1,g_Vw_markStringS_1 (at_ (Ty.pair (Ty.int IntKind.i64) (Ty.pair (Ty.int IntKind.i64) (Ty.pair (Ty.sl (nat_lit 9) Ty.str) (Ty.sl (nat_lit 64) (Ty.pair Ty.str (Ty.pair Ty.bool (Ty.sl (nat_lit 3) (Ty.int IntKind.i64)))))))) (updE (Ty.pair (Ty.int IntKind.i64) (Ty.pair (Ty.int IntKind.i64) (Ty.pair (Ty.sl (nat_lit 9) Ty.str) (Ty.sl (nat_lit 64) (Ty.pair Ty.str (Ty.pair Ty.bool (Ty.sl (nat_lit 3) (Ty.int IntKind.i64)))))))) (updE (Ty.pair (Ty.int IntKind.i64) (Ty.pair (Ty.int IntKind.i64) (Ty.pair (Ty.sl (nat_lit 9) Ty.str) (Ty.sl (nat_lit 64) (Ty.pair Ty.str (Ty.pair Ty.bool (Ty.sl (nat_lit 3) (Ty.int IntKind.i64)))))))) y0 (Int.toNat y2) fun x => (y1,x.2.1,x.2.2.1,x.2.2.2)) (Int.toNat y2) fun x => (x.1,IntKind.wrap IntKind.i64 (y1 + (1:Int)),x.2.2.1,x.2.2.2)) (Int.toNat y2)).2.2.1 (IntKind.wrap IntKind.i64 (IntKind.wrap IntKind.i64 (y1 + (1:Int)) + (1:Int))),(at_ (Ty.pair (Ty.int IntKind.i64) (Ty.pair (Ty.int IntKind.i64) (Ty.pair (Ty.sl (nat_lit 9) Ty.str) (Ty.sl (nat_lit 64) (Ty.pair Ty.str (Ty.pair Ty.bool (Ty.sl (nat_lit 3) (Ty.int IntKind.i64)))))))) (updE (Ty.pair (Ty.int IntKind.i64) (Ty.pair (Ty.int IntKind.i64) (Ty.pair (Ty.sl (nat_lit 9) Ty.str) (Ty.sl (nat_lit 64) (Ty.pair Ty.str (Ty.pair Ty.bool (Ty.sl (nat_lit 3) (Ty.int IntKind.i64)))))))) (updE (Ty.pair (Ty.int IntKind.i64) (Ty.pair (Ty.int IntKind.i64) (Ty.pair (Ty.sl (nat_lit 9) Ty.str) (Ty.sl (nat_lit 64) (Ty.pair Ty.str (Ty.pair Ty.bool (Ty.sl (nat_lit 3) (Ty.int IntKind.i64)))))))) y0 (Int.toNat y2) fun x => (y1,x.2.1,x.2.2.1,x.2.2.2)) (Int.toNat y2) fun x => (x.1,IntKind.wrap IntKind.i64 (y1 + (1:Int)),x.2.2.1,x.2.2.2)) (Int.toNat y2)).2.2.2)))) (.br (g_Aw_markStoWriteS (at_ (Ty.pair (Ty.int IntKind.i64) (Ty.pair (Ty.int IntKind.i64) (Ty.pair (Ty.sl (nat_lit 9) Ty.str) (Ty.sl (nat_lit 64) (Ty.pair Ty.str (Ty.pair Ty.bool (Ty.sl (nat_lit 3) (Ty.int IntKind.i64)))))))) (List.set (updE (Ty.pair (Ty.int IntKind.i64) (Ty.pair (Ty.int IntKind.i64) (Ty.pair (Ty.sl (nat_lit 9) Ty.str) (Ty.sl (nat_lit 64) (Ty.pair Ty.str (Ty.pair Ty.bool (Ty.sl (nat_lit 3) (Ty.int IntKind.i64)))))))) (updE (Ty.pair (Ty.int IntKind.i64) (Ty.pair (Ty.int IntKind.i64) (Ty.pair (Ty.sl (nat_lit 9) Ty.str) (Ty.sl (nat_lit 64) (Ty.pair Ty.str (Ty.pair Ty.bool (Ty.sl (nat_lit 3) (Ty.int IntKind.i64)))))))) y0 (Int.toNat y2) fun x => (y1,x.2.1,x.2.2.1,x.2.2.2)) (Int.toNat y2) fun x => (x.1,IntKind.wrap IntKind.i64 (y1 + (1:Int)),x.2.2.1,x.2.2.2)) (Int.toNat y2) ((at_ (Ty.pair (Ty.int IntKind.i64) (Ty.pair (Ty.int IntKind.i64) (Ty.pair (Ty.sl (nat_lit 9) Ty.str) (Ty.sl (nat_lit 64) (Ty.pair Ty.str (Ty.pair Ty.bool (Ty.sl (nat_lit 3) (Ty.int IntKind.i64)))))))) (updE (Ty.pair (Ty.int IntKind.i64) (Ty.pair (Ty.int IntKind.i64) (Ty.pair (Ty.sl (nat_lit 9) Ty.str) (Ty.sl (nat_lit 64) (Ty.pair Ty.str (Ty.pair Ty.bool (Ty.sl (nat_lit 3) (Ty.int IntKind.i64)))))))) (updE (Ty.pair (Ty.int IntKind.i64) (Ty.pair (Ty.int IntKind.i64) (Ty.pair (Ty.sl (nat_lit 9) Ty.str) (Ty.sl (nat_lit 64) (Ty.pair Ty.str (Ty.pair Ty.bool (Ty.sl (nat_lit 3) (Ty.int IntKind.i64)))))))) y0 (Int.toNat y2) fun x => (y1,x.2.1,x.2.2.1,x.2.2.2)) (Int.toNat y2) fun x => (x.1,IntKind.wrap IntKind.i64 (y1 + (1:Int)),x.2.2.1,x.2.2.2)) (Int.toNat y2)).1,(at_ (Ty.pair (Ty.int IntKind.i64) (Ty.pair (Ty.int IntKind.i64) (Ty.pair (Ty.sl (nat_lit 9) Ty.str) (Ty.sl (nat_lit 64) (Ty.pair Ty.str (Ty.pair Ty.bool (Ty.sl (nat_lit 3) (Ty.int IntKind.i64)))))))) (updE (Ty.pair (Ty.int IntKind.i64) (Ty.pair (Ty.int IntKind.i64) (Ty.pair (Ty.sl (nat_lit 9) Ty.str) (Ty.sl (nat_lit 64) (Ty.pair Ty.str (Ty.pair Ty.bool (Ty.sl (nat_lit 3) (Ty.int IntKind.i64)))))))) (updE (Ty.pair (Ty.int IntKind.i64) (Ty.pair (Ty.int IntKind.i64) (Ty.pair (Ty.sl (nat_lit 9) Ty.str) (Ty.sl (nat_lit 64) (Ty.pair Ty.str (Ty.pair Ty.bool (Ty.sl (nat_lit 3) (Ty.int IntKind.i64)))))))) y0 (Int.toNat y2) fun x => (y1,x.2.1,x.2.2.1,x.2.2.2)) (Int.toNat y2) fun x => (x.1,IntKind.wrap IntKind.i64 (y1 + (1:Int)),x.2.2.1,x.2.2.2)) (Int.toNat y2)).2.1,g_Vw_markStringS_1 (at_ (Ty.pair (Ty.int IntKind.i64) (Ty.pair (Ty.int IntKind.i64) (Ty.pair (Ty.sl (nat_lit 9) Ty.str) (Ty.sl (nat_lit 64) (Ty.pair Ty.str (Ty.pair Ty.bool (Ty.sl (nat_lit 3) (Ty.int IntKind.i64)))))))) (updE (Ty.pair (Ty.int IntKind.i64) (Ty.pair (Ty.int IntKind.i64) (Ty.pair (Ty.sl (nat_lit 9) Ty.str) (Ty.sl (nat_lit 64) (Ty.pair Ty.str (Ty.pair Ty.bool (Ty.sl (nat_lit 3) (Ty.int IntKind.i64)))))))) (updE (Ty.pair (Ty.int IntKind.i64) (Ty.pair (Ty.int IntKind.i64) (Ty.pair (Ty.sl (nat_lit 9) Ty.str) (Ty.sl (nat_lit 64) (Ty.pair Ty.str (Ty.pair Ty.bool (Ty.sl (nat_lit 3) (Ty.int IntKind.i64)))))))) y0 (Int.toNat y2) fun x => (y1,x.2.1,x.2.2.1,x.2.2.2)) (Int.toNat y2) fun x => (x.1,IntKind.wrap IntKind.i64 (y1 + (1:Int)),x.2.2.1,x.2.2.2)) (Int.toNat y2)).2.2.1 (IntKind.wrap IntKind.i64 (IntKind.wrap IntKind.i64 (y1 + (1:Int)) + (1:Int))),(at_ (Ty.pair (Ty.int IntKind.i64) (Ty.pair (Ty.int IntKind.i64) (Ty.pair (Ty.sl (nat_lit 9) Ty.str) (Ty.sl (nat_lit 64) (Ty.pair Ty.str (Ty.pair Ty.bool (Ty.sl (nat_lit 3) (Ty.int IntKind.i64)))))))) (updE (Ty.pair (Ty.int IntKind.i64) (Ty.pair (Ty.int IntKind.i64) (Ty.pair (Ty.sl (nat_lit 9) Ty.str) (Ty.sl (nat_lit 64) (Ty.pair Ty.str (Ty.pair Ty.bool (Ty.sl (nat_lit 3) (Ty.int IntKind.i64)))))))) (updE (Ty.pair (Ty.int IntKind.i64) (Ty.pair (Ty.int IntKind.i64) (Ty.pair (Ty.sl (nat_lit 9) Ty.str) (Ty.sl (nat_lit 64) (Ty.pair Ty.str (Ty.pair Ty.bool (Ty.sl (nat_lit 3) (Ty.int IntKind.i64)))))))) y0 (Int.toNat y2) fun x => (y1,x.2.1,x.2.2.1,x.2.2.2)) (Int.toNat y2) fun x => (x.1,IntKind.wrap IntKind.i64 (y1 + (1:Int)),x.2.2.1,x.2.2.2)) (Int.toNat y2)).2.2.2)) (Int.toNat y2)).2.2.2 (g_Vw_markStringS_0 (at_ (Ty.pair (Ty.int IntKind.i64) (Ty.pair (Ty.int IntKind.i64) (Ty.pair (Ty.sl (nat_lit 9) Ty.str) (Ty.sl (nat_lit 64) (Ty.pair Ty.str (Ty.pair Ty.bool (Ty.sl (nat_lit 3) (Ty.int IntKind.i64)))))))) (updE (Ty.pair (Ty.int IntKind.i64) (Ty.pair (Ty.int IntKind.i64) (Ty.pair (Ty.sl (nat_lit 9) Ty.str) (Ty.sl (nat_lit 64) (Ty.pair Ty.str (Ty.pair Ty.bool (Ty.sl (nat_lit 3) (Ty.int IntKind.i64)))))))) (updE (Ty.pair (Ty.int IntKind.i64) (Ty.pair (Ty.int IntKind.i64) (Ty.pair (Ty.sl (nat_lit 9) Ty.str) (Ty.sl (nat_lit 64) (Ty.pair Ty.str (Ty.pair Ty.bool (Ty.sl (nat_lit 3) (Ty.int IntKind.i64)))))))) y0 (Int.toNat y2) fun x => (y1,x.2.1,x.2.2.1,x.2.2.2)) (Int.toNat y2) fun x => (x.1,IntKind.wrap IntKind.i64 (y1 + (1:Int)),x.2.2.1,x.2.2.2)) (Int.toNat y2)).2.2.1 (IntKind.wrap IntKind.i64 (IntKind.wrap IntKind.i64 (y1 + (1:Int)) + (1:Int))))) (.br (true) (.go ((List.set (List.set (updE (Ty.pair (Ty.int IntKind.i64) (Ty.pair (Ty.int IntKind.i64) (Ty.pair (Ty.sl (nat_lit 9) Ty.str) (Ty.sl (nat_lit 64) (Ty.pair Ty.str (Ty.pair Ty.bool (Ty.sl (nat_lit 3) (Ty.int IntKind.i64)))))))) (updE (Ty.pair (Ty.int IntKind.i64) (Ty.pair (Ty.int IntKind.i64) (Ty.pair (Ty.sl (nat_lit 9) Ty.str) (Ty.sl (nat_lit 64) (Ty.pair Ty.str (Ty.pair Ty.bool (Ty.sl (nat_lit 3) (Ty.int IntKind.i64)))))))) y0 (Int.toNat y2) fun x => (y1,x.2.1,x.2.2.1,x.2.2.2)) (Int.toNat y2) fun x => (x.1,IntKind.wrap IntKind.i64 (y1 + (1:Int)),x.2.2.1,x.2.2.2)) (Int.toNat y2) ((at_ (Ty.pair (Ty.int IntKind.i64) (Ty.pair (Ty.int IntKind.i64) (Ty.pair (Ty.sl (nat_lit 9) Ty.str) (Ty.sl (nat_lit 64) (Ty.pair Ty.str (Ty.pair Ty.bool (Ty.sl (nat_lit 3) (Ty.int IntKind.i64)))))))) (updE (Ty.pair (Ty.int IntKind.i64) (Ty.pair (Ty.int IntKind.i64) (Ty.pair (Ty.sl (nat_lit 9) Ty.str) (Ty.sl (nat_lit 64) (Ty.pair Ty.str (Ty.pair Ty.bool (Ty.sl (nat_lit 3) (Ty.int IntKind.i64)))))))) (updE (Ty.pair (Ty.int IntKind.i64) (Ty.pair (Ty.int IntKind.i64) (Ty.pair (Ty.sl (nat_lit 9) Ty.str) (Ty.sl (nat_lit 64) (Ty.pair Ty.str (Ty.pair Ty.bool (Ty.sl (nat_lit 3) (Ty.int IntKind.i64)))))))) y0 (Int.toNat y2) fun x => (y1,x.2.1,x.2.2.1,x.2.2.2)) (Int.toNat y2) fun x => (x.1,IntKind.wrap IntKind.i64 (y1 + (1:Int)),x.2.2.1,x.2.2.2)) (Int.toNat y2)).1,(at_ (Ty.pair (Ty.int IntKind.i64) (Ty.pair (Ty.int IntKind.i64) (Ty.pair (Ty.sl (nat_lit 9) Ty.str) (Ty.sl (nat_lit 64) (Ty.pair Ty.str (Ty.pair Ty.bool (Ty.sl (nat_lit 3) (Ty.int IntKind.i64)))))))) (updE (Ty.pair (Ty.int IntKind.i64) (Ty.pair (Ty.int IntKind.i64) (Ty.pair (Ty.sl (nat_lit 9) Ty.str) (Ty.sl (nat_lit 64) (Ty.pair Ty.str (Ty.pair Ty.bool (Ty.sl (nat_lit 3) (Ty.int IntKind.i64)))))))) (updE (Ty.pair (Ty.int IntKind.i64) (Ty.pair (Ty.int IntKind.i64) (Ty.pair (Ty.sl (nat_lit 9) Ty.str) (Ty.sl (nat_lit 64) (Ty.pair Ty.str (Ty.pair Ty.bool (Ty.sl (nat_lit 3) (Ty.int IntKind.i64)))))))) y0 (Int.toNat y2) fun x => (y1,x.2.1,x.2.2.1,x.2.2.2)) (Int.toNat y2) fun x => (x.1,IntKind.wrap IntKind.i64 (y1 + (1:Int)),x.2.2.1,x.2.2.2)) (Int.toNat y2)).2.1,g_Vw_markStringS_1 (at_ (Ty.pair (Ty.int IntKind.i64) (Ty.pair (Ty.int IntKind.i64) (Ty.pair (Ty.sl (nat_lit 9) Ty.str) (Ty.sl (nat_lit 64) (Ty.pair Ty.str (Ty.pair Ty.bool (Ty.sl (nat_lit 3) (Ty.int IntKind.i64)))))))) (updE (Ty.pair (Ty.int IntKind.i64) (Ty.pair (Ty.int IntKind.i64) (Ty.pair (Ty.sl (nat_lit 9) Ty.str) (Ty.sl (nat_lit 64) (Ty.pair Ty.str (Ty.pair Ty.bool (Ty.sl (nat_lit 3) (Ty.int IntKind.i64)))))))) (updE (Ty.pair (Ty.int IntKind.i64) (Ty.pair (Ty.int IntKind.i64) (Ty.pair (Ty.sl (nat_lit 9) Ty.str) (Ty.sl (nat_lit 64) (Ty.pair Ty.str (Ty.pair Ty.bool (Ty.sl (nat_lit 3) (Ty.int IntKind.i64)))))))) y0 (Int.toNat y2) fun x => (y1,x.2.1,x.2.2.1,x.2.2.2)) (Int.toNat y2) fun x => (x.1,IntKind.wrap IntKind.i64 (y1 + (1:Int)),x.2.2.1,x.2.2.2)) (Int.toNat y2)).2.2.1 (IntKind.wrap IntKind.i64 (IntKind.wrap IntKind.i64 (y1 + (1:Int)) + (1:Int))),(at_ (Ty.pair (Ty.int IntKind.i64) (Ty.pair (Ty.int IntKind.i64) (Ty.pair (Ty.sl (nat_lit 9) Ty.str) (Ty.sl (nat_lit 64) (Ty.pair Ty.str (Ty.pair Ty.bool (Ty.sl (nat_lit 3) (Ty.int IntKind.i64)))))))) (updE (Ty.pair (Ty.int IntKind.i64) (Ty.pair (Ty.int IntKind.i64) (Ty.pair (Ty.sl (nat_lit 9) Ty.str) (Ty.sl (nat_lit 64) (Ty.pair Ty.str (Ty.pair Ty.bool (Ty.sl (nat_lit 3) (Ty.int IntKind.i64)))))))) (updE (Ty.pair (Ty.int IntKind.i64) (Ty.pair (Ty.int IntKind.i64) (Ty.pair (Ty.sl (nat_lit 9) Ty.str) (Ty.sl (nat_lit 64) (Ty.pair Ty.str (Ty.pair Ty.bool (Ty.sl (nat_lit 3) (Ty.int IntKind.i64)))))))) y0 (Int.toNat y2) fun x => (y1,x.2.1,x.2.2.1,x.2.2.2)) (Int.toNat y2) fun x => (x.1,IntKind.wrap IntKind.i64 (y1 + (1:Int)),x.2.2.1,x.2.2.2)) (Int.toNat y2)).2.2.2)) (Int.toNat y2) ((at_ (Ty.pair (Ty.int IntKind.i64) (Ty.pair (Ty.int IntKind.i64) (Ty.pair (Ty.sl (nat_lit 9) Ty.str) (Ty.sl (nat_lit 64) (Ty.pair Ty.str (Ty.pair Ty.bool (Ty.sl (nat_lit 3) (Ty.int IntKind.i64)))))))) (List.set (updE (Ty.pair (Ty.int IntKind.i64) (Ty.pair (Ty.int IntKind.i64) (Ty.pair (Ty.sl (nat_lit 9) Ty.str) (Ty.sl (nat_lit 64) (Ty.pair Ty.str (Ty.pair Ty.bool (Ty.sl (nat_lit 3) (Ty.int IntKind.i64)))))))) (updE (Ty.pair (Ty.int IntKind.i64) (Ty.pair (Ty.int IntKind.i64) (Ty.pair (Ty.sl (nat_lit 9) Ty.str) (Ty.sl (nat_lit 64) (Ty.pair Ty.str (Ty.pair Ty.bool (Ty.sl (nat_lit 3) (Ty.int IntKind.i64)))))))) y0 (Int.toNat y2) fun x => (y1,x.2.1,x.2.2.1,x.2.2.2)) (Int.toNat y2) fun x => (x.1,IntKind.wrap IntKind.i64 (y1 + (1:Int)),x.2.2.1,x.2.2.2)) (Int.toNat y2) ((at_ (Ty.pair (Ty.int IntKind.i64) (Ty.pair (Ty.int IntKind.i64) (Ty.pair (Ty.sl (nat_lit 9) Ty.str) (Ty.sl (nat_lit 64) (Ty.pair Ty.str (Ty.pair Ty.bool (Ty.sl (nat_lit 3) (Ty.int IntKind.i64)))))))) (updE (Ty.pair (Ty.int IntKind.i64) (Ty.pair (Ty.int IntKind.i64) (Ty.pair (Ty.sl (nat_lit 9) Ty.str) (Ty.sl (nat_lit 64) (Ty.pair Ty.str (Ty.pair Ty.bool (Ty.sl (nat_lit 3) (Ty.int IntKind.i64)))))))) (updE (Ty.pair (Ty.int IntKind.i64) (Ty.pair (Ty.int IntKind.i64) (Ty.pair (Ty.sl (nat_lit 9) Ty.str) (Ty.sl (nat_lit 64) (Ty.pair Ty.str (Ty.pair Ty.bool (Ty.sl (nat_lit 3) (Ty.int IntKind.i64)))))))) y0 (Int.toNat y2) fun x => (y1,x.2.1,x.2.2.1,x.2.2.2)) (Int.toNat y2) fun x => (x.1,IntKind.wrap IntKind.i64 (y1 + (1:Int)),x.2.2.1,x.2.2.2)) (Int.toNat y2)).1,(at_ (Ty.pair (Ty.int IntKind.i64) (Ty.pair (Ty.int IntKind.i64) (Ty.pair (Ty.sl (nat_lit 9) Ty.str) (Ty.sl (nat_lit 64) (Ty.pair Ty.str (Ty.pair Ty.bool (Ty.sl (nat_lit 3) (Ty.int IntKind.i64)))))))) (updE (Ty.pair (Ty.int IntKind.i64) (Ty.pair (Ty.int IntKind.i64) (Ty.pair (Ty.sl (nat_lit 9) Ty.str) (Ty.sl (nat_lit 64) (Ty.pair Ty.str (Ty.pair Ty.bool (Ty.sl (nat_lit 3) (Ty.int IntKind.i64)))))))) (updE (Ty.pair (Ty.int IntKind.i64) (Ty.pair (Ty.int IntKind.i64) (Ty.pair (Ty.sl (nat_lit 9) Ty.str) (Ty.sl (nat_lit 64) (Ty.pair Ty.str (Ty.pair Ty.bool (Ty.sl (nat_lit 3) (Ty.int IntKind.i64)))))))) y0 (Int.toNat y2) fun x => (y1,x.2.1,x.2.2.1,x.2.2.2)) (Int.toNat y2) fun x => (x.1,IntKind.wrap IntKind.i64 (y1 + (1:Int)),x.2.2.1,x.2.2.2)) (Int.toNat y2)).2.1,g_Vw_markStringS_1 (at_ (Ty.pair (Ty.int IntKind.i64) (Ty.pair (Ty.int IntKind.i64) (Ty.pair (Ty.sl (nat_lit 9) Ty.str) (Ty.sl (nat_lit 64) (Ty.pair Ty.str (Ty.pair Ty.bool (Ty.sl (nat_lit 3) (Ty.int IntKind.i64)))))))) (updE (Ty.pair (Ty.int IntKind.i64) (Ty.pair (Ty.int IntKind.i64) (Ty.pair (Ty.sl (nat_lit 9) Ty.str) (Ty.sl (nat_lit 64) (Ty.pair Ty.str (Ty.pair Ty.bool (Ty.sl (nat_lit 3) (Ty.int IntKind.i64)))))))) (updE (Ty.pair (Ty.int IntKind.i64) (Ty.pair (Ty.int IntKind.i64) (Ty.pair (Ty.sl (nat_lit 9) Ty.str) (Ty.sl (nat_lit 64) (Ty.pair Ty.str (Ty.pair Ty.bool (Ty.sl (nat_lit 3) (Ty.int IntKind.i64)))))))) y0 (Int.toNat y2) fun x => (y1,x.2.1,x.2.2.1,x.2.2.2)) (Int.toNat y2) fun x => (x.1,IntKind.wrap IntKind.i64 (y1 + (1:Int)),x.2.2.1,x.2.2.2)) (Int.toNat y2)).2.2.1 (IntKind.wrap IntKind.i64 (IntKind.wrap IntKind.i64 (y1 + (1:Int)) + (1:Int))),(at_ (Ty.pair (Ty.int IntKind.i64) (Ty.pair (Ty.int IntKind.i64) (Ty.pair (Ty.sl (nat_lit 9) Ty.str) (Ty.sl (nat_lit 64) (Ty.pair Ty.str (Ty.pair Ty.bool (Ty.sl (nat_lit 3) (Ty.int IntKind.i64)))))))) (updE (Ty.pair (Ty.int IntKind.i64) (Ty.pair (Ty.int IntKind.i64) (Ty.pair (Ty.sl (nat_lit 9) Ty.str) (Ty.sl (nat_lit 64) (Ty.pair Ty.str (Ty.pair Ty.bool (Ty.sl (nat_lit 3) (Ty.int IntKind.i64)))))))) (updE (Ty.pair (Ty.int IntKind.i64) (Ty.pair (Ty.int IntKind.i64) (Ty.pair (Ty.sl (nat_lit 9) Ty.str) (Ty.sl (nat_lit 64) (Ty.pair Ty.str (Ty.pair Ty.bool (Ty.sl (nat_lit 3) (Ty.int IntKind.i64)))))))) y0 (Int.toNat y2) fun x => (y1,x.2.1,x.2.2.1,x.2.2.2)) (Int.toNat y2) fun x => (x.1,IntKind.wrap IntKind.i64 (y1 + (1:Int)),x.2.2.1,x.2.2.2)) (Int.toNat y2)).2.2.2)) (Int.toNat y2)).1,(at_ (Ty.pair (Ty.int IntKind.i64) (Ty.pair (Ty.int IntKind.i64) (Ty.pair (Ty.sl (nat_lit 9) Ty.str) (Ty.sl (nat_lit 64) (Ty.pair Ty.str (Ty.pair Ty.bool (Ty.sl (nat_lit 3) (Ty.int IntKind.i64)))))))) (List.set (updE (Ty.pair (Ty.int IntKind.i64) (Ty.pair (Ty.int IntKind.i64) (Ty.pair (Ty.sl (nat_lit 9) Ty.str) (Ty.sl (nat_lit 64) (Ty.pair Ty.str (Ty.pair Ty.bool (Ty.sl (nat_lit 3) (Ty.int IntKind.i64)))))))) (updE (Ty.pair (Ty.int IntKind.i64) (Ty.pair (Ty.int IntKind.i64) (Ty.pair (Ty.sl (nat_lit 9) Ty.str) (Ty.sl (nat_lit 64) (Ty.pair Ty.str (Ty.pair Ty.bool (Ty.sl (nat_lit 3) (Ty.int IntKind.i64)))))))) y0 (Int.toNat y2) fun x => (y1,x.2.1,x.2.2.1,x.2.2.2)) (Int.toNat y2) fun x => (x.1,IntKind.wrap IntKind.i64 (y1 + (1:Int)),x.2.2.1,x.2.2.2)) (Int.toNat y2) ((at_ (Ty.pair (Ty.int IntKind.i64) (Ty.pair (Ty.int IntKind.i64) (Ty.pair (Ty.sl (nat_lit 9) Ty.str) (Ty.sl (nat_lit 64) (Ty.pair Ty.str (Ty.pair Ty.bool (Ty.sl (nat_lit 3) (Ty.int IntKind.i64)))))))) (updE (Ty.pair (Ty.int IntKind.i64) (Ty.pair (Ty.int IntKind.i64) (Ty.pair (Ty.sl (nat_lit 9) Ty.str) (Ty.sl (nat_lit 64) (Ty.pair Ty.str (Ty.pair Ty.bool (Ty.sl (nat_lit 3) (Ty.int IntKind.i64)))))))) (updE (Ty.pair (Ty.int IntKind.i64) (Ty.pair (Ty.int IntKind.i64) (Ty.pair (Ty.sl (nat_lit 9) Ty.str) (Ty.sl (nat_lit 64) (Ty.pair Ty.str (Ty.pair Ty.bool (Ty.sl (nat_lit 3) (Ty.int IntKind.i64)))))))) y0 (Int.toNat y2) fun x => (y1,x.2.1,x.2.2.1,x.2.2.2)) (Int.toNat y2) fun x => (x.1,IntKind.wrap IntKind.i64 (y1 + (1:Int)),x.2.2.1,x.2.2.2)) (Int.toNat y2)).1,(at_ (Ty.pair (Ty.int IntKind.i64) (Ty.pair (Ty.int IntKind.i64) (Ty.pair (Ty.sl (nat_lit 9) Ty.str) (Ty.sl (nat_lit 64) (Ty.pair Ty.str (Ty.pair Ty.bool (Ty.sl (nat_lit 3) (Ty.int IntKind.i64)))))))) (updE (Ty.pair (Ty.int IntKind.i64) (Ty.pair (Ty.int IntKind.i64) (Ty.pair (Ty.sl (nat_lit 9) Ty.str) (Ty.sl (nat_lit 64) (Ty.pair Ty.str (Ty.pair Ty.bool (Ty.sl (nat_lit 3) (Ty.int IntKind.i64)))))))) (updE (Ty.pair (Ty.int IntKind.i64) (Ty.pair (Ty.int IntKind.i64) (Ty.pair (Ty.sl (nat_lit 9) Ty.str) (Ty.sl (nat_lit 64) (Ty.pair Ty.str (Ty.pair Ty.bool (Ty.sl (nat_lit 3) (Ty.int IntKind.i64)))))))) y0 (Int.toNat y2) fun x => (y1,x.2.1,x.2.2.1,x.2.2.2)) (Int.toNat y2) fun x => (x.1,IntKind.wrap IntKind.i64 (y1 + (1:Int)),x.2.2.1,x.2.2.2)) (Int.toNat y2)).2.1,g_Vw_markStringS_1 (at_ (Ty.pair (Ty.int IntKind.i64) (Ty.pair (Ty.int IntKind.i64) (Ty.pair (Ty.sl (nat_lit 9) Ty.str) (Ty.sl (nat_lit 64) (Ty.pair Ty.str (Ty.pair Ty.bool (Ty.sl (nat_lit 3) (Ty.int IntKind.i64)))))))) (updE (Ty.pair (Ty.int IntKind.i64) (Ty.pair (Ty.int IntKind.i64) (Ty.pair (Ty.sl (nat_lit 9) Ty.str) (Ty.sl (nat_lit 64) (Ty.pair Ty.str (Ty.pair Ty.bool (Ty.sl (nat_lit 3) (Ty.int IntKind.i64)))))))) (updE (Ty.pair (Ty.int IntKind.i64) (Ty.pair (Ty.int IntKind.i64) (Ty.pair (Ty.sl (nat_lit 9) Ty.str) (Ty.sl (nat_lit 64) (Ty.pair Ty.str (Ty.pair Ty.bool (Ty.sl (nat_lit 3) (Ty.int IntKind.i64)))))))) y0 (Int.toNat y2) fun x => (y1,x.2.1,x.2.2.1,x.2.2.2)) (Int.toNat y2) fun x => (x.1,IntKind.wrap IntKind.i64 (y1 + (1:Int)),x.2.2.1,x.2.2.2)) (Int.toNat y2)).2.2.1 (IntKind.wrap IntKind.i64 (IntKind.wrap IntKind.i64 (y1 + (1:Int)) + (1:Int))),(at_ (Ty.pair (Ty.int IntKind.i64) (Ty.pair (Ty.int IntKind.i64) (Ty.pair (Ty.sl (nat_lit 9) Ty.str) (Ty.sl (nat_lit 64) (Ty.pair Ty.str (Ty.pair Ty.bool (Ty.sl (nat_lit 3) (Ty.int IntKind.i64)))))))) (updE (Ty.pair (Ty.int IntKind.i64) (Ty.pair (Ty.int IntKind.i64) (Ty.pair (Ty.sl (nat_lit 9) Ty.str) (Ty.sl (nat_lit 64) (Ty.pair Ty.str (Ty.pair Ty.bool (Ty.sl (nat_lit 3) (Ty.int IntKind.i64)))))))) (updE (Ty.pair (Ty.int IntKind.i64) (Ty.pair (Ty.int IntKind.i64) (Ty.pair (Ty.sl (nat_lit 9) Ty.str) (Ty.sl (nat_lit 64) (Ty.pair Ty.str (Ty.pair Ty.bool (Ty.sl (nat_lit 3) (Ty.int IntKind.i64)))))))) y0 (Int.toNat y2) fun x => (y1,x.2.1,x.2.2.1,x.2.2.2)) (Int.toNat y2) fun x => (x.1,IntKind.wrap IntKind.i64 (y1 + (1:Int)),x.2.2.1,x.2.2.2)) (Int.toNat y2)).2.2.2)) (Int.toNat y2)).2.1,(at_ (Ty.pair (Ty.int IntKind.i64) (Ty.pair (Ty.int IntKind.i64) (Ty.pair (Ty.sl (nat_lit 9) Ty.str) (Ty.sl (nat_lit 64) (Ty.pair Ty.str (Ty.pair Ty.bool (Ty.sl (nat_lit 3) (Ty.int IntKind.i64)))))))) (List.set (updE (Ty.pair (Ty.int IntKind.i64) (Ty.pair (Ty.int IntKind.i64) (Ty.pair (Ty.sl (nat_lit 9) Ty.str) (Ty.sl (nat_lit 64) (Ty.pair Ty.str (Ty.pair Ty.bool (Ty.sl (nat_lit 3) (Ty.int IntKind.i64)))))))) (updE (Ty.pair (Ty.int IntKind.i64) (Ty.pair (Ty.int IntKind.i64) (Ty.pair (Ty.sl (nat_lit 9) Ty.str) (Ty.sl (nat_lit 64) (Ty.pair Ty.str (Ty.pair Ty.bool (Ty.sl (nat_lit 3) (Ty.int IntKind.i64)))))))) y0 (Int.toNat y2) fun x => (y1,x.2.1,x.2.2.1,x.2.2.2)) (Int.toNat y2) fun x => (x.1,IntKind.wrap IntKind.i64 (y1 + (1:Int)),x.2.2.1,x.2.2.2)) (Int.toNat y2) ((at_ (Ty.pair (Ty.int IntKind.i64) (Ty.pair (Ty.int IntKind.i64) (Ty.pair (Ty.sl (nat_lit 9) Ty.str) (Ty.sl (nat_lit 64) (Ty.pair Ty.str (Ty.pair Ty.bool (Ty.sl (nat_lit 3) (Ty.int IntKind.i64)))))))) (updE (Ty.pair (Ty.int IntKind.i64) (Ty.pair (Ty.int IntKind.i64) (Ty.pair (Ty.sl (nat_lit 9) Ty.str) (Ty.sl (nat_lit 64) (Ty.pair Ty.str (Ty.pair Ty.bool (Ty.sl (nat_lit 3) (Ty.int IntKind.i64)))))))) (updE (Ty.pair (Ty.int IntKind.i64) (Ty.pair (Ty.int IntKind.i64) (Ty.pair (Ty.sl (nat_lit 9) Ty.str) (Ty.sl (nat_lit 64) (Ty.pair Ty.str (Ty.pair Ty.bool (Ty.sl (nat_lit 3) (Ty.int IntKind.i64)))))))) y0 (Int.toNat y2) fun x => (y1,x.2.1,x.2.2.1,x.2.2.2)) (Int.toNat y2) fun x => (x.1,IntKind.wrap IntKind.i64 (y1 + (1:Int)),x.2.2.1,x.2.2.2)) (Int.toNat y2)).1,(at_ (Ty.pair (Ty.int IntKind.i64) (Ty.pair (Ty.int IntKind.i64) (Ty.pair (Ty.sl (nat_lit 9) Ty.str) (Ty.sl (nat_lit 64) (Ty.pair Ty.str (Ty.pair Ty.bool (Ty.sl (nat_lit 3) (Ty.int IntKind.i64)))))))) (updE (Ty.pair (Ty.int IntKind.i64) (Ty.pair (Ty.int IntKind.i64) (Ty.pair (Ty.sl (nat_lit 9) Ty.str) (Ty.sl (nat_lit 64) (Ty.pair Ty.str (Ty.pair Ty.bool (Ty.sl (nat_lit 3) (Ty.int IntKind.i64)))))))) (updE (Ty.pair (Ty.int IntKind.i64) (Ty.pair (Ty.int IntKind.i64) (Ty.pair (Ty.sl (nat_lit 9) Ty.str) (Ty.sl (nat_lit 64) (Ty.pair Ty.str (Ty.pair Ty.bool (Ty.sl (nat_lit 3) (Ty.int IntKind.i64)))))))) y0 (Int.toNat y2) fun x => (y1,x.2.1,x.2.2.1,x.2.2.2)) (Int.toNat y2) fun x => (x.1,IntKind.wrap IntKind.i64 (y1 + (1:Int)),x.2.2.1,x.2.2.2)) (Int.toNat y2)).2.1,g_Vw_markStringS_1 (at_ (Ty.pair (Ty.int IntKind.i64) (Ty.pair (Ty.int IntKind.i64) (Ty.pair (Ty.sl (nat_lit 9) Ty.str) (Ty.sl (nat_lit 64) (Ty.pair Ty.str (Ty.pair Ty.bool (Ty.sl (nat_lit 3) (Ty.int IntKind.i64)))))))) (updE (Ty.pair (Ty.int IntKind.i64) (Ty.pair (Ty.int IntKind.i64) (Ty.pair (Ty.sl (nat_lit 9) Ty.str) (Ty.sl (nat_lit 64) (Ty.pair Ty.str (Ty.pair Ty.bool (Ty.sl (nat_lit 3) (Ty.int IntKind.i64)))))))) (updE (Ty.pair (Ty.int IntKind.i64) (Ty.pair (Ty.int IntKind.i64) (Ty.pair (Ty.sl (nat_lit 9) Ty.str) (Ty.sl (nat_lit 64) (Ty.pair Ty.str (Ty.pair Ty.bool (Ty.sl (nat_lit 3) (Ty.int IntKind.i64)))))))) y0 (Int.toNat y2) fun x => (y1,x.2.1,x.2.2.1,x.2.2.2)) (Int.toNat y2) fun x => (x.1,IntKind.wrap IntKind.i64 (y1 + (1:Int)),x.2.2.1,x.2.2.2)) (Int.toNat y2)).2.2.1 (IntKind.wrap IntKind.i64 (IntKind.wrap IntKind.i64 (y1 + (1:Int)) + (1:Int))),(at_ (Ty.pair (Ty.int IntKind.i64) (Ty.pair (Ty.int IntKind.i64) (Ty.pair (Ty.sl (nat_lit 9) Ty.str) (Ty.sl (nat_lit 64) (Ty.pair Ty.str (Ty.pair Ty.bool (Ty.sl (nat_lit 3) (Ty.int IntKind.i64)))))))) (updE (Ty.pair (Ty.int IntKind.i64) (Ty.pair (Ty.int IntKind.i64) (Ty.pair (Ty.sl (nat_lit 9) Ty.str) (Ty.sl (nat_lit 64) (Ty.pair Ty.str (Ty.pair Ty.bool (Ty.sl (nat_lit 3) (Ty.int IntKind.i64)))))))) (updE (Ty.pair (Ty.int IntKind.i64) (Ty.pair (Ty.int IntKind.i64) (Ty.pair (Ty.sl (nat_lit 9) Ty.str) (Ty.sl (nat_lit 64) (Ty.pair Ty.str (Ty.pair Ty.bool (Ty.sl (nat_lit 3) (Ty.int IntKind.i64)))))))) y0 (Int.toNat y2) fun x => (y1,x.2.1,x.2.2.1,x.2.2.2)) (Int.toNat y2) fun x => (x.1,IntKind.wrap IntKind.i64 (y1 + (1:Int)),x.2.2.1,x.2.2.2)) (Int.toNat y2)).2.2.2)) (Int.toNat y2)).2.2.1,g_Vw_markStoWriteS_1 (at_ (Ty.pair (Ty.int IntKind.i64) (Ty.pair (Ty.int IntKind.i64) (Ty.pair (Ty.sl (nat_lit 9) Ty.str) (Ty.sl (nat_lit 64) (Ty.pair Ty.str (Ty.pair Ty.bool (Ty.sl (nat_lit 3) (Ty.int IntKind.i64)))))))) (List.set (updE (Ty.pair (Ty.int IntKind.i64) (Ty.pair (Ty.int IntKind.i64) (Ty.pair (Ty.sl (nat_lit 9) Ty.str) (Ty.sl (nat_lit 64) (Ty.pair Ty.str (Ty.pair Ty.bool (Ty.sl (nat_lit 3) (Ty.int IntKind.i64)))))))) (updE (Ty.pair (Ty.int IntKind.i64) (Ty.pair (Ty.int IntKind.i64) (Ty.pair (Ty.sl (nat_lit 9) Ty.str) (Ty.sl (nat_lit 64) (Ty.pair Ty.str (Ty.pair Ty.bool (Ty.sl (nat_lit 3) (Ty.int IntKind.i64)))))))) y0 (Int.toNat y2) fun x => (y1,x.2.1,x.2.2.1,x.2.2.2)) (Int.toNat y2) fun x => (x.1,IntKind.wrap IntKind.i64 (y1 + (1:Int)),x.2.2.1,x.2.2.2)) (Int.toNat y2) ((at_ (Ty.pair (Ty.int IntKind.i64) (Ty.pair (Ty.int IntKind.i64) (Ty.pair (Ty.sl (nat_lit 9) Ty.str) (Ty.sl (nat_lit 64) (Ty.pair Ty.str (Ty.pair Ty.bool (Ty.sl (nat_lit 3) (Ty.int IntKind.i64)))))))) (updE (Ty.pair (Ty.int IntKind.i64) (Ty.pair (Ty.int IntKind.i64) (Ty.pair (Ty.sl (nat_lit 9) Ty.str) (Ty.sl (nat_lit 64) (Ty.pair Ty.str (Ty.pair Ty.bool (Ty.sl (nat_lit 3) (Ty.int IntKind.i64)))))))) (updE (Ty.pair (Ty.int IntKind.i64) (Ty.pair (Ty.int IntKind.i64) (Ty.pair (Ty.sl (nat_lit 9) Ty.str) (Ty.sl (nat_lit 64) (Ty.pair Ty.str (Ty.pair Ty.bool (Ty.sl (nat_lit 3) (Ty.int IntKind.i64)))))))) y0 (Int.toNat y2) fun x => (y1,x.2.1,x.2.2.1,x.2.2.2)) (Int.toNat y2) fun x => (x.1,IntKind.wrap IntKind.i64 (y1 + (1:Int)),x.2.2.1,x.2.2.2)) (Int.toNat y2)).1,(at_ (Ty.pair (Ty.int IntKind.i64) (Ty.pair (Ty.int IntKind.i64) (Ty.pair (Ty.sl (nat_lit 9) Ty.str) (Ty.sl (nat_lit 64) (Ty.pair Ty.str (Ty.pair Ty.bool (Ty.sl (nat_lit 3) (Ty.int IntKind.i64)))))))) (updE (Ty.pair (Ty.int IntKind.i64) (Ty.pair (Ty.int IntKind.i64) (Ty.pair (Ty.sl (nat_lit 9) Ty.str) (Ty.sl (nat_lit 64) (Ty.pair Ty.str (Ty.pair Ty.bool (Ty.sl (nat_lit 3) (Ty.int IntKind.i64)))))))) (updE (Ty.pair (Ty.int IntKind.i64) (Ty.pair (Ty.int IntKind.i64) (Ty.pair (Ty.sl (nat_lit 9) Ty.str) (Ty.sl (nat_lit 64) (Ty.pair Ty.str (Ty.pair Ty.bool (Ty.sl (nat_lit 3) (Ty.int IntKind.i64)))))))) y0 (Int.toNat y2) fun x => (y1,x.2.1,x.2.2.1,x.2.2.2)) (Int.toNat y2) fun x => (x.1,IntKind.wrap IntKind.i64 (y1 + (1:Int)),x.2.2.1,x.2.2.2)) (Int.toNat y2)).2.1,g_Vw_markStringS_1 (at_ (Ty.pair (Ty.int IntKind.i64) (Ty.pair (Ty.int IntKind.i64) (Ty.pair (Ty.sl (nat_lit 9) Ty.str) (Ty.sl (nat_lit 64) (Ty.pair Ty.str (Ty.pair Ty.bool (Ty.sl (nat_lit 3) (Ty.int IntKind.i64)))))))) (updE (Ty.pair (Ty.int IntKind.i64) (Ty.pair (Ty.int IntKind.i64) (Ty.pair (Ty.sl (nat_lit 9) Ty.str) (Ty.sl (nat_lit 64) (Ty.pair Ty.str (Ty.pair Ty.bool (Ty.sl (nat_lit 3) (Ty.int IntKind.i64)))))))) (updE (Ty.pair (Ty.int IntKind.i64) (Ty.pair (Ty.int IntKind.i64) (Ty.pair (Ty.sl (nat_lit 9) Ty.str) (Ty.sl (nat_lit 64) (Ty.pair Ty.str (Ty.pair Ty.bool (Ty.sl (nat_lit 3) (Ty.int IntKind.i64)))))))) y0 (Int.toNat y2) fun x => (y1,x.2.1,x.2.2.1,x.2.2.2)) (Int.toNat y2) fun x => (x.1,IntKind.wrap IntKind.i64 (y1 + (1:Int)),x.2.2.1,x.2.2.2)) (Int.toNat y2)).2.2.1 (IntKind.wrap IntKind.i64 (IntKind.wrap IntKind.i64 (y1 + (1:Int)) + (1:Int))),(at_ (Ty.pair (Ty.int IntKind.i64) (Ty.pair (Ty.int IntKind.i64) (Ty.pair (Ty.sl (nat_lit 9) Ty.str) (Ty.sl (nat_lit 64) (Ty.pair Ty.str (Ty.pair Ty.bool (Ty.sl (nat_lit 3) (Ty.int IntKind.i64)))))))) (updE (Ty.pair (Ty.int IntKind.i64) (Ty.pair (Ty.int IntKind.i64) (Ty.pair (Ty.sl (nat_lit 9) Ty.str) (Ty.sl (nat_lit 64) (Ty.pair Ty.str (Ty.pair Ty.bool (Ty.sl (nat_lit 3) (Ty.int IntKind.i64)))))))) (updE (Ty.pair (Ty.int IntKind.i64) (Ty.pair (Ty.int IntKind.i64) (Ty.pair (Ty.sl (nat_lit 9) Ty.str) (Ty.sl (nat_lit 64) (Ty.pair Ty.str (Ty.pair Ty.bool (Ty.sl (nat_lit 3) (Ty.int IntKind.i64)))))))) y0 (Int.toNat y2) fun x => (y1,x.2.1,x.2.2.1,x.2.2.2)) (Int.toNat y2) fun x => (x.1,IntKind.wrap IntKind.i64 (y1 + (1:Int)),x.2.2.1,x.2.2.2)) (Int.toNat y2)).2.2.2)) (Int.toNat y2)).2.2.2 (g_Vw_markStringS_0 (at_ (Ty.pair (Ty.int IntKind.i64) (Ty.pair (Ty.int IntKind.i64) (Ty.pair (Ty.sl (nat_lit 9) Ty.str) (Ty.sl (nat_lit 64) (Ty.pair Ty.str (Ty.pair Ty.bool (Ty.sl (nat_lit 3) (Ty.int IntKind.i64)))))))) (updE (Ty.pair (Ty.int IntKind.i64) (Ty.pair (Ty.int IntKind.i64) (Ty.pair (Ty.sl (nat_lit 9) Ty.str) (Ty.sl (nat_lit 64) (Ty.pair Ty.str (Ty.pair Ty.bool (Ty.sl (nat_lit 3) (Ty.int IntKind.i64)))))))) (updE (Ty.pair (Ty.int IntKind.i64) (Ty.pair (Ty.int IntKind.i64) (Ty.pair (Ty.sl (nat_lit 9) Ty.str) (Ty.sl (nat_lit 64) (Ty.pair Ty.str (Ty.pair Ty.bool (Ty.sl (nat_lit 3) (Ty.int IntKind.i64)))))))) y0 (Int.toNat y2) fun x => (y1,x.2.1,x.2.2.1,x.2.2.2)) (Int.toNat y2) fun x => (x.1,IntKind.wrap IntKind.i64 (y1 + (1:Int)),x.2.2.1,x.2.2.2)) (Int.toNat y2)).2.2.1 (IntKind.wrap IntKind.i64 (IntKind.wrap IntKind.i64 (y1 + (1:Int)) + (1:Int))))),g_Vw_markStoWriteS_0 (at_ (Ty.pair (Ty.int IntKind.i64) (Ty.pair (Ty.int IntKind.i64) (Ty.pair (Ty.sl (nat_lit 9) Ty.str) (Ty.sl (nat_lit 64) (Ty.pair Ty.str (Ty.pair Ty.bool (Ty.sl (nat_lit 3) (Ty.int IntKind.i64)))))))) (List.set (updE (Ty.pair (Ty.int IntKind.i64) (Ty.pair (Ty.int IntKind.i64) (Ty.pair (Ty.sl (nat_lit 9) Ty.str) (Ty.sl (nat_lit 64) (Ty.pair Ty.str (Ty.pair Ty.bool (Ty.sl (nat_lit 3) (Ty.int IntKind.i64)))))))) (updE (Ty.pair (Ty.int IntKind.i64) (Ty.pair (Ty.int IntKind.i64) (Ty.pair (Ty.sl (nat_lit 9) Ty.str) (Ty.sl (nat_lit 64) (Ty.pair Ty.str (Ty.pair Ty.bool (Ty.sl (nat_lit 3) (Ty.int IntKind.i64)))))))) y0 (Int.toNat y2) fun x => (y1,x.2.1,x.2.2.1,x.2.2.2)) (Int.toNat y2) fun x => (x.1,IntKind.wrap IntKind.i64 (y1 + (1:Int)),x.2.2.1,x.2.2.2)) (Int.toNat y2) ((at_ (Ty.pair (Ty.int IntKind.i64) (Ty.pair (Ty.int IntKind.i64) (Ty.pair (Ty.sl (nat_lit 9) Ty.str) (Ty.sl (nat_lit 64) (Ty.pair Ty.str (Ty.pair Ty.bool (Ty.sl (nat_lit 3) (Ty.int IntKind.i64)))))))) (updE (Ty.pair (Ty.int IntKind.i64) (Ty.pair (Ty.int IntKind.i64) (Ty.pair (Ty.sl (nat_lit 9) Ty.str) (Ty.sl (nat_lit 64) (Ty.pair Ty.str (Ty.pair Ty.bool (Ty.sl (nat_lit 3) (Ty.int IntKind.i64)))))))) (updE (Ty.pair (Ty.int IntKind.i64) (Ty.pair (Ty.int IntKind.i64) (Ty.pair (Ty.sl (nat_lit 9) Ty.str) (Ty.sl (nat_lit 64) (Ty.pair Ty.str (Ty.pair Ty.bool (Ty.sl (nat_lit 3) (Ty.int IntKind.i64)))))))) y0 (Int.toNat y2) fun x => (y1,x.2.1,x.2.2.1,x.2.2.2)) (Int.toNat y2) fun x => (x.1,IntKind.wrap IntKind.i64 (y1 + (1:Int)),x.2.2.1,x.2.2.2)) (Int.toNat y2)).1,(at_ (Ty.pair (Ty.int IntKind.i64) (Ty.pair (Ty.int IntKind.i64) (Ty.pair (Ty.sl (nat_lit 9) Ty.str) (Ty.sl (nat_lit 64) (Ty.pair Ty.str (Ty.pair Ty.bool (Ty.sl (nat_lit 3) (Ty.int IntKind.i64)))))))) (updE (Ty.pair (Ty.int IntKind.i64) (Ty.pair (Ty.int IntKind.i64) (Ty.pair (Ty.sl (nat_lit 9) Ty.str) (Ty.sl (nat_lit 64) (Ty.pair Ty.str (Ty.pair Ty.bool (Ty.sl (nat_lit 3) (Ty.int IntKind.i64)))))))) (updE (Ty.pair (Ty.int IntKind.i64) (Ty.pair (Ty.int IntKind.i64) (Ty.pair (Ty.sl (nat_lit 9) Ty.str) (Ty.sl (nat_lit 64) (Ty.pair Ty.str (Ty.pair Ty.bool (Ty.sl (nat_lit 3) (Ty.int IntKind.i64)))))))) y0 (Int.toNat y2) fun x => (y1,x.2.1,x.2.2.1,x.2.2.2)) (Int.toNat y2) fun x => (x.1,IntKind.wrap IntKind.i64 (y1 + (1:Int)),x.2.2.1,x.2.2.2)) (Int.toNat y2)).2.1,g_Vw_markStringS_1 (at_ (Ty.pair (Ty.int IntKind.i64) (Ty.pair (Ty.int IntKind.i64) (Ty.pair (Ty.sl (nat_lit 9) Ty.str) (Ty.sl (nat_lit 64) (Ty.pair Ty.str (Ty.pair Ty.bool (Ty.sl (nat_lit 3) (Ty.int IntKind.i64)))))))) (updE (Ty.pair (Ty.int IntKind.i64) (Ty.pair (Ty.int IntKind.i64) (Ty.pair (Ty.sl (nat_lit 9) Ty.str) (Ty.sl (nat_lit 64) (Ty.pair Ty.str (Ty.pair Ty.bool (Ty.sl (nat_lit 3) (Ty.int IntKind.i64)))))))) (updE (Ty.pair (Ty.int IntKind.i64) (Ty.pair (Ty.int IntKind.i64) (Ty.pair (Ty.sl (nat_lit 9) Ty.str) (Ty.sl (nat_lit 64) (Ty.pair Ty.str (Ty.pair Ty.bool (Ty.sl (nat_lit 3) (Ty.int IntKind.i64)))))))) y0 (Int.toNat y2) fun x => (y1,x.2.1,x.2.2.1,x.2.2.2)) (Int.toNat y2) fun x => (x.1,IntKind.wrap IntKind.i64 (y1 + (1:Int)),x.2.2.1,x.2.2.2)) (Int.toNat y2)).2.2.1 (IntKind.wrap IntKind.i64 (IntKind.wrap IntKind.i64 (y1 + (1:Int)) + (1:Int))),(at_ (Ty.pair (Ty.int IntKind.i64) (Ty.pair (Ty.int IntKind.i64) (Ty.pair (Ty.sl (nat_lit 9) Ty.str) (Ty.sl (nat_lit 64) (Ty.pair Ty.str (Ty.pair Ty.bool (Ty.sl (nat_lit 3) (Ty.int IntKind.i64)))))))) (updE (Ty.pair (Ty.int IntKind.i64) (Ty.pair (Ty.int IntKind.i64) (Ty.pair (Ty.sl (nat_lit 9) Ty.str) (Ty.sl (nat_lit 64) (Ty.pair Ty.str (Ty.pair Ty.bool (Ty.sl (nat_lit 3) (Ty.int IntKind.i64)))))))) (updE (Ty.pair (Ty.int IntKind.i64) (Ty.pair (Ty.int IntKind.i64) (Ty.pair (Ty.sl (nat_lit 9) Ty.str) (Ty.sl (nat_lit 64) (Ty.pair Ty.str (Ty.pair Ty.bool (Ty.sl (nat_lit 3) (Ty.int IntKind.i64)))))))) y0 (Int.toNat y2) fun x => (y1,x.2.1,x.2.2.1,x.2.2.2)) (Int.toNat y2) fun x => (x.1,IntKind.wrap IntKind.i64 (y1 + (1:Int)),x.2.2.1,x.2.2.2)) (Int.toNat y2)).2.2.2)) (Int.toNat y2)).2.2.2 (g_Vw_markStringS_0 (at_ (Ty.pair (Ty.int IntKind.i64) (Ty.pair (Ty.int IntKind.i64) (Ty.pair (Ty.sl (nat_lit 9) Ty.str) (Ty.sl (nat_lit 64) (Ty.pair Ty.str (Ty.pair Ty.bool (Ty.sl (nat_lit 3) (Ty.int IntKind.i64)))))))) (updE (Ty.pair (Ty.int IntKind.i64) (Ty.pair (Ty.int IntKind.i64) (Ty.pair (Ty.sl (nat_lit 9) Ty.str) (Ty.sl (nat_lit 64) (Ty.pair Ty.str (Ty.pair Ty.bool (Ty.sl (nat_lit 3) (Ty.int IntKind.i64)))))))) (updE (Ty.pair (Ty.int IntKind.i64) (Ty.pair (Ty.int IntKind.i64) (Ty.pair (Ty.sl (nat_lit 9) Ty.str) (Ty.sl (nat_lit 64) (Ty.pair Ty.str (Ty.pair Ty.bool (Ty.sl (nat_lit 3) (Ty.int IntKind.i64)))))))) y0 (Int.toNat y2) fun x => (y1,x.2.1,x.2.2.1,x.2.2.2)) (Int.toNat y2) fun x => (x.1,IntKind.wrap IntKind.i64 (y1 + (1:Int)),x.2.2.1,x.2.2.2)) (Int.toNat y2)).2.2.1 (IntKind.wrap IntKind.i64 (IntKind.wrap IntKind.i64 (y1 + (1:Int)) + (1:Int)))),IntKind.wrap IntKind.i64 (y2 + (1:Int))))) .bad) .bad) .bad) .bad) .bad) .bad) .bad) .bad) .bad) .bad) .bad) .bad) .bad) (.out ((y0,y1)))) .bad
noncomputable def g_Lw_markLogNoteS_0 (x:(List (Int×(Int×((List ByteArray)×(List (ByteArray×(Bool×(List Int))))))))×Int×Int):Option (((List (Int×(Int×((List ByteArray)×(List (ByteArray×(Bool×(List Int))))))))×Int)) := loopO (g_Sw_markLogNoteS_0) x
noncomputable def xw_markLogNoteS_0:(((List (Int×(Int×((List ByteArray)×(List (ByteArray×(Bool×(List Int))))))))×Int)) → Ex×List (Pl×LV) := fun r => (.exit 0,[(.T 0,.t (.val false [.row 0 0 0])),(.R 0 0,.r 0 (some ⟨false,.any,true,43,(.pair (.int .i64) (.pair (.int .i64) (.pair (.sl 9 .str) (.sl 64 (.pair .str (.pair .bool (.sl 3 (.int .i64)))))))),r.1⟩)),(.T 1,.t (.val false [.int .i64 r.2]))])
noncomputable def Ow_markLogNoteS_1:Orc := fun b h => match b,h with
 | 0,[(.T 0,.t (.val false [.row 0 0 0])),(.R 0 0,.r 0 (some ⟨false,.any,true,43,(.pair (.int .i64) (.pair (.int .i64) (.pair (.sl 9 .str) (.sl 64 (.pair .str (.pair .bool (.sl 3 (.int .i64)))))))),y0⟩)),(.T 1,.t (.val false [.int .i64 y1])),(.T 5,.t (.val false [.int .i64 y2]))] => some (okO (g_Lw_markLogNoteS_0 (y0,y1,y2)),(.leaf (.exit 0) [(.T 0,.t (.val false [.row 0 0 0])),(.R 0 0,.r 0 (some ⟨false,.any,true,43,(.pair (.int .i64) (.pair (.int .i64) (.pair (.sl 9 .str) (.sl 64 (.pair .str (.pair .bool (.sl 3 (.int .i64)))))))),(valO (g_Lw_markLogNoteS_0 (y0,y1,y2))).1⟩)),(.T 1,.t (.val false [.int .i64 (valO (g_Lw_markLogNoteS_0 (y0,y1,y2))).2]))]))
 | b,h => Ow_markLogNoteS_0 b h
theorem bw_markLogNoteS_0 (y0:List (Int×(Int×((List ByteArray)×(List (ByteArray×(Bool×(List Int)))))))) (y1:Int) (y2:Int):Tr.bt Ew_markLogNoteS Ow_markLogNoteS_0 (exec Ew_markLogNoteS 0 cw_markLogNoteS_0 (St.of (hw_markLogNoteS_0 y0 y1 y2)) (leafRd Ew_markLogNoteS 0)) = (g_Sw_markLogNoteS_0 (y0,y1,y2)).bt (fun ((y0,y1,y2):(List (Int×(Int×((List ByteArray)×(List (ByteArray×(Bool×(List Int))))))))×Int×Int) => (hw_markLogNoteS_0 y0 y1 y2)) (xw_markLogNoteS_0) := by kernel_rfl
theorem kw_markLogNoteS_1:OrcOk Ew_markLogNoteS Ow_markLogNoteS_1 lsw_markLogNoteS 1 := orc_add kw_markLogNoteS_0 (fun n p hp h ex h' ho => by
 obtain ⟨b,c⟩ := p
 obtain ⟨xt,h1,h2⟩ := ho
 have h1:Ow_markLogNoteS_1 b h = some (true,xt) := h1
 unfold Ow_markLogNoteS_1 at h1
 split at h1
 ·injection h1 with h1
  injection h1 with e1 e2
  subst e2
  have hc:c = cw_markLogNoteS_0 := mw_markLogNoteS_0 _ hp rfl
  subst hc
  right
  rename_i y0 y1 y2
  have key := LT_step kw_markLogNoteS_0 hp (fun q hq => loopsAll_in _ _ _ _ hp hq) (fun ((y0,y1,y2):(List (Int×(Int×((List ByteArray)×(List (ByteArray×(Bool×(List Int))))))))×Int×Int) => (hw_markLogNoteS_0 y0 y1 y2)) (xw_markLogNoteS_0) (g_Sw_markLogNoteS_0) (fun x => by first | exact bw_markLogNoteS_0 x.1 x.2.1 x.2.2) n (x := (y0,y1,y2)) (okO_some e1)
  have hx:∀ r,XT.sel (.leaf (.exit 0) [(.T 0,.t (.val false [.row 0 0 0])),(.R 0 0,.r 0 (some ⟨false,.any,true,43,(.pair (.int .i64) (.pair (.int .i64) (.pair (.sl 9 .str) (.sl 64 (.pair .str (.pair .bool (.sl 3 (.int .i64)))))))),r.1⟩)),(.T 1,.t (.val false [.int .i64 r.2]))]) = xw_markLogNoteS_0 r := fun r => by first | rfl | (rcases r with r | r <;> rfl) | (rcases r with r | r | r <;> rfl) | (rcases r with r | r | r | r <;> rfl)
  have h3 := (hx (valO (g_Lw_markLogNoteS_0 (y0,y1,y2)))).symm.trans h2
  have e3 := congrArg Prod.fst h3
  have e4 := congrArg Prod.snd h3
  simp only at e3 e4
  rw [← e3,← e4]
  exact key
 ·exact .inl ⟨xt,h1,h2⟩)
noncomputable def g_Aw_markLogNoteS (a0:List (Int×(Int×((List ByteArray)×(List (ByteArray×(Bool×(List Int)))))))) (a1:Int):Bool := okO (g_Lw_markLogNoteS_0 (a0,a1,(0:Int)))
noncomputable def g_Vw_markLogNoteS_0 (a0:List (Int×(Int×((List ByteArray)×(List (ByteArray×(Bool×(List Int)))))))) (a1:Int):Int := (valO (g_Lw_markLogNoteS_0 (a0,a1,(0:Int)))).2
noncomputable def g_Vw_markLogNoteS_1 (a0:List (Int×(Int×((List ByteArray)×(List (ByteArray×(Bool×(List Int)))))))) (a1:Int):List (Int×(Int×((List ByteArray)×(List (ByteArray×(Bool×(List Int))))))) := (valO (g_Lw_markLogNoteS_0 (a0,a1,(0:Int)))).1
noncomputable def Fw_markLogNoteS:FSem := fun ys => match ys with
 | [.val false [.own .any true 43 (.pair (.int .i64) (.pair (.int .i64) (.pair (.sl 9 .str) (.sl 64 (.pair .str (.pair .bool (.sl 3 (.int .i64)))))))) a0],.val false [.int .i64 a1]] => some ((g_Aw_markLogNoteS a0 a1),.val false [.int .i64 (g_Vw_markLogNoteS_0 a0 a1)],[[.own .any true 43 (.pair (.int .i64) (.pair (.int .i64) (.pair (.sl 9 .str) (.sl 64 (.pair .str (.pair .bool (.sl 3 (.int .i64)))))))) (g_Vw_markLogNoteS_1 a0 a1)]])
 | _ => none
theorem vw_markLogNoteS (a0:List (Int×(Int×((List ByteArray)×(List (ByteArray×(Bool×(List Int)))))))) (a1:Int):collapseH .std Ew_markLogNoteS Ow_markLogNoteS_1 (execFn Ew_markLogNoteS Tryd.f19 msw_markLogNoteS [.val false [.own .any true 43 (.pair (.int .i64) (.pair (.int .i64) (.pair (.sl 9 .str) (.sl 64 (.pair .str (.pair .bool (.sl 3 (.int .i64)))))))) a0],.val false [.int .i64 a1]]) = some ((g_Aw_markLogNoteS a0 a1),.val false [.int .i64 (g_Vw_markLogNoteS_0 a0 a1)],[[.own .any true 43 (.pair (.int .i64) (.pair (.int .i64) (.pair (.sl 9 .str) (.sl 64 (.pair .str (.pair .bool (.sl 3 (.int .i64)))))))) (g_Vw_markLogNoteS_1 a0 a1)]]) := by kernel_rfl
theorem sw_markLogNoteS:Sound Tryd.prog 19 msw_markLogNoteS Fw_markLogNoteS := by
 refine fn_gen goodw_markLogNoteS (by kernel_rfl) .std (fn := Tryd.f19) (c := (Tryd.f19.body.getD .skip)) (o := Ow_markLogNoteS_1) (k := 1) (by kernel_rfl) (by kernel_rfl) (by kernel_rfl) (by kernel_rfl) (by decide) kw_markLogNoteS_1 ?_
 intro ys r outs h
 unfold Fw_markLogNoteS at h
 split at h
 ·exact (vw_markLogNoteS _ _).trans h
 ·cases h
noncomputable def Ew_markLogDisk:Env where
 tt := mkTI Tryd.prog
 fn := fun f => match f with
  | 19 => some (msw_markLogNoteS,FSem.wk msw_markLogNoteS Fw_markLogNoteS)
  | _ => none
 bxf := fun _ => none
 mv := []
 keep := fun _ => []
 keepB := fun _ => []
 keepX := fun _ => []
 keepXB := fun _ => []
theorem goodFw_markLogDisk:∀ f ms F,Ew_markLogDisk.fn f = some (ms,F) → Sound Tryd.prog f ms F := fun f ms F h => by
 unfold Ew_markLogDisk at h
 dsimp only at h
 split at h
 ·injection h with h; injection h with e1 e2; subst e1 e2; exact Sound.wk sw_markLogNoteS
 ·cases h
theorem goodBw_markLogDisk:∀ f ms F,Ew_markLogDisk.bxf f = some (ms,F) → SoundB Tryd.prog f ms F := fun f ms F h => by cases h
theorem goodw_markLogDisk:Good Tryd.prog Ew_markLogDisk := ⟨rfl,goodFw_markLogDisk,goodBw_markLogDisk⟩
noncomputable def Ow_markLogDisk_0:Orc := fun _ _ => none
noncomputable def msw_markLogDisk:List PM := [.«mut»,.own]
noncomputable def lsw_markLogDisk:List (Nat×Code) := loopsAll 0 (Tryd.f9.body.getD .skip)
theorem kw_markLogDisk_0:OrcOk Ew_markLogDisk Ow_markLogDisk_0 lsw_markLogDisk 0 := orcOk_none
noncomputable def g_Aw_markLogDisk (a0:List (Int×(Int×((List ByteArray)×(List (ByteArray×(Bool×(List Int)))))))) (a1:Int) (a2:Int):Bool := g_Aw_markLogNoteS a0 a2
noncomputable def Fw_markLogDisk:FSem := fun ys => match ys with
 | [.val true [.own .any true 43 (.pair (.int .i64) (.pair (.int .i64) (.pair (.sl 9 .str) (.sl 64 (.pair .str (.pair .bool (.sl 3 (.int .i64)))))))) a0,.int .i64 a1],.val false [.int .i64 a2]] => some ((g_Aw_markLogDisk a0 a1 a2),.val false [.int .i64 (g_Vw_markLogNoteS_0 a0 a2)],[[.own .any true 43 (.pair (.int .i64) (.pair (.int .i64) (.pair (.sl 9 .str) (.sl 64 (.pair .str (.pair .bool (.sl 3 (.int .i64)))))))) (g_Vw_markLogNoteS_1 a0 a2),.int .i64 a1]])
 | _ => none
theorem vw_markLogDisk (a0:List (Int×(Int×((List ByteArray)×(List (ByteArray×(Bool×(List Int)))))))) (a1:Int) (a2:Int):collapseH .std Ew_markLogDisk Ow_markLogDisk_0 (execFn Ew_markLogDisk Tryd.f9 msw_markLogDisk [.val true [.own .any true 43 (.pair (.int .i64) (.pair (.int .i64) (.pair (.sl 9 .str) (.sl 64 (.pair .str (.pair .bool (.sl 3 (.int .i64)))))))) a0,.int .i64 a1],.val false [.int .i64 a2]]) = some ((g_Aw_markLogDisk a0 a1 a2),.val false [.int .i64 (g_Vw_markLogNoteS_0 a0 a2)],[[.own .any true 43 (.pair (.int .i64) (.pair (.int .i64) (.pair (.sl 9 .str) (.sl 64 (.pair .str (.pair .bool (.sl 3 (.int .i64)))))))) (g_Vw_markLogNoteS_1 a0 a2),.int .i64 a1]]) := by kernel_rfl
theorem sw_markLogDisk:Sound Tryd.prog 9 msw_markLogDisk Fw_markLogDisk := by
 refine fn_gen goodw_markLogDisk (by kernel_rfl) .std (fn := Tryd.f9) (c := (Tryd.f9.body.getD .skip)) (o := Ow_markLogDisk_0) (k := 0) (by kernel_rfl) (by kernel_rfl) (by kernel_rfl) (by kernel_rfl) (by decide) kw_markLogDisk_0 ?_
 intro ys r outs h
 unfold Fw_markLogDisk at h
 split at h
 ·exact (vw_markLogDisk _ _ _).trans h
 ·cases h
noncomputable def Ew_szIntS:Env where
 tt := mkTI Tryd.prog
 fn := fun _ => none
 bxf := fun _ => none
 mv := []
 keep := fun _ => []
 keepB := fun _ => []
 keepX := fun _ => []
 keepXB := fun _ => []
theorem goodFw_szIntS:∀ f ms F,Ew_szIntS.fn f = some (ms,F) → Sound Tryd.prog f ms F := fun f ms F h => by cases h
theorem goodBw_szIntS:∀ f ms F,Ew_szIntS.bxf f = some (ms,F) → SoundB Tryd.prog f ms F := fun f ms F h => by cases h
theorem goodw_szIntS:Good Tryd.prog Ew_szIntS := ⟨rfl,goodFw_szIntS,goodBw_szIntS⟩
noncomputable def Ow_szIntS_0:Orc := fun _ _ => none
noncomputable def msw_szIntS:List PM := [.rd,.own]
noncomputable def lsw_szIntS:List (Nat×Code) := loopsAll 0 (Tryd.f69.body.getD .skip)
theorem kw_szIntS_0:OrcOk Ew_szIntS Ow_szIntS_0 lsw_szIntS 0 := orcOk_none
noncomputable def g_Vw_szIntS_0 (a0:List Int) (a1:Int):Int := bif decide (IntKind.wrap IntKind.i64 (a1 - (↑(List.length a0):Int)) < (0:Int)) then (-1:Int) else IntKind.wrap IntKind.i64 (a1 - (↑(List.length a0):Int))
noncomputable def Fw_szIntS:FSem := fun ys => match ys with
 | [.val false [.sl .any 3 (.int .i64) a0],.val false [.int .i64 a1]] => some (true,.val false [.int .i64 (g_Vw_szIntS_0 a0 a1)],[])
 | _ => none
theorem vw_szIntS (a0:List Int) (a1:Int):collapseH .std Ew_szIntS Ow_szIntS_0 (execFn Ew_szIntS Tryd.f69 msw_szIntS [.val false [.sl .any 3 (.int .i64) a0],.val false [.int .i64 a1]]) = some (true,.val false [.int .i64 (g_Vw_szIntS_0 a0 a1)],[]) := by kernel_rfl
theorem sw_szIntS:Sound Tryd.prog 69 msw_szIntS Fw_szIntS := by
 refine fn_gen goodw_szIntS (by kernel_rfl) .std (fn := Tryd.f69) (c := (Tryd.f69.body.getD .skip)) (o := Ow_szIntS_0) (k := 0) (by kernel_rfl) (by kernel_rfl) (by kernel_rfl) (by kernel_rfl) (by decide) kw_szIntS_0 ?_
 intro ys r outs h
 unfold Fw_szIntS at h
 split at h
 ·exact (vw_szIntS _ _).trans h
 ·cases h
noncomputable def Ew_szStoWrite:Env where
 tt := mkTI Tryd.prog
 fn := fun f => match f with
  | 69 => some (msw_szIntS,FSem.wk msw_szIntS Fw_szIntS)
  | _ => none
 bxf := fun _ => none
 mv := []
 keep := fun _ => []
 keepB := fun _ => []
 keepX := fun _ => []
 keepXB := fun _ => []
theorem goodFw_szStoWrite:∀ f ms F,Ew_szStoWrite.fn f = some (ms,F) → Sound Tryd.prog f ms F := fun f ms F h => by
 unfold Ew_szStoWrite at h
 dsimp only at h
 split at h
 ·injection h with h; injection h with e1 e2; subst e1 e2; exact Sound.wk sw_szIntS
 ·cases h
theorem goodBw_szStoWrite:∀ f ms F,Ew_szStoWrite.bxf f = some (ms,F) → SoundB Tryd.prog f ms F := fun f ms F h => by cases h
theorem goodw_szStoWrite:Good Tryd.prog Ew_szStoWrite := ⟨rfl,goodFw_szStoWrite,goodBw_szStoWrite⟩
noncomputable def Ow_szStoWrite_0:Orc := fun _ _ => none
noncomputable def msw_szStoWrite:List PM := [.rd,.own]
noncomputable def lsw_szStoWrite:List (Nat×Code) := loopsAll 0 (Tryd.f59.body.getD .skip)
theorem kw_szStoWrite_0:OrcOk Ew_szStoWrite Ow_szStoWrite_0 lsw_szStoWrite 0 := orcOk_none
noncomputable def g_Aw_szStoWrite (a0:ByteArray) (a1:Bool) (a2:List Int) (a3:Int):Bool := decide (IntKind.wrap IntKind.i64 (a3 - (↑(ByteArray.size a0):Int)) < (0:Int)) || true
noncomputable def g_Vw_szStoWrite_0 (a0:ByteArray) (a1:Bool) (a2:List Int) (a3:Int):Int := bif decide (IntKind.wrap IntKind.i64 (a3 - (↑(ByteArray.size a0):Int)) < (0:Int)) then (-1:Int) else bif decide (g_Vw_szIntS_0 a2 (IntKind.wrap IntKind.i64 (a3 - (↑(ByteArray.size a0):Int))) < (0:Int)) then (-1:Int) else g_Vw_szIntS_0 a2 (IntKind.wrap IntKind.i64 (a3 - (↑(ByteArray.size a0):Int)))
noncomputable def Fw_szStoWrite:FSem := fun ys => match ys with
 | [.val true [.str a0,.bool a1,.sl .any 3 (.int .i64) a2],.val false [.int .i64 a3]] => some ((g_Aw_szStoWrite a0 a1 a2 a3),.val false [.int .i64 (g_Vw_szStoWrite_0 a0 a1 a2 a3)],[])
 | _ => none
theorem vw_szStoWrite (a0:ByteArray) (a1:Bool) (a2:List Int) (a3:Int):collapseH .std Ew_szStoWrite Ow_szStoWrite_0 (execFn Ew_szStoWrite Tryd.f59 msw_szStoWrite [.val true [.str a0,.bool a1,.sl .any 3 (.int .i64) a2],.val false [.int .i64 a3]]) = some ((g_Aw_szStoWrite a0 a1 a2 a3),.val false [.int .i64 (g_Vw_szStoWrite_0 a0 a1 a2 a3)],[]) := by kernel_rfl
theorem sw_szStoWrite:Sound Tryd.prog 59 msw_szStoWrite Fw_szStoWrite := by
 refine fn_gen goodw_szStoWrite (by kernel_rfl) .std (fn := Tryd.f59) (c := (Tryd.f59.body.getD .skip)) (o := Ow_szStoWrite_0) (k := 0) (by kernel_rfl) (by kernel_rfl) (by kernel_rfl) (by kernel_rfl) (by decide) kw_szStoWrite_0 ?_
 intro ys r outs h
 unfold Fw_szStoWrite at h
 split at h
 ·exact (vw_szStoWrite _ _ _ _).trans h
 ·cases h
noncomputable def Ew_szStoWriteS:Env where
 tt := mkTI Tryd.prog
 fn := fun f => match f with
  | 59 => some (msw_szStoWrite,FSem.wk msw_szStoWrite Fw_szStoWrite)
  | _ => none
 bxf := fun _ => none
 mv := []
 keep := fun b => match b with
  | 0 => [(0,false),(1,false),(5,false)]
  | _ => []
 keepB := fun b => match b with
  | 0 => []
  | _ => []
 keepX := fun b => match b with
  | 0 => [(1,false),(4,false)]
  | _ => []
 keepXB := fun b => match b with
  | 0 => []
  | _ => []
theorem goodFw_szStoWriteS:∀ f ms F,Ew_szStoWriteS.fn f = some (ms,F) → Sound Tryd.prog f ms F := fun f ms F h => by
 unfold Ew_szStoWriteS at h
 dsimp only at h
 split at h
 ·injection h with h; injection h with e1 e2; subst e1 e2; exact Sound.wk sw_szStoWrite
 ·cases h
theorem goodBw_szStoWriteS:∀ f ms F,Ew_szStoWriteS.bxf f = some (ms,F) → SoundB Tryd.prog f ms F := fun f ms F h => by cases h
theorem goodw_szStoWriteS:Good Tryd.prog Ew_szStoWriteS := ⟨rfl,goodFw_szStoWriteS,goodBw_szStoWriteS⟩
noncomputable def Ow_szStoWriteS_0:Orc := fun _ _ => none
noncomputable def msw_szStoWriteS:List PM := [.rd,.own]
noncomputable def lsw_szStoWriteS:List (Nat×Code) := loopsAll 0 (Tryd.f37.body.getD .skip)
noncomputable def cw_szStoWriteS_0:Code := (loopOf 0 (Tryd.f37.body.getD .skip)).getD .skip
theorem lseqw_szStoWriteS:lsw_szStoWriteS = [(0,cw_szStoWriteS_0)] := by kernel_rfl
theorem mw_szStoWriteS_0:∀ p,p ∈ lsw_szStoWriteS → p.1 = 0 → p.2 = cw_szStoWriteS_0 := by
 intro p hp
 rw [lseqw_szStoWriteS] at hp
 simp only [List.mem_cons,List.not_mem_nil,or_false] at hp
 subst hp; simp
theorem kw_szStoWriteS_0:OrcOk Ew_szStoWriteS Ow_szStoWriteS_0 lsw_szStoWriteS 0 := orcOk_none
noncomputable def hw_szStoWriteS_0 (y0:List (ByteArray×(Bool×(List Int)))) (y1:Int) (y2:Int):List (Pl×LV) := [(.T 0,.t (.val false [.sl .any 78 (.pair .str (.pair .bool (.sl 3 (.int .i64)))) y0])),(.T 1,.t (.val false [.int .i64 y1])),(.T 5,.t (.val false [.int .i64 y2]))]
noncomputable def g_Sw_szStoWriteS_0 (y0:List (ByteArray×(Bool×(List Int)))):(Int×Int) → RT (Int×Int) ((Int×Int) ⊕ (Int))
 | (y1,y2) => .br (true) (.br (decide (y2 < (↑(List.length y0):Int))) (.br (decide ((0:Int) ≤ y2 ∧ y2 < (↑(List.length y0):Int))) (.br (g_Aw_szStoWrite (at_ (Ty.pair Ty.str (Ty.pair Ty.bool (Ty.sl (nat_lit 3) (Ty.int IntKind.i64)))) y0 (Int.toNat y2)).1 (at_ (Ty.pair Ty.str (Ty.pair Ty.bool (Ty.sl (nat_lit 3) (Ty.int IntKind.i64)))) y0 (Int.toNat y2)).2.1 (at_ (Ty.pair Ty.str (Ty.pair Ty.bool (Ty.sl (nat_lit 3) (Ty.int IntKind.i64)))) y0 (Int.toNat y2)).2.2 y1) (.br (true) (.br (decide (g_Vw_szStoWrite_0 (at_ (Ty.pair Ty.str (Ty.pair Ty.bool (Ty.sl (nat_lit 3) (Ty.int IntKind.i64)))) y0 (Int.toNat y2)).1 (at_ (Ty.pair Ty.str (Ty.pair Ty.bool (Ty.sl (nat_lit 3) (Ty.int IntKind.i64)))) y0 (Int.toNat y2)).2.1 (at_ (Ty.pair Ty.str (Ty.pair Ty.bool (Ty.sl (nat_lit 3) (Ty.int IntKind.i64)))) y0 (Int.toNat y2)).2.2 y1 < (0:Int))) (.out (.inl ((g_Vw_szStoWrite_0 (at_ (Ty.pair Ty.str (Ty.pair Ty.bool (Ty.sl (nat_lit 3) (Ty.int IntKind.i64)))) y0 (Int.toNat y2)).1 (at_ (Ty.pair Ty.str (Ty.pair Ty.bool (Ty.sl (nat_lit 3) (Ty.int IntKind.i64)))) y0 (Int.toNat y2)).2.1 (at_ (Ty.pair Ty.str (Ty.pair Ty.bool (Ty.sl (nat_lit 3) (Ty.int IntKind.i64)))) y0 (Int.toNat y2)).2.2 y1,(-1:Int))))) (.br (true) (.go ((g_Vw_szStoWrite_0 (at_ (Ty.pair Ty.str (Ty.pair Ty.bool (Ty.sl (nat_lit 3) (Ty.int IntKind.i64)))) y0 (Int.toNat y2)).1 (at_ (Ty.pair Ty.str (Ty.pair Ty.bool (Ty.sl (nat_lit 3) (Ty.int IntKind.i64)))) y0 (Int.toNat y2)).2.1 (at_ (Ty.pair Ty.str (Ty.pair Ty.bool (Ty.sl (nat_lit 3) (Ty.int IntKind.i64)))) y0 (Int.toNat y2)).2.2 y1,IntKind.wrap IntKind.i64 (y2 + (1:Int))))) .bad)) .bad) .bad) .bad) (.out (.inr (y1)))) .bad
noncomputable def g_Lw_szStoWriteS_0 (y0:List (ByteArray×(Bool×(List Int)))) (x:Int×Int):Option ((Int×Int) ⊕ (Int)) := loopO (g_Sw_szStoWriteS_0 y0) x
noncomputable def xw_szStoWriteS_0 (y0:List (ByteArray×(Bool×(List Int)))):((Int×Int) ⊕ (Int)) → Ex×List (Pl×LV) := fun
 | .inl r => (.ret,[(.T 1,.t (.val false [.int .i64 r.1])),(.T 4,.t (.val false [.int .i64 r.2]))])
 | .inr (r) => (.exit 0,[(.T 1,.t (.val false [.int .i64 r])),(.T 4,.t (.val false [.undef]))])
noncomputable def Ow_szStoWriteS_1:Orc := fun b h => match b,h with
 | 0,[(.T 0,.t (.val false [.sl .any 78 (.pair .str (.pair .bool (.sl 3 (.int .i64)))) y0])),(.T 1,.t (.val false [.int .i64 y1])),(.T 5,.t (.val false [.int .i64 y2]))] => some (okO (g_Lw_szStoWriteS_0 y0 (y1,y2)),(.br (isL (valO (g_Lw_szStoWriteS_0 y0 (y1,y2)))) (.leaf .ret [(.T 1,.t (.val false [.int .i64 (getL (valO (g_Lw_szStoWriteS_0 y0 (y1,y2)))).1])),(.T 4,.t (.val false [.int .i64 (getL (valO (g_Lw_szStoWriteS_0 y0 (y1,y2)))).2]))]) (.leaf (.exit 0) [(.T 1,.t (.val false [.int .i64 (getR (valO (g_Lw_szStoWriteS_0 y0 (y1,y2))))])),(.T 4,.t (.val false [.undef]))])))
 | b,h => Ow_szStoWriteS_0 b h
theorem bw_szStoWriteS_0 (y0:List (ByteArray×(Bool×(List Int)))) (y1:Int) (y2:Int):Tr.bt Ew_szStoWriteS Ow_szStoWriteS_0 (exec Ew_szStoWriteS 0 cw_szStoWriteS_0 (St.of (hw_szStoWriteS_0 y0 y1 y2)) (leafRd Ew_szStoWriteS 0)) = (g_Sw_szStoWriteS_0 y0 (y1,y2)).bt (fun ((y1,y2):Int×Int) => (hw_szStoWriteS_0 y0 y1 y2)) (xw_szStoWriteS_0 y0) := by kernel_rfl
theorem kw_szStoWriteS_1:OrcOk Ew_szStoWriteS Ow_szStoWriteS_1 lsw_szStoWriteS 1 := orc_add kw_szStoWriteS_0 (fun n p hp h ex h' ho => by
 obtain ⟨b,c⟩ := p
 obtain ⟨xt,h1,h2⟩ := ho
 have h1:Ow_szStoWriteS_1 b h = some (true,xt) := h1
 unfold Ow_szStoWriteS_1 at h1
 split at h1
 ·injection h1 with h1
  injection h1 with e1 e2
  subst e2
  have hc:c = cw_szStoWriteS_0 := mw_szStoWriteS_0 _ hp rfl
  subst hc
  right
  rename_i y0 y1 y2
  have key := LT_step kw_szStoWriteS_0 hp (fun q hq => loopsAll_in _ _ _ _ hp hq) (fun ((y1,y2):Int×Int) => (hw_szStoWriteS_0 y0 y1 y2)) (xw_szStoWriteS_0 y0) (g_Sw_szStoWriteS_0 y0) (fun x => by first | exact bw_szStoWriteS_0 y0 x.1 x.2) n (x := (y1,y2)) (okO_some e1)
  have hx:∀ r,XT.sel (.br (isL r) (.leaf .ret [(.T 1,.t (.val false [.int .i64 (getL r).1])),(.T 4,.t (.val false [.int .i64 (getL r).2]))]) (.leaf (.exit 0) [(.T 1,.t (.val false [.int .i64 (getR r)])),(.T 4,.t (.val false [.undef]))])) = xw_szStoWriteS_0 y0 r := fun r => by first | rfl | (rcases r with r | r <;> rfl) | (rcases r with r | r | r <;> rfl) | (rcases r with r | r | r | r <;> rfl)
  have h3 := (hx (valO (g_Lw_szStoWriteS_0 y0 (y1,y2)))).symm.trans h2
  have e3 := congrArg Prod.fst h3
  have e4 := congrArg Prod.snd h3
  simp only at e3 e4
  rw [← e3,← e4]
  exact key
 ·exact .inl ⟨xt,h1,h2⟩)
noncomputable def g_Aw_szStoWriteS (a0:List (ByteArray×(Bool×(List Int)))) (a1:Int):Bool := decide (IntKind.wrap IntKind.i64 (a1 - (↑(List.length a0):Int)) < (0:Int)) || okO (g_Lw_szStoWriteS_0 a0 (IntKind.wrap IntKind.i64 (a1 - (↑(List.length a0):Int)),(0:Int)))
noncomputable def g_Vw_szStoWriteS_0 (a0:List (ByteArray×(Bool×(List Int)))) (a1:Int):Int := bif decide (IntKind.wrap IntKind.i64 (a1 - (↑(List.length a0):Int)) < (0:Int)) then (-1:Int) else bif isL (valO (g_Lw_szStoWriteS_0 a0 (IntKind.wrap IntKind.i64 (a1 - (↑(List.length a0):Int)),(0:Int)))) then (getL (valO (g_Lw_szStoWriteS_0 a0 (IntKind.wrap IntKind.i64 (a1 - (↑(List.length a0):Int)),(0:Int))))).2 else getR (valO (g_Lw_szStoWriteS_0 a0 (IntKind.wrap IntKind.i64 (a1 - (↑(List.length a0):Int)),(0:Int))))
noncomputable def Fw_szStoWriteS:FSem := fun ys => match ys with
 | [.val false [.sl .any 78 (.pair .str (.pair .bool (.sl 3 (.int .i64)))) a0],.val false [.int .i64 a1]] => some ((g_Aw_szStoWriteS a0 a1),.val false [.int .i64 (g_Vw_szStoWriteS_0 a0 a1)],[])
 | _ => none
theorem vw_szStoWriteS (a0:List (ByteArray×(Bool×(List Int)))) (a1:Int):collapseH .std Ew_szStoWriteS Ow_szStoWriteS_1 (execFn Ew_szStoWriteS Tryd.f37 msw_szStoWriteS [.val false [.sl .any 78 (.pair .str (.pair .bool (.sl 3 (.int .i64)))) a0],.val false [.int .i64 a1]]) = some ((g_Aw_szStoWriteS a0 a1),.val false [.int .i64 (g_Vw_szStoWriteS_0 a0 a1)],[]) := by kernel_rfl
theorem sw_szStoWriteS:Sound Tryd.prog 37 msw_szStoWriteS Fw_szStoWriteS := by
 refine fn_gen goodw_szStoWriteS (by kernel_rfl) .std (fn := Tryd.f37) (c := (Tryd.f37.body.getD .skip)) (o := Ow_szStoWriteS_1) (k := 1) (by kernel_rfl) (by kernel_rfl) (by kernel_rfl) (by kernel_rfl) (by decide) kw_szStoWriteS_1 ?_
 intro ys r outs h
 unfold Fw_szStoWriteS at h
 split at h
 ·exact (vw_szStoWriteS _ _).trans h
 ·cases h
noncomputable def Ew_szStringS:Env where
 tt := mkTI Tryd.prog
 fn := fun _ => none
 bxf := fun _ => none
 mv := []
 keep := fun b => match b with
  | 0 => [(0,false),(1,false),(5,false)]
  | _ => []
 keepB := fun b => match b with
  | 0 => []
  | _ => []
 keepX := fun b => match b with
  | 0 => [(1,false),(4,false)]
  | _ => []
 keepXB := fun b => match b with
  | 0 => []
  | _ => []
theorem goodFw_szStringS:∀ f ms F,Ew_szStringS.fn f = some (ms,F) → Sound Tryd.prog f ms F := fun f ms F h => by cases h
theorem goodBw_szStringS:∀ f ms F,Ew_szStringS.bxf f = some (ms,F) → SoundB Tryd.prog f ms F := fun f ms F h => by cases h
theorem goodw_szStringS:Good Tryd.prog Ew_szStringS := ⟨rfl,goodFw_szStringS,goodBw_szStringS⟩
noncomputable def Ow_szStringS_0:Orc := fun _ _ => none
noncomputable def msw_szStringS:List PM := [.rd,.own]
noncomputable def lsw_szStringS:List (Nat×Code) := loopsAll 0 (Tryd.f36.body.getD .skip)
noncomputable def cw_szStringS_0:Code := (loopOf 0 (Tryd.f36.body.getD .skip)).getD .skip
theorem lseqw_szStringS:lsw_szStringS = [(0,cw_szStringS_0)] := by kernel_rfl
theorem mw_szStringS_0:∀ p,p ∈ lsw_szStringS → p.1 = 0 → p.2 = cw_szStringS_0 := by
 intro p hp
 rw [lseqw_szStringS] at hp
 simp only [List.mem_cons,List.not_mem_nil,or_false] at hp
 subst hp; simp
theorem kw_szStringS_0:OrcOk Ew_szStringS Ow_szStringS_0 lsw_szStringS 0 := orcOk_none
noncomputable def hw_szStringS_0 (y0:List ByteArray) (y1:Int) (y2:Int):List (Pl×LV) := [(.T 0,.t (.val false [.sl .any 9 .str y0])),(.T 1,.t (.val false [.int .i64 y1])),(.T 5,.t (.val false [.int .i64 y2]))]
noncomputable def g_Sw_szStringS_0 (y0:List ByteArray):(Int×Int) → RT (Int×Int) ((Int×Int) ⊕ (Int))
 | (y1,y2) => .br (true) (.br (decide (y2 < (↑(List.length y0):Int))) (.br (decide ((0:Int) ≤ y2 ∧ y2 < (↑(List.length y0):Int))) (.br (true) (.br (true) (.br (decide (IntKind.wrap IntKind.i64 (y1 - (↑(ByteArray.size (at_ Ty.str y0 (Int.toNat y2))):Int)) < (0:Int))) (.out (.inl ((IntKind.wrap IntKind.i64 (y1 - (↑(ByteArray.size (at_ Ty.str y0 (Int.toNat y2))):Int)),(-1:Int))))) (.br (true) (.go ((IntKind.wrap IntKind.i64 (y1 - (↑(ByteArray.size (at_ Ty.str y0 (Int.toNat y2))):Int)),IntKind.wrap IntKind.i64 (y2 + (1:Int))))) .bad)) .bad) .bad) .bad) (.out (.inr (y1)))) .bad
noncomputable def g_Lw_szStringS_0 (y0:List ByteArray) (x:Int×Int):Option ((Int×Int) ⊕ (Int)) := loopO (g_Sw_szStringS_0 y0) x
noncomputable def xw_szStringS_0 (y0:List ByteArray):((Int×Int) ⊕ (Int)) → Ex×List (Pl×LV) := fun
 | .inl r => (.ret,[(.T 1,.t (.val false [.int .i64 r.1])),(.T 4,.t (.val false [.int .i64 r.2]))])
 | .inr (r) => (.exit 0,[(.T 1,.t (.val false [.int .i64 r])),(.T 4,.t (.val false [.undef]))])
noncomputable def Ow_szStringS_1:Orc := fun b h => match b,h with
 | 0,[(.T 0,.t (.val false [.sl .any 9 .str y0])),(.T 1,.t (.val false [.int .i64 y1])),(.T 5,.t (.val false [.int .i64 y2]))] => some (okO (g_Lw_szStringS_0 y0 (y1,y2)),(.br (isL (valO (g_Lw_szStringS_0 y0 (y1,y2)))) (.leaf .ret [(.T 1,.t (.val false [.int .i64 (getL (valO (g_Lw_szStringS_0 y0 (y1,y2)))).1])),(.T 4,.t (.val false [.int .i64 (getL (valO (g_Lw_szStringS_0 y0 (y1,y2)))).2]))]) (.leaf (.exit 0) [(.T 1,.t (.val false [.int .i64 (getR (valO (g_Lw_szStringS_0 y0 (y1,y2))))])),(.T 4,.t (.val false [.undef]))])))
 | b,h => Ow_szStringS_0 b h
theorem bw_szStringS_0 (y0:List ByteArray) (y1:Int) (y2:Int):Tr.bt Ew_szStringS Ow_szStringS_0 (exec Ew_szStringS 0 cw_szStringS_0 (St.of (hw_szStringS_0 y0 y1 y2)) (leafRd Ew_szStringS 0)) = (g_Sw_szStringS_0 y0 (y1,y2)).bt (fun ((y1,y2):Int×Int) => (hw_szStringS_0 y0 y1 y2)) (xw_szStringS_0 y0) := by kernel_rfl
theorem kw_szStringS_1:OrcOk Ew_szStringS Ow_szStringS_1 lsw_szStringS 1 := orc_add kw_szStringS_0 (fun n p hp h ex h' ho => by
 obtain ⟨b,c⟩ := p
 obtain ⟨xt,h1,h2⟩ := ho
 have h1:Ow_szStringS_1 b h = some (true,xt) := h1
 unfold Ow_szStringS_1 at h1
 split at h1
 ·injection h1 with h1
  injection h1 with e1 e2
  subst e2
  have hc:c = cw_szStringS_0 := mw_szStringS_0 _ hp rfl
  subst hc
  right
  rename_i y0 y1 y2
  have key := LT_step kw_szStringS_0 hp (fun q hq => loopsAll_in _ _ _ _ hp hq) (fun ((y1,y2):Int×Int) => (hw_szStringS_0 y0 y1 y2)) (xw_szStringS_0 y0) (g_Sw_szStringS_0 y0) (fun x => by first | exact bw_szStringS_0 y0 x.1 x.2) n (x := (y1,y2)) (okO_some e1)
  have hx:∀ r,XT.sel (.br (isL r) (.leaf .ret [(.T 1,.t (.val false [.int .i64 (getL r).1])),(.T 4,.t (.val false [.int .i64 (getL r).2]))]) (.leaf (.exit 0) [(.T 1,.t (.val false [.int .i64 (getR r)])),(.T 4,.t (.val false [.undef]))])) = xw_szStringS_0 y0 r := fun r => by first | rfl | (rcases r with r | r <;> rfl) | (rcases r with r | r | r <;> rfl) | (rcases r with r | r | r | r <;> rfl)
  have h3 := (hx (valO (g_Lw_szStringS_0 y0 (y1,y2)))).symm.trans h2
  have e3 := congrArg Prod.fst h3
  have e4 := congrArg Prod.snd h3
  simp only at e3 e4
  rw [← e3,← e4]
  exact key
 ·exact .inl ⟨xt,h1,h2⟩)
noncomputable def g_Aw_szStringS (a0:List ByteArray) (a1:Int):Bool := decide (IntKind.wrap IntKind.i64 (a1 - (↑(List.length a0):Int)) < (0:Int)) || okO (g_Lw_szStringS_0 a0 (IntKind.wrap IntKind.i64 (a1 - (↑(List.length a0):Int)),(0:Int)))
noncomputable def g_Vw_szStringS_0 (a0:List ByteArray) (a1:Int):Int := bif decide (IntKind.wrap IntKind.i64 (a1 - (↑(List.length a0):Int)) < (0:Int)) then (-1:Int) else bif isL (valO (g_Lw_szStringS_0 a0 (IntKind.wrap IntKind.i64 (a1 - (↑(List.length a0):Int)),(0:Int)))) then (getL (valO (g_Lw_szStringS_0 a0 (IntKind.wrap IntKind.i64 (a1 - (↑(List.length a0):Int)),(0:Int))))).2 else getR (valO (g_Lw_szStringS_0 a0 (IntKind.wrap IntKind.i64 (a1 - (↑(List.length a0):Int)),(0:Int))))
noncomputable def Fw_szStringS:FSem := fun ys => match ys with
 | [.val false [.sl .any 9 .str a0],.val false [.int .i64 a1]] => some ((g_Aw_szStringS a0 a1),.val false [.int .i64 (g_Vw_szStringS_0 a0 a1)],[])
 | _ => none
theorem vw_szStringS (a0:List ByteArray) (a1:Int):collapseH .std Ew_szStringS Ow_szStringS_1 (execFn Ew_szStringS Tryd.f36 msw_szStringS [.val false [.sl .any 9 .str a0],.val false [.int .i64 a1]]) = some ((g_Aw_szStringS a0 a1),.val false [.int .i64 (g_Vw_szStringS_0 a0 a1)],[]) := by kernel_rfl
theorem sw_szStringS:Sound Tryd.prog 36 msw_szStringS Fw_szStringS := by
 refine fn_gen goodw_szStringS (by kernel_rfl) .std (fn := Tryd.f36) (c := (Tryd.f36.body.getD .skip)) (o := Ow_szStringS_1) (k := 1) (by kernel_rfl) (by kernel_rfl) (by kernel_rfl) (by kernel_rfl) (by decide) kw_szStringS_1 ?_
 intro ys r outs h
 unfold Fw_szStringS at h
 split at h
 ·exact (vw_szStringS _ _).trans h
 ·cases h
noncomputable def Ew_szLogNote:Env where
 tt := mkTI Tryd.prog
 fn := fun f => match f with
  | 36 => some (msw_szStringS,FSem.wk msw_szStringS Fw_szStringS)
  | 37 => some (msw_szStoWriteS,FSem.wk msw_szStoWriteS Fw_szStoWriteS)
  | _ => none
 bxf := fun _ => none
 mv := []
 keep := fun _ => []
 keepB := fun _ => []
 keepX := fun _ => []
 keepXB := fun _ => []
theorem goodFw_szLogNote:∀ f ms F,Ew_szLogNote.fn f = some (ms,F) → Sound Tryd.prog f ms F := fun f ms F h => by
 unfold Ew_szLogNote at h
 dsimp only at h
 split at h
 ·injection h with h; injection h with e1 e2; subst e1 e2; exact Sound.wk sw_szStringS
 ·injection h with h; injection h with e1 e2; subst e1 e2; exact Sound.wk sw_szStoWriteS
 ·cases h
theorem goodBw_szLogNote:∀ f ms F,Ew_szLogNote.bxf f = some (ms,F) → SoundB Tryd.prog f ms F := fun f ms F h => by cases h
theorem goodw_szLogNote:Good Tryd.prog Ew_szLogNote := ⟨rfl,goodFw_szLogNote,goodBw_szLogNote⟩
noncomputable def Ow_szLogNote_0:Orc := fun _ _ => none
noncomputable def msw_szLogNote:List PM := [.rd,.own]
noncomputable def lsw_szLogNote:List (Nat×Code) := loopsAll 0 (Tryd.f21.body.getD .skip)
theorem kw_szLogNote_0:OrcOk Ew_szLogNote Ow_szLogNote_0 lsw_szLogNote 0 := orcOk_none
noncomputable def g_Aw_szLogNote (a0:Int) (a1:Int) (a2:List ByteArray) (a3:List (ByteArray×(Bool×(List Int)))) (a4:Int):Bool := g_Aw_szStringS a2 a4&&(decide (g_Vw_szStringS_0 a2 a4 < (0:Int)) || g_Aw_szStoWriteS a3 (g_Vw_szStringS_0 a2 a4)&&true)
noncomputable def g_Vw_szLogNote_0 (a0:Int) (a1:Int) (a2:List ByteArray) (a3:List (ByteArray×(Bool×(List Int)))) (a4:Int):Int := bif decide (g_Vw_szStringS_0 a2 a4 < (0:Int)) then (-1:Int) else bif decide (g_Vw_szStoWriteS_0 a3 (g_Vw_szStringS_0 a2 a4) < (0:Int)) then (-1:Int) else g_Vw_szStoWriteS_0 a3 (g_Vw_szStringS_0 a2 a4)
noncomputable def Fw_szLogNote:FSem := fun ys => match ys with
 | [.val true [.int .i64 a0,.int .i64 a1,.sl .any 9 .str a2,.sl .any 78 (.pair .str (.pair .bool (.sl 3 (.int .i64)))) a3],.val false [.int .i64 a4]] => some ((g_Aw_szLogNote a0 a1 a2 a3 a4),.val false [.int .i64 (g_Vw_szLogNote_0 a0 a1 a2 a3 a4)],[])
 | _ => none
theorem vw_szLogNote (a0:Int) (a1:Int) (a2:List ByteArray) (a3:List (ByteArray×(Bool×(List Int)))) (a4:Int):collapseH .std Ew_szLogNote Ow_szLogNote_0 (execFn Ew_szLogNote Tryd.f21 msw_szLogNote [.val true [.int .i64 a0,.int .i64 a1,.sl .any 9 .str a2,.sl .any 78 (.pair .str (.pair .bool (.sl 3 (.int .i64)))) a3],.val false [.int .i64 a4]]) = some ((g_Aw_szLogNote a0 a1 a2 a3 a4),.val false [.int .i64 (g_Vw_szLogNote_0 a0 a1 a2 a3 a4)],[]) := by kernel_rfl
theorem sw_szLogNote:Sound Tryd.prog 21 msw_szLogNote Fw_szLogNote := by
 refine fn_gen goodw_szLogNote (by kernel_rfl) .std (fn := Tryd.f21) (c := (Tryd.f21.body.getD .skip)) (o := Ow_szLogNote_0) (k := 0) (by kernel_rfl) (by kernel_rfl) (by kernel_rfl) (by kernel_rfl) (by decide) kw_szLogNote_0 ?_
 intro ys r outs h
 unfold Fw_szLogNote at h
 split at h
 ·exact (vw_szLogNote _ _ _ _ _).trans h
 ·cases h
noncomputable def Ew_szLogNoteS:Env where
 tt := mkTI Tryd.prog
 fn := fun f => match f with
  | 21 => some (msw_szLogNote,FSem.wk msw_szLogNote Fw_szLogNote)
  | _ => none
 bxf := fun _ => none
 mv := []
 keep := fun b => match b with
  | 0 => [(0,false),(1,false),(5,false)]
  | _ => []
 keepB := fun b => match b with
  | 0 => []
  | _ => []
 keepX := fun b => match b with
  | 0 => [(1,false),(4,false)]
  | _ => []
 keepXB := fun b => match b with
  | 0 => []
  | _ => []
theorem goodFw_szLogNoteS:∀ f ms F,Ew_szLogNoteS.fn f = some (ms,F) → Sound Tryd.prog f ms F := fun f ms F h => by
 unfold Ew_szLogNoteS at h
 dsimp only at h
 split at h
 ·injection h with h; injection h with e1 e2; subst e1 e2; exact Sound.wk sw_szLogNote
 ·cases h
theorem goodBw_szLogNoteS:∀ f ms F,Ew_szLogNoteS.bxf f = some (ms,F) → SoundB Tryd.prog f ms F := fun f ms F h => by cases h
theorem goodw_szLogNoteS:Good Tryd.prog Ew_szLogNoteS := ⟨rfl,goodFw_szLogNoteS,goodBw_szLogNoteS⟩
noncomputable def Ow_szLogNoteS_0:Orc := fun _ _ => none
noncomputable def msw_szLogNoteS:List PM := [.rd,.own]
noncomputable def lsw_szLogNoteS:List (Nat×Code) := loopsAll 0 (Tryd.f11.body.getD .skip)
noncomputable def cw_szLogNoteS_0:Code := (loopOf 0 (Tryd.f11.body.getD .skip)).getD .skip
theorem lseqw_szLogNoteS:lsw_szLogNoteS = [(0,cw_szLogNoteS_0)] := by kernel_rfl
theorem mw_szLogNoteS_0:∀ p,p ∈ lsw_szLogNoteS → p.1 = 0 → p.2 = cw_szLogNoteS_0 := by
 intro p hp
 rw [lseqw_szLogNoteS] at hp
 simp only [List.mem_cons,List.not_mem_nil,or_false] at hp
 subst hp; simp
theorem kw_szLogNoteS_0:OrcOk Ew_szLogNoteS Ow_szLogNoteS_0 lsw_szLogNoteS 0 := orcOk_none
noncomputable def hw_szLogNoteS_0 (y0:List (Int×(Int×((List ByteArray)×(List (ByteArray×(Bool×(List Int)))))))) (y1:Int) (y2:Int):List (Pl×LV) := [(.T 0,.t (.val false [.sl .any 49 (.pair (.int .i64) (.pair (.int .i64) (.pair (.sl 9 .str) (.sl 78 (.pair .str (.pair .bool (.sl 3 (.int .i64)))))))) y0])),(.T 1,.t (.val false [.int .i64 y1])),(.T 5,.t (.val false [.int .i64 y2]))]
noncomputable def g_Sw_szLogNoteS_0 (y0:List (Int×(Int×((List ByteArray)×(List (ByteArray×(Bool×(List Int)))))))):(Int×Int) → RT (Int×Int) ((Int×Int) ⊕ (Int))
 | (y1,y2) => .br (true) (.br (decide (y2 < (↑(List.length y0):Int))) (.br (decide ((0:Int) ≤ y2 ∧ y2 < (↑(List.length y0):Int))) (.br (g_Aw_szLogNote (at_ (Ty.pair (Ty.int IntKind.i64) (Ty.pair (Ty.int IntKind.i64) (Ty.pair (Ty.sl (nat_lit 9) Ty.str) (Ty.sl (nat_lit 78) (Ty.pair Ty.str (Ty.pair Ty.bool (Ty.sl (nat_lit 3) (Ty.int IntKind.i64)))))))) y0 (Int.toNat y2)).1 (at_ (Ty.pair (Ty.int IntKind.i64) (Ty.pair (Ty.int IntKind.i64) (Ty.pair (Ty.sl (nat_lit 9) Ty.str) (Ty.sl (nat_lit 78) (Ty.pair Ty.str (Ty.pair Ty.bool (Ty.sl (nat_lit 3) (Ty.int IntKind.i64)))))))) y0 (Int.toNat y2)).2.1 (at_ (Ty.pair (Ty.int IntKind.i64) (Ty.pair (Ty.int IntKind.i64) (Ty.pair (Ty.sl (nat_lit 9) Ty.str) (Ty.sl (nat_lit 78) (Ty.pair Ty.str (Ty.pair Ty.bool (Ty.sl (nat_lit 3) (Ty.int IntKind.i64)))))))) y0 (Int.toNat y2)).2.2.1 (at_ (Ty.pair (Ty.int IntKind.i64) (Ty.pair (Ty.int IntKind.i64) (Ty.pair (Ty.sl (nat_lit 9) Ty.str) (Ty.sl (nat_lit 78) (Ty.pair Ty.str (Ty.pair Ty.bool (Ty.sl (nat_lit 3) (Ty.int IntKind.i64)))))))) y0 (Int.toNat y2)).2.2.2 y1) (.br (true) (.br (decide (g_Vw_szLogNote_0 (at_ (Ty.pair (Ty.int IntKind.i64) (Ty.pair (Ty.int IntKind.i64) (Ty.pair (Ty.sl (nat_lit 9) Ty.str) (Ty.sl (nat_lit 78) (Ty.pair Ty.str (Ty.pair Ty.bool (Ty.sl (nat_lit 3) (Ty.int IntKind.i64)))))))) y0 (Int.toNat y2)).1 (at_ (Ty.pair (Ty.int IntKind.i64) (Ty.pair (Ty.int IntKind.i64) (Ty.pair (Ty.sl (nat_lit 9) Ty.str) (Ty.sl (nat_lit 78) (Ty.pair Ty.str (Ty.pair Ty.bool (Ty.sl (nat_lit 3) (Ty.int IntKind.i64)))))))) y0 (Int.toNat y2)).2.1 (at_ (Ty.pair (Ty.int IntKind.i64) (Ty.pair (Ty.int IntKind.i64) (Ty.pair (Ty.sl (nat_lit 9) Ty.str) (Ty.sl (nat_lit 78) (Ty.pair Ty.str (Ty.pair Ty.bool (Ty.sl (nat_lit 3) (Ty.int IntKind.i64)))))))) y0 (Int.toNat y2)).2.2.1 (at_ (Ty.pair (Ty.int IntKind.i64) (Ty.pair (Ty.int IntKind.i64) (Ty.pair (Ty.sl (nat_lit 9) Ty.str) (Ty.sl (nat_lit 78) (Ty.pair Ty.str (Ty.pair Ty.bool (Ty.sl (nat_lit 3) (Ty.int IntKind.i64)))))))) y0 (Int.toNat y2)).2.2.2 y1 < (0:Int))) (.out (.inl ((g_Vw_szLogNote_0 (at_ (Ty.pair (Ty.int IntKind.i64) (Ty.pair (Ty.int IntKind.i64) (Ty.pair (Ty.sl (nat_lit 9) Ty.str) (Ty.sl (nat_lit 78) (Ty.pair Ty.str (Ty.pair Ty.bool (Ty.sl (nat_lit 3) (Ty.int IntKind.i64)))))))) y0 (Int.toNat y2)).1 (at_ (Ty.pair (Ty.int IntKind.i64) (Ty.pair (Ty.int IntKind.i64) (Ty.pair (Ty.sl (nat_lit 9) Ty.str) (Ty.sl (nat_lit 78) (Ty.pair Ty.str (Ty.pair Ty.bool (Ty.sl (nat_lit 3) (Ty.int IntKind.i64)))))))) y0 (Int.toNat y2)).2.1 (at_ (Ty.pair (Ty.int IntKind.i64) (Ty.pair (Ty.int IntKind.i64) (Ty.pair (Ty.sl (nat_lit 9) Ty.str) (Ty.sl (nat_lit 78) (Ty.pair Ty.str (Ty.pair Ty.bool (Ty.sl (nat_lit 3) (Ty.int IntKind.i64)))))))) y0 (Int.toNat y2)).2.2.1 (at_ (Ty.pair (Ty.int IntKind.i64) (Ty.pair (Ty.int IntKind.i64) (Ty.pair (Ty.sl (nat_lit 9) Ty.str) (Ty.sl (nat_lit 78) (Ty.pair Ty.str (Ty.pair Ty.bool (Ty.sl (nat_lit 3) (Ty.int IntKind.i64)))))))) y0 (Int.toNat y2)).2.2.2 y1,(-1:Int))))) (.br (true) (.go ((g_Vw_szLogNote_0 (at_ (Ty.pair (Ty.int IntKind.i64) (Ty.pair (Ty.int IntKind.i64) (Ty.pair (Ty.sl (nat_lit 9) Ty.str) (Ty.sl (nat_lit 78) (Ty.pair Ty.str (Ty.pair Ty.bool (Ty.sl (nat_lit 3) (Ty.int IntKind.i64)))))))) y0 (Int.toNat y2)).1 (at_ (Ty.pair (Ty.int IntKind.i64) (Ty.pair (Ty.int IntKind.i64) (Ty.pair (Ty.sl (nat_lit 9) Ty.str) (Ty.sl (nat_lit 78) (Ty.pair Ty.str (Ty.pair Ty.bool (Ty.sl (nat_lit 3) (Ty.int IntKind.i64)))))))) y0 (Int.toNat y2)).2.1 (at_ (Ty.pair (Ty.int IntKind.i64) (Ty.pair (Ty.int IntKind.i64) (Ty.pair (Ty.sl (nat_lit 9) Ty.str) (Ty.sl (nat_lit 78) (Ty.pair Ty.str (Ty.pair Ty.bool (Ty.sl (nat_lit 3) (Ty.int IntKind.i64)))))))) y0 (Int.toNat y2)).2.2.1 (at_ (Ty.pair (Ty.int IntKind.i64) (Ty.pair (Ty.int IntKind.i64) (Ty.pair (Ty.sl (nat_lit 9) Ty.str) (Ty.sl (nat_lit 78) (Ty.pair Ty.str (Ty.pair Ty.bool (Ty.sl (nat_lit 3) (Ty.int IntKind.i64)))))))) y0 (Int.toNat y2)).2.2.2 y1,IntKind.wrap IntKind.i64 (y2 + (1:Int))))) .bad)) .bad) .bad) .bad) (.out (.inr (y1)))) .bad
noncomputable def g_Lw_szLogNoteS_0 (y0:List (Int×(Int×((List ByteArray)×(List (ByteArray×(Bool×(List Int)))))))) (x:Int×Int):Option ((Int×Int) ⊕ (Int)) := loopO (g_Sw_szLogNoteS_0 y0) x
noncomputable def xw_szLogNoteS_0 (y0:List (Int×(Int×((List ByteArray)×(List (ByteArray×(Bool×(List Int)))))))):((Int×Int) ⊕ (Int)) → Ex×List (Pl×LV) := fun
 | .inl r => (.ret,[(.T 1,.t (.val false [.int .i64 r.1])),(.T 4,.t (.val false [.int .i64 r.2]))])
 | .inr (r) => (.exit 0,[(.T 1,.t (.val false [.int .i64 r])),(.T 4,.t (.val false [.undef]))])
noncomputable def Ow_szLogNoteS_1:Orc := fun b h => match b,h with
 | 0,[(.T 0,.t (.val false [.sl .any 49 (.pair (.int .i64) (.pair (.int .i64) (.pair (.sl 9 .str) (.sl 78 (.pair .str (.pair .bool (.sl 3 (.int .i64)))))))) y0])),(.T 1,.t (.val false [.int .i64 y1])),(.T 5,.t (.val false [.int .i64 y2]))] => some (okO (g_Lw_szLogNoteS_0 y0 (y1,y2)),(.br (isL (valO (g_Lw_szLogNoteS_0 y0 (y1,y2)))) (.leaf .ret [(.T 1,.t (.val false [.int .i64 (getL (valO (g_Lw_szLogNoteS_0 y0 (y1,y2)))).1])),(.T 4,.t (.val false [.int .i64 (getL (valO (g_Lw_szLogNoteS_0 y0 (y1,y2)))).2]))]) (.leaf (.exit 0) [(.T 1,.t (.val false [.int .i64 (getR (valO (g_Lw_szLogNoteS_0 y0 (y1,y2))))])),(.T 4,.t (.val false [.undef]))])))
 | b,h => Ow_szLogNoteS_0 b h
theorem bw_szLogNoteS_0 (y0:List (Int×(Int×((List ByteArray)×(List (ByteArray×(Bool×(List Int)))))))) (y1:Int) (y2:Int):Tr.bt Ew_szLogNoteS Ow_szLogNoteS_0 (exec Ew_szLogNoteS 0 cw_szLogNoteS_0 (St.of (hw_szLogNoteS_0 y0 y1 y2)) (leafRd Ew_szLogNoteS 0)) = (g_Sw_szLogNoteS_0 y0 (y1,y2)).bt (fun ((y1,y2):Int×Int) => (hw_szLogNoteS_0 y0 y1 y2)) (xw_szLogNoteS_0 y0) := by kernel_rfl
theorem kw_szLogNoteS_1:OrcOk Ew_szLogNoteS Ow_szLogNoteS_1 lsw_szLogNoteS 1 := orc_add kw_szLogNoteS_0 (fun n p hp h ex h' ho => by
 obtain ⟨b,c⟩ := p
 obtain ⟨xt,h1,h2⟩ := ho
 have h1:Ow_szLogNoteS_1 b h = some (true,xt) := h1
 unfold Ow_szLogNoteS_1 at h1
 split at h1
 ·injection h1 with h1
  injection h1 with e1 e2
  subst e2
  have hc:c = cw_szLogNoteS_0 := mw_szLogNoteS_0 _ hp rfl
  subst hc
  right
  rename_i y0 y1 y2
  have key := LT_step kw_szLogNoteS_0 hp (fun q hq => loopsAll_in _ _ _ _ hp hq) (fun ((y1,y2):Int×Int) => (hw_szLogNoteS_0 y0 y1 y2)) (xw_szLogNoteS_0 y0) (g_Sw_szLogNoteS_0 y0) (fun x => by first | exact bw_szLogNoteS_0 y0 x.1 x.2) n (x := (y1,y2)) (okO_some e1)
  have hx:∀ r,XT.sel (.br (isL r) (.leaf .ret [(.T 1,.t (.val false [.int .i64 (getL r).1])),(.T 4,.t (.val false [.int .i64 (getL r).2]))]) (.leaf (.exit 0) [(.T 1,.t (.val false [.int .i64 (getR r)])),(.T 4,.t (.val false [.undef]))])) = xw_szLogNoteS_0 y0 r := fun r => by first | rfl | (rcases r with r | r <;> rfl) | (rcases r with r | r | r <;> rfl) | (rcases r with r | r | r | r <;> rfl)
  have h3 := (hx (valO (g_Lw_szLogNoteS_0 y0 (y1,y2)))).symm.trans h2
  have e3 := congrArg Prod.fst h3
  have e4 := congrArg Prod.snd h3
  simp only at e3 e4
  rw [← e3,← e4]
  exact key
 ·exact .inl ⟨xt,h1,h2⟩)
noncomputable def g_Aw_szLogNoteS (a0:List (Int×(Int×((List ByteArray)×(List (ByteArray×(Bool×(List Int)))))))) (a1:Int):Bool := decide (IntKind.wrap IntKind.i64 (a1 - (↑(List.length a0):Int)) < (0:Int)) || okO (g_Lw_szLogNoteS_0 a0 (IntKind.wrap IntKind.i64 (a1 - (↑(List.length a0):Int)),(0:Int)))
noncomputable def g_Vw_szLogNoteS_0 (a0:List (Int×(Int×((List ByteArray)×(List (ByteArray×(Bool×(List Int)))))))) (a1:Int):Int := bif decide (IntKind.wrap IntKind.i64 (a1 - (↑(List.length a0):Int)) < (0:Int)) then (-1:Int) else bif isL (valO (g_Lw_szLogNoteS_0 a0 (IntKind.wrap IntKind.i64 (a1 - (↑(List.length a0):Int)),(0:Int)))) then (getL (valO (g_Lw_szLogNoteS_0 a0 (IntKind.wrap IntKind.i64 (a1 - (↑(List.length a0):Int)),(0:Int))))).2 else getR (valO (g_Lw_szLogNoteS_0 a0 (IntKind.wrap IntKind.i64 (a1 - (↑(List.length a0):Int)),(0:Int))))
noncomputable def Fw_szLogNoteS:FSem := fun ys => match ys with
 | [.val false [.sl .any 49 (.pair (.int .i64) (.pair (.int .i64) (.pair (.sl 9 .str) (.sl 78 (.pair .str (.pair .bool (.sl 3 (.int .i64)))))))) a0],.val false [.int .i64 a1]] => some ((g_Aw_szLogNoteS a0 a1),.val false [.int .i64 (g_Vw_szLogNoteS_0 a0 a1)],[])
 | _ => none
theorem vw_szLogNoteS (a0:List (Int×(Int×((List ByteArray)×(List (ByteArray×(Bool×(List Int)))))))) (a1:Int):collapseH .std Ew_szLogNoteS Ow_szLogNoteS_1 (execFn Ew_szLogNoteS Tryd.f11 msw_szLogNoteS [.val false [.sl .any 49 (.pair (.int .i64) (.pair (.int .i64) (.pair (.sl 9 .str) (.sl 78 (.pair .str (.pair .bool (.sl 3 (.int .i64)))))))) a0],.val false [.int .i64 a1]]) = some ((g_Aw_szLogNoteS a0 a1),.val false [.int .i64 (g_Vw_szLogNoteS_0 a0 a1)],[]) := by kernel_rfl
theorem sw_szLogNoteS:Sound Tryd.prog 11 msw_szLogNoteS Fw_szLogNoteS := by
 refine fn_gen goodw_szLogNoteS (by kernel_rfl) .std (fn := Tryd.f11) (c := (Tryd.f11.body.getD .skip)) (o := Ow_szLogNoteS_1) (k := 1) (by kernel_rfl) (by kernel_rfl) (by kernel_rfl) (by kernel_rfl) (by decide) kw_szLogNoteS_1 ?_
 intro ys r outs h
 unfold Fw_szLogNoteS at h
 split at h
 ·exact (vw_szLogNoteS _ _).trans h
 ·cases h
noncomputable def Ew_szLogDisk:Env where
 tt := mkTI Tryd.prog
 fn := fun f => match f with
  | 11 => some (msw_szLogNoteS,FSem.wk msw_szLogNoteS Fw_szLogNoteS)
  | _ => none
 bxf := fun _ => none
 mv := []
 keep := fun _ => []
 keepB := fun _ => []
 keepX := fun _ => []
 keepXB := fun _ => []
theorem goodFw_szLogDisk:∀ f ms F,Ew_szLogDisk.fn f = some (ms,F) → Sound Tryd.prog f ms F := fun f ms F h => by
 unfold Ew_szLogDisk at h
 dsimp only at h
 split at h
 ·injection h with h; injection h with e1 e2; subst e1 e2; exact Sound.wk sw_szLogNoteS
 ·cases h
theorem goodBw_szLogDisk:∀ f ms F,Ew_szLogDisk.bxf f = some (ms,F) → SoundB Tryd.prog f ms F := fun f ms F h => by cases h
theorem goodw_szLogDisk:Good Tryd.prog Ew_szLogDisk := ⟨rfl,goodFw_szLogDisk,goodBw_szLogDisk⟩
noncomputable def Ow_szLogDisk_0:Orc := fun _ _ => none
noncomputable def msw_szLogDisk:List PM := [.rd,.own]
noncomputable def lsw_szLogDisk:List (Nat×Code) := loopsAll 0 (Tryd.f4.body.getD .skip)
theorem kw_szLogDisk_0:OrcOk Ew_szLogDisk Ow_szLogDisk_0 lsw_szLogDisk 0 := orcOk_none
noncomputable def g_Aw_szLogDisk (a0:List (Int×(Int×((List ByteArray)×(List (ByteArray×(Bool×(List Int)))))))) (a1:Int) (a2:Int):Bool := g_Aw_szLogNoteS a0 a2&&true
noncomputable def g_Vw_szLogDisk_0 (a0:List (Int×(Int×((List ByteArray)×(List (ByteArray×(Bool×(List Int)))))))) (a1:Int) (a2:Int):Int := bif decide (g_Vw_szLogNoteS_0 a0 a2 < (0:Int)) then (-1:Int) else g_Vw_szLogNoteS_0 a0 a2
noncomputable def Fw_szLogDisk:FSem := fun ys => match ys with
 | [.val true [.sl .any 49 (.pair (.int .i64) (.pair (.int .i64) (.pair (.sl 9 .str) (.sl 78 (.pair .str (.pair .bool (.sl 3 (.int .i64)))))))) a0,.int .i64 a1],.val false [.int .i64 a2]] => some ((g_Aw_szLogDisk a0 a1 a2),.val false [.int .i64 (g_Vw_szLogDisk_0 a0 a1 a2)],[])
 | _ => none
theorem vw_szLogDisk (a0:List (Int×(Int×((List ByteArray)×(List (ByteArray×(Bool×(List Int)))))))) (a1:Int) (a2:Int):collapseH .std Ew_szLogDisk Ow_szLogDisk_0 (execFn Ew_szLogDisk Tryd.f4 msw_szLogDisk [.val true [.sl .any 49 (.pair (.int .i64) (.pair (.int .i64) (.pair (.sl 9 .str) (.sl 78 (.pair .str (.pair .bool (.sl 3 (.int .i64)))))))) a0,.int .i64 a1],.val false [.int .i64 a2]]) = some ((g_Aw_szLogDisk a0 a1 a2),.val false [.int .i64 (g_Vw_szLogDisk_0 a0 a1 a2)],[]) := by kernel_rfl
theorem sw_szLogDisk:Sound Tryd.prog 4 msw_szLogDisk Fw_szLogDisk := by
 refine fn_gen goodw_szLogDisk (by kernel_rfl) .std (fn := Tryd.f4) (c := (Tryd.f4.body.getD .skip)) (o := Ow_szLogDisk_0) (k := 0) (by kernel_rfl) (by kernel_rfl) (by kernel_rfl) (by kernel_rfl) (by decide) kw_szLogDisk_0 ?_
 intro ys r outs h
 unfold Fw_szLogDisk at h
 split at h
 ·exact (vw_szLogDisk _ _ _).trans h
 ·cases h
noncomputable def Ew_toIntS:Env where
 tt := mkTI Tryd.prog
 fn := fun _ => none
 bxf := fun _ => none
 mv := []
 keep := fun b => match b with
  | 0 => [(0,false),(3,false),(4,false)]
  | _ => []
 keepB := fun b => match b with
  | 0 => []
  | _ => []
 keepX := fun b => match b with
  | 0 => [(3,false)]
  | _ => []
 keepXB := fun b => match b with
  | 0 => []
  | _ => []
theorem goodFw_toIntS:∀ f ms F,Ew_toIntS.fn f = some (ms,F) → Sound Tryd.prog f ms F := fun f ms F h => by cases h
theorem goodBw_toIntS:∀ f ms F,Ew_toIntS.bxf f = some (ms,F) → SoundB Tryd.prog f ms F := fun f ms F h => by cases h
theorem goodw_toIntS:Good Tryd.prog Ew_toIntS := ⟨rfl,goodFw_toIntS,goodBw_toIntS⟩
noncomputable def Ow_toIntS_0:Orc := fun _ _ => none
noncomputable def msw_toIntS:List PM := [.rd]
noncomputable def lsw_toIntS:List (Nat×Code) := loopsAll 0 (Tryd.f70.body.getD .skip)
noncomputable def cw_toIntS_0:Code := (loopOf 0 (Tryd.f70.body.getD .skip)).getD .skip
theorem lseqw_toIntS:lsw_toIntS = [(0,cw_toIntS_0)] := by kernel_rfl
theorem mw_toIntS_0:∀ p,p ∈ lsw_toIntS → p.1 = 0 → p.2 = cw_toIntS_0 := by
 intro p hp
 rw [lseqw_toIntS] at hp
 simp only [List.mem_cons,List.not_mem_nil,or_false] at hp
 subst hp; simp
theorem kw_toIntS_0:OrcOk Ew_toIntS Ow_toIntS_0 lsw_toIntS 0 := orcOk_none
noncomputable def hw_toIntS_0 (y0:List Int) (y1:List Int) (y2:Int):List (Pl×LV) := [(.T 0,.t (.val false [.sl .any 3 (.int .i64) y0])),(.T 3,.t (.val false [.row 3 0 0])),(.R 3 0,.r 0 (some ⟨false,.non,true,3,(.int .i64),y1⟩)),(.T 4,.t (.val false [.int .i64 y2]))]
noncomputable def g_Sw_toIntS_0 (y0:List Int):((List Int)×Int) → RT ((List Int)×Int) (((List Int)))
 | (y1,y2) => .br (true) (.br (decide (y2 < (↑(List.length y0):Int))) (.br (decide ((0:Int) ≤ y2 ∧ y2 < (↑(List.length y0):Int))) (.br (decide ((0:Int) ≤ y2 ∧ y2 < (↑(List.length y1):Int))) (.br (decide (Int.toNat y2 < List.length y1)) (.br (true) (.go ((List.set y1 (Int.toNat y2) (at_ (Ty.int IntKind.i64) y0 (Int.toNat y2)),IntKind.wrap IntKind.i64 (y2 + (1:Int))))) .bad) .bad) .bad) .bad) (.out (y1))) .bad
noncomputable def g_Lw_toIntS_0 (y0:List Int) (x:(List Int)×Int):Option (((List Int))) := loopO (g_Sw_toIntS_0 y0) x
noncomputable def xw_toIntS_0 (y0:List Int):(((List Int))) → Ex×List (Pl×LV) := fun r => (.exit 0,[(.T 3,.t (.val false [.row 3 0 0])),(.R 3 0,.r 0 (some ⟨false,.non,true,3,(.int .i64),r⟩))])
noncomputable def Ow_toIntS_1:Orc := fun b h => match b,h with
 | 0,[(.T 0,.t (.val false [.sl .any 3 (.int .i64) y0])),(.T 3,.t (.val false [.row 3 0 0])),(.R 3 0,.r 0 (some ⟨false,.non,true,3,(.int .i64),y1⟩)),(.T 4,.t (.val false [.int .i64 y2]))] => some (okO (g_Lw_toIntS_0 y0 (y1,y2)),(.leaf (.exit 0) [(.T 3,.t (.val false [.row 3 0 0])),(.R 3 0,.r 0 (some ⟨false,.non,true,3,(.int .i64),(valO (g_Lw_toIntS_0 y0 (y1,y2)))⟩))]))
 | b,h => Ow_toIntS_0 b h
theorem bw_toIntS_0 (y0:List Int) (y1:List Int) (y2:Int):Tr.bt Ew_toIntS Ow_toIntS_0 (exec Ew_toIntS 0 cw_toIntS_0 (St.of (hw_toIntS_0 y0 y1 y2)) (leafRd Ew_toIntS 0)) = (g_Sw_toIntS_0 y0 (y1,y2)).bt (fun ((y1,y2):(List Int)×Int) => (hw_toIntS_0 y0 y1 y2)) (xw_toIntS_0 y0) := by kernel_rfl
theorem kw_toIntS_1:OrcOk Ew_toIntS Ow_toIntS_1 lsw_toIntS 1 := orc_add kw_toIntS_0 (fun n p hp h ex h' ho => by
 obtain ⟨b,c⟩ := p
 obtain ⟨xt,h1,h2⟩ := ho
 have h1:Ow_toIntS_1 b h = some (true,xt) := h1
 unfold Ow_toIntS_1 at h1
 split at h1
 ·injection h1 with h1
  injection h1 with e1 e2
  subst e2
  have hc:c = cw_toIntS_0 := mw_toIntS_0 _ hp rfl
  subst hc
  right
  rename_i y0 y1 y2
  have key := LT_step kw_toIntS_0 hp (fun q hq => loopsAll_in _ _ _ _ hp hq) (fun ((y1,y2):(List Int)×Int) => (hw_toIntS_0 y0 y1 y2)) (xw_toIntS_0 y0) (g_Sw_toIntS_0 y0) (fun x => by first | exact bw_toIntS_0 y0 x.1 x.2) n (x := (y1,y2)) (okO_some e1)
  have hx:∀ r,XT.sel (.leaf (.exit 0) [(.T 3,.t (.val false [.row 3 0 0])),(.R 3 0,.r 0 (some ⟨false,.non,true,3,(.int .i64),r⟩))]) = xw_toIntS_0 y0 r := fun r => by first | rfl | (rcases r with r | r <;> rfl) | (rcases r with r | r | r <;> rfl) | (rcases r with r | r | r | r <;> rfl)
  have h3 := (hx (valO (g_Lw_toIntS_0 y0 (y1,y2)))).symm.trans h2
  have e3 := congrArg Prod.fst h3
  have e4 := congrArg Prod.snd h3
  simp only at e3 e4
  rw [← e3,← e4]
  exact key
 ·exact .inl ⟨xt,h1,h2⟩)
noncomputable def g_Aw_toIntS (a0:List Int):Bool := decide ((↑(List.length a0):Int) = (↑(List.length a0):Int) ∧ (0:Int) ≤ (↑(List.length a0):Int) ∧ (↑(List.length a0):Int) ≤ (9223372036854775807:Int) ∧ (8:Int) * (↑(List.length a0):Int) ≤ (281474976710656:Int))&&okO (g_Lw_toIntS_0 a0 (List.replicate (Int.toNat (↑(List.length a0):Int)) (0:Int),(0:Int)))
noncomputable def g_Vw_toIntS_0 (a0:List Int):List Int := valO (g_Lw_toIntS_0 a0 (List.replicate (Int.toNat (↑(List.length a0):Int)) (0:Int),(0:Int)))
noncomputable def Fw_toIntS:FSem := fun ys => match ys with
 | [.val false [.sl .any 3 (.int .i64) a0]] => some ((g_Aw_toIntS a0),.val false [.own .any true 3 (.int .i64) (g_Vw_toIntS_0 a0)],[])
 | _ => none
theorem vw_toIntS (a0:List Int):collapseH .std Ew_toIntS Ow_toIntS_1 (execFn Ew_toIntS Tryd.f70 msw_toIntS [.val false [.sl .any 3 (.int .i64) a0]]) = some ((g_Aw_toIntS a0),.val false [.own .any true 3 (.int .i64) (g_Vw_toIntS_0 a0)],[]) := by kernel_rfl
theorem sw_toIntS:Sound Tryd.prog 70 msw_toIntS Fw_toIntS := by
 refine fn_gen goodw_toIntS (by kernel_rfl) .std (fn := Tryd.f70) (c := (Tryd.f70.body.getD .skip)) (o := Ow_toIntS_1) (k := 1) (by kernel_rfl) (by kernel_rfl) (by kernel_rfl) (by kernel_rfl) (by decide) kw_toIntS_1 ?_
 intro ys r outs h
 unfold Fw_toIntS at h
 split at h
 ·exact (vw_toIntS _).trans h
 ·cases h
noncomputable def Ew_toStoWrite:Env where
 tt := mkTI Tryd.prog
 fn := fun f => match f with
  | 70 => some (msw_toIntS,FSem.wk msw_toIntS Fw_toIntS)
  | _ => none
 bxf := fun _ => none
 mv := []
 keep := fun _ => []
 keepB := fun _ => []
 keepX := fun _ => []
 keepXB := fun _ => []
theorem goodFw_toStoWrite:∀ f ms F,Ew_toStoWrite.fn f = some (ms,F) → Sound Tryd.prog f ms F := fun f ms F h => by
 unfold Ew_toStoWrite at h
 dsimp only at h
 split at h
 ·injection h with h; injection h with e1 e2; subst e1 e2; exact Sound.wk sw_toIntS
 ·cases h
theorem goodBw_toStoWrite:∀ f ms F,Ew_toStoWrite.bxf f = some (ms,F) → SoundB Tryd.prog f ms F := fun f ms F h => by cases h
theorem goodw_toStoWrite:Good Tryd.prog Ew_toStoWrite := ⟨rfl,goodFw_toStoWrite,goodBw_toStoWrite⟩
noncomputable def Ow_toStoWrite_0:Orc := fun _ _ => none
noncomputable def msw_toStoWrite:List PM := [.rd]
noncomputable def lsw_toStoWrite:List (Nat×Code) := loopsAll 0 (Tryd.f61.body.getD .skip)
theorem kw_toStoWrite_0:OrcOk Ew_toStoWrite Ow_toStoWrite_0 lsw_toStoWrite 0 := orcOk_none
noncomputable def g_Aw_toStoWrite (a0:ByteArray) (a1:Bool) (a2:List Int):Bool := g_Aw_toIntS a2
noncomputable def Fw_toStoWrite:FSem := fun ys => match ys with
 | [.val true [.str a0,.bool a1,.sl .any 3 (.int .i64) a2]] => some ((g_Aw_toStoWrite a0 a1 a2),.val true [.str a0,.bool a1,.own .any true 3 (.int .i64) (g_Vw_toIntS_0 a2)],[])
 | _ => none
theorem vw_toStoWrite (a0:ByteArray) (a1:Bool) (a2:List Int):collapseH .std Ew_toStoWrite Ow_toStoWrite_0 (execFn Ew_toStoWrite Tryd.f61 msw_toStoWrite [.val true [.str a0,.bool a1,.sl .any 3 (.int .i64) a2]]) = some ((g_Aw_toStoWrite a0 a1 a2),.val true [.str a0,.bool a1,.own .any true 3 (.int .i64) (g_Vw_toIntS_0 a2)],[]) := by kernel_rfl
theorem sw_toStoWrite:Sound Tryd.prog 61 msw_toStoWrite Fw_toStoWrite := by
 refine fn_gen goodw_toStoWrite (by kernel_rfl) .std (fn := Tryd.f61) (c := (Tryd.f61.body.getD .skip)) (o := Ow_toStoWrite_0) (k := 0) (by kernel_rfl) (by kernel_rfl) (by kernel_rfl) (by kernel_rfl) (by decide) kw_toStoWrite_0 ?_
 intro ys r outs h
 unfold Fw_toStoWrite at h
 split at h
 ·exact (vw_toStoWrite _ _ _).trans h
 ·cases h
noncomputable def Ew_toStoWriteS:Env where
 tt := mkTI Tryd.prog
 fn := fun f => match f with
  | 61 => some (msw_toStoWrite,FSem.wk msw_toStoWrite Fw_toStoWrite)
  | _ => none
 bxf := fun _ => none
 mv := []
 keep := fun b => match b with
  | 0 => [(0,false),(3,false),(4,false)]
  | _ => []
 keepB := fun b => match b with
  | 0 => []
  | _ => []
 keepX := fun b => match b with
  | 0 => [(3,false)]
  | _ => []
 keepXB := fun b => match b with
  | 0 => []
  | _ => []
theorem goodFw_toStoWriteS:∀ f ms F,Ew_toStoWriteS.fn f = some (ms,F) → Sound Tryd.prog f ms F := fun f ms F h => by
 unfold Ew_toStoWriteS at h
 dsimp only at h
 split at h
 ·injection h with h; injection h with e1 e2; subst e1 e2; exact Sound.wk sw_toStoWrite
 ·cases h
theorem goodBw_toStoWriteS:∀ f ms F,Ew_toStoWriteS.bxf f = some (ms,F) → SoundB Tryd.prog f ms F := fun f ms F h => by cases h
theorem goodw_toStoWriteS:Good Tryd.prog Ew_toStoWriteS := ⟨rfl,goodFw_toStoWriteS,goodBw_toStoWriteS⟩
noncomputable def Ow_toStoWriteS_0:Orc := fun _ _ => none
noncomputable def msw_toStoWriteS:List PM := [.rd]
noncomputable def lsw_toStoWriteS:List (Nat×Code) := loopsAll 0 (Tryd.f42.body.getD .skip)
noncomputable def cw_toStoWriteS_0:Code := (loopOf 0 (Tryd.f42.body.getD .skip)).getD .skip
theorem lseqw_toStoWriteS:lsw_toStoWriteS = [(0,cw_toStoWriteS_0)] := by kernel_rfl
theorem mw_toStoWriteS_0:∀ p,p ∈ lsw_toStoWriteS → p.1 = 0 → p.2 = cw_toStoWriteS_0 := by
 intro p hp
 rw [lseqw_toStoWriteS] at hp
 simp only [List.mem_cons,List.not_mem_nil,or_false] at hp
 subst hp; simp
theorem kw_toStoWriteS_0:OrcOk Ew_toStoWriteS Ow_toStoWriteS_0 lsw_toStoWriteS 0 := orcOk_none
noncomputable def hw_toStoWriteS_0 (y0:List (ByteArray×(Bool×(List Int)))) (y1:List (ByteArray×(Bool×(List Int)))) (y2:Int):List (Pl×LV) := [(.T 0,.t (.val false [.sl .any 78 (.pair .str (.pair .bool (.sl 3 (.int .i64)))) y0])),(.T 3,.t (.val false [.row 3 0 0])),(.R 3 0,.r 0 (some ⟨false,.non,true,64,(.pair .str (.pair .bool (.sl 3 (.int .i64)))),y1⟩)),(.T 4,.t (.val false [.int .i64 y2]))]
noncomputable def g_Sw_toStoWriteS_0 (y0:List (ByteArray×(Bool×(List Int)))):((List (ByteArray×(Bool×(List Int))))×Int) → RT ((List (ByteArray×(Bool×(List Int))))×Int) (((List (ByteArray×(Bool×(List Int))))))
 | (y1,y2) => .br (true) (.br (decide (y2 < (↑(List.length y0):Int))) (.br (decide ((0:Int) ≤ y2 ∧ y2 < (↑(List.length y0):Int))) (.br (g_Aw_toStoWrite (at_ (Ty.pair Ty.str (Ty.pair Ty.bool (Ty.sl (nat_lit 3) (Ty.int IntKind.i64)))) y0 (Int.toNat y2)).1 (at_ (Ty.pair Ty.str (Ty.pair Ty.bool (Ty.sl (nat_lit 3) (Ty.int IntKind.i64)))) y0 (Int.toNat y2)).2.1 (at_ (Ty.pair Ty.str (Ty.pair Ty.bool (Ty.sl (nat_lit 3) (Ty.int IntKind.i64)))) y0 (Int.toNat y2)).2.2) (.br (decide ((0:Int) ≤ y2 ∧ y2 < (↑(List.length y1):Int))) (.br (decide (Int.toNat y2 < List.length y1)) (.br (true) (.go ((List.set y1 (Int.toNat y2) ((at_ (Ty.pair Ty.str (Ty.pair Ty.bool (Ty.sl (nat_lit 3) (Ty.int IntKind.i64)))) y0 (Int.toNat y2)).1,(at_ (Ty.pair Ty.str (Ty.pair Ty.bool (Ty.sl (nat_lit 3) (Ty.int IntKind.i64)))) y0 (Int.toNat y2)).2.1,g_Vw_toIntS_0 (at_ (Ty.pair Ty.str (Ty.pair Ty.bool (Ty.sl (nat_lit 3) (Ty.int IntKind.i64)))) y0 (Int.toNat y2)).2.2),IntKind.wrap IntKind.i64 (y2 + (1:Int))))) .bad) .bad) .bad) .bad) .bad) (.out (y1))) .bad
noncomputable def g_Lw_toStoWriteS_0 (y0:List (ByteArray×(Bool×(List Int)))) (x:(List (ByteArray×(Bool×(List Int))))×Int):Option (((List (ByteArray×(Bool×(List Int)))))) := loopO (g_Sw_toStoWriteS_0 y0) x
noncomputable def xw_toStoWriteS_0 (y0:List (ByteArray×(Bool×(List Int)))):(((List (ByteArray×(Bool×(List Int)))))) → Ex×List (Pl×LV) := fun r => (.exit 0,[(.T 3,.t (.val false [.row 3 0 0])),(.R 3 0,.r 0 (some ⟨false,.non,true,64,(.pair .str (.pair .bool (.sl 3 (.int .i64)))),r⟩))])
noncomputable def Ow_toStoWriteS_1:Orc := fun b h => match b,h with
 | 0,[(.T 0,.t (.val false [.sl .any 78 (.pair .str (.pair .bool (.sl 3 (.int .i64)))) y0])),(.T 3,.t (.val false [.row 3 0 0])),(.R 3 0,.r 0 (some ⟨false,.non,true,64,(.pair .str (.pair .bool (.sl 3 (.int .i64)))),y1⟩)),(.T 4,.t (.val false [.int .i64 y2]))] => some (okO (g_Lw_toStoWriteS_0 y0 (y1,y2)),(.leaf (.exit 0) [(.T 3,.t (.val false [.row 3 0 0])),(.R 3 0,.r 0 (some ⟨false,.non,true,64,(.pair .str (.pair .bool (.sl 3 (.int .i64)))),(valO (g_Lw_toStoWriteS_0 y0 (y1,y2)))⟩))]))
 | b,h => Ow_toStoWriteS_0 b h
theorem bw_toStoWriteS_0 (y0:List (ByteArray×(Bool×(List Int)))) (y1:List (ByteArray×(Bool×(List Int)))) (y2:Int):Tr.bt Ew_toStoWriteS Ow_toStoWriteS_0 (exec Ew_toStoWriteS 0 cw_toStoWriteS_0 (St.of (hw_toStoWriteS_0 y0 y1 y2)) (leafRd Ew_toStoWriteS 0)) = (g_Sw_toStoWriteS_0 y0 (y1,y2)).bt (fun ((y1,y2):(List (ByteArray×(Bool×(List Int))))×Int) => (hw_toStoWriteS_0 y0 y1 y2)) (xw_toStoWriteS_0 y0) := by kernel_rfl
theorem kw_toStoWriteS_1:OrcOk Ew_toStoWriteS Ow_toStoWriteS_1 lsw_toStoWriteS 1 := orc_add kw_toStoWriteS_0 (fun n p hp h ex h' ho => by
 obtain ⟨b,c⟩ := p
 obtain ⟨xt,h1,h2⟩ := ho
 have h1:Ow_toStoWriteS_1 b h = some (true,xt) := h1
 unfold Ow_toStoWriteS_1 at h1
 split at h1
 ·injection h1 with h1
  injection h1 with e1 e2
  subst e2
  have hc:c = cw_toStoWriteS_0 := mw_toStoWriteS_0 _ hp rfl
  subst hc
  right
  rename_i y0 y1 y2
  have key := LT_step kw_toStoWriteS_0 hp (fun q hq => loopsAll_in _ _ _ _ hp hq) (fun ((y1,y2):(List (ByteArray×(Bool×(List Int))))×Int) => (hw_toStoWriteS_0 y0 y1 y2)) (xw_toStoWriteS_0 y0) (g_Sw_toStoWriteS_0 y0) (fun x => by first | exact bw_toStoWriteS_0 y0 x.1 x.2) n (x := (y1,y2)) (okO_some e1)
  have hx:∀ r,XT.sel (.leaf (.exit 0) [(.T 3,.t (.val false [.row 3 0 0])),(.R 3 0,.r 0 (some ⟨false,.non,true,64,(.pair .str (.pair .bool (.sl 3 (.int .i64)))),r⟩))]) = xw_toStoWriteS_0 y0 r := fun r => by first | rfl | (rcases r with r | r <;> rfl) | (rcases r with r | r | r <;> rfl) | (rcases r with r | r | r | r <;> rfl)
  have h3 := (hx (valO (g_Lw_toStoWriteS_0 y0 (y1,y2)))).symm.trans h2
  have e3 := congrArg Prod.fst h3
  have e4 := congrArg Prod.snd h3
  simp only at e3 e4
  rw [← e3,← e4]
  exact key
 ·exact .inl ⟨xt,h1,h2⟩)
noncomputable def g_Aw_toStoWriteS (a0:List (ByteArray×(Bool×(List Int)))):Bool := decide ((↑(List.length a0):Int) = (↑(List.length a0):Int) ∧ (0:Int) ≤ (↑(List.length a0):Int) ∧ (↑(List.length a0):Int) ≤ (9223372036854775807:Int) ∧ (48:Int) * (↑(List.length a0):Int) ≤ (281474976710656:Int))&&okO (g_Lw_toStoWriteS_0 a0 (List.replicate (Int.toNat (↑(List.length a0):Int)) (lit [],false,[]),(0:Int)))
noncomputable def g_Vw_toStoWriteS_0 (a0:List (ByteArray×(Bool×(List Int)))):List (ByteArray×(Bool×(List Int))) := valO (g_Lw_toStoWriteS_0 a0 (List.replicate (Int.toNat (↑(List.length a0):Int)) (lit [],false,[]),(0:Int)))
noncomputable def Fw_toStoWriteS:FSem := fun ys => match ys with
 | [.val false [.sl .any 78 (.pair .str (.pair .bool (.sl 3 (.int .i64)))) a0]] => some ((g_Aw_toStoWriteS a0),.val false [.own .any true 64 (.pair .str (.pair .bool (.sl 3 (.int .i64)))) (g_Vw_toStoWriteS_0 a0)],[])
 | _ => none
theorem vw_toStoWriteS (a0:List (ByteArray×(Bool×(List Int)))):collapseH .std Ew_toStoWriteS Ow_toStoWriteS_1 (execFn Ew_toStoWriteS Tryd.f42 msw_toStoWriteS [.val false [.sl .any 78 (.pair .str (.pair .bool (.sl 3 (.int .i64)))) a0]]) = some ((g_Aw_toStoWriteS a0),.val false [.own .any true 64 (.pair .str (.pair .bool (.sl 3 (.int .i64)))) (g_Vw_toStoWriteS_0 a0)],[]) := by kernel_rfl
theorem sw_toStoWriteS:Sound Tryd.prog 42 msw_toStoWriteS Fw_toStoWriteS := by
 refine fn_gen goodw_toStoWriteS (by kernel_rfl) .std (fn := Tryd.f42) (c := (Tryd.f42.body.getD .skip)) (o := Ow_toStoWriteS_1) (k := 1) (by kernel_rfl) (by kernel_rfl) (by kernel_rfl) (by kernel_rfl) (by decide) kw_toStoWriteS_1 ?_
 intro ys r outs h
 unfold Fw_toStoWriteS at h
 split at h
 ·exact (vw_toStoWriteS _).trans h
 ·cases h
noncomputable def Ew_toStringS:Env where
 tt := mkTI Tryd.prog
 fn := fun _ => none
 bxf := fun _ => none
 mv := []
 keep := fun b => match b with
  | 0 => [(0,false),(3,false),(4,false)]
  | _ => []
 keepB := fun b => match b with
  | 0 => []
  | _ => []
 keepX := fun b => match b with
  | 0 => [(3,false)]
  | _ => []
 keepXB := fun b => match b with
  | 0 => []
  | _ => []
theorem goodFw_toStringS:∀ f ms F,Ew_toStringS.fn f = some (ms,F) → Sound Tryd.prog f ms F := fun f ms F h => by cases h
theorem goodBw_toStringS:∀ f ms F,Ew_toStringS.bxf f = some (ms,F) → SoundB Tryd.prog f ms F := fun f ms F h => by cases h
theorem goodw_toStringS:Good Tryd.prog Ew_toStringS := ⟨rfl,goodFw_toStringS,goodBw_toStringS⟩
noncomputable def Ow_toStringS_0:Orc := fun _ _ => none
noncomputable def msw_toStringS:List PM := [.rd]
noncomputable def lsw_toStringS:List (Nat×Code) := loopsAll 0 (Tryd.f41.body.getD .skip)
noncomputable def cw_toStringS_0:Code := (loopOf 0 (Tryd.f41.body.getD .skip)).getD .skip
theorem lseqw_toStringS:lsw_toStringS = [(0,cw_toStringS_0)] := by kernel_rfl
theorem mw_toStringS_0:∀ p,p ∈ lsw_toStringS → p.1 = 0 → p.2 = cw_toStringS_0 := by
 intro p hp
 rw [lseqw_toStringS] at hp
 simp only [List.mem_cons,List.not_mem_nil,or_false] at hp
 subst hp; simp
theorem kw_toStringS_0:OrcOk Ew_toStringS Ow_toStringS_0 lsw_toStringS 0 := orcOk_none
noncomputable def hw_toStringS_0 (y0:List ByteArray) (y1:List ByteArray) (y2:Int):List (Pl×LV) := [(.T 0,.t (.val false [.sl .any 9 .str y0])),(.T 3,.t (.val false [.row 3 0 0])),(.R 3 0,.r 0 (some ⟨false,.non,true,9,.str,y1⟩)),(.T 4,.t (.val false [.int .i64 y2]))]
noncomputable def g_Sw_toStringS_0 (y0:List ByteArray):((List ByteArray)×Int) → RT ((List ByteArray)×Int) (((List ByteArray)))
 | (y1,y2) => .br (true) (.br (decide (y2 < (↑(List.length y0):Int))) (.br (decide ((0:Int) ≤ y2 ∧ y2 < (↑(List.length y0):Int))) (.br (decide ((0:Int) ≤ y2 ∧ y2 < (↑(List.length y1):Int))) (.br (decide (Int.toNat y2 < List.length y1)) (.br (true) (.go ((List.set y1 (Int.toNat y2) (at_ Ty.str y0 (Int.toNat y2)),IntKind.wrap IntKind.i64 (y2 + (1:Int))))) .bad) .bad) .bad) .bad) (.out (y1))) .bad
noncomputable def g_Lw_toStringS_0 (y0:List ByteArray) (x:(List ByteArray)×Int):Option (((List ByteArray))) := loopO (g_Sw_toStringS_0 y0) x
noncomputable def xw_toStringS_0 (y0:List ByteArray):(((List ByteArray))) → Ex×List (Pl×LV) := fun r => (.exit 0,[(.T 3,.t (.val false [.row 3 0 0])),(.R 3 0,.r 0 (some ⟨false,.non,true,9,.str,r⟩))])
noncomputable def Ow_toStringS_1:Orc := fun b h => match b,h with
 | 0,[(.T 0,.t (.val false [.sl .any 9 .str y0])),(.T 3,.t (.val false [.row 3 0 0])),(.R 3 0,.r 0 (some ⟨false,.non,true,9,.str,y1⟩)),(.T 4,.t (.val false [.int .i64 y2]))] => some (okO (g_Lw_toStringS_0 y0 (y1,y2)),(.leaf (.exit 0) [(.T 3,.t (.val false [.row 3 0 0])),(.R 3 0,.r 0 (some ⟨false,.non,true,9,.str,(valO (g_Lw_toStringS_0 y0 (y1,y2)))⟩))]))
 | b,h => Ow_toStringS_0 b h
theorem bw_toStringS_0 (y0:List ByteArray) (y1:List ByteArray) (y2:Int):Tr.bt Ew_toStringS Ow_toStringS_0 (exec Ew_toStringS 0 cw_toStringS_0 (St.of (hw_toStringS_0 y0 y1 y2)) (leafRd Ew_toStringS 0)) = (g_Sw_toStringS_0 y0 (y1,y2)).bt (fun ((y1,y2):(List ByteArray)×Int) => (hw_toStringS_0 y0 y1 y2)) (xw_toStringS_0 y0) := by kernel_rfl
theorem kw_toStringS_1:OrcOk Ew_toStringS Ow_toStringS_1 lsw_toStringS 1 := orc_add kw_toStringS_0 (fun n p hp h ex h' ho => by
 obtain ⟨b,c⟩ := p
 obtain ⟨xt,h1,h2⟩ := ho
 have h1:Ow_toStringS_1 b h = some (true,xt) := h1
 unfold Ow_toStringS_1 at h1
 split at h1
 ·injection h1 with h1
  injection h1 with e1 e2
  subst e2
  have hc:c = cw_toStringS_0 := mw_toStringS_0 _ hp rfl
  subst hc
  right
  rename_i y0 y1 y2
  have key := LT_step kw_toStringS_0 hp (fun q hq => loopsAll_in _ _ _ _ hp hq) (fun ((y1,y2):(List ByteArray)×Int) => (hw_toStringS_0 y0 y1 y2)) (xw_toStringS_0 y0) (g_Sw_toStringS_0 y0) (fun x => by first | exact bw_toStringS_0 y0 x.1 x.2) n (x := (y1,y2)) (okO_some e1)
  have hx:∀ r,XT.sel (.leaf (.exit 0) [(.T 3,.t (.val false [.row 3 0 0])),(.R 3 0,.r 0 (some ⟨false,.non,true,9,.str,r⟩))]) = xw_toStringS_0 y0 r := fun r => by first | rfl | (rcases r with r | r <;> rfl) | (rcases r with r | r | r <;> rfl) | (rcases r with r | r | r | r <;> rfl)
  have h3 := (hx (valO (g_Lw_toStringS_0 y0 (y1,y2)))).symm.trans h2
  have e3 := congrArg Prod.fst h3
  have e4 := congrArg Prod.snd h3
  simp only at e3 e4
  rw [← e3,← e4]
  exact key
 ·exact .inl ⟨xt,h1,h2⟩)
noncomputable def g_Aw_toStringS (a0:List ByteArray):Bool := decide ((↑(List.length a0):Int) = (↑(List.length a0):Int) ∧ (0:Int) ≤ (↑(List.length a0):Int) ∧ (↑(List.length a0):Int) ≤ (9223372036854775807:Int) ∧ (16:Int) * (↑(List.length a0):Int) ≤ (281474976710656:Int))&&okO (g_Lw_toStringS_0 a0 (List.replicate (Int.toNat (↑(List.length a0):Int)) (lit []),(0:Int)))
noncomputable def g_Vw_toStringS_0 (a0:List ByteArray):List ByteArray := valO (g_Lw_toStringS_0 a0 (List.replicate (Int.toNat (↑(List.length a0):Int)) (lit []),(0:Int)))
noncomputable def Fw_toStringS:FSem := fun ys => match ys with
 | [.val false [.sl .any 9 .str a0]] => some ((g_Aw_toStringS a0),.val false [.own .any true 9 .str (g_Vw_toStringS_0 a0)],[])
 | _ => none
theorem vw_toStringS (a0:List ByteArray):collapseH .std Ew_toStringS Ow_toStringS_1 (execFn Ew_toStringS Tryd.f41 msw_toStringS [.val false [.sl .any 9 .str a0]]) = some ((g_Aw_toStringS a0),.val false [.own .any true 9 .str (g_Vw_toStringS_0 a0)],[]) := by kernel_rfl
theorem sw_toStringS:Sound Tryd.prog 41 msw_toStringS Fw_toStringS := by
 refine fn_gen goodw_toStringS (by kernel_rfl) .std (fn := Tryd.f41) (c := (Tryd.f41.body.getD .skip)) (o := Ow_toStringS_1) (k := 1) (by kernel_rfl) (by kernel_rfl) (by kernel_rfl) (by kernel_rfl) (by decide) kw_toStringS_1 ?_
 intro ys r outs h
 unfold Fw_toStringS at h
 split at h
 ·exact (vw_toStringS _).trans h
 ·cases h
noncomputable def Ew_toLogNote:Env where
 tt := mkTI Tryd.prog
 fn := fun f => match f with
  | 41 => some (msw_toStringS,FSem.wk msw_toStringS Fw_toStringS)
  | 42 => some (msw_toStoWriteS,FSem.wk msw_toStoWriteS Fw_toStoWriteS)
  | _ => none
 bxf := fun _ => none
 mv := []
 keep := fun _ => []
 keepB := fun _ => []
 keepX := fun _ => []
 keepXB := fun _ => []
theorem goodFw_toLogNote:∀ f ms F,Ew_toLogNote.fn f = some (ms,F) → Sound Tryd.prog f ms F := fun f ms F h => by
 unfold Ew_toLogNote at h
 dsimp only at h
 split at h
 ·injection h with h; injection h with e1 e2; subst e1 e2; exact Sound.wk sw_toStringS
 ·injection h with h; injection h with e1 e2; subst e1 e2; exact Sound.wk sw_toStoWriteS
 ·cases h
theorem goodBw_toLogNote:∀ f ms F,Ew_toLogNote.bxf f = some (ms,F) → SoundB Tryd.prog f ms F := fun f ms F h => by cases h
theorem goodw_toLogNote:Good Tryd.prog Ew_toLogNote := ⟨rfl,goodFw_toLogNote,goodBw_toLogNote⟩
noncomputable def Ow_toLogNote_0:Orc := fun _ _ => none
noncomputable def msw_toLogNote:List PM := [.rd]
noncomputable def lsw_toLogNote:List (Nat×Code) := loopsAll 0 (Tryd.f25.body.getD .skip)
theorem kw_toLogNote_0:OrcOk Ew_toLogNote Ow_toLogNote_0 lsw_toLogNote 0 := orcOk_none
noncomputable def g_Aw_toLogNote (a0:Int) (a1:Int) (a2:List ByteArray) (a3:List (ByteArray×(Bool×(List Int)))):Bool := g_Aw_toStringS a2&&g_Aw_toStoWriteS a3
noncomputable def Fw_toLogNote:FSem := fun ys => match ys with
 | [.val true [.int .i64 a0,.int .i64 a1,.sl .any 9 .str a2,.sl .any 78 (.pair .str (.pair .bool (.sl 3 (.int .i64)))) a3]] => some ((g_Aw_toLogNote a0 a1 a2 a3),.val true [.int .i64 a0,.int .i64 a1,.own .any true 9 .str (g_Vw_toStringS_0 a2),.own .any true 64 (.pair .str (.pair .bool (.sl 3 (.int .i64)))) (g_Vw_toStoWriteS_0 a3)],[])
 | _ => none
theorem vw_toLogNote (a0:Int) (a1:Int) (a2:List ByteArray) (a3:List (ByteArray×(Bool×(List Int)))):collapseH .std Ew_toLogNote Ow_toLogNote_0 (execFn Ew_toLogNote Tryd.f25 msw_toLogNote [.val true [.int .i64 a0,.int .i64 a1,.sl .any 9 .str a2,.sl .any 78 (.pair .str (.pair .bool (.sl 3 (.int .i64)))) a3]]) = some ((g_Aw_toLogNote a0 a1 a2 a3),.val true [.int .i64 a0,.int .i64 a1,.own .any true 9 .str (g_Vw_toStringS_0 a2),.own .any true 64 (.pair .str (.pair .bool (.sl 3 (.int .i64)))) (g_Vw_toStoWriteS_0 a3)],[]) := by kernel_rfl
theorem sw_toLogNote:Sound Tryd.prog 25 msw_toLogNote Fw_toLogNote := by
 refine fn_gen goodw_toLogNote (by kernel_rfl) .std (fn := Tryd.f25) (c := (Tryd.f25.body.getD .skip)) (o := Ow_toLogNote_0) (k := 0) (by kernel_rfl) (by kernel_rfl) (by kernel_rfl) (by kernel_rfl) (by decide) kw_toLogNote_0 ?_
 intro ys r outs h
 unfold Fw_toLogNote at h
 split at h
 ·exact (vw_toLogNote _ _ _ _).trans h
 ·cases h
noncomputable def Ew_toLogNoteS:Env where
 tt := mkTI Tryd.prog
 fn := fun f => match f with
  | 25 => some (msw_toLogNote,FSem.wk msw_toLogNote Fw_toLogNote)
  | _ => none
 bxf := fun _ => none
 mv := []
 keep := fun b => match b with
  | 0 => [(0,false),(3,false),(4,false)]
  | _ => []
 keepB := fun b => match b with
  | 0 => []
  | _ => []
 keepX := fun b => match b with
  | 0 => [(3,false)]
  | _ => []
 keepXB := fun b => match b with
  | 0 => []
  | _ => []
theorem goodFw_toLogNoteS:∀ f ms F,Ew_toLogNoteS.fn f = some (ms,F) → Sound Tryd.prog f ms F := fun f ms F h => by
 unfold Ew_toLogNoteS at h
 dsimp only at h
 split at h
 ·injection h with h; injection h with e1 e2; subst e1 e2; exact Sound.wk sw_toLogNote
 ·cases h
theorem goodBw_toLogNoteS:∀ f ms F,Ew_toLogNoteS.bxf f = some (ms,F) → SoundB Tryd.prog f ms F := fun f ms F h => by cases h
theorem goodw_toLogNoteS:Good Tryd.prog Ew_toLogNoteS := ⟨rfl,goodFw_toLogNoteS,goodBw_toLogNoteS⟩
noncomputable def Ow_toLogNoteS_0:Orc := fun _ _ => none
noncomputable def msw_toLogNoteS:List PM := [.rd]
noncomputable def lsw_toLogNoteS:List (Nat×Code) := loopsAll 0 (Tryd.f14.body.getD .skip)
noncomputable def cw_toLogNoteS_0:Code := (loopOf 0 (Tryd.f14.body.getD .skip)).getD .skip
theorem lseqw_toLogNoteS:lsw_toLogNoteS = [(0,cw_toLogNoteS_0)] := by kernel_rfl
theorem mw_toLogNoteS_0:∀ p,p ∈ lsw_toLogNoteS → p.1 = 0 → p.2 = cw_toLogNoteS_0 := by
 intro p hp
 rw [lseqw_toLogNoteS] at hp
 simp only [List.mem_cons,List.not_mem_nil,or_false] at hp
 subst hp; simp
theorem kw_toLogNoteS_0:OrcOk Ew_toLogNoteS Ow_toLogNoteS_0 lsw_toLogNoteS 0 := orcOk_none
noncomputable def hw_toLogNoteS_0 (y0:List (Int×(Int×((List ByteArray)×(List (ByteArray×(Bool×(List Int)))))))) (y1:List (Int×(Int×((List ByteArray)×(List (ByteArray×(Bool×(List Int)))))))) (y2:Int):List (Pl×LV) := [(.T 0,.t (.val false [.sl .any 49 (.pair (.int .i64) (.pair (.int .i64) (.pair (.sl 9 .str) (.sl 78 (.pair .str (.pair .bool (.sl 3 (.int .i64)))))))) y0])),(.T 3,.t (.val false [.row 3 0 0])),(.R 3 0,.r 0 (some ⟨false,.non,true,43,(.pair (.int .i64) (.pair (.int .i64) (.pair (.sl 9 .str) (.sl 64 (.pair .str (.pair .bool (.sl 3 (.int .i64)))))))),y1⟩)),(.T 4,.t (.val false [.int .i64 y2]))]
noncomputable def g_Sw_toLogNoteS_0 (y0:List (Int×(Int×((List ByteArray)×(List (ByteArray×(Bool×(List Int)))))))):((List (Int×(Int×((List ByteArray)×(List (ByteArray×(Bool×(List Int))))))))×Int) → RT ((List (Int×(Int×((List ByteArray)×(List (ByteArray×(Bool×(List Int))))))))×Int) (((List (Int×(Int×((List ByteArray)×(List (ByteArray×(Bool×(List Int))))))))))
 | (y1,y2) => .br (true) (.br (decide (y2 < (↑(List.length y0):Int))) (.br (decide ((0:Int) ≤ y2 ∧ y2 < (↑(List.length y0):Int))) (.br (g_Aw_toLogNote (at_ (Ty.pair (Ty.int IntKind.i64) (Ty.pair (Ty.int IntKind.i64) (Ty.pair (Ty.sl (nat_lit 9) Ty.str) (Ty.sl (nat_lit 78) (Ty.pair Ty.str (Ty.pair Ty.bool (Ty.sl (nat_lit 3) (Ty.int IntKind.i64)))))))) y0 (Int.toNat y2)).1 (at_ (Ty.pair (Ty.int IntKind.i64) (Ty.pair (Ty.int IntKind.i64) (Ty.pair (Ty.sl (nat_lit 9) Ty.str) (Ty.sl (nat_lit 78) (Ty.pair Ty.str (Ty.pair Ty.bool (Ty.sl (nat_lit 3) (Ty.int IntKind.i64)))))))) y0 (Int.toNat y2)).2.1 (at_ (Ty.pair (Ty.int IntKind.i64) (Ty.pair (Ty.int IntKind.i64) (Ty.pair (Ty.sl (nat_lit 9) Ty.str) (Ty.sl (nat_lit 78) (Ty.pair Ty.str (Ty.pair Ty.bool (Ty.sl (nat_lit 3) (Ty.int IntKind.i64)))))))) y0 (Int.toNat y2)).2.2.1 (at_ (Ty.pair (Ty.int IntKind.i64) (Ty.pair (Ty.int IntKind.i64) (Ty.pair (Ty.sl (nat_lit 9) Ty.str) (Ty.sl (nat_lit 78) (Ty.pair Ty.str (Ty.pair Ty.bool (Ty.sl (nat_lit 3) (Ty.int IntKind.i64)))))))) y0 (Int.toNat y2)).2.2.2) (.br (decide ((0:Int) ≤ y2 ∧ y2 < (↑(List.length y1):Int))) (.br (decide (Int.toNat y2 < List.length y1)) (.br (true) (.go ((List.set y1 (Int.toNat y2) ((at_ (Ty.pair (Ty.int IntKind.i64) (Ty.pair (Ty.int IntKind.i64) (Ty.pair (Ty.sl (nat_lit 9) Ty.str) (Ty.sl (nat_lit 78) (Ty.pair Ty.str (Ty.pair Ty.bool (Ty.sl (nat_lit 3) (Ty.int IntKind.i64)))))))) y0 (Int.toNat y2)).1,(at_ (Ty.pair (Ty.int IntKind.i64) (Ty.pair (Ty.int IntKind.i64) (Ty.pair (Ty.sl (nat_lit 9) Ty.str) (Ty.sl (nat_lit 78) (Ty.pair Ty.str (Ty.pair Ty.bool (Ty.sl (nat_lit 3) (Ty.int IntKind.i64)))))))) y0 (Int.toNat y2)).2.1,g_Vw_toStringS_0 (at_ (Ty.pair (Ty.int IntKind.i64) (Ty.pair (Ty.int IntKind.i64) (Ty.pair (Ty.sl (nat_lit 9) Ty.str) (Ty.sl (nat_lit 78) (Ty.pair Ty.str (Ty.pair Ty.bool (Ty.sl (nat_lit 3) (Ty.int IntKind.i64)))))))) y0 (Int.toNat y2)).2.2.1,g_Vw_toStoWriteS_0 (at_ (Ty.pair (Ty.int IntKind.i64) (Ty.pair (Ty.int IntKind.i64) (Ty.pair (Ty.sl (nat_lit 9) Ty.str) (Ty.sl (nat_lit 78) (Ty.pair Ty.str (Ty.pair Ty.bool (Ty.sl (nat_lit 3) (Ty.int IntKind.i64)))))))) y0 (Int.toNat y2)).2.2.2),IntKind.wrap IntKind.i64 (y2 + (1:Int))))) .bad) .bad) .bad) .bad) .bad) (.out (y1))) .bad
noncomputable def g_Lw_toLogNoteS_0 (y0:List (Int×(Int×((List ByteArray)×(List (ByteArray×(Bool×(List Int)))))))) (x:(List (Int×(Int×((List ByteArray)×(List (ByteArray×(Bool×(List Int))))))))×Int):Option (((List (Int×(Int×((List ByteArray)×(List (ByteArray×(Bool×(List Int)))))))))) := loopO (g_Sw_toLogNoteS_0 y0) x
noncomputable def xw_toLogNoteS_0 (y0:List (Int×(Int×((List ByteArray)×(List (ByteArray×(Bool×(List Int)))))))):(((List (Int×(Int×((List ByteArray)×(List (ByteArray×(Bool×(List Int)))))))))) → Ex×List (Pl×LV) := fun r => (.exit 0,[(.T 3,.t (.val false [.row 3 0 0])),(.R 3 0,.r 0 (some ⟨false,.non,true,43,(.pair (.int .i64) (.pair (.int .i64) (.pair (.sl 9 .str) (.sl 64 (.pair .str (.pair .bool (.sl 3 (.int .i64)))))))),r⟩))])
noncomputable def Ow_toLogNoteS_1:Orc := fun b h => match b,h with
 | 0,[(.T 0,.t (.val false [.sl .any 49 (.pair (.int .i64) (.pair (.int .i64) (.pair (.sl 9 .str) (.sl 78 (.pair .str (.pair .bool (.sl 3 (.int .i64)))))))) y0])),(.T 3,.t (.val false [.row 3 0 0])),(.R 3 0,.r 0 (some ⟨false,.non,true,43,(.pair (.int .i64) (.pair (.int .i64) (.pair (.sl 9 .str) (.sl 64 (.pair .str (.pair .bool (.sl 3 (.int .i64)))))))),y1⟩)),(.T 4,.t (.val false [.int .i64 y2]))] => some (okO (g_Lw_toLogNoteS_0 y0 (y1,y2)),(.leaf (.exit 0) [(.T 3,.t (.val false [.row 3 0 0])),(.R 3 0,.r 0 (some ⟨false,.non,true,43,(.pair (.int .i64) (.pair (.int .i64) (.pair (.sl 9 .str) (.sl 64 (.pair .str (.pair .bool (.sl 3 (.int .i64)))))))),(valO (g_Lw_toLogNoteS_0 y0 (y1,y2)))⟩))]))
 | b,h => Ow_toLogNoteS_0 b h
theorem bw_toLogNoteS_0 (y0:List (Int×(Int×((List ByteArray)×(List (ByteArray×(Bool×(List Int)))))))) (y1:List (Int×(Int×((List ByteArray)×(List (ByteArray×(Bool×(List Int)))))))) (y2:Int):Tr.bt Ew_toLogNoteS Ow_toLogNoteS_0 (exec Ew_toLogNoteS 0 cw_toLogNoteS_0 (St.of (hw_toLogNoteS_0 y0 y1 y2)) (leafRd Ew_toLogNoteS 0)) = (g_Sw_toLogNoteS_0 y0 (y1,y2)).bt (fun ((y1,y2):(List (Int×(Int×((List ByteArray)×(List (ByteArray×(Bool×(List Int))))))))×Int) => (hw_toLogNoteS_0 y0 y1 y2)) (xw_toLogNoteS_0 y0) := by kernel_rfl
theorem kw_toLogNoteS_1:OrcOk Ew_toLogNoteS Ow_toLogNoteS_1 lsw_toLogNoteS 1 := orc_add kw_toLogNoteS_0 (fun n p hp h ex h' ho => by
 obtain ⟨b,c⟩ := p
 obtain ⟨xt,h1,h2⟩ := ho
 have h1:Ow_toLogNoteS_1 b h = some (true,xt) := h1
 unfold Ow_toLogNoteS_1 at h1
 split at h1
 ·injection h1 with h1
  injection h1 with e1 e2
  subst e2
  have hc:c = cw_toLogNoteS_0 := mw_toLogNoteS_0 _ hp rfl
  subst hc
  right
  rename_i y0 y1 y2
  have key := LT_step kw_toLogNoteS_0 hp (fun q hq => loopsAll_in _ _ _ _ hp hq) (fun ((y1,y2):(List (Int×(Int×((List ByteArray)×(List (ByteArray×(Bool×(List Int))))))))×Int) => (hw_toLogNoteS_0 y0 y1 y2)) (xw_toLogNoteS_0 y0) (g_Sw_toLogNoteS_0 y0) (fun x => by first | exact bw_toLogNoteS_0 y0 x.1 x.2) n (x := (y1,y2)) (okO_some e1)
  have hx:∀ r,XT.sel (.leaf (.exit 0) [(.T 3,.t (.val false [.row 3 0 0])),(.R 3 0,.r 0 (some ⟨false,.non,true,43,(.pair (.int .i64) (.pair (.int .i64) (.pair (.sl 9 .str) (.sl 64 (.pair .str (.pair .bool (.sl 3 (.int .i64)))))))),r⟩))]) = xw_toLogNoteS_0 y0 r := fun r => by first | rfl | (rcases r with r | r <;> rfl) | (rcases r with r | r | r <;> rfl) | (rcases r with r | r | r | r <;> rfl)
  have h3 := (hx (valO (g_Lw_toLogNoteS_0 y0 (y1,y2)))).symm.trans h2
  have e3 := congrArg Prod.fst h3
  have e4 := congrArg Prod.snd h3
  simp only at e3 e4
  rw [← e3,← e4]
  exact key
 ·exact .inl ⟨xt,h1,h2⟩)
noncomputable def g_Aw_toLogNoteS (a0:List (Int×(Int×((List ByteArray)×(List (ByteArray×(Bool×(List Int)))))))):Bool := decide ((↑(List.length a0):Int) = (↑(List.length a0):Int) ∧ (0:Int) ≤ (↑(List.length a0):Int) ∧ (↑(List.length a0):Int) ≤ (9223372036854775807:Int) ∧ (64:Int) * (↑(List.length a0):Int) ≤ (281474976710656:Int))&&okO (g_Lw_toLogNoteS_0 a0 (List.replicate (Int.toNat (↑(List.length a0):Int)) ((0:Int),(0:Int),[],[]),(0:Int)))
noncomputable def g_Vw_toLogNoteS_0 (a0:List (Int×(Int×((List ByteArray)×(List (ByteArray×(Bool×(List Int)))))))):List (Int×(Int×((List ByteArray)×(List (ByteArray×(Bool×(List Int))))))) := valO (g_Lw_toLogNoteS_0 a0 (List.replicate (Int.toNat (↑(List.length a0):Int)) ((0:Int),(0:Int),[],[]),(0:Int)))
noncomputable def Fw_toLogNoteS:FSem := fun ys => match ys with
 | [.val false [.sl .any 49 (.pair (.int .i64) (.pair (.int .i64) (.pair (.sl 9 .str) (.sl 78 (.pair .str (.pair .bool (.sl 3 (.int .i64)))))))) a0]] => some ((g_Aw_toLogNoteS a0),.val false [.own .any true 43 (.pair (.int .i64) (.pair (.int .i64) (.pair (.sl 9 .str) (.sl 64 (.pair .str (.pair .bool (.sl 3 (.int .i64)))))))) (g_Vw_toLogNoteS_0 a0)],[])
 | _ => none
theorem vw_toLogNoteS (a0:List (Int×(Int×((List ByteArray)×(List (ByteArray×(Bool×(List Int)))))))):collapseH .std Ew_toLogNoteS Ow_toLogNoteS_1 (execFn Ew_toLogNoteS Tryd.f14 msw_toLogNoteS [.val false [.sl .any 49 (.pair (.int .i64) (.pair (.int .i64) (.pair (.sl 9 .str) (.sl 78 (.pair .str (.pair .bool (.sl 3 (.int .i64)))))))) a0]]) = some ((g_Aw_toLogNoteS a0),.val false [.own .any true 43 (.pair (.int .i64) (.pair (.int .i64) (.pair (.sl 9 .str) (.sl 64 (.pair .str (.pair .bool (.sl 3 (.int .i64)))))))) (g_Vw_toLogNoteS_0 a0)],[]) := by kernel_rfl
theorem sw_toLogNoteS:Sound Tryd.prog 14 msw_toLogNoteS Fw_toLogNoteS := by
 refine fn_gen goodw_toLogNoteS (by kernel_rfl) .std (fn := Tryd.f14) (c := (Tryd.f14.body.getD .skip)) (o := Ow_toLogNoteS_1) (k := 1) (by kernel_rfl) (by kernel_rfl) (by kernel_rfl) (by kernel_rfl) (by decide) kw_toLogNoteS_1 ?_
 intro ys r outs h
 unfold Fw_toLogNoteS at h
 split at h
 ·exact (vw_toLogNoteS _).trans h
 ·cases h
noncomputable def Ew_toLogDisk:Env where
 tt := mkTI Tryd.prog
 fn := fun f => match f with
  | 14 => some (msw_toLogNoteS,FSem.wk msw_toLogNoteS Fw_toLogNoteS)
  | _ => none
 bxf := fun _ => none
 mv := []
 keep := fun _ => []
 keepB := fun _ => []
 keepX := fun _ => []
 keepXB := fun _ => []
theorem goodFw_toLogDisk:∀ f ms F,Ew_toLogDisk.fn f = some (ms,F) → Sound Tryd.prog f ms F := fun f ms F h => by
 unfold Ew_toLogDisk at h
 dsimp only at h
 split at h
 ·injection h with h; injection h with e1 e2; subst e1 e2; exact Sound.wk sw_toLogNoteS
 ·cases h
theorem goodBw_toLogDisk:∀ f ms F,Ew_toLogDisk.bxf f = some (ms,F) → SoundB Tryd.prog f ms F := fun f ms F h => by cases h
theorem goodw_toLogDisk:Good Tryd.prog Ew_toLogDisk := ⟨rfl,goodFw_toLogDisk,goodBw_toLogDisk⟩
noncomputable def Ow_toLogDisk_0:Orc := fun _ _ => none
noncomputable def msw_toLogDisk:List PM := [.rd]
noncomputable def lsw_toLogDisk:List (Nat×Code) := loopsAll 0 (Tryd.f6.body.getD .skip)
theorem kw_toLogDisk_0:OrcOk Ew_toLogDisk Ow_toLogDisk_0 lsw_toLogDisk 0 := orcOk_none
noncomputable def g_Aw_toLogDisk (a0:List (Int×(Int×((List ByteArray)×(List (ByteArray×(Bool×(List Int)))))))) (a1:Int):Bool := g_Aw_toLogNoteS a0
noncomputable def Fw_toLogDisk:FSem := fun ys => match ys with
 | [.val true [.sl .any 49 (.pair (.int .i64) (.pair (.int .i64) (.pair (.sl 9 .str) (.sl 78 (.pair .str (.pair .bool (.sl 3 (.int .i64)))))))) a0,.int .i64 a1]] => some ((g_Aw_toLogDisk a0 a1),.val true [.own .any true 43 (.pair (.int .i64) (.pair (.int .i64) (.pair (.sl 9 .str) (.sl 64 (.pair .str (.pair .bool (.sl 3 (.int .i64)))))))) (g_Vw_toLogNoteS_0 a0),.int .i64 a1],[])
 | _ => none
theorem vw_toLogDisk (a0:List (Int×(Int×((List ByteArray)×(List (ByteArray×(Bool×(List Int)))))))) (a1:Int):collapseH .std Ew_toLogDisk Ow_toLogDisk_0 (execFn Ew_toLogDisk Tryd.f6 msw_toLogDisk [.val true [.sl .any 49 (.pair (.int .i64) (.pair (.int .i64) (.pair (.sl 9 .str) (.sl 78 (.pair .str (.pair .bool (.sl 3 (.int .i64)))))))) a0,.int .i64 a1]]) = some ((g_Aw_toLogDisk a0 a1),.val true [.own .any true 43 (.pair (.int .i64) (.pair (.int .i64) (.pair (.sl 9 .str) (.sl 64 (.pair .str (.pair .bool (.sl 3 (.int .i64)))))))) (g_Vw_toLogNoteS_0 a0),.int .i64 a1],[]) := by kernel_rfl
theorem sw_toLogDisk:Sound Tryd.prog 6 msw_toLogDisk Fw_toLogDisk := by
 refine fn_gen goodw_toLogDisk (by kernel_rfl) .std (fn := Tryd.f6) (c := (Tryd.f6.body.getD .skip)) (o := Ow_toLogDisk_0) (k := 0) (by kernel_rfl) (by kernel_rfl) (by kernel_rfl) (by kernel_rfl) (by decide) kw_toLogDisk_0 ?_
 intro ys r outs h
 unfold Fw_toLogDisk at h
 split at h
 ·exact (vw_toLogDisk _ _).trans h
 ·cases h
noncomputable def Ew_FnExactDiskFall:Env where
 tt := mkTI Tryd.prog
 fn := fun f => match f with
  | 4 => some (msw_szLogDisk,FSem.wk msw_szLogDisk Fw_szLogDisk)
  | 5 => some (mss_DiskFall,FSem.wk mss_DiskFall Fs_DiskFall)
  | 6 => some (msw_toLogDisk,FSem.wk msw_toLogDisk Fw_toLogDisk)
  | 7 => some (msi_DiskFall,FSem.wk msi_DiskFall Fi_DiskFall)
  | 8 => some (msw_eqLogDisk,FSem.wk msw_eqLogDisk Fw_eqLogDisk)
  | 9 => some (msw_markLogDisk,FSem.wk msw_markLogDisk Fw_markLogDisk)
  | 10 => some (msw_heldLogDisk,FSem.wk msw_heldLogDisk Fw_heldLogDisk)
  | _ => none
 bxf := fun _ => none
 mv := []
 keep := fun _ => []
 keepB := fun _ => []
 keepX := fun _ => []
 keepXB := fun _ => []
theorem goodFw_FnExactDiskFall:∀ f ms F,Ew_FnExactDiskFall.fn f = some (ms,F) → Sound Tryd.prog f ms F := fun f ms F h => by
 unfold Ew_FnExactDiskFall at h
 dsimp only at h
 split at h
 ·injection h with h; injection h with e1 e2; subst e1 e2; exact Sound.wk sw_szLogDisk
 ·injection h with h; injection h with e1 e2; subst e1 e2; exact Sound.wk ss_DiskFall
 ·injection h with h; injection h with e1 e2; subst e1 e2; exact Sound.wk sw_toLogDisk
 ·injection h with h; injection h with e1 e2; subst e1 e2; exact Sound.wk si_DiskFall
 ·injection h with h; injection h with e1 e2; subst e1 e2; exact Sound.wk sw_eqLogDisk
 ·injection h with h; injection h with e1 e2; subst e1 e2; exact Sound.wk sw_markLogDisk
 ·injection h with h; injection h with e1 e2; subst e1 e2; exact Sound.wk sw_heldLogDisk
 ·cases h
theorem goodBw_FnExactDiskFall:∀ f ms F,Ew_FnExactDiskFall.bxf f = some (ms,F) → SoundB Tryd.prog f ms F := fun f ms F h => by cases h
theorem goodw_FnExactDiskFall:Good Tryd.prog Ew_FnExactDiskFall := ⟨rfl,goodFw_FnExactDiskFall,goodBw_FnExactDiskFall⟩
noncomputable def Ow_FnExactDiskFall_0:Orc := fun _ _ => none
noncomputable def msw_FnExactDiskFall:List PM := [.rd,.own]
noncomputable def lsw_FnExactDiskFall:List (Nat×Code) := loopsAll 0 (Tryd.f3.body.getD .skip)
theorem kw_FnExactDiskFall_0:OrcOk Ew_FnExactDiskFall Ow_FnExactDiskFall_0 lsw_FnExactDiskFall 0 := orcOk_none
noncomputable def g_Aw_FnExactDiskFall (a0:List (Int×(Int×((List ByteArray)×(List (ByteArray×(Bool×(List Int)))))))) (a1:Int) (a2:Int):Bool := g_Aw_szLogDisk a0 a1 (1048576:Int)&&(decide (g_Vw_szLogDisk_0 a0 a1 (1048576:Int) < (0:Int)) || g_Aw_toLogDisk a0 a1&&(g_As_DiskFall (g_Vw_toLogNoteS_0 a0) a1 a2&&(g_Aw_toLogDisk a0 a1&&(g_Ai_DiskFall (g_Vw_toLogNoteS_0 a0) a1 a2&&(g_Aw_eqLogDisk (g_Vi_DiskFall_0 (g_Vw_toLogNoteS_0 a0) a1 a2) (g_Vi_DiskFall_1 (g_Vw_toLogNoteS_0 a0) a1 a2) (g_Vs_DiskFall_0 (g_Vw_toLogNoteS_0 a0) a1 a2) (g_Vs_DiskFall_1 (g_Vw_toLogNoteS_0 a0) a1 a2)&&(!g_Vw_eqLogDisk_0 (g_Vi_DiskFall_0 (g_Vw_toLogNoteS_0 a0) a1 a2) (g_Vi_DiskFall_1 (g_Vw_toLogNoteS_0 a0) a1 a2) (g_Vs_DiskFall_0 (g_Vw_toLogNoteS_0 a0) a1 a2) (g_Vs_DiskFall_1 (g_Vw_toLogNoteS_0 a0) a1 a2) || g_Aw_toLogDisk a0 a1&&(g_Aw_eqLogDisk (g_Vw_toLogNoteS_0 a0) a1 (g_Vw_toLogNoteS_0 a0) a1&&(!g_Vw_eqLogDisk_0 (g_Vw_toLogNoteS_0 a0) a1 (g_Vw_toLogNoteS_0 a0) a1 || g_Aw_markLogDisk (g_Vw_toLogNoteS_0 a0) a1 (1:Int)&&(decide (g_Vw_markLogNoteS_0 (g_Vw_toLogNoteS_0 a0) (1:Int) < (0:Int)) || g_Aw_eqLogDisk (g_Vi_DiskFall_0 (g_Vw_toLogNoteS_0 a0) a1 a2) (g_Vi_DiskFall_1 (g_Vw_toLogNoteS_0 a0) a1 a2) (g_Vs_DiskFall_0 (g_Vw_toLogNoteS_0 a0) a1 a2) (g_Vs_DiskFall_1 (g_Vw_toLogNoteS_0 a0) a1 a2)&&(!g_Vw_eqLogDisk_0 (g_Vi_DiskFall_0 (g_Vw_toLogNoteS_0 a0) a1 a2) (g_Vi_DiskFall_1 (g_Vw_toLogNoteS_0 a0) a1 a2) (g_Vs_DiskFall_0 (g_Vw_toLogNoteS_0 a0) a1 a2) (g_Vs_DiskFall_1 (g_Vw_toLogNoteS_0 a0) a1 a2) || g_Aw_markLogDisk (g_Vi_DiskFall_0 (g_Vw_toLogNoteS_0 a0) a1 a2) (g_Vi_DiskFall_1 (g_Vw_toLogNoteS_0 a0) a1 a2) (1:Int)&&(g_Aw_heldLogDisk (g_Vw_markLogNoteS_1 (g_Vi_DiskFall_0 (g_Vw_toLogNoteS_0 a0) a1 a2) (1:Int)) (g_Vi_DiskFall_1 (g_Vw_toLogNoteS_0 a0) a1 a2) (1:Int)&&(decide (g_Vw_heldLogDisk_0 (g_Vw_markLogNoteS_1 (g_Vi_DiskFall_0 (g_Vw_toLogNoteS_0 a0) a1 a2) (1:Int)) (g_Vi_DiskFall_1 (g_Vw_toLogNoteS_0 a0) a1 a2) (1:Int) < (0:Int)) || (g_Vw_heldLogDisk_0 (g_Vw_markLogNoteS_1 (g_Vi_DiskFall_0 (g_Vw_toLogNoteS_0 a0) a1 a2) (1:Int)) (g_Vi_DiskFall_1 (g_Vw_toLogNoteS_0 a0) a1 a2) (1:Int) != g_Vw_markLogNoteS_0 (g_Vi_DiskFall_0 (g_Vw_toLogNoteS_0 a0) a1 a2) (1:Int) || g_Aw_toLogDisk a0 a1&&(g_Ai_DiskFall (g_Vw_toLogNoteS_0 a0) a1 a2&&(g_Aw_eqLogDisk (g_Vi_DiskFall_0 (g_Vw_toLogNoteS_0 a0) a1 a2) (g_Vi_DiskFall_1 (g_Vw_toLogNoteS_0 a0) a1 a2) (g_Vs_DiskFall_0 (g_Vw_toLogNoteS_0 a0) a1 a2) (g_Vs_DiskFall_1 (g_Vw_toLogNoteS_0 a0) a1 a2)&&(!g_Vw_eqLogDisk_0 (g_Vi_DiskFall_0 (g_Vw_toLogNoteS_0 a0) a1 a2) (g_Vi_DiskFall_1 (g_Vw_toLogNoteS_0 a0) a1 a2) (g_Vs_DiskFall_0 (g_Vw_toLogNoteS_0 a0) a1 a2) (g_Vs_DiskFall_1 (g_Vw_toLogNoteS_0 a0) a1 a2) || g_Aw_heldLogDisk (g_Vw_markLogNoteS_1 (g_Vi_DiskFall_0 (g_Vw_toLogNoteS_0 a0) a1 a2) (1:Int)) (g_Vi_DiskFall_1 (g_Vw_toLogNoteS_0 a0) a1 a2) (1:Int)&&(decide (g_Vw_heldLogDisk_0 (g_Vw_markLogNoteS_1 (g_Vi_DiskFall_0 (g_Vw_toLogNoteS_0 a0) a1 a2) (1:Int)) (g_Vi_DiskFall_1 (g_Vw_toLogNoteS_0 a0) a1 a2) (1:Int) < (0:Int)) || true)))))))))))))))))
noncomputable def g_Vw_FnExactDiskFall_0 (a0:List (Int×(Int×((List ByteArray)×(List (ByteArray×(Bool×(List Int)))))))) (a1:Int) (a2:Int):Bool := bif decide (g_Vw_szLogDisk_0 a0 a1 (1048576:Int) < (0:Int)) then true else bif !g_Vw_eqLogDisk_0 (g_Vi_DiskFall_0 (g_Vw_toLogNoteS_0 a0) a1 a2) (g_Vi_DiskFall_1 (g_Vw_toLogNoteS_0 a0) a1 a2) (g_Vs_DiskFall_0 (g_Vw_toLogNoteS_0 a0) a1 a2) (g_Vs_DiskFall_1 (g_Vw_toLogNoteS_0 a0) a1 a2) then false else bif !g_Vw_eqLogDisk_0 (g_Vw_toLogNoteS_0 a0) a1 (g_Vw_toLogNoteS_0 a0) a1 then false else bif decide (g_Vw_markLogNoteS_0 (g_Vw_toLogNoteS_0 a0) (1:Int) < (0:Int)) then false else bif !g_Vw_eqLogDisk_0 (g_Vi_DiskFall_0 (g_Vw_toLogNoteS_0 a0) a1 a2) (g_Vi_DiskFall_1 (g_Vw_toLogNoteS_0 a0) a1 a2) (g_Vs_DiskFall_0 (g_Vw_toLogNoteS_0 a0) a1 a2) (g_Vs_DiskFall_1 (g_Vw_toLogNoteS_0 a0) a1 a2) then false else bif decide (g_Vw_heldLogDisk_0 (g_Vw_markLogNoteS_1 (g_Vi_DiskFall_0 (g_Vw_toLogNoteS_0 a0) a1 a2) (1:Int)) (g_Vi_DiskFall_1 (g_Vw_toLogNoteS_0 a0) a1 a2) (1:Int) < (0:Int)) then false else bif g_Vw_heldLogDisk_0 (g_Vw_markLogNoteS_1 (g_Vi_DiskFall_0 (g_Vw_toLogNoteS_0 a0) a1 a2) (1:Int)) (g_Vi_DiskFall_1 (g_Vw_toLogNoteS_0 a0) a1 a2) (1:Int) != g_Vw_markLogNoteS_0 (g_Vi_DiskFall_0 (g_Vw_toLogNoteS_0 a0) a1 a2) (1:Int) then false else bif !g_Vw_eqLogDisk_0 (g_Vi_DiskFall_0 (g_Vw_toLogNoteS_0 a0) a1 a2) (g_Vi_DiskFall_1 (g_Vw_toLogNoteS_0 a0) a1 a2) (g_Vs_DiskFall_0 (g_Vw_toLogNoteS_0 a0) a1 a2) (g_Vs_DiskFall_1 (g_Vw_toLogNoteS_0 a0) a1 a2) then false else bif decide (g_Vw_heldLogDisk_0 (g_Vw_markLogNoteS_1 (g_Vi_DiskFall_0 (g_Vw_toLogNoteS_0 a0) a1 a2) (1:Int)) (g_Vi_DiskFall_1 (g_Vw_toLogNoteS_0 a0) a1 a2) (1:Int) < (0:Int)) then false else bif g_Vw_heldLogDisk_0 (g_Vw_markLogNoteS_1 (g_Vi_DiskFall_0 (g_Vw_toLogNoteS_0 a0) a1 a2) (1:Int)) (g_Vi_DiskFall_1 (g_Vw_toLogNoteS_0 a0) a1 a2) (1:Int) != g_Vw_markLogNoteS_0 (g_Vi_DiskFall_0 (g_Vw_toLogNoteS_0 a0) a1 a2) (1:Int) then false else true
noncomputable def Fw_FnExactDiskFall:FSem := fun ys => match ys with
 | [.val true [.sl .any 49 (.pair (.int .i64) (.pair (.int .i64) (.pair (.sl 9 .str) (.sl 78 (.pair .str (.pair .bool (.sl 3 (.int .i64)))))))) a0,.int .i64 a1],.val false [.int .i64 a2]] => some ((g_Aw_FnExactDiskFall a0 a1 a2),.val false [.bool (g_Vw_FnExactDiskFall_0 a0 a1 a2)],[])
 | _ => none
theorem vw_FnExactDiskFall (a0:List (Int×(Int×((List ByteArray)×(List (ByteArray×(Bool×(List Int)))))))) (a1:Int) (a2:Int):collapseH .std Ew_FnExactDiskFall Ow_FnExactDiskFall_0 (execFn Ew_FnExactDiskFall Tryd.f3 msw_FnExactDiskFall [.val true [.sl .any 49 (.pair (.int .i64) (.pair (.int .i64) (.pair (.sl 9 .str) (.sl 78 (.pair .str (.pair .bool (.sl 3 (.int .i64)))))))) a0,.int .i64 a1],.val false [.int .i64 a2]]) = some ((g_Aw_FnExactDiskFall a0 a1 a2),.val false [.bool (g_Vw_FnExactDiskFall_0 a0 a1 a2)],[]) := by kernel_rfl
theorem sw_FnExactDiskFall:Sound Tryd.prog 3 msw_FnExactDiskFall Fw_FnExactDiskFall := by
 refine fn_gen goodw_FnExactDiskFall (by kernel_rfl) .std (fn := Tryd.f3) (c := (Tryd.f3.body.getD .skip)) (o := Ow_FnExactDiskFall_0) (k := 0) (by kernel_rfl) (by kernel_rfl) (by kernel_rfl) (by kernel_rfl) (by decide) kw_FnExactDiskFall_0 ?_
 intro ys r outs h
 unfold Fw_FnExactDiskFall at h
 split at h
 ·exact (vw_FnExactDiskFall _ _ _).trans h
 ·cases h
end Go.Proofs.YtcceeikolcdodaaDoor.E
