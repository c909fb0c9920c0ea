/- The row of laws.FnExactStoOk, laid by wip/rows.py (this repo's program): what came in is opened, the function's contract taken, what it read handed back. -/
import Derived.Test.YtopoiinmhajhmaaDoorRows
import Derived.Test.YtopoiinmhajhmaaDoorD
import Derived.Test.YtopoiinmhajhmaaDoorTie
import Derived.Test.YtopoiinmhajhmaaDoorCards
import Derived.SevenTiedAt
import Derived.Test.YtopoiinmhajhmaaDoorWWords
import Derived.Test.YtopoiinmhajhmaaDoorXxf8
import Derived.Test.YtopoiinmhajhmaaDoorPureFnExactStoOk
import Derived.ChangeArms
import Derived.ChangeSame
import Derived.DataReads
import Derived.DataElems
import Derived.WideShapes
import Derived.WalkKit
import Derived.ProofKit
import Derived.OpenShut
import Derived.ShutString
import Derived.ChangeOld
import Derived.Below
import Derived.SizedLaws
import Derived.Carry
namespace Go.Proofs.YtopoiinmhajhmaaDoor.H
open Go Go.Proofs.YtopoiinmhajhmaaDoorW.PrintWords
/-! What came in, told as the kinds tell it: an argument's reading opened, type by type. -/
structure Opens {α : Type} (P : Program) (t : TypeId) (d : Kd α) (ok : α → Prop) : Prop where
  read : ∀ {H : Type} (enc : TypeId × Value → H) (w : World) (base : Nat) (sp : Nat → Bool) (held : Bool) (fuel : Nat) (cs : List Value) (x : DataW H × List MemPlace),
    DataW.trod enc P w base sp held fuel t cs = some x → ∃ a, d.K w a cs ∧ ok a
section
variable {P : Program} {t : TypeId} {α β : Type} {d : Kd α} {ok : α → Prop}
theorem opens_int {k : IntKind} (ht : P.underlying t = some (.int k)) : Opens P t (Kd.int k) (fun n => (Lit.int k n).wf = true) := by
  constructor
  intro H enc w base sp held fuel cs x h
  obtain ⟨n, rfl, _, hw⟩ := DataW.trod_int ht h
  exact ⟨n, rfl, hw⟩
theorem opens_bool (ht : P.underlying t = some .bool) : Opens P t Kd.bool (fun _ => True) := by
  constructor
  intro H enc w base sp held fuel cs x h
  obtain ⟨n, rfl, _⟩ := DataW.trod_bool ht h
  exact ⟨n, rfl, trivial⟩
theorem opens_string (ht : P.underlying t = some .string) : Opens P t Kd.string (fun s => s.size ≤ maxLen) := by
  constructor
  intro H enc w base sp held fuel cs x h
  obtain ⟨n, rfl, _, hw⟩ := DataW.trod_string ht h
  exact ⟨n, rfl, hw⟩
theorem list_of (Q : Nat → α → Prop) : ∀ n : Nat, (∀ i, i < n → ∃ a, Q i a) → ∃ xs : List α, xs.length = n ∧ ∀ (i : Nat) (a : α), xs[i]? = some a → Q i a
  | 0, _ => ⟨[], rfl, fun i a h => by simp at h⟩
  | n + 1, h => by
    obtain ⟨xs, hl, hx⟩ := list_of Q n (fun i hi => h i (by omega))
    obtain ⟨a, ha⟩ := h n (by omega)
    refine ⟨xs ++ [a], by simp [hl], fun i b hb => ?_⟩
    by_cases hi : i < n
    · rw [List.getElem?_append_left (by omega)] at hb
      exact hx i b hb
    · rw [List.getElem?_append_right (by omega), hl] at hb
      by_cases e : i = n
      · subst e
        simp at hb
        subst hb
        exact ha
      · have : i - n ≠ 0 := by omega
        rw [List.getElem?_eq_none (by simp; omega)] at hb
        cases hb
theorem opens_slice {e : TypeId} (ht : P.underlying t = some (.slice e)) (hc : P.cellsOf e = d.sz) (he : Opens P e d ok) : Opens P t (Kd.slice e d) (fun l => l.length ≤ maxLen ∧ ∀ a ∈ l, ok a) := by
  constructor
  intro H enc w base sp held fuel cs x h
  rcases DataW.trod_slice ht h with ⟨rfl, rfl⟩ | ⟨a, len, cap, elems, rest, n, _, rfl, _, hb, hl, hm, hel, hget, _⟩
  · exact ⟨[], ⟨none, 0, rfl, Nat.le_refl _, rfl, by simp, fun h => absurd h (Nat.lt_irrefl _)⟩, by simp, fun a ha => by cases ha⟩
  · obtain ⟨xs, hxl, hx⟩ := list_of (fun i a' => ok a' ∧ ∃ c, c.length = d.sz ∧ d.K w a' c ∧ ∀ j u, c[j]? = some u → w.cell? (a.add (i * d.sz + j)) = some u) len (fun i hi => by
      have hg := hget i hi
      rw [List.getElem?_eq_getElem (by omega), Option.bind_eq_some_iff] at hg
      obtain ⟨c, hcells, hy⟩ := hg
      obtain ⟨_, hcl, hcell⟩ := World.cells?_some hcells
      obtain ⟨a', hK, hok⟩ := he.read enc w base sp held n c _ hy
      refine ⟨a', hok, c, by rw [hcl, hc], hK, fun j u hu => ?_⟩
      have hj : j < P.cellsOf e := by rw [← hcl]; exact (List.getElem?_eq_some_iff.1 hu).1
      have := hcell j hj
      rw [hu, hc, Addr.add_add] at this
      exact this)
    subst hxl
    refine ⟨xs, ⟨some a, cap, rfl, hl, rfl, ?_, fun _ => ⟨a, rfl, fun j p hp => (hx j p hp).2⟩⟩, by omega, fun a' ha => ?_⟩
    · have : maxLen ≤ 9223372036854775807 := by decide
      omega
    · obtain ⟨j, hj, rfl⟩ := List.getElem_of_mem ha
      exact (hx j _ (List.getElem?_eq_getElem hj)).1
/-- The fields of a struct from one on. -/
structure OpensAt {α : Type} (P : Program) (off : Nat) (fs : List Field) (d : Kd α) (ok : α → Prop) : Prop where
  read : ∀ {H : Type} (enc : TypeId × Value → H) (w : World) (base : Nat) (sp : Nat → Bool) (held : Bool) (n : Nat) (cs : List Value), cs.length = off + d.sz →
    (∀ f ∈ fs, ∃ y, DataW.trod enc P w base sp held n f.type ((cs.drop f.offset).take (P.cellsOf f.type)) = some y) → ∃ a, d.K w a (cs.drop off) ∧ ok a
theorem opensAt_one {off : Nat} {f : Field} (ho : f.offset = off) (hc : P.cellsOf f.type = d.sz) (h : Opens P f.type d ok) : OpensAt P off [f] d ok := by
  constructor
  intro H enc w base sp held n cs hl hf
  obtain ⟨y, hy⟩ := hf f (by simp)
  rw [ho, hc, List.take_of_length_le (by simp; omega)] at hy
  exact h.read enc w base sp held n _ _ hy
theorem opensAt_cons {off : Nat} {f : Field} {fs : List Field} {d2 : Kd β} {ok2 : β → Prop} (ho : f.offset = off) (hc : P.cellsOf f.type = d.sz) (h : Opens P f.type d ok) (h2 : OpensAt P (off + d.sz) fs d2 ok2) :
    OpensAt P off (f :: fs) (Kd.pair d d2) (fun x => ok x.1 ∧ ok2 x.2) := by
  constructor
  intro H enc w base sp held n cs hl hf
  have hl' : cs.length = off + (d.sz + d2.sz) := hl
  obtain ⟨y, hy⟩ := hf f (by simp)
  rw [ho, hc] at hy
  obtain ⟨a, hK, hok⟩ := h.read enc w base sp held n _ _ hy
  obtain ⟨b, hK2, hok2⟩ := h2.read enc w base sp held n cs (by omega) (fun f' hf' => hf f' (by simp [hf']))
  refine ⟨(a, b), ⟨(cs.drop off).take d.sz, cs.drop (off + d.sz), ?_, hK, hK2⟩, hok, hok2⟩
  rw [← List.drop_drop, List.take_append_drop]
theorem opens_struct {fs : Array Field} (ht : P.underlying t = some (.struct fs)) (hc : P.cellsOf t = d.sz) (h : OpensAt P 0 fs.toList d ok) : Opens P t d ok := by
  constructor
  intro H enc w base sp held fuel cs x hx
  obtain ⟨xs, n, _, _, hl, hxl, hf⟩ := DataW.trod_struct ht hx
  have := h.read enc w base sp held n cs (by omega) (fun f hf' => by
    obtain ⟨i, hi, rfl⟩ := List.getElem_of_mem hf'
    have hi' : i < fs.size := by simpa using hi
    refine ⟨xs[i]'(by omega), ?_⟩
    rw [← List.getElem?_eq_getElem]
    refine hf i _ ?_
    simp [hi'])
  simpa using this
theorem opens_iso {f : β → α} {g : α → β} (hfg : ∀ a, f (g a) = a) (h : Opens P t d ok) : Opens P t (Kd.iso d f) (fun b => ok (f b)) := by
  constructor
  intro H enc w base sp held fuel cs x hx
  obtain ⟨a, hK, hok⟩ := h.read enc w base sp held fuel cs x hx
  exact ⟨g a, by show d.K w (f (g a)) cs; rw [hfg]; exact hK, by show ok (f (g a)); rw [hfg]; exact hok⟩
end
end Go.Proofs.YtopoiinmhajhmaaDoor.H
namespace Go.Proofs.YtopoiinmhajhmaaDoor.fnExactStoOk
open Go.ChangeShapes Go.WideShapes Go.ChangeAt Go.RowKit
open Go.ChangeMaps (open_string shut_string)
open Go.Proofs.YtopoiinmhajhmaaDoor.D (own laidOut IsRow laidWorld)
open Go.Proofs.YtopoiinmhajhmaaDoorW
open Go.Proofs.YtopoiinmhajhmaaDoor.H Go.Proofs.YtopoiinmhajhmaaDoor.X Go.Proofs.YtopoiinmhajhmaaDoorW.PrintWords
set_option linter.unusedVariables false
theorem opens124 : Opens Tryd.prog 124 k124 (Pure.ok124) :=
  opens_iso (f := fun x : S124 => (x.f0, x.f1)) (g := fun p => ⟨p.1, p.2⟩) (fun _ => rfl) (opens_struct (by first | exact Tryd.underlying124 | kernel_rfl) (by kernel_rfl) (opensAt_cons rfl (by kernel_rfl) (opens_string (by first | exact Tryd.underlying9 | kernel_rfl)) (opensAt_one rfl (by kernel_rfl) (opens_slice (by first | exact Tryd.underlying27 | kernel_rfl) (by kernel_rfl) (opens_int (by first | exact Tryd.underlying3 | kernel_rfl))))))
set_option maxHeartbeats 4000000 in
set_option maxRecDepth 100000 in
theorem lifted (os : Os) (started : os.Started) (H : Type) (enc : TypeId × Value → H) :
    ReturnsInHanded {} Tryd.checked os 8 .any (fun w args => (Rows.fnExactStoOkSpec.pre enc Tryd.prog Tryd.f8 Rows.fnExactStoOkRow.domain false w args ∧ laidMetH Tryd.prog Rows.fnExactStoOkRow.laid w) ∧ sizedMet enc Tryd.prog Tryd.f8 (OpenSpec.ofChange Rows.fnExactStoOkSpec) false w args) (Rows.fnExactStoOkSpec.post enc Tryd.prog Tryd.f8 false true false false) := by
  refine returnsInHanded_of_change_and (C := Tryd.checked) (X := fun w _ => laidMetH Tryd.prog Rows.fnExactStoOkRow.laid w) (fun _ _ _ hh h => h.of_heap hh) own started (by kernel_rfl) Tryd.func8
    (ChangeSpec.witness_at (enc := enc) (C := Tryd.checked) (os := os) (X := fun w _ => laidMetH Tryd.prog Rows.fnExactStoOkRow.laid w) false (laidWorld os) #[.agg #[.slice none 0 0]] 8 rfl (by kernel_rfl) (by kernel_rfl) (by kernel_rfl) (by kernel_rfl) (by kernel_rfl) (laidMetH_of_parts (laidMet_of_run' 8 (by kernel_rfl) (by kernel_rfl)) (by kernel_rfl))) ?_
  intro W base args ds gs before hval0 hW hcnd hsz0 _ _
  have hval : ∀ (j : Nat) t v, Tryd.f8.params[j]? = some t → args[j]? = some v → Value.okWide Tryd.prog W .any base t v := hval0
  have hW' := hW
  obtain ⟨p, q, hA0, hV, rfl, hfz, hnd⟩ := hW
  have hA : DataW.TrodAll enc Tryd.prog W 0 (fun _ => true) true Tryd.f8.params.toList args.toList ds p := hA0
  rw [Tryd.params8] at hA hval
  obtain ⟨v0, vs0, d0, ds0, p0, q0, hargs, rfl, rfl, h0, r0⟩ := trodAll_cons hA
  obtain ⟨rfl, rfl, rfl⟩ := trodAll_nil r0
  obtain rfl : args = #[v0] := by cases args; simp_all
  obtain ⟨rfl, rfl⟩ := trodVars_none hV
  have k0 := h0
  have lt0 : ∀ x ∈ p0, x.block < W.heap.size := by obtain ⟨m, hm⟩ := k0; exact DataW.trod_lt m _ _ _ hm
  obtain ⟨cs0, rfl, _⟩ := okWide_struct (by first | exact Tryd.underlying47 | kernel_rfl) (hval 0 47 v0 rfl rfl)
  obtain ⟨fuel0, hf0⟩ := h0
  obtain ⟨x0_0, K0, ok0⟩ := (opens_struct (by first | exact Tryd.underlying47 | kernel_rfl) (by kernel_rfl) (opensAt_one rfl (by kernel_rfl) (opens_slice (by first | exact Tryd.underlying45 | kernel_rfl) (by kernel_rfl) opens124))).read enc W 0 _ true _ _ _ hf0
  replace K0 : Kd.K (Kd.slice 124 k124) W x0_0 cs0.toList := K0
  generalize hcs0 : cs0.toList = l0 at K0
  obtain ⟨A0_0, c0_0, rfl, l0_0, g0_0⟩ := K0
  obtain rfl : cs0 = #[.slice A0_0 x0_0.length c0_0] := by apply Array.toList_inj.1; exact hcs0
  clear hcs0
  clear hA0 hval0 hsz0
  obtain ⟨k, hpure⟩ := Pure.FnExactStoOk x0_0 ok0
  refine (X.laws_FnExactStoOk.calls k A0_0 c0_0 x0_0 true W g0_0 l0_0 hpure).mono fun e W' ⟨he, bel0⟩ => ?_
  have bel : Below W.heap.size W W' := by first | exact bel0 | exact bel0.below
  subst he
  exact ⟨_, rfl, _, _, _, [], _, [], hW', trodAll_mk1 (shut_bool Tryd.underlying4 _), (trodAll_cons_mk (Below.trod laidOut (by kernel_rfl) (of_decide_eq_true (by kernel_rfl)) k0 bel lt0) trodAll_mk0), rfl, bel.frame _, fun h => by cases h⟩
theorem over : Rows.fnExactStoOkRow.holds Tryd.pinned (OpenSpec.ofChange Rows.fnExactStoOkSpec) :=
  OpenClaim.holds_of_wide 8 Tryd.f8 rfl rfl rfl rfl rfl rfl rfl ⟨rfl, rfl, rfl, rfl, rfl⟩ rfl rfl rfl rfl rfl (by kernel_rfl) Tryd.func8 (by kernel_rfl)
    (of_decide_eq_true (by kernel_rfl)) (by unfold Func.isWrapper; first | (rw [if_pos (by decide +kernel)]; kernel_rfl) | (rw [if_neg (by decide +kernel)]; exact ⟨rfl, rfl⟩))
    (fun os started H enc _ => lifted os started H enc)
theorem card : Rows.FnExactStoOkCardSaid :=
  Claim7.holds_tied_plain_at .later [] [.data, .pinned] true _ false
    over (fun _ h => by cases h) (by kernel_rfl) (fun _ h => by cases h) fnExactStoOk_row_tie rfl ⟨rfl, rfl⟩ (by kernel_rfl) rfl
    (fun f fn hf hfn => by
      obtain rfl : f = 8 := (Option.some.inj ((show Tryd.prog.funcNamed Rows.fnExactStoOkRow.func = some 8 by kernel_rfl).symm.trans hf)).symm
      obtain rfl : fn = Tryd.f8 := (Option.some.inj (Tryd.func8.symm.trans hfn)).symm
      exact ⟨by kernel_rfl, fun j t ht => by
        have hall : (Tryd.f8.params.toList.all fun t => !Tryd.prog.wantsStandIn t) = true := by kernel_rfl
        have := List.all_eq_true.1 hall t (Array.mem_toList_iff.2 (Array.mem_of_getElem? ht))
        exact (by simpa using this : Tryd.prog.wantsStandIn t = false)⟩)
    (by kernel_rfl)
#print axioms card
end Go.Proofs.YtopoiinmhajhmaaDoor.fnExactStoOk
namespace Go.Proofs.YtopoiinmhajhmaaDoor
/-- The row, under a short name, for the claim. -/
theorem fnExactStoOk_holds : Rows.FnExactStoOkCardSaid := fnExactStoOk.card
end Go.Proofs.YtopoiinmhajhmaaDoor
