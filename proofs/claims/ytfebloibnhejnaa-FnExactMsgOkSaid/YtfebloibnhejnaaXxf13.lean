-- Written by wip/xprint.py (this repo's program) over the kit's print; functions named in wip/hand are proved by hand.
import Derived.Test.YtfebloibnhejnaaXx0
import Derived.Test.YtfebloibnhejnaaXxf28
import Derived.Test.YtfebloibnhejnaaXxf29
import Derived.Test.YtfebloibnhejnaaXxf30
namespace Go.Proofs.Ytfebloibnhejnaa.X
open Go.RowKit Go.Proofs.Ytfebloibnhejnaa.H Go.Proofs.YtfebloibnhejnaaW.PrintWords Go.Proofs.YtfebloibnhejnaaW.PrintLast Go.Proofs.YtfebloibnhejnaaW.PrintMore
attribute [local go_sem] max2_int min2_int max_two min_two max_three min_three max_four min_four   -- for this text's walks alone
set_option linter.unusedVariables false
set_option linter.unusedSimpArgs false

/-! ### impl_OpOk: function 13 -/
def nOk (n : Int) : Bool := decide (0 ≤ n) && decide (n ≤ 9)
def sOk (n : Int) : Bool := decide (0 ≤ n) && decide (n ≤ 99)
/-- What is done has just its numbers: of kind k, the numbers that it may not have are nought. -/
def opKind (k a b c s f g : Int) : Bool :=
  if (k == 1 || k == 5) = true then (c == 0 && s == 0 && f == 0 && g == 0)
  else if (k == 2) = true then (f == 0 && g == 0)
  else if (k == 3) = true then (a == 0 && b == 0 && g == 0)
  else if (k == 4) = true then (a == 0 && b == 0 && c == 0 && s == 0) else false
def opOk (k a b c s f g : Int) : Bool := nOk a && nOk b && nOk c && nOk f && sOk s && sOk g && opKind k a b c s f g
def impl_OpOk.f (k a b c s f g : Int) : Option Bool := some (opOk k a b c s f g)
theorem in_f (x a b : Int) : impl_in.f x a b = some (decide (a ≤ x) && decide (x ≤ b)) := by
  unfold impl_in.f
  by_cases e : a ≤ x
  · rw [if_pos e]; simp [e]
  · rw [if_neg e]; simp [e]
theorem OpOk_1_f (x : Int) : impl_OpOk_1.f x = some (nOk x) := by unfold impl_OpOk_1.f nOk; rw [in_f]; rfl
theorem OpOk_2_f (x : Int) : impl_OpOk_2.f x = some (sOk x) := by unfold impl_OpOk_2.f sOk; rw [in_f]; rfl
set_option maxHeartbeats 1000000 in
theorem OpOk_kinds (k a b c s f g : Int) (w : World) (hk : opOk k a b c s f g = opKind k a b c s f g) (H0 : Aside0 (impl_OpOk_1.f a = some true)) (H1 : Aside0 (impl_OpOk_1.f b = some true)) (H2 : Aside0 (impl_OpOk_1.f c = some true)) (H3 : Aside0 (impl_OpOk_1.f f = some true)) (H4 : Aside0 (impl_OpOk_2.f s = some true)) (H5 : Aside0 (impl_OpOk_2.f g = some true)) :
    Calls Try.prog 13 #[.agg #[.int .i64 k, .int .i64 a, .int .i64 b, .int .i64 c, .int .i64 s, .int .i64 f, .int .i64 g]] w fun e w' => e = .returned (.bool (opOk k a b c s f g)) ∧ Below w.heap.size w w' := by
  have hv := Aside0.mk hk
  clear hk
  go_enter Try.func13, Try.ntmps13
  go_wp2_with (first | (go_at_call 29; refine (impl_OpOk_1.calls a true _ (by with_reducible exact H0.out)).mono ?_; rintro e w' ⟨rfl, ⟨nd, rfl⟩⟩) | (go_at_call 29; refine (impl_OpOk_1.calls b true _ (by with_reducible exact H1.out)).mono ?_; rintro e w' ⟨rfl, ⟨nd, rfl⟩⟩) | (go_at_call 29; refine (impl_OpOk_1.calls c true _ (by with_reducible exact H2.out)).mono ?_; rintro e w' ⟨rfl, ⟨nd, rfl⟩⟩) | (go_at_call 29; refine (impl_OpOk_1.calls f true _ (by with_reducible exact H3.out)).mono ?_; rintro e w' ⟨rfl, ⟨nd, rfl⟩⟩) | (go_at_call 30; refine (impl_OpOk_2.calls s true _ (by with_reducible exact H4.out)).mono ?_; rintro e w' ⟨rfl, ⟨nd, rfl⟩⟩) | (go_at_call 30; refine (impl_OpOk_2.calls g true _ (by with_reducible exact H5.out)).mono ?_; rintro e w' ⟨rfl, ⟨nd, rfl⟩⟩))
  all_goals
    go_ret
    refine ⟨?_, by repeat (first | exact Below.refl _ _ | apply below_alloc | apply pw_below_drewN | apply below_drew1)⟩
    rw [hv.out]
    refine congrArg (fun x => Ending.returned (Value.bool x)) ?_
    unfold opKind
    simp [*]
set_option maxHeartbeats 1000000 in
theorem impl_OpOk.calls (k a b c s f g : Int) (r : Bool) (w : World) (h : impl_OpOk.f k a b c s f g = some r) :
    Calls Try.prog 13 #[.agg #[.int .i64 k, .int .i64 a, .int .i64 b, .int .i64 c, .int .i64 s, .int .i64 f, .int .i64 g]] w fun e w' => e = .returned (.bool r) ∧ Below w.heap.size w w' := by
  obtain rfl := Option.some.inj h
  clear h
  by_cases h0 : nOk a = true
  case neg =>
    rw [Bool.not_eq_true] at h0
    have hv := Aside0.mk (show opOk k a b c s f g = false by unfold opOk; simp [h0])
    have H0 := Aside0.mk (show impl_OpOk_1.f a = some false by rw [OpOk_1_f, h0])
    clear h0
    go_enter Try.func13, Try.ntmps13
    go_wp2_with (first | (go_at_call 29; refine (impl_OpOk_1.calls a false _ (by with_reducible exact H0.out)).mono ?_; rintro e w' ⟨rfl, ⟨nd, rfl⟩⟩))
    go_ret
    exact ⟨by rw [hv.out]; rfl, by repeat (first | exact Below.refl _ _ | apply below_alloc | apply pw_below_drewN | apply below_drew1)⟩
  have H0 := Aside0.mk (show impl_OpOk_1.f a = some true by rw [OpOk_1_f, h0])
  by_cases h1 : nOk b = true
  case neg =>
    rw [Bool.not_eq_true] at h1
    have hv := Aside0.mk (show opOk k a b c s f g = false by unfold opOk; simp [h1])
    have H1 := Aside0.mk (show impl_OpOk_1.f b = some false by rw [OpOk_1_f, h1])
    clear h1
    go_enter Try.func13, Try.ntmps13
    go_wp2_with (first | (go_at_call 29; refine (impl_OpOk_1.calls a true _ (by with_reducible exact H0.out)).mono ?_; rintro e w' ⟨rfl, ⟨nd, rfl⟩⟩) | (go_at_call 29; refine (impl_OpOk_1.calls b false _ (by with_reducible exact H1.out)).mono ?_; rintro e w' ⟨rfl, ⟨nd, rfl⟩⟩))
    go_ret
    exact ⟨by rw [hv.out]; rfl, by repeat (first | exact Below.refl _ _ | apply below_alloc | apply pw_below_drewN | apply below_drew1)⟩
  have H1 := Aside0.mk (show impl_OpOk_1.f b = some true by rw [OpOk_1_f, h1])
  by_cases h2 : nOk c = true
  case neg =>
    rw [Bool.not_eq_true] at h2
    have hv := Aside0.mk (show opOk k a b c s f g = false by unfold opOk; simp [h2])
    have H2 := Aside0.mk (show impl_OpOk_1.f c = some false by rw [OpOk_1_f, h2])
    clear h2
    go_enter Try.func13, Try.ntmps13
    go_wp2_with (first | (go_at_call 29; refine (impl_OpOk_1.calls a true _ (by with_reducible exact H0.out)).mono ?_; rintro e w' ⟨rfl, ⟨nd, rfl⟩⟩) | (go_at_call 29; refine (impl_OpOk_1.calls b true _ (by with_reducible exact H1.out)).mono ?_; rintro e w' ⟨rfl, ⟨nd, rfl⟩⟩) | (go_at_call 29; refine (impl_OpOk_1.calls c false _ (by with_reducible exact H2.out)).mono ?_; rintro e w' ⟨rfl, ⟨nd, rfl⟩⟩))
    go_ret
    exact ⟨by rw [hv.out]; rfl, by repeat (first | exact Below.refl _ _ | apply below_alloc | apply pw_below_drewN | apply below_drew1)⟩
  have H2 := Aside0.mk (show impl_OpOk_1.f c = some true by rw [OpOk_1_f, h2])
  by_cases h3 : nOk f = true
  case neg =>
    rw [Bool.not_eq_true] at h3
    have hv := Aside0.mk (show opOk k a b c s f g = false by unfold opOk; simp [h3])
    have H3 := Aside0.mk (show impl_OpOk_1.f f = some false by rw [OpOk_1_f, h3])
    clear h3
    go_enter Try.func13, Try.ntmps13
    go_wp2_with (first | (go_at_call 29; refine (impl_OpOk_1.calls a true _ (by with_reducible exact H0.out)).mono ?_; rintro e w' ⟨rfl, ⟨nd, rfl⟩⟩) | (go_at_call 29; refine (impl_OpOk_1.calls b true _ (by with_reducible exact H1.out)).mono ?_; rintro e w' ⟨rfl, ⟨nd, rfl⟩⟩) | (go_at_call 29; refine (impl_OpOk_1.calls c true _ (by with_reducible exact H2.out)).mono ?_; rintro e w' ⟨rfl, ⟨nd, rfl⟩⟩) | (go_at_call 29; refine (impl_OpOk_1.calls f false _ (by with_reducible exact H3.out)).mono ?_; rintro e w' ⟨rfl, ⟨nd, rfl⟩⟩))
    go_ret
    exact ⟨by rw [hv.out]; rfl, by repeat (first | exact Below.refl _ _ | apply below_alloc | apply pw_below_drewN | apply below_drew1)⟩
  have H3 := Aside0.mk (show impl_OpOk_1.f f = some true by rw [OpOk_1_f, h3])
  by_cases h4 : sOk s = true
  case neg =>
    rw [Bool.not_eq_true] at h4
    have hv := Aside0.mk (show opOk k a b c s f g = false by unfold opOk; simp [h4])
    have H4 := Aside0.mk (show impl_OpOk_2.f s = some false by rw [OpOk_2_f, h4])
    clear h4
    go_enter Try.func13, Try.ntmps13
    go_wp2_with (first | (go_at_call 29; refine (impl_OpOk_1.calls a true _ (by with_reducible exact H0.out)).mono ?_; rintro e w' ⟨rfl, ⟨nd, rfl⟩⟩) | (go_at_call 29; refine (impl_OpOk_1.calls b true _ (by with_reducible exact H1.out)).mono ?_; rintro e w' ⟨rfl, ⟨nd, rfl⟩⟩) | (go_at_call 29; refine (impl_OpOk_1.calls c true _ (by with_reducible exact H2.out)).mono ?_; rintro e w' ⟨rfl, ⟨nd, rfl⟩⟩) | (go_at_call 29; refine (impl_OpOk_1.calls f true _ (by with_reducible exact H3.out)).mono ?_; rintro e w' ⟨rfl, ⟨nd, rfl⟩⟩) | (go_at_call 30; refine (impl_OpOk_2.calls s false _ (by with_reducible exact H4.out)).mono ?_; rintro e w' ⟨rfl, ⟨nd, rfl⟩⟩))
    go_ret
    exact ⟨by rw [hv.out]; rfl, by repeat (first | exact Below.refl _ _ | apply below_alloc | apply pw_below_drewN | apply below_drew1)⟩
  have H4 := Aside0.mk (show impl_OpOk_2.f s = some true by rw [OpOk_2_f, h4])
  by_cases h5 : sOk g = true
  case neg =>
    rw [Bool.not_eq_true] at h5
    have hv := Aside0.mk (show opOk k a b c s f g = false by unfold opOk; simp [h5])
    have H5 := Aside0.mk (show impl_OpOk_2.f g = some false by rw [OpOk_2_f, h5])
    clear h5
    go_enter Try.func13, Try.ntmps13
    go_wp2_with (first | (go_at_call 29; refine (impl_OpOk_1.calls a true _ (by with_reducible exact H0.out)).mono ?_; rintro e w' ⟨rfl, ⟨nd, rfl⟩⟩) | (go_at_call 29; refine (impl_OpOk_1.calls b true _ (by with_reducible exact H1.out)).mono ?_; rintro e w' ⟨rfl, ⟨nd, rfl⟩⟩) | (go_at_call 29; refine (impl_OpOk_1.calls c true _ (by with_reducible exact H2.out)).mono ?_; rintro e w' ⟨rfl, ⟨nd, rfl⟩⟩) | (go_at_call 29; refine (impl_OpOk_1.calls f true _ (by with_reducible exact H3.out)).mono ?_; rintro e w' ⟨rfl, ⟨nd, rfl⟩⟩) | (go_at_call 30; refine (impl_OpOk_2.calls s true _ (by with_reducible exact H4.out)).mono ?_; rintro e w' ⟨rfl, ⟨nd, rfl⟩⟩) | (go_at_call 30; refine (impl_OpOk_2.calls g false _ (by with_reducible exact H5.out)).mono ?_; rintro e w' ⟨rfl, ⟨nd, rfl⟩⟩))
    go_ret
    exact ⟨by rw [hv.out]; rfl, by repeat (first | exact Below.refl _ _ | apply below_alloc | apply pw_below_drewN | apply below_drew1)⟩
  have H5 := Aside0.mk (show impl_OpOk_2.f g = some true by rw [OpOk_2_f, h5])
  have hk : opOk k a b c s f g = opKind k a b c s f g := by unfold opOk; simp [h0, h1, h2, h3, h4, h5]
  clear h0 h1 h2 h3 h4 h5
  exact OpOk_kinds k a b c s f g w hk H0 H1 H2 H3 H4 H5

end Go.Proofs.Ytfebloibnhejnaa.X
