/- Go functions as Lean functions, each with its walk; printed by a program of this session (a scratch copy of print.py that follows nested field addresses and tells a law for the answer true). -/
import Derived.Test.YtilneejgliglhaaDoorQTx0
import Derived.Test.YtilneejgliglhaaDoorQTxM0
namespace Go.Proofs.YtilneejgliglhaaDoor.QT
open Go.RowKit Go.Proofs.YtilneejgliglhaaDoorW.PrintWords Go.Proofs.YtilneejgliglhaaDoorW.PrintLast Go.Proofs.YtilneejgliglhaaDoorW.PrintMore Go.Proofs.YtilneejgliglhaaDoor.Short
attribute [local go_sem] max2_int min2_int max_two min_two max_three min_three max_four min_four   -- for this text's walks alone
set_option linter.unusedVariables false
set_option linter.unusedSimpArgs false

/-! ### laws_FnExactLabelText: function 4 -/
def laws_FnExactLabelText.f (k : Nat) (a0 : Int) : Option (Bool) := (spec_LabelText.f k a0).bind fun t166 => ((impl_LabelText.f k a0).bind fun t167 => (if t167.toList = t166.toList then (some true) else (some false)))
theorem laws_FnExactLabelText.mono : ∀ a0 k, LeO (laws_FnExactLabelText.f k a0) (laws_FnExactLabelText.f (k + 1) a0) := by
  intro a0 k
  unfold laws_FnExactLabelText.f
  repeat' first
      | (with_reducible exact impl_LabelText.mono _ _)
      | (with_reducible exact spec_LabelText.mono _ _)
      | (with_reducible exact LeO.refl _)
      | (with_reducible exact LeO.none _)
      | (with_reducible refine LeO.ite ?_ ?_)
      | (with_reducible refine LeO.bind ?_ (fun _ => ?_))
      | exact impl_LabelText.mono _ _
      | exact spec_LabelText.mono _ _
      | exact LeO.none _
      | refine LeO.ite ?_ ?_
      | refine LeO.bind ?_ (fun _ => ?_)
set_option maxHeartbeats 8000000 in
set_option maxRecDepth 100000 in
theorem laws_FnExactLabelText.calls (k : Nat) (a0 : Int) (r : Bool) (w : World) (h : laws_FnExactLabelText.f k a0 = some r) (hr_ : r = true) :
    Calls Tryd.prog 4 #[.int .i64 a0] w fun e w' => e = .returned (.bool r) ∧ Below w.heap.size w w' := by
  have HRT := Aside0.mk hr_
  clear hr_
  have HB := am (Below.refl w.heap.size w)
  have H : ((spec_LabelText.f k a0).bind fun t166 => ((impl_LabelText.f k a0).bind fun t167 => (if t167.toList = t166.toList then (some true) else (some false)))) = some r := h
  clear h
  replace H := Option.bind_eq_some_iff.mp H
  obtain ⟨t166, A20, H⟩ := H
  replace H : ((impl_LabelText.f k a0).bind fun t167 => (if t167.toList = t166.toList then (some true) else (some false))) = some r := H
  have A2 := Aside0.mk A20
  clear A20
  replace H := Option.bind_eq_some_iff.mp H
  obtain ⟨t167, A30, H⟩ := H
  replace H : (if t167.toList = t166.toList then (some true) else (some false)) = some r := H
  have A3 := Aside0.mk A30
  clear A30
  by_cases c4 : t167.toList = t166.toList
  · rw [if_pos c4] at H
    have c4b0 : (t167.toList == t166.toList) = true := beq_iff_eq.mpr c4
    have c4b1 : (t167.toList != t166.toList) = false := bne_eq_false_iff_eq.mpr c4
    clear c4
    obtain rfl := Option.some.inj H
    go_enter Tryd.func4, Tryd.ntmps4
    go_wp2_with (first | ((with_reducible refine gate_callee (f := 9) rfl ?_); refine goesL_ (some 6) rfl rfl Tryd.func9 (by kernel_rfl) rfl #[.int .i64 a0] rfl (by (try simp only [List.map_toArray, List.map_cons, List.map_nil]); first | done | rfl | (simp only [List.length_drop, List.length_take]; rfl)) ?_; (with_reducible refine (spec_LabelText.calls k a0 t166 _ A2.out).mono ?_); rintro e w5 ⟨rfl, hb⟩; refine ⟨_, rfl, ?_⟩; have n0_ := am (below_step (by repeat (first | (with_reducible first | exact HB.out | apply below_alloc | apply pw_below_drewN | apply below_drew1) | exact HB.out)) hb); clear HB; have HB := n0_; clear n0_; (try clear hb); (try clear hb2); (try clear hk); (try clear hi)) | ((with_reducible refine gate_callee (f := 10) rfl ?_); refine goesL_ (some 8) rfl rfl Tryd.func10 (by kernel_rfl) rfl #[.int .i64 a0] rfl (by (try simp only [List.map_toArray, List.map_cons, List.map_nil]); first | done | rfl | (simp only [List.length_drop, List.length_take]; rfl)) ?_; (with_reducible refine (impl_LabelText.calls k a0 t167 _ A3.out).mono ?_); rintro e w6 ⟨rfl, hb⟩; refine ⟨_, rfl, ?_⟩; have n0_ := am (below_step (by repeat (first | (with_reducible first | exact HB.out | apply below_alloc | apply pw_below_drewN | apply below_drew1) | exact HB.out)) hb); clear HB; have HB := n0_; clear n0_; (try clear hb); (try clear hb2); (try clear hk); (try clear hi)))
    go_ret
    exact ⟨by first | rfl | (simp [errW_none, errW_some] <;> rfl) | (simp [*, errW_none, errW_some] <;> rfl), by repeat (first | (with_reducible first | exact HB.out | apply below_alloc | apply pw_below_drewN | apply below_drew1) | exact HB.out)⟩
  · rw [if_neg c4] at H
    have c4b0 : (t167.toList == t166.toList) = false := beq_eq_false_iff_ne.mpr c4
    have c4b1 : (t167.toList != t166.toList) = true := bne_iff_ne.mpr c4
    exact absurd ((Option.some.inj H).trans HRT.out) (by decide)

/-- THE ONE PURE STATEMENT of laws_FnExactLabelText: yours. -/
def laws_FnExactLabelText.Pure : Prop := ∀ (a0 : Int), (Lit.int .i64 a0).wf = true → ∃ k, laws_FnExactLabelText.f k a0 = some true
theorem laws_FnExactLabelText.walk (P : laws_FnExactLabelText.Pure) (a0 : Int) (w : World) (w0 : (Lit.int .i64 a0).wf = true) :
    Calls Tryd.prog 4 #[.int .i64 a0] w fun e w' => e = .returned (.bool true) ∧ Below w.heap.size w w' := by
  obtain ⟨k, h⟩ := P a0 w0
  refine (laws_FnExactLabelText.calls k a0 true w h rfl).mono ?_
  rintro e w' ⟨rfl, hd⟩
  exact ⟨rfl, hd⟩

end Go.Proofs.YtilneejgliglhaaDoor.QT
