/- Go functions as Lean functions, each with its walk; printed by a program of this session (a scratch copy of print.py that follows nested field addresses and tells a law for the answer true). -/
import Derived.Test.YtbiolcbejlghmaaQCx0
import Derived.Test.YtbiolcbejlghmaaQCx10
import Derived.Test.YtbiolcbejlghmaaQCx24
import Derived.Test.YtbiolcbejlghmaaQCx29
import Derived.Test.YtbiolcbejlghmaaQCx76
import Derived.Test.YtbiolcbejlghmaaQCxM0
import Derived.Test.YtbiolcbejlghmaaQCxM3
import Derived.Test.YtbiolcbejlghmaaQCxM8
namespace Go.Proofs.Ytbiolcbejlghmaa.QC
open Go.RowKit Go.Proofs.YtbiolcbejlghmaaW.PrintWords Go.Proofs.YtbiolcbejlghmaaW.PrintLast Go.Proofs.YtbiolcbejlghmaaW.PrintMore Go.Proofs.Ytbiolcbejlghmaa.Short
attribute [local go_sem] max2_int min2_int max_two min_two max_three min_three max_four min_four   -- for this text's walks alone
set_option linter.unusedVariables false
set_option linter.unusedSimpArgs false

/-! ### laws_FnExactAppliesTo: function 8 -/
def laws_FnExactAppliesTo.j0 : Nat → List (S82) → List Int → List Int → Bool → Int → Int → Int → Option (Bool)
  | 0, _, _, _, _, _, _, _ => none
  | k + 1, x0, x6, x8, x48, x562000, x562001, x562002 => if x48 = true then (some false) else ((laws_markIntS.f k x8 1).bind fun bt589 => ((laws_heldIntS.f k bt589.2 1).bind fun t591 => (if t591 < 0 then (some false) else (if t591 = bt589.1 then ((laws_toRuleS.f k x0).bind fun t592 => ((laws_toRequest.f x562000 x562001 x562002).bind fun bt595 => ((impl_AppliesTo.f k t592 bt595.1 bt595.2.1 bt595.2.2).bind fun t598 => ((laws_eqIntS.f k t598 x6).bind fun t601 => (if t601 = true then ((laws_heldIntS.f k bt589.2 1).bind fun t602 => (if t602 < 0 then (some false) else (if t602 = bt589.1 then (some true) else (some false)))) else (some false)))))) else (some false)))))
def laws_FnExactAppliesTo.f (k : Nat) (l0 : List (S82)) (a1_0 : Int) (a1_1 : Int) (a1_2 : Int) : Option (Bool) := (laws_szRuleS.f l0 1048576).bind fun t562 => (if t562 < 0 then (some true) else ((laws_toRuleS.f k l0).bind fun t563 => ((laws_toRequest.f a1_0 a1_1 a1_2).bind fun bt566 => ((spec_AppliesTo.f k t563 bt566.1 bt566.2.1 bt566.2.2).bind fun t569 => ((laws_toRuleS.f k l0).bind fun t572 => ((laws_toRequest.f a1_0 a1_1 a1_2).bind fun bt575 => ((impl_AppliesTo.f k t572 bt575.1 bt575.2.1 bt575.2.2).bind fun t578 => ((laws_eqIntS.f k t578 t569).bind fun t581 => (if t581 = true then ((laws_toRuleS.f k l0).bind fun t582 => ((laws_eqRuleS.f k t572 t582).bind fun t585 => (if t585 = true then ((laws_markRuleS.f k t572 1).bind fun bt586 => (if bt586.1 < 0 then (laws_FnExactAppliesTo.j0 k l0 t569 t578 true a1_0 a1_1 a1_2) else ((laws_eqIntS.f k t578 t569).bind fun t588 => (laws_FnExactAppliesTo.j0 k l0 t569 t578 (!t588) a1_0 a1_1 a1_2)))) else (some false)))) else (some false))))))))))
theorem laws_FnExactAppliesTo.mono_l : ∀ k, (∀ y0 y1 y2 y3 y4 y5 y6, LeO (laws_FnExactAppliesTo.j0 k y0 y1 y2 y3 y4 y5 y6) (laws_FnExactAppliesTo.j0 (k + 1) y0 y1 y2 y3 y4 y5 y6))
  | 0 => fun _ _ _ _ _ _ _ r h => by simp [laws_FnExactAppliesTo.j0] at h
  | k + 1 => by
    have ih0 := laws_FnExactAppliesTo.mono_l k
    · intro y0 y1 y2 y3 y4 y5 y6
      unfold laws_FnExactAppliesTo.j0
      repeat' first
      | (with_reducible exact ih0 _ _ _ _ _ _ _)
      | (with_reducible exact impl_AppliesTo.mono _ _ _ _ _)
      | (with_reducible exact laws_eqIntS.mono _ _ _)
      | (with_reducible exact laws_eqRuleS.mono _ _ _)
      | (with_reducible exact laws_heldIntS.mono _ _ _)
      | (with_reducible exact laws_markIntS.mono _ _ _)
      | (with_reducible exact laws_markRuleS.mono _ _ _)
      | (with_reducible exact laws_toRuleS.mono _ _)
      | (with_reducible exact spec_AppliesTo.mono _ _ _ _ _)
      | (with_reducible exact LeO.refl _)
      | (with_reducible exact LeO.none _)
      | (with_reducible refine LeO.ite ?_ ?_)
      | (with_reducible refine LeO.bind ?_ (fun _ => ?_))
      | exact ih0 _ _ _ _ _ _ _
      | exact impl_AppliesTo.mono _ _ _ _ _
      | exact laws_eqIntS.mono _ _ _
      | exact laws_eqRuleS.mono _ _ _
      | exact laws_heldIntS.mono _ _ _
      | exact laws_markIntS.mono _ _ _
      | exact laws_markRuleS.mono _ _ _
      | exact laws_toRuleS.mono _ _
      | exact spec_AppliesTo.mono _ _ _ _ _
      | exact LeO.none _
      | refine LeO.ite ?_ ?_
      | refine LeO.bind ?_ (fun _ => ?_)
theorem laws_FnExactAppliesTo.mono : ∀ a0 a1 a2 a3 k, LeO (laws_FnExactAppliesTo.f k a0 a1 a2 a3) (laws_FnExactAppliesTo.f (k + 1) a0 a1 a2 a3) := by
  intro a0 a1 a2 a3 k
  have ih0 := laws_FnExactAppliesTo.mono_l k
  unfold laws_FnExactAppliesTo.f
  repeat' first
      | (with_reducible exact ih0 _ _ _ _ _ _ _)
      | (with_reducible exact impl_AppliesTo.mono _ _ _ _ _)
      | (with_reducible exact laws_eqIntS.mono _ _ _)
      | (with_reducible exact laws_eqRuleS.mono _ _ _)
      | (with_reducible exact laws_heldIntS.mono _ _ _)
      | (with_reducible exact laws_markIntS.mono _ _ _)
      | (with_reducible exact laws_markRuleS.mono _ _ _)
      | (with_reducible exact laws_toRuleS.mono _ _)
      | (with_reducible exact spec_AppliesTo.mono _ _ _ _ _)
      | (with_reducible exact LeO.refl _)
      | (with_reducible exact LeO.none _)
      | (with_reducible refine LeO.ite ?_ ?_)
      | (with_reducible refine LeO.bind ?_ (fun _ => ?_))
      | exact ih0 _ _ _ _ _ _ _
      | exact impl_AppliesTo.mono _ _ _ _ _
      | exact laws_eqIntS.mono _ _ _
      | exact laws_eqRuleS.mono _ _ _
      | exact laws_heldIntS.mono _ _ _
      | exact laws_markIntS.mono _ _ _
      | exact laws_markRuleS.mono _ _ _
      | exact laws_toRuleS.mono _ _
      | exact spec_AppliesTo.mono _ _ _ _ _
      | exact LeO.none _
      | refine LeO.ite ?_ ?_
      | refine LeO.bind ?_ (fun _ => ?_)
set_option maxHeartbeats 8000000 in
set_option maxRecDepth 100000 in
theorem laws_FnExactAppliesTo.calls (k : Nat) (A0 : Option Addr) (c0 : Nat) (l0 : List (S82)) (a1_0 : Int) (a1_1 : Int) (a1_2 : Int) (r : Bool) (w : World) (hr0 : Kd.C k82 w A0 l0.length l0) (hc0 : l0.length ≤ c0) (h : laws_FnExactAppliesTo.f k l0 a1_0 a1_1 a1_2 = some r) (hr_ : r = true) :
    Calls Try.prog 8 #[.slice A0 l0.length c0, .agg #[.int .i64 a1_0, .int .i64 a1_1, .int .i64 a1_2]] w fun e w' => e = .returned (.bool r) ∧ Below w.heap.size w w' := by
  have HRT := Aside0.mk hr_
  clear hr_
  have hu26 := Try.underlying26
  have HR0 := Aside0.mk hr0
  have HC0 := Aside0.mk hc0
  clear hr0 hc0
  have HB := am (Below.refl w.heap.size w)
  have H : ((laws_szRuleS.f l0 1048576).bind fun t562 => (if t562 < 0 then (some true) else ((laws_toRuleS.f k l0).bind fun t563 => ((laws_toRequest.f a1_0 a1_1 a1_2).bind fun bt566 => ((spec_AppliesTo.f k t563 bt566.1 bt566.2.1 bt566.2.2).bind fun t569 => ((laws_toRuleS.f k l0).bind fun t572 => ((laws_toRequest.f a1_0 a1_1 a1_2).bind fun bt575 => ((impl_AppliesTo.f k t572 bt575.1 bt575.2.1 bt575.2.2).bind fun t578 => ((laws_eqIntS.f k t578 t569).bind fun t581 => (if t581 = true then ((laws_toRuleS.f k l0).bind fun t582 => ((laws_eqRuleS.f k t572 t582).bind fun t585 => (if t585 = true then ((laws_markRuleS.f k t572 1).bind fun bt586 => (if bt586.1 < 0 then (laws_FnExactAppliesTo.j0 k l0 t569 t578 true a1_0 a1_1 a1_2) else ((laws_eqIntS.f k t578 t569).bind fun t588 => (laws_FnExactAppliesTo.j0 k l0 t569 t578 (!t588) a1_0 a1_1 a1_2)))) else (some false)))) else (some false))))))))))) = some r := h
  clear h
  replace H := Option.bind_eq_some_iff.mp H
  obtain ⟨t562, A30, H⟩ := H
  replace H : (if t562 < 0 then (some true) else ((laws_toRuleS.f k l0).bind fun t563 => ((laws_toRequest.f a1_0 a1_1 a1_2).bind fun bt566 => ((spec_AppliesTo.f k t563 bt566.1 bt566.2.1 bt566.2.2).bind fun t569 => ((laws_toRuleS.f k l0).bind fun t572 => ((laws_toRequest.f a1_0 a1_1 a1_2).bind fun bt575 => ((impl_AppliesTo.f k t572 bt575.1 bt575.2.1 bt575.2.2).bind fun t578 => ((laws_eqIntS.f k t578 t569).bind fun t581 => (if t581 = true then ((laws_toRuleS.f k l0).bind fun t582 => ((laws_eqRuleS.f k t572 t582).bind fun t585 => (if t585 = true then ((laws_markRuleS.f k t572 1).bind fun bt586 => (if bt586.1 < 0 then (laws_FnExactAppliesTo.j0 k l0 t569 t578 true a1_0 a1_1 a1_2) else ((laws_eqIntS.f k t578 t569).bind fun t588 => (laws_FnExactAppliesTo.j0 k l0 t569 t578 (!t588) a1_0 a1_1 a1_2)))) else (some false)))) else (some false)))))))))) = some r := H
  have A3 := Aside0.mk A30
  clear A30
  by_cases c4 : t562 < 0
  · rw [if_pos c4] at H
    have c4b0 : decide (t562 < 0) = true := decide_eq_true c4
    clear c4
    obtain rfl := Option.some.inj H
    go_enter Try.func8, Try.ntmps8
    go_wp2_with (first | ((with_reducible refine gate_dst (N := 3) rfl ?_); refine box_event ?hg (N := 3) ?hd (cs := #[.int .i64 a1_0, .int .i64 a1_1, .int .i64 a1_2]) (t := 26) ?hr ?_; (case hd => rfl); (case hg => rfl); (case hr => first | (go_simp; done) | (go_simp; rfl)); intro gb561 hg w5 hbox hb; have q_ := hbx_ (by repeat (first | (with_reducible first | exact HB.out | apply below_alloc | apply pw_below_drewN | apply below_drew1) | exact HB.out)) hg hb; have n0_ := q_.1; have n1_ := am (hbox); have n2_ := q_.2; have n3_ := n2_; clear HB; have HB := n0_; have BK561 := n1_; have GW561 := n2_; have GE561 := n3_; clear n0_ n1_ n2_ n3_ hb hbox hg) | ((with_reducible refine gate_callee (f := 15) rfl ?_); refine goesL_ (some 15) rfl rfl Try.func15 (by kernel_rfl) rfl #[.slice A0 l0.length c0, .int .i64 1048576] rfl (by (try simp only [List.map_toArray, List.map_cons, List.map_nil]); first | done | rfl | (simp only [List.length_drop, List.length_take]; rfl)) ?_; (with_reducible refine (laws_szRuleS.calls _ _ l0 1048576 t562 _ ?side1 ?side2 A3.out).mono ?_); (case side1 => repeat (first | exact (Kd.C_below HR0.out HB.out) | (with_reducible refine Kd.C_alloc ?_ _) | (with_reducible refine Kd.C_drewN ?_ _) | (with_reducible refine Kd.C_drew ?_))); (case side2 => exact HC0.out); rintro e w' ⟨rfl, ⟨nd, rfl⟩⟩; refine ⟨_, rfl, ?_⟩))
    go_ret
    exact ⟨by first | rfl | (simp [errW_none, errW_some] <;> rfl) | (simp [*, errW_none, errW_some] <;> rfl), by repeat (first | (with_reducible first | exact HB.out | apply below_alloc | apply pw_below_drewN | apply below_drew1 | refine below_set ?_ GE561.out) | exact HB.out)⟩
  · rw [if_neg c4] at H
    have c4b0 : decide (t562 < 0) = false := decide_eq_false c4
    clear c4
    replace H := Option.bind_eq_some_iff.mp H
    obtain ⟨t563, A60, H⟩ := H
    replace H : ((laws_toRequest.f a1_0 a1_1 a1_2).bind fun bt566 => ((spec_AppliesTo.f k t563 bt566.1 bt566.2.1 bt566.2.2).bind fun t569 => ((laws_toRuleS.f k l0).bind fun t572 => ((laws_toRequest.f a1_0 a1_1 a1_2).bind fun bt575 => ((impl_AppliesTo.f k t572 bt575.1 bt575.2.1 bt575.2.2).bind fun t578 => ((laws_eqIntS.f k t578 t569).bind fun t581 => (if t581 = true then ((laws_toRuleS.f k l0).bind fun t582 => ((laws_eqRuleS.f k t572 t582).bind fun t585 => (if t585 = true then ((laws_markRuleS.f k t572 1).bind fun bt586 => (if bt586.1 < 0 then (laws_FnExactAppliesTo.j0 k l0 t569 t578 true a1_0 a1_1 a1_2) else ((laws_eqIntS.f k t578 t569).bind fun t588 => (laws_FnExactAppliesTo.j0 k l0 t569 t578 (!t588) a1_0 a1_1 a1_2)))) else (some false)))) else (some false)))))))) = some r := H
    have A6 := Aside0.mk A60
    clear A60
    replace H := Option.bind_eq_some_iff.mp H
    obtain ⟨⟨t566, t567, t568⟩, A70, H⟩ := H
    replace H : ((spec_AppliesTo.f k t563 t566 t567 t568).bind fun t569 => ((laws_toRuleS.f k l0).bind fun t572 => ((laws_toRequest.f a1_0 a1_1 a1_2).bind fun bt575 => ((impl_AppliesTo.f k t572 bt575.1 bt575.2.1 bt575.2.2).bind fun t578 => ((laws_eqIntS.f k t578 t569).bind fun t581 => (if t581 = true then ((laws_toRuleS.f k l0).bind fun t582 => ((laws_eqRuleS.f k t572 t582).bind fun t585 => (if t585 = true then ((laws_markRuleS.f k t572 1).bind fun bt586 => (if bt586.1 < 0 then (laws_FnExactAppliesTo.j0 k l0 t569 t578 true a1_0 a1_1 a1_2) else ((laws_eqIntS.f k t578 t569).bind fun t588 => (laws_FnExactAppliesTo.j0 k l0 t569 t578 (!t588) a1_0 a1_1 a1_2)))) else (some false)))) else (some false))))))) = some r := H
    have A7 := Aside0.mk A70
    clear A70
    replace H := Option.bind_eq_some_iff.mp H
    obtain ⟨t569, A80, H⟩ := H
    replace H : ((laws_toRuleS.f k l0).bind fun t572 => ((laws_toRequest.f a1_0 a1_1 a1_2).bind fun bt575 => ((impl_AppliesTo.f k t572 bt575.1 bt575.2.1 bt575.2.2).bind fun t578 => ((laws_eqIntS.f k t578 t569).bind fun t581 => (if t581 = true then ((laws_toRuleS.f k l0).bind fun t582 => ((laws_eqRuleS.f k t572 t582).bind fun t585 => (if t585 = true then ((laws_markRuleS.f k t572 1).bind fun bt586 => (if bt586.1 < 0 then (laws_FnExactAppliesTo.j0 k l0 t569 t578 true a1_0 a1_1 a1_2) else ((laws_eqIntS.f k t578 t569).bind fun t588 => (laws_FnExactAppliesTo.j0 k l0 t569 t578 (!t588) a1_0 a1_1 a1_2)))) else (some false)))) else (some false)))))) = some r := H
    have A8 := Aside0.mk A80
    clear A80
    replace H := Option.bind_eq_some_iff.mp H
    obtain ⟨t572, A90, H⟩ := H
    replace H : ((laws_toRequest.f a1_0 a1_1 a1_2).bind fun bt575 => ((impl_AppliesTo.f k t572 bt575.1 bt575.2.1 bt575.2.2).bind fun t578 => ((laws_eqIntS.f k t578 t569).bind fun t581 => (if t581 = true then ((laws_toRuleS.f k l0).bind fun t582 => ((laws_eqRuleS.f k t572 t582).bind fun t585 => (if t585 = true then ((laws_markRuleS.f k t572 1).bind fun bt586 => (if bt586.1 < 0 then (laws_FnExactAppliesTo.j0 k l0 t569 t578 true a1_0 a1_1 a1_2) else ((laws_eqIntS.f k t578 t569).bind fun t588 => (laws_FnExactAppliesTo.j0 k l0 t569 t578 (!t588) a1_0 a1_1 a1_2)))) else (some false)))) else (some false))))) = some r := H
    have A9 := Aside0.mk A90
    clear A90
    replace H := Option.bind_eq_some_iff.mp H
    obtain ⟨⟨t575, t576, t577⟩, A100, H⟩ := H
    replace H : ((impl_AppliesTo.f k t572 t575 t576 t577).bind fun t578 => ((laws_eqIntS.f k t578 t569).bind fun t581 => (if t581 = true then ((laws_toRuleS.f k l0).bind fun t582 => ((laws_eqRuleS.f k t572 t582).bind fun t585 => (if t585 = true then ((laws_markRuleS.f k t572 1).bind fun bt586 => (if bt586.1 < 0 then (laws_FnExactAppliesTo.j0 k l0 t569 t578 true a1_0 a1_1 a1_2) else ((laws_eqIntS.f k t578 t569).bind fun t588 => (laws_FnExactAppliesTo.j0 k l0 t569 t578 (!t588) a1_0 a1_1 a1_2)))) else (some false)))) else (some false)))) = some r := H
    have A10 := Aside0.mk A100
    clear A100
    replace H := Option.bind_eq_some_iff.mp H
    obtain ⟨t578, A110, H⟩ := H
    replace H : ((laws_eqIntS.f k t578 t569).bind fun t581 => (if t581 = true then ((laws_toRuleS.f k l0).bind fun t582 => ((laws_eqRuleS.f k t572 t582).bind fun t585 => (if t585 = true then ((laws_markRuleS.f k t572 1).bind fun bt586 => (if bt586.1 < 0 then (laws_FnExactAppliesTo.j0 k l0 t569 t578 true a1_0 a1_1 a1_2) else ((laws_eqIntS.f k t578 t569).bind fun t588 => (laws_FnExactAppliesTo.j0 k l0 t569 t578 (!t588) a1_0 a1_1 a1_2)))) else (some false)))) else (some false))) = some r := H
    have A11 := Aside0.mk A110
    clear A110
    replace H := Option.bind_eq_some_iff.mp H
    obtain ⟨t581, A120, H⟩ := H
    replace H : (if t581 = true then ((laws_toRuleS.f k l0).bind fun t582 => ((laws_eqRuleS.f k t572 t582).bind fun t585 => (if t585 = true then ((laws_markRuleS.f k t572 1).bind fun bt586 => (if bt586.1 < 0 then (laws_FnExactAppliesTo.j0 k l0 t569 t578 true a1_0 a1_1 a1_2) else ((laws_eqIntS.f k t578 t569).bind fun t588 => (laws_FnExactAppliesTo.j0 k l0 t569 t578 (!t588) a1_0 a1_1 a1_2)))) else (some false)))) else (some false)) = some r := H
    have A12 := Aside0.mk A120
    clear A120
    by_cases c13 : t581 = true
    · subst c13
      have H1 : ((laws_toRuleS.f k l0).bind fun t582 => ((laws_eqRuleS.f k t572 t582).bind fun t585 => (if t585 = true then ((laws_markRuleS.f k t572 1).bind fun bt586 => (if bt586.1 < 0 then (laws_FnExactAppliesTo.j0 k l0 t569 t578 true a1_0 a1_1 a1_2) else ((laws_eqIntS.f k t578 t569).bind fun t588 => (laws_FnExactAppliesTo.j0 k l0 t569 t578 (!t588) a1_0 a1_1 a1_2)))) else (some false)))) = some r := by rw [if_pos rfl] at H; exact H
      clear H
      have H := H1
      clear H1
      replace H := Option.bind_eq_some_iff.mp H
      obtain ⟨t582, A140, H⟩ := H
      replace H : ((laws_eqRuleS.f k t572 t582).bind fun t585 => (if t585 = true then ((laws_markRuleS.f k t572 1).bind fun bt586 => (if bt586.1 < 0 then (laws_FnExactAppliesTo.j0 k l0 t569 t578 true a1_0 a1_1 a1_2) else ((laws_eqIntS.f k t578 t569).bind fun t588 => (laws_FnExactAppliesTo.j0 k l0 t569 t578 (!t588) a1_0 a1_1 a1_2)))) else (some false))) = some r := H
      have A14 := Aside0.mk A140
      clear A140
      replace H := Option.bind_eq_some_iff.mp H
      obtain ⟨t585, A150, H⟩ := H
      replace H : (if t585 = true then ((laws_markRuleS.f k t572 1).bind fun bt586 => (if bt586.1 < 0 then (laws_FnExactAppliesTo.j0 k l0 t569 t578 true a1_0 a1_1 a1_2) else ((laws_eqIntS.f k t578 t569).bind fun t588 => (laws_FnExactAppliesTo.j0 k l0 t569 t578 (!t588) a1_0 a1_1 a1_2)))) else (some false)) = some r := H
      have A15 := Aside0.mk A150
      clear A150
      by_cases c16 : t585 = true
      · subst c16
        have H1 : ((laws_markRuleS.f k t572 1).bind fun bt586 => (if bt586.1 < 0 then (laws_FnExactAppliesTo.j0 k l0 t569 t578 true a1_0 a1_1 a1_2) else ((laws_eqIntS.f k t578 t569).bind fun t588 => (laws_FnExactAppliesTo.j0 k l0 t569 t578 (!t588) a1_0 a1_1 a1_2)))) = some r := by rw [if_pos rfl] at H; exact H
        clear H
        have H := H1
        clear H1
        replace H := Option.bind_eq_some_iff.mp H
        obtain ⟨⟨t586, t587⟩, A170, H⟩ := H
        replace H : (if t586 < 0 then (laws_FnExactAppliesTo.j0 k l0 t569 t578 true a1_0 a1_1 a1_2) else ((laws_eqIntS.f k t578 t569).bind fun t588 => (laws_FnExactAppliesTo.j0 k l0 t569 t578 (!t588) a1_0 a1_1 a1_2))) = some r := H
        have A17 := Aside0.mk A170
        clear A170
        have HC18 := Aside0.mk H
        clear H
        go_enter Try.func8, Try.ntmps8
        try go_wp2_with (first | ((with_reducible refine gate_dst (N := 3) rfl ?_); refine box_event ?hg (N := 3) ?hd (cs := #[.int .i64 a1_0, .int .i64 a1_1, .int .i64 a1_2]) (t := 26) ?hr ?_; (case hd => rfl); (case hg => rfl); (case hr => first | (go_simp; done) | (go_simp; rfl)); intro gb561 hg w19 hbox hb; have q_ := hbx_ (by repeat (first | (with_reducible first | exact HB.out | apply below_alloc | apply pw_below_drewN | apply below_drew1) | exact HB.out)) hg hb; have n0_ := q_.1; have n1_ := am (hbox); have n2_ := q_.2; have n3_ := n2_; clear HB; have HB := n0_; have BK561 := n1_; have GW561 := n2_; have GE561 := n3_; clear n0_ n1_ n2_ n3_ hb hbox hg) | ((with_reducible refine gate_callee (f := 15) rfl ?_); refine goesL_ (some 15) rfl rfl Try.func15 (by kernel_rfl) rfl #[.slice A0 l0.length c0, .int .i64 1048576] rfl (by (try simp only [List.map_toArray, List.map_cons, List.map_nil]); first | done | rfl | (simp only [List.length_drop, List.length_take]; rfl)) ?_; (with_reducible refine (laws_szRuleS.calls _ _ l0 1048576 t562 _ ?side1 ?side2 A3.out).mono ?_); (case side1 => repeat (first | exact (Kd.C_below HR0.out HB.out) | (with_reducible refine Kd.C_alloc ?_ _) | (with_reducible refine Kd.C_drewN ?_ _) | (with_reducible refine Kd.C_drew ?_))); (case side2 => exact HC0.out); rintro e w' ⟨rfl, ⟨nd, rfl⟩⟩; refine ⟨_, rfl, ?_⟩))
        (try (rw [drewN_self w19]; generalize hq_ : World.drewN w19 _ = w19; have n0_ : Aside0 (w19.heap[gb561]? = some (.cells #[.int .i64 a1_0, .int .i64 a1_1, .int .i64 a1_2] 26 (0, 0))) := ⟨by rw [← hq_]; exact (by (with_reducible repeat (first | refine blk_drewN ?_ _ | refine blk_drew ?_ | refine blk_alloc ?_ _)); exact BK561.out)⟩; have n1_ : Aside0 (Below w.heap.size w w19) := ⟨by rw [← hq_]; exact (by repeat (first | (with_reducible first | exact HB.out | apply below_alloc | apply pw_below_drewN | apply below_drew1 | refine below_set ?_ GE561.out) | exact HB.out))⟩; clear BK561 HB hq_; have BK561 := n0_; have HB := n1_; clear n0_ n1_))
        have n0_ := am (blk_drew BK561.out)
        have n1_ := am (below_drew1 HB.out)
        clear BK561
        clear HB
        have BK561 := n0_
        have HB := n1_
        clear n0_ n1_
        refine start_ (n := 6) (S := fun w' => w'.cell? ⟨gb561, 0, none⟩ = some (.int .i64 a1_0) ∧ w'.cell? ⟨gb561, 1, none⟩ = some (.int .i64 a1_1) ∧ w'.cell? ⟨gb561, 2, none⟩ = some (.int .i64 a1_2)) (ds := []) #[false, false, false, false, false, false] (by kernel_rfl) rfl rfl ⟨(blk_cell BK561.out 0).trans rfl, (blk_cell BK561.out 1).trans rfl, (blk_cell BK561.out 2).trans rfl⟩ (fun hHeld => ?_)
        generalize w19.drew = w20 at BK561 HB hHeld ⊢
        refine pure_ (i := 0) (N := some 18) (v := ?_) (a' := ?_) #[true, false, false, false, false, false] rfl rfl (by kernel_rfl) (fun _ _ _ h => h) (Or.inl ⟨by rfl, ?_⟩) ?_ ?_
        rotate_left
        · intro w'
          go_simp
          with_reducible rfl
        rotate_left
        · simp only [Act.put, List.setIfInBounds_toArray, List.set_cons_zero, List.set_cons_succ, i64_w, i32_w]
          rfl
        refine take_ (i := 2) (N := some 20) (v := ?_) (a' := ?_) #[true, false, true, false, false, false] rfl rfl (by kernel_rfl) (fun _ _ _ h => h) (Or.inl ⟨by rfl, ?_⟩) hHeld ?_ ?_
        rotate_left
        · rintro w' ⟨s0, s1, s2⟩
          go_simp
          with_reducible rfl
        rotate_left
        · simp only [Act.put, List.setIfInBounds_toArray, List.set_cons_zero, List.set_cons_succ, i64_w, i32_w]
          rfl
        refine one_ (i := 1) (N := some 19) #[true, true, true, false, false, false] rfl rfl (by kernel_rfl) (by decide) (fun K hK => ?_)
        refine goes_ Try.func17 (by kernel_rfl) rfl #[.slice A0 l0.length c0] (by rfl) rfl rfl (by (try simp only [List.map_toArray, List.map_cons, List.map_nil]); first | done | rfl | (simp only [List.length_drop, List.length_take]; rfl)) ?_
        with_reducible refine (laws_toRuleS.calls k _ _ l0 t563 _ ?side1 ?side2 A6.out).mono ?_
        (case side1 => repeat (first | exact (Kd.C_below HR0.out HB.out) | (with_reducible refine Kd.C_alloc ?_ _) | (with_reducible refine Kd.C_drewN ?_ _) | (with_reducible refine Kd.C_drew ?_)))
        (case side2 => exact HC0.out)
        rintro e w21 ⟨v564, rfl, ho0, hb⟩
        refine ⟨_, rfl, ?_⟩
        have n0_ := am (Kd.R_lower ho0 (below_size (by repeat (first | (with_reducible first | exact HB.out | apply below_alloc | apply pw_below_drewN | apply below_drew1 | refine below_set ?_ GE561.out) | exact HB.out))))
        have n1_ := am (blk_below (by (with_reducible repeat (first | refine blk_drewN ?_ _ | refine blk_drew ?_ | refine blk_alloc ?_ _)); exact BK561.out) hb)
        have n2_ := am (below_step (by repeat (first | (with_reducible first | exact HB.out | apply below_alloc | apply pw_below_drewN | apply below_drew1 | refine below_set ?_ GE561.out) | exact HB.out)) hb)
        clear BK561
        clear HB
        have HO565 := n0_
        have BK561 := n1_
        have HB := n2_
        clear n0_ n1_ n2_
        (try clear hb)
        (try clear hb2)
        (try clear hk)
        (try clear hi)
        (try clear ho0)
        refine hK.out _ _ ⟨(blk_cell BK561.out 0).trans rfl, (blk_cell BK561.out 1).trans rfl, (blk_cell BK561.out 2).trans rfl⟩ (fun hHeld => ?_)
        clear hK K
        refine norm_ (a' := ?_) ?_ ?_
        rotate_left
        · show Act.put _ (some 19) _ = _
          simp only [Act.put, List.setIfInBounds_toArray, List.set_cons_zero, List.set_cons_succ, i64_w, i32_w]
          rfl
        refine one_ (i := 3) (N := some 21) #[true, true, true, true, false, false] rfl rfl (by kernel_rfl) (by decide) (fun K hK => ?_)
        refine goes_ Try.func18 (by kernel_rfl) rfl #[.agg #[.int .i64 a1_0, .int .i64 a1_1, .int .i64 a1_2]] (by rfl) rfl rfl (by (try simp only [List.map_toArray, List.map_cons, List.map_nil]); first | done | rfl | (simp only [List.length_drop, List.length_take]; rfl)) ?_
        with_reducible refine (laws_toRequest.calls a1_0 a1_1 a1_2 t566 t567 t568 _ A7.out).mono ?_
        rintro e w22 ⟨rfl, hb⟩
        refine ⟨_, rfl, ?_⟩
        have n0_ := am (Kd.R_below (by (with_reducible repeat (first | apply Kd.R_alloc | apply Kd.R_drewN | apply Kd.R_drew)); exact HO565.out) hb)
        have n1_ := am (blk_below (by (with_reducible repeat (first | refine blk_drewN ?_ _ | refine blk_drew ?_ | refine blk_alloc ?_ _)); exact BK561.out) hb)
        have n2_ := am (below_step (by repeat (first | (with_reducible first | exact HB.out | apply below_alloc | apply pw_below_drewN | apply below_drew1 | refine below_set ?_ GE561.out) | exact HB.out)) hb)
        clear HO565
        clear BK561
        clear HB
        have HO565 := n0_
        have BK561 := n1_
        have HB := n2_
        clear n0_ n1_ n2_
        (try clear hb)
        (try clear hb2)
        (try clear hk)
        (try clear hi)
        obtain ⟨Ao23, co23, eo23⟩ := Kd.R_slice HO565.out
        (first | subst eo23 | (injection eo23 with f1_ f2_ f3_; have f4_ := f1_.symm; have f5_ := f3_.symm; clear f1_ f2_ f3_; subst f4_; subst f5_))
        refine hK.out _ _ ⟨(blk_cell BK561.out 0).trans rfl, (blk_cell BK561.out 1).trans rfl, (blk_cell BK561.out 2).trans rfl⟩ (fun hHeld => ?_)
        clear hK K
        refine norm_ (a' := ?_) ?_ ?_
        rotate_left
        · show Act.put _ (some 21) _ = _
          simp only [Act.put, List.setIfInBounds_toArray, List.set_cons_zero, List.set_cons_succ, i64_w, i32_w]
          rfl
        refine one_ (i := 4) (N := some 22) #[true, true, true, true, true, false] rfl rfl (by kernel_rfl) (by decide) (fun K hK => ?_)
        refine goes_ Try.func38 (by kernel_rfl) rfl #[.slice Ao23 t563.length co23, .agg #[.int .i64 t566, .int .i64 t567, .int .i64 t568]] (by rfl) rfl rfl (by (try simp only [List.map_toArray, List.map_cons, List.map_nil]); first | done | rfl | (simp only [List.length_drop, List.length_take]; rfl)) ?_
        with_reducible refine (spec_AppliesTo.calls k _ _ t563 t566 t567 t568 t569 _ ?side1 ?side2 A8.out).mono ?_
        (case side1 => repeat (first | exact (Kd.R_reads' HO565.out).2.2 | (with_reducible refine Kd.C_alloc ?_ _) | (with_reducible refine Kd.C_drewN ?_ _) | (with_reducible refine Kd.C_drew ?_)))
        (case side2 => exact (Kd.R_reads' HO565.out).2.1)
        rintro e w24 ⟨v570, rfl, ho0, hb⟩
        refine ⟨_, rfl, ?_⟩
        have n0_ := am (Kd.R_below (by (with_reducible repeat (first | apply Kd.R_alloc | apply Kd.R_drewN | apply Kd.R_drew)); exact HO565.out) hb)
        have n1_ := am (Kd.R_lower ho0 (below_size (by repeat (first | (with_reducible first | exact HB.out | apply below_alloc | apply pw_below_drewN | apply below_drew1 | refine below_set ?_ GE561.out) | exact HB.out))))
        have n2_ := am (blk_below (by (with_reducible repeat (first | refine blk_drewN ?_ _ | refine blk_drew ?_ | refine blk_alloc ?_ _)); exact BK561.out) hb)
        have n3_ := am (below_step (by repeat (first | (with_reducible first | exact HB.out | apply below_alloc | apply pw_below_drewN | apply below_drew1 | refine below_set ?_ GE561.out) | exact HB.out)) hb)
        clear HO565
        clear BK561
        clear HB
        have HO565 := n0_
        have HO571 := n1_
        have BK561 := n2_
        have HB := n3_
        clear n0_ n1_ n2_ n3_
        (try clear hb)
        (try clear hb2)
        (try clear hk)
        (try clear hi)
        (try clear ho0)
        refine hK.out _ _ ⟨(blk_cell BK561.out 0).trans rfl, (blk_cell BK561.out 1).trans rfl, (blk_cell BK561.out 2).trans rfl⟩ (fun hHeld => ?_)
        clear hK K
        refine norm_ (a' := ?_) ?_ ?_
        rotate_left
        · show Act.put _ (some 22) _ = _
          simp only [Act.put, List.setIfInBounds_toArray, List.set_cons_zero, List.set_cons_succ, i64_w, i32_w]
          rfl
        refine pure_ (i := 5) (N := some 6) (v := ?_) (a' := ?_) #[true, true, true, true, true, true] rfl rfl (by kernel_rfl) (fun _ _ _ h => h) (Or.inl ⟨by rfl, ?_⟩) ?_ ?_
        rotate_left
        · intro w'
          go_simp
          with_reducible rfl
        rotate_left
        · simp only [Act.put, List.setIfInBounds_toArray, List.set_cons_zero, List.set_cons_succ, i64_w, i32_w]
          rfl
        refine done_ (by kernel_rfl) ?_
        go_upto_region 14 with (first | ((with_reducible refine gate_callee (f := 17) rfl ?_); refine goesL_ (some 24) rfl rfl Try.func17 (by kernel_rfl) rfl #[.slice A0 l0.length c0] rfl (by (try simp only [List.map_toArray, List.map_cons, List.map_nil]); first | done | rfl | (simp only [List.length_drop, List.length_take]; rfl)) ?_; (with_reducible refine (laws_toRuleS.calls k _ _ l0 t572 _ ?side1 ?side2 A9.out).mono ?_); (case side1 => repeat (first | exact (Kd.C_below HR0.out HB.out) | (with_reducible refine Kd.C_alloc ?_ _) | (with_reducible refine Kd.C_drewN ?_ _) | (with_reducible refine Kd.C_drew ?_))); (case side2 => exact HC0.out); rintro e w25 ⟨v573, rfl, ho0, hb⟩; refine ⟨_, rfl, ?_⟩; have n0_ := am (Kd.R_elder' (by (with_reducible repeat (first | apply Kd.R_alloc | apply Kd.R_drewN | apply Kd.R_drew)); exact HO565.out) (Kd.R_base ho0) hb); have n1_ := am (Kd.R_below (by (with_reducible repeat (first | apply Kd.R_alloc | apply Kd.R_drewN | apply Kd.R_drew)); exact HO571.out) hb); have n2_ := am (Kd.R_lower (Kd.R_new' ho0 (Kd.R_lt (by (with_reducible repeat (first | apply Kd.R_alloc | apply Kd.R_drewN | apply Kd.R_drew)); exact HO565.out))) (below_size (by repeat (first | (with_reducible first | exact HB.out | apply below_alloc | apply pw_below_drewN | apply below_drew1 | refine below_set ?_ GE561.out) | exact HB.out)))); have n3_ := am (blk_below (by (with_reducible repeat (first | refine blk_drewN ?_ _ | refine blk_drew ?_ | refine blk_alloc ?_ _)); exact BK561.out) hb); have n4_ := am (below_step (by repeat (first | (with_reducible first | exact HB.out | apply below_alloc | apply pw_below_drewN | apply below_drew1 | refine below_set ?_ GE561.out) | exact HB.out)) hb); clear HO565; clear HO571; clear BK561; clear HB; have HO565 := n0_; have HO571 := n1_; have HO574 := n2_; have BK561 := n3_; have HB := n4_; clear n0_ n1_ n2_ n3_ n4_; (try clear hb); (try clear hb2); (try clear hk); (try clear hi); (try clear ho0); obtain ⟨hcz26_0, hcz26_1, hcz26_2, hfz26_0, hfz26_1, hfz26_2⟩ := blk3 BK561.out) | ((with_reducible refine gate_callee (f := 18) rfl ?_); refine goesL_ (some 27) rfl rfl Try.func18 (by kernel_rfl) rfl #[.agg #[.int .i64 a1_0, .int .i64 a1_1, .int .i64 a1_2]] rfl (by (try simp only [List.map_toArray, List.map_cons, List.map_nil]); first | done | rfl | (simp only [List.length_drop, List.length_take]; rfl)) ?_; (with_reducible refine (laws_toRequest.calls a1_0 a1_1 a1_2 t575 t576 t577 _ A10.out).mono ?_); rintro e w27 ⟨rfl, hb⟩; refine ⟨_, rfl, ?_⟩; have n0_ := am (Kd.R_below (by (with_reducible repeat (first | apply Kd.R_alloc | apply Kd.R_drewN | apply Kd.R_drew)); exact HO565.out) hb); have n1_ := am (Kd.R_below (by (with_reducible repeat (first | apply Kd.R_alloc | apply Kd.R_drewN | apply Kd.R_drew)); exact HO571.out) hb); have n2_ := am (Kd.R_below (by (with_reducible repeat (first | apply Kd.R_alloc | apply Kd.R_drewN | apply Kd.R_drew)); exact HO574.out) hb); have n3_ := am (blk_below (by (with_reducible repeat (first | refine blk_drewN ?_ _ | refine blk_drew ?_ | refine blk_alloc ?_ _)); exact BK561.out) hb); have n4_ := am (below_step (by repeat (first | (with_reducible first | exact HB.out | apply below_alloc | apply pw_below_drewN | apply below_drew1 | refine below_set ?_ GE561.out) | exact HB.out)) hb); clear HO565; clear HO571; clear HO574; clear BK561; clear HB; have HO565 := n0_; have HO571 := n1_; have HO574 := n2_; have BK561 := n3_; have HB := n4_; clear n0_ n1_ n2_ n3_ n4_; (try clear hb); (try clear hb2); (try clear hk); (try clear hi); obtain ⟨Ao28, co28, eo28⟩ := Kd.R_slice HO574.out; subst eo28) | ((with_reducible refine gate_callee (f := 39) rfl ?_); refine goesL_ (some 28) rfl rfl Try.func39 (by kernel_rfl) rfl #[.slice Ao28 t572.length co28, .agg #[.int .i64 t575, .int .i64 t576, .int .i64 t577]] rfl (by (try simp only [List.map_toArray, List.map_cons, List.map_nil]); first | done | rfl | (simp only [List.length_drop, List.length_take]; rfl)) ?_; (with_reducible refine (impl_AppliesTo.calls k _ _ t572 t575 t576 t577 t578 _ ?side1 ?side2 A11.out).mono ?_); (case side1 => repeat (first | exact (Kd.R_reads' HO574.out).2.2 | (with_reducible refine Kd.C_alloc ?_ _) | (with_reducible refine Kd.C_drewN ?_ _) | (with_reducible refine Kd.C_drew ?_))); (case side2 => exact (Kd.R_reads' HO574.out).2.1); rintro e w29 ⟨v579, rfl, ho0, hb⟩; refine ⟨_, rfl, ?_⟩; have n0_ := am (Kd.R_below (by (with_reducible repeat (first | apply Kd.R_alloc | apply Kd.R_drewN | apply Kd.R_drew)); exact HO565.out) hb); have n1_ := am (Kd.R_elder' (by (with_reducible repeat (first | apply Kd.R_alloc | apply Kd.R_drewN | apply Kd.R_drew)); exact HO571.out) (Kd.R_base ho0) hb); have n2_ := am (Kd.R_below (by (with_reducible repeat (first | apply Kd.R_alloc | apply Kd.R_drewN | apply Kd.R_drew)); exact HO574.out) hb); have n3_ := am (Kd.R_lower (Kd.R_new' ho0 (Kd.R_lt (by (with_reducible repeat (first | apply Kd.R_alloc | apply Kd.R_drewN | apply Kd.R_drew)); exact HO571.out))) (below_size (by repeat (first | (with_reducible first | exact HB.out | apply below_alloc | apply pw_below_drewN | apply below_drew1 | refine below_set ?_ GE561.out) | exact HB.out)))); have n4_ := am (blk_below (by (with_reducible repeat (first | refine blk_drewN ?_ _ | refine blk_drew ?_ | refine blk_alloc ?_ _)); exact BK561.out) hb); have n5_ := am (below_step (by repeat (first | (with_reducible first | exact HB.out | apply below_alloc | apply pw_below_drewN | apply below_drew1 | refine below_set ?_ GE561.out) | exact HB.out)) hb); clear HO565; clear HO571; clear HO574; clear BK561; clear HB; have HO565 := n0_; have HO571 := n1_; have HO574 := n2_; have HO580 := n3_; have BK561 := n4_; have HB := n5_; clear n0_ n1_ n2_ n3_ n4_ n5_; (try clear hb); (try clear hb2); (try clear hk); (try clear hi); (try clear ho0); obtain ⟨Ao30, co30, eo30⟩ := Kd.R_slice HO580.out; subst eo30; obtain ⟨Ao31, co31, eo31⟩ := Kd.R_slice HO571.out; subst eo31) | ((with_reducible refine gate_callee (f := 40) rfl ?_); refine goesL_ (some 31) rfl rfl Try.func40 (by kernel_rfl) rfl #[.slice Ao30 t578.length co30, .slice Ao31 t569.length co31] rfl (by (try simp only [List.map_toArray, List.map_cons, List.map_nil]); first | done | rfl | (simp only [List.length_drop, List.length_take]; rfl)) ?_; (with_reducible refine (laws_eqIntS.calls k _ _ t578 _ _ t569 true _ ?side1 ?side2 ?side3 ?side4 A12.out).mono ?_); (case side1 => repeat (first | exact (Kd.R_reads' HO580.out).2.2 | (with_reducible refine Kd.C_alloc ?_ _) | (with_reducible refine Kd.C_drewN ?_ _) | (with_reducible refine Kd.C_drew ?_))); (case side2 => exact (Kd.R_reads' HO580.out).2.1); (case side3 => repeat (first | exact (Kd.R_reads' HO571.out).2.2 | (with_reducible refine Kd.C_alloc ?_ _) | (with_reducible refine Kd.C_drewN ?_ _) | (with_reducible refine Kd.C_drew ?_))); (case side4 => exact (Kd.R_reads' HO571.out).2.1); rintro e w' ⟨rfl, ⟨nd, rfl⟩⟩; refine ⟨_, rfl, ?_⟩) | ((with_reducible refine gate_callee (f := 17) rfl ?_); refine goesL_ (some 35) rfl rfl Try.func17 (by kernel_rfl) rfl #[.slice A0 l0.length c0] rfl (by (try simp only [List.map_toArray, List.map_cons, List.map_nil]); first | done | rfl | (simp only [List.length_drop, List.length_take]; rfl)) ?_; (with_reducible refine (laws_toRuleS.calls k _ _ l0 t582 _ ?side1 ?side2 A14.out).mono ?_); (case side1 => repeat (first | exact (Kd.C_below HR0.out (by repeat (first | (with_reducible first | exact HB.out | apply below_alloc | apply pw_below_drewN | apply below_drew1 | refine below_set ?_ GE561.out) | exact HB.out))) | (with_reducible refine Kd.C_alloc ?_ _) | (with_reducible refine Kd.C_drewN ?_ _) | (with_reducible refine Kd.C_drew ?_))); (case side2 => exact HC0.out); rintro e w32 ⟨v583, rfl, ho0, hb⟩; refine ⟨_, rfl, ?_⟩; have n0_ := am (Kd.R_elder' (by (with_reducible repeat (first | apply Kd.R_alloc | apply Kd.R_drewN | apply Kd.R_drew)); exact HO565.out) (Kd.R_base ho0) hb); have n1_ := am (Kd.R_below (by (with_reducible repeat (first | apply Kd.R_alloc | apply Kd.R_drewN | apply Kd.R_drew)); exact HO571.out) hb); have n2_ := am (Kd.R_elder' (by (with_reducible repeat (first | apply Kd.R_alloc | apply Kd.R_drewN | apply Kd.R_drew)); exact HO574.out) (Kd.R_base ho0) hb); have n3_ := am (Kd.R_below (by (with_reducible repeat (first | apply Kd.R_alloc | apply Kd.R_drewN | apply Kd.R_drew)); exact HO580.out) hb); have n4_ := am (Kd.R_lower (Kd.R_new' (Kd.R_new' ho0 (Kd.R_lt (by (with_reducible repeat (first | apply Kd.R_alloc | apply Kd.R_drewN | apply Kd.R_drew)); exact HO565.out))) (Kd.R_lt (by (with_reducible repeat (first | apply Kd.R_alloc | apply Kd.R_drewN | apply Kd.R_drew)); exact HO574.out))) (below_size (by repeat (first | (with_reducible first | exact HB.out | apply below_alloc | apply pw_below_drewN | apply below_drew1 | refine below_set ?_ GE561.out) | exact HB.out)))); have n5_ := am (blk_below (by (with_reducible repeat (first | refine blk_drewN ?_ _ | refine blk_drew ?_ | refine blk_alloc ?_ _)); exact BK561.out) hb); have n6_ := am (below_step (by repeat (first | (with_reducible first | exact HB.out | apply below_alloc | apply pw_below_drewN | apply below_drew1 | refine below_set ?_ GE561.out) | exact HB.out)) hb); clear HO565; clear HO571; clear HO574; clear HO580; clear BK561; clear HB; have HO565 := n0_; have HO571 := n1_; have HO574 := n2_; have HO580 := n3_; have HO584 := n4_; have BK561 := n5_; have HB := n6_; clear n0_ n1_ n2_ n3_ n4_ n5_ n6_; (try clear hb); (try clear hb2); (try clear hk); (try clear hi); (try clear ho0); obtain ⟨Ao33, co33, eo33⟩ := Kd.R_slice HO584.out; subst eo33) | ((with_reducible refine gate_callee (f := 20) rfl ?_); refine goesL_ (some 36) rfl rfl Try.func20 (by kernel_rfl) rfl #[.slice Ao28 t572.length co28, .slice Ao33 t582.length co33] rfl (by (try simp only [List.map_toArray, List.map_cons, List.map_nil]); first | done | rfl | (simp only [List.length_drop, List.length_take]; rfl)) ?_; (with_reducible refine (laws_eqRuleS.calls k _ _ t572 _ _ t582 true _ ?side1 ?side2 ?side3 ?side4 A15.out).mono ?_); (case side1 => repeat (first | exact (Kd.R_reads' HO574.out).2.2 | (with_reducible refine Kd.C_alloc ?_ _) | (with_reducible refine Kd.C_drewN ?_ _) | (with_reducible refine Kd.C_drew ?_))); (case side2 => exact (Kd.R_reads' HO574.out).2.1); (case side3 => repeat (first | exact (Kd.R_reads' HO584.out).2.2 | (with_reducible refine Kd.C_alloc ?_ _) | (with_reducible refine Kd.C_drewN ?_ _) | (with_reducible refine Kd.C_drew ?_))); (case side4 => exact (Kd.R_reads' HO584.out).2.1); rintro e w34 ⟨rfl, hb⟩; refine ⟨_, rfl, ?_⟩; have n0_ := am (Kd.R_below (by (with_reducible repeat (first | apply Kd.R_alloc | apply Kd.R_drewN | apply Kd.R_drew)); exact HO565.out) hb); have n1_ := am (Kd.R_below (by (with_reducible repeat (first | apply Kd.R_alloc | apply Kd.R_drewN | apply Kd.R_drew)); exact HO571.out) hb); have n2_ := am (Kd.R_below (by (with_reducible repeat (first | apply Kd.R_alloc | apply Kd.R_drewN | apply Kd.R_drew)); exact HO574.out) hb); have n3_ := am (Kd.R_below (by (with_reducible repeat (first | apply Kd.R_alloc | apply Kd.R_drewN | apply Kd.R_drew)); exact HO580.out) hb); have n4_ := am (Kd.R_below (by (with_reducible repeat (first | apply Kd.R_alloc | apply Kd.R_drewN | apply Kd.R_drew)); exact HO584.out) hb); have n5_ := am (blk_below (by (with_reducible repeat (first | refine blk_drewN ?_ _ | refine blk_drew ?_ | refine blk_alloc ?_ _)); exact BK561.out) hb); have n6_ := am (below_step (by repeat (first | (with_reducible first | exact HB.out | apply below_alloc | apply pw_below_drewN | apply below_drew1 | refine below_set ?_ GE561.out) | exact HB.out)) hb); clear HO565; clear HO571; clear HO574; clear HO580; clear HO584; clear BK561; clear HB; have HO565 := n0_; have HO571 := n1_; have HO574 := n2_; have HO580 := n3_; have HO584 := n4_; have BK561 := n5_; have HB := n6_; clear n0_ n1_ n2_ n3_ n4_ n5_ n6_; (try clear hb); (try clear hb2); (try clear hk); (try clear hi)) | ((with_reducible refine gate_callee (f := 41) rfl ?_); refine goesL_ (some 40) rfl rfl Try.func41 (by kernel_rfl) rfl #[.slice Ao28 t572.length co28, .int .i64 1] rfl (by (try simp only [List.map_toArray, List.map_cons, List.map_nil]); first | done | rfl | (simp only [List.length_drop, List.length_take]; rfl)) ?_; (with_reducible refine (laws_markRuleS.calls k (fun k_ => some k_ = (.slice Ao28 t572.length co28 : Value).ownBlock) (.slice Ao28 t572.length co28) t572 1 t586 t587 w _ ?side1 ?side2 A17.out).mono ?_); (case side1 => repeat (first | (with_reducible first | exact HB.out | apply below_alloc | apply pw_below_drewN | apply below_drew1 | refine below_set ?_ GE561.out) | exact HB.out)); (case side2 => exact Kd.R_tight rfl HO574.out); rintro e w35 ⟨rfl, hy0, hb, hkp⟩; refine ⟨_, rfl, ?_⟩; have n0_ := am (blk_kept (by (with_reducible repeat (first | refine blk_drewN ?_ _ | refine blk_drew ?_ | refine blk_alloc ?_ _)); exact BK561.out) hkp (fun hs_ => (fun e_ => (Kd.R_ne HO574.out BK561.out (by decide)) e_) hs_)); have n1_ := am (Kd.R_mono (ok' := fun k_ => some k_ ≠ (.slice Ao28 t572.length co28 : Value).ownBlock ∧ some k_ ≠ (.slice Ao33 t582.length co33 : Value).ownBlock) (Kd.R_keptB (HO565.out) hkp (fun k_ hk_ hs_ => (hk_.1.2) hs_)) (fun k_ hk_ => ⟨hk_.1.1.2, hk_.1.2⟩)); have n2_ := am (Kd.R_mono (ok' := fun k_ => some k_ ≠ (.slice Ao30 t578.length co30 : Value).ownBlock) (Kd.R_keptB ((Kd.R_apart' HO571.out (Kd.R_typed HO574.out) (by decide))) hkp (fun k_ hk_ hs_ => (hk_.2) hs_)) (fun k_ hk_ => hk_.1.1.2)); have n3_ := am (Kd.R_reok rfl hy0 (fun k_ e_ => HO574.out.1 k_ e_)); have n4_ := am (Kd.R_mono (ok' := fun k_ => some k_ ≠ (.slice Ao31 t569.length co31 : Value).ownBlock) (Kd.R_keptB ((Kd.R_apart' HO580.out (Kd.R_typed HO574.out) (by decide))) hkp (fun k_ hk_ hs_ => (hk_.2) hs_)) (fun k_ hk_ => hk_.1.1.2)); have n5_ := am (Kd.R_mono (ok' := fun k_ => some k_ ≠ (.slice Ao23 t563.length co23 : Value).ownBlock ∧ some k_ ≠ (.slice Ao28 t572.length co28 : Value).ownBlock) (Kd.R_keptB (HO584.out) hkp (fun k_ hk_ hs_ => (hk_.2) hs_)) (fun k_ hk_ => ⟨hk_.1.1.2, hk_.1.2⟩)); have n6_ := am (hb); clear BK561; clear HO565; clear HO571; clear HO574; clear HO580; clear HO584; clear HB; have BK561 := n0_; have HO565 := n1_; have HO571 := n2_; have HO574 := n3_; have HO580 := n4_; have HO584 := n5_; have HB := n6_; clear n0_ n1_ n2_ n3_ n4_ n5_ n6_; (try clear hb); (try clear hkp); (try clear hy0)))
        (try simp only [Act.put, List.setIfInBounds_toArray, List.set_cons_zero, List.set_cons_succ])
        go_cut [48] (fun v48 wc => ∃ (kq : Nat) (x48_17 : Bool), v48 = .bool x48_17 ∧ Aside0 (laws_FnExactAppliesTo.j0 kq l0 t569 t578 x48_17 a1_0 a1_1 a1_2 = some r) ∧ Aside0 (kq ≤ k) ∧ Aside0 (Kd.R (Kd.int .i64) 3 wc w.heap.size (fun k_ => some k_ ≠ ((.slice Ao30 t578.length co30) : Value).ownBlock) (.slice Ao31 t569.length co31) t569) ∧ Aside0 (Kd.R (Kd.int .i64) 3 wc w.heap.size (fun k_ => some k_ ≠ ((.slice Ao31 t569.length co31) : Value).ownBlock) (.slice Ao30 t578.length co30) t578) ∧ Aside0 (wc.heap[gb561]? = some (.cells #[.int .i64 a1_0, .int .i64 a1_1, .int .i64 a1_2] 26 (0, 0))) ∧ Aside0 (Below w.heap.size w wc))
        case first =>
          have H := HC18.out
          clear HC18
          by_cases c36 : t586 < 0
          · rw [if_pos c36] at H
            have c36b0 : decide (t586 < 0) = true := decide_eq_true c36
            clear c36
            (first | rw [c36b0] | (simp only [i64_w, i32_w]; rw [c36b0]) | skip)
            have H' := Aside0.mk H
            clear H
            go_wp2
            go_meet
            case rel => exact ⟨_, (true), (by first | rfl | (simp; done) | (simp [*]; done)), H', ⟨by first | omega | exact Nat.le_refl _⟩, ⟨by (with_reducible repeat (first | apply Kd.R_alloc | apply Kd.R_drewN | apply Kd.R_drew)); exact HO571.out⟩, ⟨by (with_reducible repeat (first | apply Kd.R_alloc | apply Kd.R_drewN | apply Kd.R_drew)); exact HO580.out⟩, ⟨by (with_reducible repeat (first | refine blk_drewN ?_ _ | refine blk_drew ?_ | refine blk_alloc ?_ _)); exact BK561.out⟩, ⟨by repeat (first | (with_reducible first | exact HB.out | apply below_alloc | apply pw_below_drewN | apply below_drew1 | refine below_set ?_ GE561.out) | exact HB.out)⟩⟩
          · rw [if_neg c36] at H
            have c36b0 : decide (t586 < 0) = false := decide_eq_false c36
            clear c36
            (first | rw [c36b0] | (simp only [i64_w, i32_w]; rw [c36b0]) | skip)
            replace H := Option.bind_eq_some_iff.mp H
            obtain ⟨t588, A370, H⟩ := H
            replace H : (laws_FnExactAppliesTo.j0 k l0 t569 t578 (!t588) a1_0 a1_1 a1_2) = some r := H
            have A37 := Aside0.mk A370
            clear A370
            have H' := Aside0.mk H
            clear H
            go_wp2_with (first | (go_at_call 40; (with_reducible refine (laws_eqIntS.calls k _ _ t578 _ _ t569 t588 _ ?side1 ?side2 ?side3 ?side4 A37.out).mono ?_); (case side1 => repeat (first | exact (Kd.R_reads' HO580.out).2.2 | (with_reducible refine Kd.C_alloc ?_ _) | (with_reducible refine Kd.C_drewN ?_ _) | (with_reducible refine Kd.C_drew ?_))); (case side2 => exact (Kd.R_reads' HO580.out).2.1); (case side3 => repeat (first | exact (Kd.R_reads' HO571.out).2.2 | (with_reducible refine Kd.C_alloc ?_ _) | (with_reducible refine Kd.C_drewN ?_ _) | (with_reducible refine Kd.C_drew ?_))); (case side4 => exact (Kd.R_reads' HO571.out).2.1); rintro e w' ⟨rfl, ⟨nd, rfl⟩⟩))
            go_meet
            case rel => exact ⟨_, (!t588), (by first | rfl | (simp; done) | (simp [*]; done)), H', ⟨by first | omega | exact Nat.le_refl _⟩, ⟨by (with_reducible repeat (first | apply Kd.R_alloc | apply Kd.R_drewN | apply Kd.R_drew)); exact HO571.out⟩, ⟨by (with_reducible repeat (first | apply Kd.R_alloc | apply Kd.R_drewN | apply Kd.R_drew)); exact HO580.out⟩, ⟨by (with_reducible repeat (first | refine blk_drewN ?_ _ | refine blk_drew ?_ | refine blk_alloc ?_ _)); exact BK561.out⟩, ⟨by repeat (first | (with_reducible first | exact HB.out | apply below_alloc | apply pw_below_drewN | apply below_drew1 | refine below_set ?_ GE561.out) | exact HB.out)⟩⟩
        case rest =>
          clear HC18
          try clear c1
          try clear c2
          try clear p2
          try clear c3
          try clear c4
          try clear c4b0
          try clear c8
          try clear c13
          try clear c15
          try clear c16
          try clear c17
          try clear c18
          try clear c20
          try clear c36
          try clear c36b0
          try clear hcz26_0
          try clear hcz26_1
          try clear hcz26_2
          try clear hfz26_0
          try clear hfz26_1
          try clear hfz26_2
          obtain ⟨kq, x48_17, rfl, HA, HJ17, HO_6, HO_8, BK561, HB⟩ := hcut
          cases kq with
          | zero => exact absurd HA.out (by simp [laws_FnExactAppliesTo.j0])
          | succ kj17 =>
            have H := HA.out
            clear HA
            simp only [laws_FnExactAppliesTo.j0] at H
            by_cases c38 : x48_17 = true
            · subst c38
              have H1 : (some false) = some r := by rw [if_pos rfl] at H; exact H
              clear H
              have H := H1
              clear H1
              exact absurd ((Option.some.inj H).trans HRT.out) (by decide)
            · replace c38 := Bool.eq_false_iff.mpr c38
              subst c38
              have H1 : ((laws_markIntS.f kj17 t578 1).bind fun bt589 => ((laws_heldIntS.f kj17 bt589.2 1).bind fun t591 => (if t591 < 0 then (some false) else (if t591 = bt589.1 then ((laws_toRuleS.f kj17 l0).bind fun t592 => ((laws_toRequest.f a1_0 a1_1 a1_2).bind fun bt595 => ((impl_AppliesTo.f kj17 t592 bt595.1 bt595.2.1 bt595.2.2).bind fun t598 => ((laws_eqIntS.f kj17 t598 t569).bind fun t601 => (if t601 = true then ((laws_heldIntS.f kj17 bt589.2 1).bind fun t602 => (if t602 < 0 then (some false) else (if t602 = bt589.1 then (some true) else (some false)))) else (some false)))))) else (some false))))) = some r := by rw [if_neg (show ¬ (false = true) by decide)] at H; exact H
              clear H
              have H := H1
              clear H1
              replace H := Option.bind_eq_some_iff.mp H
              obtain ⟨⟨t589, t590⟩, A390, H⟩ := H
              replace H : ((laws_heldIntS.f kj17 t590 1).bind fun t591 => (if t591 < 0 then (some false) else (if t591 = t589 then ((laws_toRuleS.f kj17 l0).bind fun t592 => ((laws_toRequest.f a1_0 a1_1 a1_2).bind fun bt595 => ((impl_AppliesTo.f kj17 t592 bt595.1 bt595.2.1 bt595.2.2).bind fun t598 => ((laws_eqIntS.f kj17 t598 t569).bind fun t601 => (if t601 = true then ((laws_heldIntS.f kj17 t590 1).bind fun t602 => (if t602 < 0 then (some false) else (if t602 = t589 then (some true) else (some false)))) else (some false)))))) else (some false)))) = some r := H
              have A39 := Aside0.mk A390
              clear A390
              replace H := Option.bind_eq_some_iff.mp H
              obtain ⟨t591, A400, H⟩ := H
              replace H : (if t591 < 0 then (some false) else (if t591 = t589 then ((laws_toRuleS.f kj17 l0).bind fun t592 => ((laws_toRequest.f a1_0 a1_1 a1_2).bind fun bt595 => ((impl_AppliesTo.f kj17 t592 bt595.1 bt595.2.1 bt595.2.2).bind fun t598 => ((laws_eqIntS.f kj17 t598 t569).bind fun t601 => (if t601 = true then ((laws_heldIntS.f kj17 t590 1).bind fun t602 => (if t602 < 0 then (some false) else (if t602 = t589 then (some true) else (some false)))) else (some false)))))) else (some false))) = some r := H
              have A40 := Aside0.mk A400
              clear A400
              by_cases c41 : t591 < 0
              · rw [if_pos c41] at H
                have c41b0 : decide (t591 < 0) = true := decide_eq_true c41
                clear c41
                exact absurd ((Option.some.inj H).trans HRT.out) (by decide)
              · rw [if_neg c41] at H
                have c41b0 : decide (t591 < 0) = false := decide_eq_false c41
                clear c41
                by_cases c42 : t591 = t589
                · rw [if_pos c42] at H
                  have c42b0 : (t591 == t589) = true := beq_iff_eq.mpr c42
                  have c42b1 : (t591 != t589) = false := bne_eq_false_iff_eq.mpr c42
                  clear c42
                  replace H := Option.bind_eq_some_iff.mp H
                  obtain ⟨t592, A430, H⟩ := H
                  replace H : ((laws_toRequest.f a1_0 a1_1 a1_2).bind fun bt595 => ((impl_AppliesTo.f kj17 t592 bt595.1 bt595.2.1 bt595.2.2).bind fun t598 => ((laws_eqIntS.f kj17 t598 t569).bind fun t601 => (if t601 = true then ((laws_heldIntS.f kj17 t590 1).bind fun t602 => (if t602 < 0 then (some false) else (if t602 = t589 then (some true) else (some false)))) else (some false))))) = some r := H
                  have A43 := Aside0.mk A430
                  clear A430
                  replace H := Option.bind_eq_some_iff.mp H
                  obtain ⟨⟨t595, t596, t597⟩, A440, H⟩ := H
                  replace H : ((impl_AppliesTo.f kj17 t592 t595 t596 t597).bind fun t598 => ((laws_eqIntS.f kj17 t598 t569).bind fun t601 => (if t601 = true then ((laws_heldIntS.f kj17 t590 1).bind fun t602 => (if t602 < 0 then (some false) else (if t602 = t589 then (some true) else (some false)))) else (some false)))) = some r := H
                  have A44 := Aside0.mk A440
                  clear A440
                  replace H := Option.bind_eq_some_iff.mp H
                  obtain ⟨t598, A450, H⟩ := H
                  replace H : ((laws_eqIntS.f kj17 t598 t569).bind fun t601 => (if t601 = true then ((laws_heldIntS.f kj17 t590 1).bind fun t602 => (if t602 < 0 then (some false) else (if t602 = t589 then (some true) else (some false)))) else (some false))) = some r := H
                  have A45 := Aside0.mk A450
                  clear A450
                  replace H := Option.bind_eq_some_iff.mp H
                  obtain ⟨t601, A460, H⟩ := H
                  replace H : (if t601 = true then ((laws_heldIntS.f kj17 t590 1).bind fun t602 => (if t602 < 0 then (some false) else (if t602 = t589 then (some true) else (some false)))) else (some false)) = some r := H
                  have A46 := Aside0.mk A460
                  clear A460
                  by_cases c47 : t601 = true
                  · subst c47
                    have H1 : ((laws_heldIntS.f kj17 t590 1).bind fun t602 => (if t602 < 0 then (some false) else (if t602 = t589 then (some true) else (some false)))) = some r := by rw [if_pos rfl] at H; exact H
                    clear H
                    have H := H1
                    clear H1
                    replace H := Option.bind_eq_some_iff.mp H
                    obtain ⟨t602, A480, H⟩ := H
                    replace H : (if t602 < 0 then (some false) else (if t602 = t589 then (some true) else (some false))) = some r := H
                    have A48 := Aside0.mk A480
                    clear A480
                    by_cases c49 : t602 < 0
                    · rw [if_pos c49] at H
                      have c49b0 : decide (t602 < 0) = true := decide_eq_true c49
                      clear c49
                      exact absurd ((Option.some.inj H).trans HRT.out) (by decide)
                    · rw [if_neg c49] at H
                      have c49b0 : decide (t602 < 0) = false := decide_eq_false c49
                      clear c49
                      by_cases c50 : t602 = t589
                      · rw [if_pos c50] at H
                        have c50b0 : (t602 == t589) = true := beq_iff_eq.mpr c50
                        have c50b1 : (t602 != t589) = false := bne_eq_false_iff_eq.mpr c50
                        clear c50
                        obtain rfl := Option.some.inj H
                        try go_wp2_with (first | ((with_reducible refine gate_callee (f := 42) rfl ?_); refine goesL_ (some 51) rfl rfl Try.func42 (by kernel_rfl) rfl #[.slice Ao30 t578.length co30, .int .i64 1] rfl (by (try simp only [List.map_toArray, List.map_cons, List.map_nil]); first | done | rfl | (simp only [List.length_drop, List.length_take]; rfl)) ?_; (with_reducible refine (laws_markIntS.calls kj17 (fun k_ => some k_ = (.slice Ao30 t578.length co30 : Value).ownBlock) (.slice Ao30 t578.length co30) t578 1 t589 t590 w _ ?side1 ?side2 A39.out).mono ?_); (case side1 => repeat (first | (with_reducible first | exact HB.out | apply below_alloc | apply pw_below_drewN | apply below_drew1 | refine below_set ?_ GE561.out) | exact HB.out)); (case side2 => exact Kd.R_tight rfl HO_8.out); rintro e w51 ⟨rfl, hy0, hb, hkp⟩; refine ⟨_, rfl, ?_⟩; have n0_ := am (Kd.R_mono (ok' := fun k_ => some k_ ≠ (.slice Ao30 t578.length co30 : Value).ownBlock) (Kd.R_keptB (HO_6.out) hkp (fun k_ hk_ hs_ => (hk_) hs_)) (fun k_ hk_ => hk_.1)); have n1_ := am (Kd.R_reok rfl hy0 (fun k_ e_ => HO_8.out.1 k_ e_)); have n2_ := am (blk_kept (by (with_reducible repeat (first | refine blk_drewN ?_ _ | refine blk_drew ?_ | refine blk_alloc ?_ _)); exact BK561.out) hkp (fun hs_ => (fun e_ => (Kd.R_ne HO_8.out BK561.out (by decide)) e_) hs_)); have n3_ := am (hb); clear HO_6; clear HO_8; clear BK561; clear HB; have HO_6 := n0_; have HO_8 := n1_; have BK561 := n2_; have HB := n3_; clear n0_ n1_ n2_ n3_; (try clear hb); (try clear hkp); (try clear hy0)) | ((with_reducible refine gate_callee (f := 43) rfl ?_); refine goesL_ (some 54) rfl rfl Try.func43 (by kernel_rfl) rfl #[.slice Ao30 t590.length co30, .int .i64 1] rfl (by (try simp only [List.map_toArray, List.map_cons, List.map_nil]); first | done | (rw [show t590.length = t578.length from (Kd.R_reads' HO_8.out).1.symm] <;> rfl) | rfl | (simp only [List.length_drop, List.length_take]; rfl)) ?_; (with_reducible refine (laws_heldIntS.calls kj17 _ _ t590 1 t591 _ ?side1 ?side2 A40.out).mono ?_); (case side1 => repeat (first | exact (Kd.R_reads' HO_8.out).2.2 | (with_reducible refine Kd.C_alloc ?_ _) | (with_reducible refine Kd.C_drewN ?_ _) | (with_reducible refine Kd.C_drew ?_))); (case side2 => rw [show t590.length = t578.length from (Kd.R_reads' HO_8.out).1.symm]; exact (Kd.R_reads' HO_8.out).2.1); rintro e w' ⟨rfl, ⟨nd, rfl⟩⟩; refine ⟨_, rfl, ?_⟩))
                        (try (rw [drewN_self w51]; generalize hq_ : World.drewN w51 _ = w51; have n0_ : Aside0 (Kd.R (Kd.int .i64) 3 w51 w.heap.size (fun k_ => some k_ ≠ (.slice Ao30 t578.length co30 : Value).ownBlock) (.slice Ao31 t569.length co31) t569) := ⟨by rw [← hq_]; exact (by (with_reducible repeat (first | apply Kd.R_alloc | apply Kd.R_drewN | apply Kd.R_drew)); exact HO_6.out)⟩; have n1_ : Aside0 (Kd.R (Kd.int .i64) 3 w51 w.heap.size (fun k_ => some k_ ≠ (.slice Ao31 t569.length co31 : Value).ownBlock) (.slice Ao30 t578.length co30) t590) := ⟨by rw [← hq_]; exact (by (with_reducible repeat (first | apply Kd.R_alloc | apply Kd.R_drewN | apply Kd.R_drew)); exact HO_8.out)⟩; have n2_ : Aside0 (w51.heap[gb561]? = some (.cells #[.int .i64 a1_0, .int .i64 a1_1, .int .i64 a1_2] 26 (0, 0))) := ⟨by rw [← hq_]; exact (by (with_reducible repeat (first | refine blk_drewN ?_ _ | refine blk_drew ?_ | refine blk_alloc ?_ _)); exact BK561.out)⟩; have n3_ : Aside0 (Below w.heap.size w w51) := ⟨by rw [← hq_]; exact (by repeat (first | (with_reducible first | exact HB.out | apply below_alloc | apply pw_below_drewN | apply below_drew1 | refine below_set ?_ GE561.out) | exact HB.out))⟩; clear HO_6 HO_8 BK561 HB hq_; have HO_6 := n0_; have HO_8 := n1_; have BK561 := n2_; have HB := n3_; clear n0_ n1_ n2_ n3_))
                        have n0_ := am (Kd.R_drew HO_6.out)
                        have n1_ := am (Kd.R_drew HO_8.out)
                        have n2_ := am (blk_drew BK561.out)
                        have n3_ := am (below_drew1 HB.out)
                        clear HO_6
                        clear HO_8
                        clear BK561
                        clear HB
                        have HO_6 := n0_
                        have HO_8 := n1_
                        have BK561 := n2_
                        have HB := n3_
                        clear n0_ n1_ n2_ n3_
                        refine start_ (n := 6) (S := fun w' => w'.cell? ⟨gb561, 0, none⟩ = some (.int .i64 a1_0) ∧ w'.cell? ⟨gb561, 1, none⟩ = some (.int .i64 a1_1) ∧ w'.cell? ⟨gb561, 2, none⟩ = some (.int .i64 a1_2)) (ds := []) #[false, false, false, false, false, false] (by kernel_rfl) rfl rfl ⟨(blk_cell BK561.out 0).trans rfl, (blk_cell BK561.out 1).trans rfl, (blk_cell BK561.out 2).trans rfl⟩ (fun hHeld => ?_)
                        generalize w51.drew = w52 at HO_6 HO_8 BK561 HB hHeld ⊢
                        refine pure_ (i := 0) (N := some 60) (v := ?_) (a' := ?_) #[true, false, false, false, false, false] rfl rfl (by kernel_rfl) (fun _ _ _ h => h) (Or.inl ⟨by rfl, ?_⟩) ?_ ?_
                        rotate_left
                        · intro w'
                          go_simp
                          with_reducible rfl
                        rotate_left
                        · simp only [Act.put, List.setIfInBounds_toArray, List.set_cons_zero, List.set_cons_succ, i64_w, i32_w]
                          rfl
                        refine take_ (i := 2) (N := some 62) (v := ?_) (a' := ?_) #[true, false, true, false, false, false] rfl rfl (by kernel_rfl) (fun _ _ _ h => h) (Or.inl ⟨by rfl, ?_⟩) hHeld ?_ ?_
                        rotate_left
                        · rintro w' ⟨s0, s1, s2⟩
                          go_simp
                          with_reducible rfl
                        rotate_left
                        · simp only [Act.put, List.setIfInBounds_toArray, List.set_cons_zero, List.set_cons_succ, i64_w, i32_w]
                          rfl
                        refine one_ (i := 1) (N := some 61) #[true, true, true, false, false, false] rfl rfl (by kernel_rfl) (by decide) (fun K hK => ?_)
                        refine goes_ Try.func17 (by kernel_rfl) rfl #[.slice A0 l0.length c0] (by rfl) rfl rfl (by (try simp only [List.map_toArray, List.map_cons, List.map_nil]); first | done | rfl | (simp only [List.length_drop, List.length_take]; rfl)) ?_
                        with_reducible refine (laws_toRuleS.calls kj17 _ _ l0 t592 _ ?side1 ?side2 A43.out).mono ?_
                        (case side1 => repeat (first | exact (Kd.C_below HR0.out HB.out) | (with_reducible refine Kd.C_alloc ?_ _) | (with_reducible refine Kd.C_drewN ?_ _) | (with_reducible refine Kd.C_drew ?_)))
                        (case side2 => exact HC0.out)
                        rintro e w53 ⟨v593, rfl, ho0, hb⟩
                        refine ⟨_, rfl, ?_⟩
                        have n0_ := am (Kd.R_below (by (with_reducible repeat (first | apply Kd.R_alloc | apply Kd.R_drewN | apply Kd.R_drew)); exact HO_6.out) hb)
                        have n1_ := am (Kd.R_below (by (with_reducible repeat (first | apply Kd.R_alloc | apply Kd.R_drewN | apply Kd.R_drew)); exact HO_8.out) hb)
                        have n2_ := am (Kd.R_lower ho0 (below_size (by repeat (first | (with_reducible first | exact HB.out | apply below_alloc | apply pw_below_drewN | apply below_drew1 | refine below_set ?_ GE561.out) | exact HB.out))))
                        have n3_ := am (blk_below (by (with_reducible repeat (first | refine blk_drewN ?_ _ | refine blk_drew ?_ | refine blk_alloc ?_ _)); exact BK561.out) hb)
                        have n4_ := am (below_step (by repeat (first | (with_reducible first | exact HB.out | apply below_alloc | apply pw_below_drewN | apply below_drew1 | refine below_set ?_ GE561.out) | exact HB.out)) hb)
                        clear HO_6
                        clear HO_8
                        clear BK561
                        clear HB
                        have HO_6 := n0_
                        have HO_8 := n1_
                        have HO594 := n2_
                        have BK561 := n3_
                        have HB := n4_
                        clear n0_ n1_ n2_ n3_ n4_
                        (try clear hb)
                        (try clear hb2)
                        (try clear hk)
                        (try clear hi)
                        (try clear ho0)
                        refine hK.out _ _ ⟨(blk_cell BK561.out 0).trans rfl, (blk_cell BK561.out 1).trans rfl, (blk_cell BK561.out 2).trans rfl⟩ (fun hHeld => ?_)
                        clear hK K
                        refine norm_ (a' := ?_) ?_ ?_
                        rotate_left
                        · show Act.put _ (some 61) _ = _
                          simp only [Act.put, List.setIfInBounds_toArray, List.set_cons_zero, List.set_cons_succ, i64_w, i32_w]
                          rfl
                        refine one_ (i := 3) (N := some 63) #[true, true, true, true, false, false] rfl rfl (by kernel_rfl) (by decide) (fun K hK => ?_)
                        refine goes_ Try.func18 (by kernel_rfl) rfl #[.agg #[.int .i64 a1_0, .int .i64 a1_1, .int .i64 a1_2]] (by rfl) rfl rfl (by (try simp only [List.map_toArray, List.map_cons, List.map_nil]); first | done | rfl | (simp only [List.length_drop, List.length_take]; rfl)) ?_
                        with_reducible refine (laws_toRequest.calls a1_0 a1_1 a1_2 t595 t596 t597 _ A44.out).mono ?_
                        rintro e w54 ⟨rfl, hb⟩
                        refine ⟨_, rfl, ?_⟩
                        have n0_ := am (Kd.R_below (by (with_reducible repeat (first | apply Kd.R_alloc | apply Kd.R_drewN | apply Kd.R_drew)); exact HO_6.out) hb)
                        have n1_ := am (Kd.R_below (by (with_reducible repeat (first | apply Kd.R_alloc | apply Kd.R_drewN | apply Kd.R_drew)); exact HO_8.out) hb)
                        have n2_ := am (Kd.R_below (by (with_reducible repeat (first | apply Kd.R_alloc | apply Kd.R_drewN | apply Kd.R_drew)); exact HO594.out) hb)
                        have n3_ := am (blk_below (by (with_reducible repeat (first | refine blk_drewN ?_ _ | refine blk_drew ?_ | refine blk_alloc ?_ _)); exact BK561.out) hb)
                        have n4_ := am (below_step (by repeat (first | (with_reducible first | exact HB.out | apply below_alloc | apply pw_below_drewN | apply below_drew1 | refine below_set ?_ GE561.out) | exact HB.out)) hb)
                        clear HO_6
                        clear HO_8
                        clear HO594
                        clear BK561
                        clear HB
                        have HO_6 := n0_
                        have HO_8 := n1_
                        have HO594 := n2_
                        have BK561 := n3_
                        have HB := n4_
                        clear n0_ n1_ n2_ n3_ n4_
                        (try clear hb)
                        (try clear hb2)
                        (try clear hk)
                        (try clear hi)
                        obtain ⟨Ao55, co55, eo55⟩ := Kd.R_slice HO594.out
                        (first | subst eo55 | (injection eo55 with f1_ f2_ f3_; have f4_ := f1_.symm; have f5_ := f3_.symm; clear f1_ f2_ f3_; subst f4_; subst f5_))
                        refine hK.out _ _ ⟨(blk_cell BK561.out 0).trans rfl, (blk_cell BK561.out 1).trans rfl, (blk_cell BK561.out 2).trans rfl⟩ (fun hHeld => ?_)
                        clear hK K
                        refine norm_ (a' := ?_) ?_ ?_
                        rotate_left
                        · show Act.put _ (some 63) _ = _
                          simp only [Act.put, List.setIfInBounds_toArray, List.set_cons_zero, List.set_cons_succ, i64_w, i32_w]
                          rfl
                        refine one_ (i := 4) (N := some 64) #[true, true, true, true, true, false] rfl rfl (by kernel_rfl) (by decide) (fun K hK => ?_)
                        refine goes_ Try.func39 (by kernel_rfl) rfl #[.slice Ao55 t592.length co55, .agg #[.int .i64 t595, .int .i64 t596, .int .i64 t597]] (by rfl) rfl rfl (by (try simp only [List.map_toArray, List.map_cons, List.map_nil]); first | done | rfl | (simp only [List.length_drop, List.length_take]; rfl)) ?_
                        with_reducible refine (impl_AppliesTo.calls kj17 _ _ t592 t595 t596 t597 t598 _ ?side1 ?side2 A45.out).mono ?_
                        (case side1 => repeat (first | exact (Kd.R_reads' HO594.out).2.2 | (with_reducible refine Kd.C_alloc ?_ _) | (with_reducible refine Kd.C_drewN ?_ _) | (with_reducible refine Kd.C_drew ?_)))
                        (case side2 => exact (Kd.R_reads' HO594.out).2.1)
                        rintro e w56 ⟨v599, rfl, ho0, hb⟩
                        refine ⟨_, rfl, ?_⟩
                        have n0_ := am (Kd.R_elder' (by (with_reducible repeat (first | apply Kd.R_alloc | apply Kd.R_drewN | apply Kd.R_drew)); exact HO_6.out) (Kd.R_base ho0) hb)
                        have n1_ := am (Kd.R_elder' (by (with_reducible repeat (first | apply Kd.R_alloc | apply Kd.R_drewN | apply Kd.R_drew)); exact HO_8.out) (Kd.R_base ho0) hb)
                        have n2_ := am (Kd.R_below (by (with_reducible repeat (first | apply Kd.R_alloc | apply Kd.R_drewN | apply Kd.R_drew)); exact HO594.out) hb)
                        have n3_ := am (Kd.R_lower (Kd.R_new' (Kd.R_new' ho0 (Kd.R_lt (by (with_reducible repeat (first | apply Kd.R_alloc | apply Kd.R_drewN | apply Kd.R_drew)); exact HO_6.out))) (Kd.R_lt (by (with_reducible repeat (first | apply Kd.R_alloc | apply Kd.R_drewN | apply Kd.R_drew)); exact HO_8.out))) (below_size (by repeat (first | (with_reducible first | exact HB.out | apply below_alloc | apply pw_below_drewN | apply below_drew1 | refine below_set ?_ GE561.out) | exact HB.out))))
                        have n4_ := am (blk_below (by (with_reducible repeat (first | refine blk_drewN ?_ _ | refine blk_drew ?_ | refine blk_alloc ?_ _)); exact BK561.out) hb)
                        have n5_ := am (below_step (by repeat (first | (with_reducible first | exact HB.out | apply below_alloc | apply pw_below_drewN | apply below_drew1 | refine below_set ?_ GE561.out) | exact HB.out)) hb)
                        clear HO_6
                        clear HO_8
                        clear HO594
                        clear BK561
                        clear HB
                        have HO_6 := n0_
                        have HO_8 := n1_
                        have HO594 := n2_
                        have HO600 := n3_
                        have BK561 := n4_
                        have HB := n5_
                        clear n0_ n1_ n2_ n3_ n4_ n5_
                        (try clear hb)
                        (try clear hb2)
                        (try clear hk)
                        (try clear hi)
                        (try clear ho0)
                        refine hK.out _ _ ⟨(blk_cell BK561.out 0).trans rfl, (blk_cell BK561.out 1).trans rfl, (blk_cell BK561.out 2).trans rfl⟩ (fun hHeld => ?_)
                        clear hK K
                        refine norm_ (a' := ?_) ?_ ?_
                        rotate_left
                        · show Act.put _ (some 64) _ = _
                          simp only [Act.put, List.setIfInBounds_toArray, List.set_cons_zero, List.set_cons_succ, i64_w, i32_w]
                          rfl
                        refine pure_ (i := 5) (N := some 12) (v := ?_) (a' := ?_) #[true, true, true, true, true, true] rfl rfl (by kernel_rfl) (fun _ _ _ h => h) (Or.inl ⟨by rfl, ?_⟩) ?_ ?_
                        rotate_left
                        · intro w'
                          go_simp
                          with_reducible rfl
                        rotate_left
                        · simp only [Act.put, List.setIfInBounds_toArray, List.set_cons_zero, List.set_cons_succ, i64_w, i32_w]
                          rfl
                        refine done_ (by kernel_rfl) ?_
                        obtain ⟨Ao57, co57, eo57⟩ := Kd.R_slice HO600.out
                        subst eo57
                        try go_wp2_with (first | ((with_reducible refine gate_callee (f := 40) rfl ?_); refine goesL_ (some 67) rfl rfl Try.func40 (by kernel_rfl) rfl #[.slice Ao57 t598.length co57, .slice Ao31 t569.length co31] rfl (by (try simp only [List.map_toArray, List.map_cons, List.map_nil]); first | done | rfl | (simp only [List.length_drop, List.length_take]; rfl)) ?_; (with_reducible refine (laws_eqIntS.calls kj17 _ _ t598 _ _ t569 true _ ?side1 ?side2 ?side3 ?side4 A46.out).mono ?_); (case side1 => repeat (first | exact (Kd.R_reads' HO600.out).2.2 | (with_reducible refine Kd.C_alloc ?_ _) | (with_reducible refine Kd.C_drewN ?_ _) | (with_reducible refine Kd.C_drew ?_))); (case side2 => exact (Kd.R_reads' HO600.out).2.1); (case side3 => repeat (first | exact (Kd.R_reads' HO_6.out).2.2 | (with_reducible refine Kd.C_alloc ?_ _) | (with_reducible refine Kd.C_drewN ?_ _) | (with_reducible refine Kd.C_drew ?_))); (case side4 => exact (Kd.R_reads' HO_6.out).2.1); rintro e w' ⟨rfl, ⟨nd, rfl⟩⟩; refine ⟨_, rfl, ?_⟩) | ((with_reducible refine gate_callee (f := 43) rfl ?_); refine goesL_ (some 71) rfl rfl Try.func43 (by kernel_rfl) rfl #[.slice Ao30 t590.length co30, .int .i64 1] rfl (by (try simp only [List.map_toArray, List.map_cons, List.map_nil]); first | done | (rw [show t590.length = t578.length from (Kd.R_reads' HO_8.out).1.symm] <;> rfl) | rfl | (simp only [List.length_drop, List.length_take]; rfl)) ?_; (with_reducible refine (laws_heldIntS.calls kj17 _ _ t590 1 t602 _ ?side1 ?side2 A48.out).mono ?_); (case side1 => repeat (first | exact (Kd.R_reads' HO_8.out).2.2 | (with_reducible refine Kd.C_alloc ?_ _) | (with_reducible refine Kd.C_drewN ?_ _) | (with_reducible refine Kd.C_drew ?_))); (case side2 => rw [show t590.length = t578.length from (Kd.R_reads' HO_8.out).1.symm]; exact (Kd.R_reads' HO_8.out).2.1); rintro e w' ⟨rfl, ⟨nd, rfl⟩⟩; refine ⟨_, rfl, ?_⟩))
                        go_ret
                        exact ⟨by first | rfl | (simp [errW_none, errW_some] <;> rfl) | (simp [*, errW_none, errW_some] <;> rfl), by repeat (first | (with_reducible first | exact HB.out | apply below_alloc | apply pw_below_drewN | apply below_drew1 | refine below_set ?_ GE561.out) | exact HB.out)⟩
                      · rw [if_neg c50] at H
                        have c50b0 : (t602 == t589) = false := beq_eq_false_iff_ne.mpr c50
                        have c50b1 : (t602 != t589) = true := bne_iff_ne.mpr c50
                        exact absurd ((Option.some.inj H).trans HRT.out) (by decide)
                  · replace c47 := Bool.eq_false_iff.mpr c47
                    subst c47
                    have H1 : (some false) = some r := by rw [if_neg (show ¬ (false = true) by decide)] at H; exact H
                    clear H
                    have H := H1
                    clear H1
                    exact absurd ((Option.some.inj H).trans HRT.out) (by decide)
                · rw [if_neg c42] at H
                  have c42b0 : (t591 == t589) = false := beq_eq_false_iff_ne.mpr c42
                  have c42b1 : (t591 != t589) = true := bne_iff_ne.mpr c42
                  exact absurd ((Option.some.inj H).trans HRT.out) (by decide)
      · replace c16 := Bool.eq_false_iff.mpr c16
        subst c16
        have H1 : (some false) = some r := by rw [if_neg (show ¬ (false = true) by decide)] at H; exact H
        clear H
        have H := H1
        clear H1
        exact absurd ((Option.some.inj H).trans HRT.out) (by decide)
    · replace c13 := Bool.eq_false_iff.mpr c13
      subst c13
      have H1 : (some false) = some r := by rw [if_neg (show ¬ (false = true) by decide)] at H; exact H
      clear H
      have H := H1
      clear H1
      exact absurd ((Option.some.inj H).trans HRT.out) (by decide)

end Go.Proofs.Ytbiolcbejlghmaa.QC
