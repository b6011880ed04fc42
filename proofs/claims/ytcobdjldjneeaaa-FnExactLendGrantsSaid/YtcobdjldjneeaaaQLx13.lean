/- Go functions as Lean functions, each with its walk; printed by a program of this session (a scratch copy of print.py that follows nested field addresses and tells a law for the answer true). -/
import Derived.Test.YtcobdjldjneeaaaQLx0
import Derived.Test.YtcobdjldjneeaaaQLx10
import Derived.Test.YtcobdjldjneeaaaQLx11
import Derived.Test.YtcobdjldjneeaaaQLx12
import Derived.Test.YtcobdjldjneeaaaQLx3
import Derived.Test.YtcobdjldjneeaaaQLx7
import Derived.Test.YtcobdjldjneeaaaQLxM0
namespace Go.Proofs.Ytcobdjldjneeaaa.QL
open Go.RowKit Go.Proofs.YtcobdjldjneeaaaW.PrintWords Go.Proofs.YtcobdjldjneeaaaW.PrintLast Go.Proofs.YtcobdjldjneeaaaW.PrintMore Go.Proofs.Ytcobdjldjneeaaa.Short
attribute [local go_sem] max2_int min2_int max_two min_two max_three min_three max_four min_four   -- for this text's walks alone
set_option linter.unusedVariables false
set_option linter.unusedSimpArgs false

/-! ### laws_FnExactLendGrants: function 3 -/
def laws_FnExactLendGrants.f (k : Nat) (a0 : Int) (a1_0 : Int) (a1_1 : Int) (a2 : Int) : Option (Bool) := (laws_toSite.f a1_0 a1_1).bind fun bt162 => ((spec_LendGrants.f k a0 bt162.1 bt162.2 a2).bind fun t164 => ((laws_toSite.f a1_0 a1_1).bind fun bt167 => ((impl_LendGrants.f a0 bt167.1 bt167.2 a2).bind fun t169 => ((laws_eqGrantS.f k t169 t164).bind fun t172 => (if t172 = true then ((laws_markGrantS.f k t169 1).bind fun bt173 => ((laws_heldGrantS.f k bt173.2 1).bind fun t175 => (if t175 < 0 then (some false) else (if t175 = bt173.1 then ((laws_toSite.f a1_0 a1_1).bind fun bt176 => ((impl_LendGrants.f a0 bt176.1 bt176.2 a2).bind fun t178 => ((laws_eqGrantS.f k t178 t164).bind fun t181 => (if t181 = true then ((laws_heldGrantS.f k bt173.2 1).bind fun t182 => (if t182 < 0 then (some false) else (if t182 = bt173.1 then (some true) else (some false)))) else (some false))))) else (some false))))) else (some false))))))
theorem laws_FnExactLendGrants.mono : ∀ a0 a1 a2 a3 k, LeO (laws_FnExactLendGrants.f k a0 a1 a2 a3) (laws_FnExactLendGrants.f (k + 1) a0 a1 a2 a3) := by
  intro a0 a1 a2 a3 k
  unfold laws_FnExactLendGrants.f
  repeat' first
      | (with_reducible exact laws_eqGrantS.mono _ _ _)
      | (with_reducible exact laws_heldGrantS.mono _ _ _)
      | (with_reducible exact laws_markGrantS.mono _ _ _)
      | (with_reducible exact spec_LendGrants.mono _ _ _ _ _)
      | (with_reducible exact LeO.refl _)
      | (with_reducible exact LeO.none _)
      | (with_reducible refine LeO.ite ?_ ?_)
      | (with_reducible refine LeO.bind ?_ (fun _ => ?_))
      | exact laws_eqGrantS.mono _ _ _
      | exact laws_heldGrantS.mono _ _ _
      | exact laws_markGrantS.mono _ _ _
      | exact spec_LendGrants.mono _ _ _ _ _
      | exact LeO.none _
      | refine LeO.ite ?_ ?_
      | refine LeO.bind ?_ (fun _ => ?_)
set_option maxHeartbeats 8000000 in
set_option maxRecDepth 100000 in
theorem laws_FnExactLendGrants.calls (k : Nat) (a0 : Int) (a1_0 : Int) (a1_1 : Int) (a2 : Int) (r : Bool) (w : World) (h : laws_FnExactLendGrants.f k a0 a1_0 a1_1 a2 = some r) (hr_ : r = true) :
    Calls Try.prog 3 #[.int .i64 a0, .agg #[.int .i64 a1_0, .int .i64 a1_1], .int .i64 a2] w fun e w' => e = .returned (.bool r) ∧ Below w.heap.size w w' := by
  have HRT := Aside0.mk hr_
  clear hr_
  have hu23 := Try.underlying23
  have HB := am (Below.refl w.heap.size w)
  have H : ((laws_toSite.f a1_0 a1_1).bind fun bt162 => ((spec_LendGrants.f k a0 bt162.1 bt162.2 a2).bind fun t164 => ((laws_toSite.f a1_0 a1_1).bind fun bt167 => ((impl_LendGrants.f a0 bt167.1 bt167.2 a2).bind fun t169 => ((laws_eqGrantS.f k t169 t164).bind fun t172 => (if t172 = true then ((laws_markGrantS.f k t169 1).bind fun bt173 => ((laws_heldGrantS.f k bt173.2 1).bind fun t175 => (if t175 < 0 then (some false) else (if t175 = bt173.1 then ((laws_toSite.f a1_0 a1_1).bind fun bt176 => ((impl_LendGrants.f a0 bt176.1 bt176.2 a2).bind fun t178 => ((laws_eqGrantS.f k t178 t164).bind fun t181 => (if t181 = true then ((laws_heldGrantS.f k bt173.2 1).bind fun t182 => (if t182 < 0 then (some false) else (if t182 = bt173.1 then (some true) else (some false)))) else (some false))))) else (some false))))) else (some false))))))) = some r := h
  clear h
  replace H := Option.bind_eq_some_iff.mp H
  obtain ⟨⟨t162, t163⟩, A40, H⟩ := H
  replace H : ((spec_LendGrants.f k a0 t162 t163 a2).bind fun t164 => ((laws_toSite.f a1_0 a1_1).bind fun bt167 => ((impl_LendGrants.f a0 bt167.1 bt167.2 a2).bind fun t169 => ((laws_eqGrantS.f k t169 t164).bind fun t172 => (if t172 = true then ((laws_markGrantS.f k t169 1).bind fun bt173 => ((laws_heldGrantS.f k bt173.2 1).bind fun t175 => (if t175 < 0 then (some false) else (if t175 = bt173.1 then ((laws_toSite.f a1_0 a1_1).bind fun bt176 => ((impl_LendGrants.f a0 bt176.1 bt176.2 a2).bind fun t178 => ((laws_eqGrantS.f k t178 t164).bind fun t181 => (if t181 = true then ((laws_heldGrantS.f k bt173.2 1).bind fun t182 => (if t182 < 0 then (some false) else (if t182 = bt173.1 then (some true) else (some false)))) else (some false))))) else (some false))))) else (some false)))))) = some r := H
  have A4 := Aside0.mk A40
  clear A40
  replace H := Option.bind_eq_some_iff.mp H
  obtain ⟨t164, A50, H⟩ := H
  replace H : ((laws_toSite.f a1_0 a1_1).bind fun bt167 => ((impl_LendGrants.f a0 bt167.1 bt167.2 a2).bind fun t169 => ((laws_eqGrantS.f k t169 t164).bind fun t172 => (if t172 = true then ((laws_markGrantS.f k t169 1).bind fun bt173 => ((laws_heldGrantS.f k bt173.2 1).bind fun t175 => (if t175 < 0 then (some false) else (if t175 = bt173.1 then ((laws_toSite.f a1_0 a1_1).bind fun bt176 => ((impl_LendGrants.f a0 bt176.1 bt176.2 a2).bind fun t178 => ((laws_eqGrantS.f k t178 t164).bind fun t181 => (if t181 = true then ((laws_heldGrantS.f k bt173.2 1).bind fun t182 => (if t182 < 0 then (some false) else (if t182 = bt173.1 then (some true) else (some false)))) else (some false))))) else (some false))))) else (some false))))) = some r := H
  have A5 := Aside0.mk A50
  clear A50
  replace H := Option.bind_eq_some_iff.mp H
  obtain ⟨⟨t167, t168⟩, A60, H⟩ := H
  replace H : ((impl_LendGrants.f a0 t167 t168 a2).bind fun t169 => ((laws_eqGrantS.f k t169 t164).bind fun t172 => (if t172 = true then ((laws_markGrantS.f k t169 1).bind fun bt173 => ((laws_heldGrantS.f k bt173.2 1).bind fun t175 => (if t175 < 0 then (some false) else (if t175 = bt173.1 then ((laws_toSite.f a1_0 a1_1).bind fun bt176 => ((impl_LendGrants.f a0 bt176.1 bt176.2 a2).bind fun t178 => ((laws_eqGrantS.f k t178 t164).bind fun t181 => (if t181 = true then ((laws_heldGrantS.f k bt173.2 1).bind fun t182 => (if t182 < 0 then (some false) else (if t182 = bt173.1 then (some true) else (some false)))) else (some false))))) else (some false))))) else (some false)))) = some r := H
  have A6 := Aside0.mk A60
  clear A60
  replace H := Option.bind_eq_some_iff.mp H
  obtain ⟨t169, A70, H⟩ := H
  replace H : ((laws_eqGrantS.f k t169 t164).bind fun t172 => (if t172 = true then ((laws_markGrantS.f k t169 1).bind fun bt173 => ((laws_heldGrantS.f k bt173.2 1).bind fun t175 => (if t175 < 0 then (some false) else (if t175 = bt173.1 then ((laws_toSite.f a1_0 a1_1).bind fun bt176 => ((impl_LendGrants.f a0 bt176.1 bt176.2 a2).bind fun t178 => ((laws_eqGrantS.f k t178 t164).bind fun t181 => (if t181 = true then ((laws_heldGrantS.f k bt173.2 1).bind fun t182 => (if t182 < 0 then (some false) else (if t182 = bt173.1 then (some true) else (some false)))) else (some false))))) else (some false))))) else (some false))) = some r := H
  have A7 := Aside0.mk A70
  clear A70
  replace H := Option.bind_eq_some_iff.mp H
  obtain ⟨t172, A80, H⟩ := H
  replace H : (if t172 = true then ((laws_markGrantS.f k t169 1).bind fun bt173 => ((laws_heldGrantS.f k bt173.2 1).bind fun t175 => (if t175 < 0 then (some false) else (if t175 = bt173.1 then ((laws_toSite.f a1_0 a1_1).bind fun bt176 => ((impl_LendGrants.f a0 bt176.1 bt176.2 a2).bind fun t178 => ((laws_eqGrantS.f k t178 t164).bind fun t181 => (if t181 = true then ((laws_heldGrantS.f k bt173.2 1).bind fun t182 => (if t182 < 0 then (some false) else (if t182 = bt173.1 then (some true) else (some false)))) else (some false))))) else (some false))))) else (some false)) = some r := H
  have A8 := Aside0.mk A80
  clear A80
  by_cases c9 : t172 = true
  · subst c9
    have H1 : ((laws_markGrantS.f k t169 1).bind fun bt173 => ((laws_heldGrantS.f k bt173.2 1).bind fun t175 => (if t175 < 0 then (some false) else (if t175 = bt173.1 then ((laws_toSite.f a1_0 a1_1).bind fun bt176 => ((impl_LendGrants.f a0 bt176.1 bt176.2 a2).bind fun t178 => ((laws_eqGrantS.f k t178 t164).bind fun t181 => (if t181 = true then ((laws_heldGrantS.f k bt173.2 1).bind fun t182 => (if t182 < 0 then (some false) else (if t182 = bt173.1 then (some true) else (some false)))) else (some false))))) else (some false))))) = some r := by rw [if_pos rfl] at H; exact H
    clear H
    have H := H1
    clear H1
    replace H := Option.bind_eq_some_iff.mp H
    obtain ⟨⟨t173, t174⟩, A100, H⟩ := H
    replace H : ((laws_heldGrantS.f k t174 1).bind fun t175 => (if t175 < 0 then (some false) else (if t175 = t173 then ((laws_toSite.f a1_0 a1_1).bind fun bt176 => ((impl_LendGrants.f a0 bt176.1 bt176.2 a2).bind fun t178 => ((laws_eqGrantS.f k t178 t164).bind fun t181 => (if t181 = true then ((laws_heldGrantS.f k t174 1).bind fun t182 => (if t182 < 0 then (some false) else (if t182 = t173 then (some true) else (some false)))) else (some false))))) else (some false)))) = some r := H
    have A10 := Aside0.mk A100
    clear A100
    replace H := Option.bind_eq_some_iff.mp H
    obtain ⟨t175, A110, H⟩ := H
    replace H : (if t175 < 0 then (some false) else (if t175 = t173 then ((laws_toSite.f a1_0 a1_1).bind fun bt176 => ((impl_LendGrants.f a0 bt176.1 bt176.2 a2).bind fun t178 => ((laws_eqGrantS.f k t178 t164).bind fun t181 => (if t181 = true then ((laws_heldGrantS.f k t174 1).bind fun t182 => (if t182 < 0 then (some false) else (if t182 = t173 then (some true) else (some false)))) else (some false))))) else (some false))) = some r := H
    have A11 := Aside0.mk A110
    clear A110
    by_cases c12 : t175 < 0
    · rw [if_pos c12] at H
      have c12b0 : decide (t175 < 0) = true := decide_eq_true c12
      clear c12
      exact absurd ((Option.some.inj H).trans HRT.out) (by decide)
    · rw [if_neg c12] at H
      have c12b0 : decide (t175 < 0) = false := decide_eq_false c12
      clear c12
      by_cases c13 : t175 = t173
      · rw [if_pos c13] at H
        have c13b0 : (t175 == t173) = true := beq_iff_eq.mpr c13
        have c13b1 : (t175 != t173) = false := bne_eq_false_iff_eq.mpr c13
        clear c13
        replace H := Option.bind_eq_some_iff.mp H
        obtain ⟨⟨t176, t177⟩, A140, H⟩ := H
        replace H : ((impl_LendGrants.f a0 t176 t177 a2).bind fun t178 => ((laws_eqGrantS.f k t178 t164).bind fun t181 => (if t181 = true then ((laws_heldGrantS.f k t174 1).bind fun t182 => (if t182 < 0 then (some false) else (if t182 = t173 then (some true) else (some false)))) else (some false)))) = some r := H
        have A14 := Aside0.mk A140
        clear A140
        replace H := Option.bind_eq_some_iff.mp H
        obtain ⟨t178, A150, H⟩ := H
        replace H : ((laws_eqGrantS.f k t178 t164).bind fun t181 => (if t181 = true then ((laws_heldGrantS.f k t174 1).bind fun t182 => (if t182 < 0 then (some false) else (if t182 = t173 then (some true) else (some false)))) else (some false))) = some r := H
        have A15 := Aside0.mk A150
        clear A150
        replace H := Option.bind_eq_some_iff.mp H
        obtain ⟨t181, A160, H⟩ := H
        replace H : (if t181 = true then ((laws_heldGrantS.f k t174 1).bind fun t182 => (if t182 < 0 then (some false) else (if t182 = t173 then (some true) else (some false)))) else (some false)) = some r := H
        have A16 := Aside0.mk A160
        clear A160
        by_cases c17 : t181 = true
        · subst c17
          have H1 : ((laws_heldGrantS.f k t174 1).bind fun t182 => (if t182 < 0 then (some false) else (if t182 = t173 then (some true) else (some false)))) = some r := by rw [if_pos rfl] at H; exact H
          clear H
          have H := H1
          clear H1
          replace H := Option.bind_eq_some_iff.mp H
          obtain ⟨t182, A180, H⟩ := H
          replace H : (if t182 < 0 then (some false) else (if t182 = t173 then (some true) else (some false))) = some r := H
          have A18 := Aside0.mk A180
          clear A180
          by_cases c19 : t182 < 0
          · rw [if_pos c19] at H
            have c19b0 : decide (t182 < 0) = true := decide_eq_true c19
            clear c19
            exact absurd ((Option.some.inj H).trans HRT.out) (by decide)
          · rw [if_neg c19] at H
            have c19b0 : decide (t182 < 0) = false := decide_eq_false c19
            clear c19
            by_cases c20 : t182 = t173
            · rw [if_pos c20] at H
              have c20b0 : (t182 == t173) = true := beq_iff_eq.mpr c20
              have c20b1 : (t182 != t173) = false := bne_eq_false_iff_eq.mpr c20
              clear c20
              obtain rfl := Option.some.inj H
              go_enter Try.func3, Try.ntmps3
              go_wp2_with (first | ((with_reducible refine gate_dst (N := 4) rfl ?_); refine box_event ?hg (N := 4) ?hd (cs := #[.int .i64 a1_0, .int .i64 a1_1]) (t := 23) ?hr ?_; (case hd => rfl); (case hg => rfl); (case hr => first | (go_simp; done) | (go_simp; rfl)); intro gb161 hg w21 hbox hb; have q_ := hbx_ (by repeat (first | (with_reducible first | exact HB.out | apply below_alloc | apply pw_below_drewN | apply below_drew1) | exact HB.out)) hg hb; have n0_ := q_.1; have n1_ := am (hbox); have n2_ := q_.2; have n3_ := n2_; clear HB; have HB := n0_; have BK161 := n1_; have GW161 := n2_; have GE161 := n3_; clear n0_ n1_ n2_ n3_ hb hbox hg; obtain ⟨hcz22_0, hcz22_1, hfz22_0, hfz22_1⟩ := blk2 BK161.out) | ((with_reducible refine gate_callee (f := 5) rfl ?_); refine goesL_ (some 14) rfl rfl Try.func5 (by kernel_rfl) rfl #[.agg #[.int .i64 a1_0, .int .i64 a1_1]] rfl (by (try simp only [List.map_toArray, List.map_cons, List.map_nil]); first | done | rfl | (simp only [List.length_drop, List.length_take]; rfl)) ?_; (with_reducible refine (laws_toSite.calls a1_0 a1_1 t162 t163 _ A4.out).mono ?_); rintro e w23 ⟨rfl, hb⟩; refine ⟨_, rfl, ?_⟩; have n0_ := am (blk_below (by (with_reducible repeat (first | refine blk_drewN ?_ _ | refine blk_drew ?_ | refine blk_alloc ?_ _)); exact BK161.out) hb); have n1_ := am (below_step (by repeat (first | (with_reducible first | exact HB.out | apply below_alloc | apply pw_below_drewN | apply below_drew1 | refine below_set ?_ GE161.out) | exact HB.out)) hb); clear BK161; clear HB; have BK161 := n0_; have HB := n1_; clear n0_ n1_; (try clear hb); (try clear hb2); (try clear hk); (try clear hi)) | ((with_reducible refine gate_callee (f := 4) rfl ?_); refine goesL_ (some 16) rfl rfl Try.func4 (by kernel_rfl) rfl #[.int .i64 a0, .agg #[.int .i64 t162, .int .i64 t163], .int .i64 a2] rfl (by (try simp only [List.map_toArray, List.map_cons, List.map_nil]); first | done | rfl | (simp only [List.length_drop, List.length_take]; rfl)) ?_; (with_reducible refine (spec_LendGrants.calls k a0 t162 t163 a2 t164 _ A5.out).mono ?_); rintro e w24 ⟨v165, rfl, ho0, hb⟩; refine ⟨_, rfl, ?_⟩; have n0_ := am (Kd.R_lower ho0 (below_size (by repeat (first | (with_reducible first | exact HB.out | apply below_alloc | apply pw_below_drewN | apply below_drew1 | refine below_set ?_ GE161.out) | exact HB.out)))); have n1_ := am (blk_below (by (with_reducible repeat (first | refine blk_drewN ?_ _ | refine blk_drew ?_ | refine blk_alloc ?_ _)); exact BK161.out) hb); have n2_ := am (below_step (by repeat (first | (with_reducible first | exact HB.out | apply below_alloc | apply pw_below_drewN | apply below_drew1 | refine below_set ?_ GE161.out) | exact HB.out)) hb); clear BK161; clear HB; have HO166 := n0_; have BK161 := n1_; have HB := n2_; clear n0_ n1_ n2_; (try clear hb); (try clear hb2); (try clear hk); (try clear hi); (try clear ho0); obtain ⟨hcz25_0, hcz25_1, hfz25_0, hfz25_1⟩ := blk2 BK161.out) | ((with_reducible refine gate_callee (f := 5) rfl ?_); refine goesL_ (some 19) rfl rfl Try.func5 (by kernel_rfl) rfl #[.agg #[.int .i64 a1_0, .int .i64 a1_1]] rfl (by (try simp only [List.map_toArray, List.map_cons, List.map_nil]); first | done | rfl | (simp only [List.length_drop, List.length_take]; rfl)) ?_; (with_reducible refine (laws_toSite.calls a1_0 a1_1 t167 t168 _ A6.out).mono ?_); rintro e w26 ⟨rfl, hb⟩; refine ⟨_, rfl, ?_⟩; have n0_ := am (Kd.R_below (by (with_reducible repeat (first | apply Kd.R_alloc | apply Kd.R_drewN | apply Kd.R_drew)); exact HO166.out) hb); have n1_ := am (blk_below (by (with_reducible repeat (first | refine blk_drewN ?_ _ | refine blk_drew ?_ | refine blk_alloc ?_ _)); exact BK161.out) hb); have n2_ := am (below_step (by repeat (first | (with_reducible first | exact HB.out | apply below_alloc | apply pw_below_drewN | apply below_drew1 | refine below_set ?_ GE161.out) | exact HB.out)) hb); clear HO166; clear BK161; clear HB; have HO166 := n0_; have BK161 := n1_; have HB := n2_; clear n0_ n1_ n2_; (try clear hb); (try clear hb2); (try clear hk); (try clear hi)) | ((with_reducible refine gate_callee (f := 6) rfl ?_); refine goesL_ (some 21) rfl rfl Try.func6 (by kernel_rfl) rfl #[.int .i64 a0, .agg #[.int .i64 t167, .int .i64 t168], .int .i64 a2] rfl (by (try simp only [List.map_toArray, List.map_cons, List.map_nil]); first | done | rfl | (simp only [List.length_drop, List.length_take]; rfl)) ?_; (with_reducible refine (impl_LendGrants.calls a0 t167 t168 a2 t169 _ A7.out).mono ?_); rintro e w27 ⟨v170, rfl, ho0, hb⟩; refine ⟨_, rfl, ?_⟩; have n0_ := am (Kd.R_elder' (by (with_reducible repeat (first | apply Kd.R_alloc | apply Kd.R_drewN | apply Kd.R_drew)); exact HO166.out) (Kd.R_base ho0) hb); have n1_ := am (Kd.R_lower (Kd.R_new' ho0 (Kd.R_lt (by (with_reducible repeat (first | apply Kd.R_alloc | apply Kd.R_drewN | apply Kd.R_drew)); exact HO166.out))) (below_size (by repeat (first | (with_reducible first | exact HB.out | apply below_alloc | apply pw_below_drewN | apply below_drew1 | refine below_set ?_ GE161.out) | exact HB.out)))); have n2_ := am (blk_below (by (with_reducible repeat (first | refine blk_drewN ?_ _ | refine blk_drew ?_ | refine blk_alloc ?_ _)); exact BK161.out) hb); have n3_ := am (below_step (by repeat (first | (with_reducible first | exact HB.out | apply below_alloc | apply pw_below_drewN | apply below_drew1 | refine below_set ?_ GE161.out) | exact HB.out)) hb); clear HO166; clear BK161; clear HB; have HO166 := n0_; have HO171 := n1_; have BK161 := n2_; have HB := n3_; clear n0_ n1_ n2_ n3_; (try clear hb); (try clear hb2); (try clear hk); (try clear hi); (try clear ho0); obtain ⟨Ao28, co28, eo28⟩ := Kd.R_slice HO171.out; subst eo28; obtain ⟨Ao29, co29, eo29⟩ := Kd.R_slice HO166.out; subst eo29) | ((with_reducible refine gate_callee (f := 7) rfl ?_); refine goesL_ (some 24) rfl rfl Try.func7 (by kernel_rfl) rfl #[.slice Ao28 t169.length co28, .slice Ao29 t164.length co29] rfl (by (try simp only [List.map_toArray, List.map_cons, List.map_nil]); first | done | rfl | (simp only [List.length_drop, List.length_take]; rfl)) ?_; (with_reducible refine (laws_eqGrantS.calls k _ _ t169 _ _ t164 true _ ?side1 ?side2 ?side3 ?side4 A8.out).mono ?_); (case side1 => repeat (first | exact (Kd.R_reads' HO171.out).2.2 | (with_reducible refine Kd.C_alloc ?_ _) | (with_reducible refine Kd.C_drewN ?_ _) | (with_reducible refine Kd.C_drew ?_))); (case side2 => exact (Kd.R_reads' HO171.out).2.1); (case side3 => repeat (first | exact (Kd.R_reads' HO166.out).2.2 | (with_reducible refine Kd.C_alloc ?_ _) | (with_reducible refine Kd.C_drewN ?_ _) | (with_reducible refine Kd.C_drew ?_))); (case side4 => exact (Kd.R_reads' HO166.out).2.1); rintro e w30 ⟨rfl, hb⟩; refine ⟨_, rfl, ?_⟩; have n0_ := am (Kd.R_below (by (with_reducible repeat (first | apply Kd.R_alloc | apply Kd.R_drewN | apply Kd.R_drew)); exact HO166.out) hb); have n1_ := am (Kd.R_below (by (with_reducible repeat (first | apply Kd.R_alloc | apply Kd.R_drewN | apply Kd.R_drew)); exact HO171.out) hb); have n2_ := am (blk_below (by (with_reducible repeat (first | refine blk_drewN ?_ _ | refine blk_drew ?_ | refine blk_alloc ?_ _)); exact BK161.out) hb); have n3_ := am (below_step (by repeat (first | (with_reducible first | exact HB.out | apply below_alloc | apply pw_below_drewN | apply below_drew1 | refine below_set ?_ GE161.out) | exact HB.out)) hb); clear HO166; clear HO171; clear BK161; clear HB; have HO166 := n0_; have HO171 := n1_; have BK161 := n2_; have HB := n3_; clear n0_ n1_ n2_ n3_; (try clear hb); (try clear hb2); (try clear hk); (try clear hi)) | ((with_reducible refine gate_callee (f := 8) rfl ?_); refine goesL_ (some 28) rfl rfl Try.func8 (by kernel_rfl) rfl #[.slice Ao28 t169.length co28, .int .i64 1] rfl (by (try simp only [List.map_toArray, List.map_cons, List.map_nil]); first | done | rfl | (simp only [List.length_drop, List.length_take]; rfl)) ?_; (with_reducible refine (laws_markGrantS.calls k (fun k_ => some k_ = (.slice Ao28 t169.length co28 : Value).ownBlock) (.slice Ao28 t169.length co28) t169 1 t173 t174 w _ ?side1 ?side2 A10.out).mono ?_); (case side1 => repeat (first | (with_reducible first | exact HB.out | apply below_alloc | apply pw_below_drewN | apply below_drew1 | refine below_set ?_ GE161.out) | exact HB.out)); (case side2 => exact Kd.R_tight rfl HO171.out); rintro e w31 ⟨rfl, hy0, hb, hkp⟩; refine ⟨_, rfl, ?_⟩; have n0_ := am (blk_kept (by (with_reducible repeat (first | refine blk_drewN ?_ _ | refine blk_drew ?_ | refine blk_alloc ?_ _)); exact BK161.out) hkp (fun hs_ => (fun e_ => (Kd.R_ne HO171.out BK161.out (by decide)) e_) hs_)); have n1_ := am (Kd.R_mono (ok' := fun k_ => some k_ ≠ (.slice Ao28 t169.length co28 : Value).ownBlock) (Kd.R_keptB (HO166.out) hkp (fun k_ hk_ hs_ => (hk_.2) hs_)) (fun k_ hk_ => hk_.1.2)); have n2_ := am (Kd.R_reok rfl hy0 (fun k_ e_ => HO171.out.1 k_ e_)); have n3_ := am (hb); clear BK161; clear HO166; clear HO171; clear HB; have BK161 := n0_; have HO166 := n1_; have HO171 := n2_; have HB := n3_; clear n0_ n1_ n2_ n3_; (try clear hb); (try clear hkp); (try clear hy0)) | ((with_reducible refine gate_callee (f := 9) rfl ?_); refine goesL_ (some 31) rfl rfl Try.func9 (by kernel_rfl) rfl #[.slice Ao28 t174.length co28, .int .i64 1] rfl (by (try simp only [List.map_toArray, List.map_cons, List.map_nil]); first | done | (rw [show t174.length = t169.length from (Kd.R_reads' HO171.out).1.symm] <;> rfl) | rfl | (simp only [List.length_drop, List.length_take]; rfl)) ?_; (with_reducible refine (laws_heldGrantS.calls k _ _ t174 1 t175 _ ?side1 ?side2 A11.out).mono ?_); (case side1 => repeat (first | exact (Kd.R_reads' HO171.out).2.2 | (with_reducible refine Kd.C_alloc ?_ _) | (with_reducible refine Kd.C_drewN ?_ _) | (with_reducible refine Kd.C_drew ?_))); (case side2 => rw [show t174.length = t169.length from (Kd.R_reads' HO171.out).1.symm]; exact (Kd.R_reads' HO171.out).2.1); rintro e w' ⟨rfl, ⟨nd, rfl⟩⟩; refine ⟨_, rfl, ?_⟩; obtain ⟨hcz32_0, hcz32_1, hfz32_0, hfz32_1⟩ := blk2 BK161.out) | ((with_reducible refine gate_callee (f := 5) rfl ?_); refine goesL_ (some 39) rfl rfl Try.func5 (by kernel_rfl) rfl #[.agg #[.int .i64 a1_0, .int .i64 a1_1]] rfl (by (try simp only [List.map_toArray, List.map_cons, List.map_nil]); first | done | rfl | (simp only [List.length_drop, List.length_take]; rfl)) ?_; (with_reducible refine (laws_toSite.calls a1_0 a1_1 t176 t177 _ A14.out).mono ?_); rintro e w33 ⟨rfl, hb⟩; refine ⟨_, rfl, ?_⟩; have n0_ := am (Kd.R_below (by (with_reducible repeat (first | apply Kd.R_alloc | apply Kd.R_drewN | apply Kd.R_drew)); exact HO166.out) hb); have n1_ := am (Kd.R_below (by (with_reducible repeat (first | apply Kd.R_alloc | apply Kd.R_drewN | apply Kd.R_drew)); exact HO171.out) hb); have n2_ := am (blk_below (by (with_reducible repeat (first | refine blk_drewN ?_ _ | refine blk_drew ?_ | refine blk_alloc ?_ _)); exact BK161.out) hb); have n3_ := am (below_step (by repeat (first | (with_reducible first | exact HB.out | apply below_alloc | apply pw_below_drewN | apply below_drew1 | refine below_set ?_ GE161.out) | exact HB.out)) hb); clear HO166; clear HO171; clear BK161; clear HB; have HO166 := n0_; have HO171 := n1_; have BK161 := n2_; have HB := n3_; clear n0_ n1_ n2_ n3_; (try clear hb); (try clear hb2); (try clear hk); (try clear hi)) | ((with_reducible refine gate_callee (f := 6) rfl ?_); refine goesL_ (some 41) rfl rfl Try.func6 (by kernel_rfl) rfl #[.int .i64 a0, .agg #[.int .i64 t176, .int .i64 t177], .int .i64 a2] rfl (by (try simp only [List.map_toArray, List.map_cons, List.map_nil]); first | done | rfl | (simp only [List.length_drop, List.length_take]; rfl)) ?_; (with_reducible refine (impl_LendGrants.calls a0 t176 t177 a2 t178 _ A15.out).mono ?_); rintro e w34 ⟨v179, rfl, ho0, hb⟩; refine ⟨_, rfl, ?_⟩; have n0_ := am (Kd.R_elder' (by (with_reducible repeat (first | apply Kd.R_alloc | apply Kd.R_drewN | apply Kd.R_drew)); exact HO166.out) (Kd.R_base ho0) hb); have n1_ := am (Kd.R_elder' (by (with_reducible repeat (first | apply Kd.R_alloc | apply Kd.R_drewN | apply Kd.R_drew)); exact HO171.out) (Kd.R_base ho0) hb); have n2_ := am (Kd.R_lower (Kd.R_new' (Kd.R_new' ho0 (Kd.R_lt (by (with_reducible repeat (first | apply Kd.R_alloc | apply Kd.R_drewN | apply Kd.R_drew)); exact HO166.out))) (Kd.R_lt (by (with_reducible repeat (first | apply Kd.R_alloc | apply Kd.R_drewN | apply Kd.R_drew)); exact HO171.out))) (below_size (by repeat (first | (with_reducible first | exact HB.out | apply below_alloc | apply pw_below_drewN | apply below_drew1 | refine below_set ?_ GE161.out) | exact HB.out)))); have n3_ := am (blk_below (by (with_reducible repeat (first | refine blk_drewN ?_ _ | refine blk_drew ?_ | refine blk_alloc ?_ _)); exact BK161.out) hb); have n4_ := am (below_step (by repeat (first | (with_reducible first | exact HB.out | apply below_alloc | apply pw_below_drewN | apply below_drew1 | refine below_set ?_ GE161.out) | exact HB.out)) hb); clear HO166; clear HO171; clear BK161; clear HB; have HO166 := n0_; have HO171 := n1_; have HO180 := n2_; have BK161 := n3_; have HB := n4_; clear n0_ n1_ n2_ n3_ n4_; (try clear hb); (try clear hb2); (try clear hk); (try clear hi); (try clear ho0); obtain ⟨Ao35, co35, eo35⟩ := Kd.R_slice HO180.out; subst eo35) | ((with_reducible refine gate_callee (f := 7) rfl ?_); refine goesL_ (some 44) rfl rfl Try.func7 (by kernel_rfl) rfl #[.slice Ao35 t178.length co35, .slice Ao29 t164.length co29] rfl (by (try simp only [List.map_toArray, List.map_cons, List.map_nil]); first | done | rfl | (simp only [List.length_drop, List.length_take]; rfl)) ?_; (with_reducible refine (laws_eqGrantS.calls k _ _ t178 _ _ t164 true _ ?side1 ?side2 ?side3 ?side4 A16.out).mono ?_); (case side1 => repeat (first | exact (Kd.R_reads' HO180.out).2.2 | (with_reducible refine Kd.C_alloc ?_ _) | (with_reducible refine Kd.C_drewN ?_ _) | (with_reducible refine Kd.C_drew ?_))); (case side2 => exact (Kd.R_reads' HO180.out).2.1); (case side3 => repeat (first | exact (Kd.R_reads' HO166.out).2.2 | (with_reducible refine Kd.C_alloc ?_ _) | (with_reducible refine Kd.C_drewN ?_ _) | (with_reducible refine Kd.C_drew ?_))); (case side4 => exact (Kd.R_reads' HO166.out).2.1); rintro e w36 ⟨rfl, hb⟩; refine ⟨_, rfl, ?_⟩; have n0_ := am (Kd.R_below (by (with_reducible repeat (first | apply Kd.R_alloc | apply Kd.R_drewN | apply Kd.R_drew)); exact HO166.out) hb); have n1_ := am (Kd.R_below (by (with_reducible repeat (first | apply Kd.R_alloc | apply Kd.R_drewN | apply Kd.R_drew)); exact HO171.out) hb); have n2_ := am (Kd.R_below (by (with_reducible repeat (first | apply Kd.R_alloc | apply Kd.R_drewN | apply Kd.R_drew)); exact HO180.out) hb); have n3_ := am (blk_below (by (with_reducible repeat (first | refine blk_drewN ?_ _ | refine blk_drew ?_ | refine blk_alloc ?_ _)); exact BK161.out) hb); have n4_ := am (below_step (by repeat (first | (with_reducible first | exact HB.out | apply below_alloc | apply pw_below_drewN | apply below_drew1 | refine below_set ?_ GE161.out) | exact HB.out)) hb); clear HO166; clear HO171; clear HO180; clear BK161; clear HB; have HO166 := n0_; have HO171 := n1_; have HO180 := n2_; have BK161 := n3_; have HB := n4_; clear n0_ n1_ n2_ n3_ n4_; (try clear hb); (try clear hb2); (try clear hk); (try clear hi)) | ((with_reducible refine gate_callee (f := 9) rfl ?_); refine goesL_ (some 48) rfl rfl Try.func9 (by kernel_rfl) rfl #[.slice Ao28 t174.length co28, .int .i64 1] rfl (by (try simp only [List.map_toArray, List.map_cons, List.map_nil]); first | done | (rw [show t174.length = t169.length from (Kd.R_reads' HO171.out).1.symm] <;> rfl) | rfl | (simp only [List.length_drop, List.length_take]; rfl)) ?_; (with_reducible refine (laws_heldGrantS.calls k _ _ t174 1 t182 _ ?side1 ?side2 A18.out).mono ?_); (case side1 => repeat (first | exact (Kd.R_reads' HO171.out).2.2 | (with_reducible refine Kd.C_alloc ?_ _) | (with_reducible refine Kd.C_drewN ?_ _) | (with_reducible refine Kd.C_drew ?_))); (case side2 => rw [show t174.length = t169.length from (Kd.R_reads' HO171.out).1.symm]; exact (Kd.R_reads' HO171.out).2.1); rintro e w' ⟨rfl, ⟨nd, rfl⟩⟩; refine ⟨_, rfl, ?_⟩))
              go_ret
              exact ⟨by first | rfl | (simp [errW_none, errW_some] <;> rfl) | (simp [*, errW_none, errW_some] <;> rfl), by repeat (first | (with_reducible first | exact HB.out | apply below_alloc | apply pw_below_drewN | apply below_drew1 | refine below_set ?_ GE161.out) | exact HB.out)⟩
            · rw [if_neg c20] at H
              have c20b0 : (t182 == t173) = false := beq_eq_false_iff_ne.mpr c20
              have c20b1 : (t182 != t173) = true := bne_iff_ne.mpr c20
              exact absurd ((Option.some.inj H).trans HRT.out) (by decide)
        · replace c17 := Bool.eq_false_iff.mpr c17
          subst c17
          have H1 : (some false) = some r := by rw [if_neg (show ¬ (false = true) by decide)] at H; exact H
          clear H
          have H := H1
          clear H1
          exact absurd ((Option.some.inj H).trans HRT.out) (by decide)
      · rw [if_neg c13] at H
        have c13b0 : (t175 == t173) = false := beq_eq_false_iff_ne.mpr c13
        have c13b1 : (t175 != t173) = true := bne_iff_ne.mpr c13
        exact absurd ((Option.some.inj H).trans HRT.out) (by decide)
  · replace c9 := Bool.eq_false_iff.mpr c9
    subst c9
    have H1 : (some false) = some r := by rw [if_neg (show ¬ (false = true) by decide)] at H; exact H
    clear H
    have H := H1
    clear H1
    exact absurd ((Option.some.inj H).trans HRT.out) (by decide)

end Go.Proofs.Ytcobdjldjneeaaa.QL
