/- Go functions as Lean functions, each with its walk; printed by a program of this session (a scratch copy of print.py that follows nested field addresses and tells a law for the answer true). -/
import Derived.Test.YtacgichgadoddaaQHx0
import Derived.Test.YtacgichgadoddaaQHx10
import Derived.Test.YtacgichgadoddaaQHx12
import Derived.Test.YtacgichgadoddaaQHx3
import Derived.Test.YtacgichgadoddaaQHx34
import Derived.Test.YtacgichgadoddaaQHx35
import Derived.Test.YtacgichgadoddaaQHx36
import Derived.Test.YtacgichgadoddaaQHx39
import Derived.Test.YtacgichgadoddaaQHx40
import Derived.Test.YtacgichgadoddaaQHxM0
namespace Go.Proofs.Ytacgichgadoddaa.QH
open Go.RowKit Go.Proofs.YtacgichgadoddaaW.PrintWords Go.Proofs.YtacgichgadoddaaW.PrintLast Go.Proofs.YtacgichgadoddaaW.PrintMore Go.Proofs.Ytacgichgadoddaa.Short
attribute [local go_sem] max2_int min2_int max_two min_two max_three min_three max_four min_four   -- for this text's walks alone
set_option linter.unusedVariables false
set_option linter.unusedSimpArgs false

/-! ### laws_FnQuotas: function 9 -/
def laws_FnQuotas.j0 : Nat → List Int → Bool → Option (Bool)
  | 0, _, _ => none
  | k + 1, x0, x64 => if x64 = true then (some false) else ((spec_DrawDropRules.f k x0).bind fun bt428 => ((impl_DropRules.f k bt428.1 bt428.2).bind fun t432 => ((impl_RulesOf.f k bt428.1 bt428.2).bind fun t435 => (if (wrap64 ((t432.length : Int) + (t435.length : Int))) = (bt428.1.length : Int) then ((impl_RulesOf.f k t432 bt428.2).bind fun t438 => (if (t438.length : Int) = 0 then ((impl_RoomFor.f k t432 bt428.2).bind fun t441 => ((impl_RoomFor.f k bt428.1 bt428.2).bind fun t442 => (if t441 ≥ t442 then ((impl_RoomFor.f k bt428.1 bt428.2).bind fun t443 => (some (decide (t443 ≥ 0)))) else (some false)))) else (some false))) else (some false)))))
def laws_FnQuotas.f (k : Nat) (l0 : List Int) : Option (Bool) := (laws_big.f l0).bind fun t405 => (if t405 = true then (some true) else ((spec_DrawAddRule.f k l0).bind fun bt406 => ((impl_AddRule.f k bt406.1 bt406.2.1 bt406.2.2.1 bt406.2.2.2.1 bt406.2.2.2.2.1 bt406.2.2.2.2.2.1 bt406.2.2.2.2.2.2.1 bt406.2.2.2.2.2.2.2.1 bt406.2.2.2.2.2.2.2.2).bind fun bt418 => ((impl_CanAddRule.f k bt406.1 bt406.2.1 bt406.2.2.1 bt406.2.2.2.1 bt406.2.2.2.2.1 bt406.2.2.2.2.2.1 bt406.2.2.2.2.2.2.1 bt406.2.2.2.2.2.2.2.1 bt406.2.2.2.2.2.2.2.2).bind fun t422 => (if (bt418.2 != t422) = true then (laws_FnQuotas.j0 k l0 true) else (if bt418.2 = true then ((impl_IsFair.f k bt406.1).bind fun t423 => (if t423 = true then ((impl_IsFair.f k bt418.1).bind fun t424 => (if t424 = true then ((impl_RoomFor.f k bt406.1 bt406.2.1).bind fun t425 => (if t425 < 1 then (laws_FnQuotas.j0 k l0 true) else (if (bt418.1.length : Int) = (wrap64 ((bt406.1.length : Int) + 1)) then (laws_FnQuotas.j0 k l0 false) else (laws_FnQuotas.j0 k l0 true)))) else (laws_FnQuotas.j0 k l0 true))) else ((impl_RoomFor.f k bt406.1 bt406.2.1).bind fun t426 => (if t426 < 1 then (laws_FnQuotas.j0 k l0 true) else (if (bt418.1.length : Int) = (wrap64 ((bt406.1.length : Int) + 1)) then (laws_FnQuotas.j0 k l0 false) else (laws_FnQuotas.j0 k l0 true)))))) else ((impl_EqualRules.f k bt418.1 bt406.1).bind fun t427 => (laws_FnQuotas.j0 k l0 (!t427)))))))))
theorem laws_FnQuotas.mono_l : ∀ k, (∀ y0 y1, LeO (laws_FnQuotas.j0 k y0 y1) (laws_FnQuotas.j0 (k + 1) y0 y1))
  | 0 => fun _ _ r h => by simp [laws_FnQuotas.j0] at h
  | k + 1 => by
    have ih0 := laws_FnQuotas.mono_l k
    · intro y0 y1
      unfold laws_FnQuotas.j0
      repeat' first
      | (with_reducible exact ih0 _ _)
      | (with_reducible exact impl_AddRule.mono _ _ _ _ _ _ _ _ _ _)
      | (with_reducible exact impl_CanAddRule.mono _ _ _ _ _ _ _ _ _ _)
      | (with_reducible exact impl_DropRules.mono _ _ _)
      | (with_reducible exact impl_EqualRules.mono _ _ _)
      | (with_reducible exact impl_IsFair.mono _ _)
      | (with_reducible exact impl_RoomFor.mono _ _ _)
      | (with_reducible exact impl_RulesOf.mono _ _ _)
      | (with_reducible exact spec_DrawAddRule.mono _ _)
      | (with_reducible exact spec_DrawDropRules.mono _ _)
      | (with_reducible exact LeO.refl _)
      | (with_reducible exact LeO.none _)
      | (with_reducible refine LeO.ite ?_ ?_)
      | (with_reducible refine LeO.bind ?_ (fun _ => ?_))
      | exact ih0 _ _
      | exact impl_AddRule.mono _ _ _ _ _ _ _ _ _ _
      | exact impl_CanAddRule.mono _ _ _ _ _ _ _ _ _ _
      | exact impl_DropRules.mono _ _ _
      | exact impl_EqualRules.mono _ _ _
      | exact impl_IsFair.mono _ _
      | exact impl_RoomFor.mono _ _ _
      | exact impl_RulesOf.mono _ _ _
      | exact spec_DrawAddRule.mono _ _
      | exact spec_DrawDropRules.mono _ _
      | exact LeO.none _
      | refine LeO.ite ?_ ?_
      | refine LeO.bind ?_ (fun _ => ?_)
theorem laws_FnQuotas.mono : ∀ a0 k, LeO (laws_FnQuotas.f k a0) (laws_FnQuotas.f (k + 1) a0) := by
  intro a0 k
  have ih0 := laws_FnQuotas.mono_l k
  unfold laws_FnQuotas.f
  repeat' first
      | (with_reducible exact ih0 _ _)
      | (with_reducible exact impl_AddRule.mono _ _ _ _ _ _ _ _ _ _)
      | (with_reducible exact impl_CanAddRule.mono _ _ _ _ _ _ _ _ _ _)
      | (with_reducible exact impl_DropRules.mono _ _ _)
      | (with_reducible exact impl_EqualRules.mono _ _ _)
      | (with_reducible exact impl_IsFair.mono _ _)
      | (with_reducible exact impl_RoomFor.mono _ _ _)
      | (with_reducible exact impl_RulesOf.mono _ _ _)
      | (with_reducible exact spec_DrawAddRule.mono _ _)
      | (with_reducible exact spec_DrawDropRules.mono _ _)
      | (with_reducible exact LeO.refl _)
      | (with_reducible exact LeO.none _)
      | (with_reducible refine LeO.ite ?_ ?_)
      | (with_reducible refine LeO.bind ?_ (fun _ => ?_))
      | exact ih0 _ _
      | exact impl_AddRule.mono _ _ _ _ _ _ _ _ _ _
      | exact impl_CanAddRule.mono _ _ _ _ _ _ _ _ _ _
      | exact impl_DropRules.mono _ _ _
      | exact impl_EqualRules.mono _ _ _
      | exact impl_IsFair.mono _ _
      | exact impl_RoomFor.mono _ _ _
      | exact impl_RulesOf.mono _ _ _
      | exact spec_DrawAddRule.mono _ _
      | exact spec_DrawDropRules.mono _ _
      | exact LeO.none _
      | refine LeO.ite ?_ ?_
      | refine LeO.bind ?_ (fun _ => ?_)
set_option maxHeartbeats 8000000 in
set_option maxRecDepth 100000 in
theorem laws_FnQuotas.calls (k : Nat) (A0 : Option Addr) (c0 : Nat) (l0 : List Int) (r : Bool) (w : World) (hr0 : Kd.C (Kd.int .u8) w A0 l0.length l0) (hc0 : l0.length ≤ c0) (h : laws_FnQuotas.f k l0 = some r) (hr_ : r = true) :
    Calls Try.prog 9 #[.slice A0 l0.length c0] w fun e w' => e = .returned (.bool r) ∧ Below w.heap.size w w' := by
  have HRT := Aside0.mk hr_
  clear hr_
  have hu35 := Try.underlying35
  have HR0 := Aside0.mk hr0
  have HC0 := Aside0.mk hc0
  clear hr0 hc0
  have HB := am (Below.refl w.heap.size w)
  have H : ((laws_big.f l0).bind fun t405 => (if t405 = true then (some true) else ((spec_DrawAddRule.f k l0).bind fun bt406 => ((impl_AddRule.f k bt406.1 bt406.2.1 bt406.2.2.1 bt406.2.2.2.1 bt406.2.2.2.2.1 bt406.2.2.2.2.2.1 bt406.2.2.2.2.2.2.1 bt406.2.2.2.2.2.2.2.1 bt406.2.2.2.2.2.2.2.2).bind fun bt418 => ((impl_CanAddRule.f k bt406.1 bt406.2.1 bt406.2.2.1 bt406.2.2.2.1 bt406.2.2.2.2.1 bt406.2.2.2.2.2.1 bt406.2.2.2.2.2.2.1 bt406.2.2.2.2.2.2.2.1 bt406.2.2.2.2.2.2.2.2).bind fun t422 => (if (bt418.2 != t422) = true then (laws_FnQuotas.j0 k l0 true) else (if bt418.2 = true then ((impl_IsFair.f k bt406.1).bind fun t423 => (if t423 = true then ((impl_IsFair.f k bt418.1).bind fun t424 => (if t424 = true then ((impl_RoomFor.f k bt406.1 bt406.2.1).bind fun t425 => (if t425 < 1 then (laws_FnQuotas.j0 k l0 true) else (if (bt418.1.length : Int) = (wrap64 ((bt406.1.length : Int) + 1)) then (laws_FnQuotas.j0 k l0 false) else (laws_FnQuotas.j0 k l0 true)))) else (laws_FnQuotas.j0 k l0 true))) else ((impl_RoomFor.f k bt406.1 bt406.2.1).bind fun t426 => (if t426 < 1 then (laws_FnQuotas.j0 k l0 true) else (if (bt418.1.length : Int) = (wrap64 ((bt406.1.length : Int) + 1)) then (laws_FnQuotas.j0 k l0 false) else (laws_FnQuotas.j0 k l0 true)))))) else ((impl_EqualRules.f k bt418.1 bt406.1).bind fun t427 => (laws_FnQuotas.j0 k l0 (!t427)))))))))) = some r := h
  clear h
  replace H := Option.bind_eq_some_iff.mp H
  obtain ⟨t405, A20, H⟩ := H
  replace H : (if t405 = true then (some true) else ((spec_DrawAddRule.f k l0).bind fun bt406 => ((impl_AddRule.f k bt406.1 bt406.2.1 bt406.2.2.1 bt406.2.2.2.1 bt406.2.2.2.2.1 bt406.2.2.2.2.2.1 bt406.2.2.2.2.2.2.1 bt406.2.2.2.2.2.2.2.1 bt406.2.2.2.2.2.2.2.2).bind fun bt418 => ((impl_CanAddRule.f k bt406.1 bt406.2.1 bt406.2.2.1 bt406.2.2.2.1 bt406.2.2.2.2.1 bt406.2.2.2.2.2.1 bt406.2.2.2.2.2.2.1 bt406.2.2.2.2.2.2.2.1 bt406.2.2.2.2.2.2.2.2).bind fun t422 => (if (bt418.2 != t422) = true then (laws_FnQuotas.j0 k l0 true) else (if bt418.2 = true then ((impl_IsFair.f k bt406.1).bind fun t423 => (if t423 = true then ((impl_IsFair.f k bt418.1).bind fun t424 => (if t424 = true then ((impl_RoomFor.f k bt406.1 bt406.2.1).bind fun t425 => (if t425 < 1 then (laws_FnQuotas.j0 k l0 true) else (if (bt418.1.length : Int) = (wrap64 ((bt406.1.length : Int) + 1)) then (laws_FnQuotas.j0 k l0 false) else (laws_FnQuotas.j0 k l0 true)))) else (laws_FnQuotas.j0 k l0 true))) else ((impl_RoomFor.f k bt406.1 bt406.2.1).bind fun t426 => (if t426 < 1 then (laws_FnQuotas.j0 k l0 true) else (if (bt418.1.length : Int) = (wrap64 ((bt406.1.length : Int) + 1)) then (laws_FnQuotas.j0 k l0 false) else (laws_FnQuotas.j0 k l0 true)))))) else ((impl_EqualRules.f k bt418.1 bt406.1).bind fun t427 => (laws_FnQuotas.j0 k l0 (!t427))))))))) = some r := H
  have A2 := Aside0.mk A20
  clear A20
  by_cases c3 : t405 = true
  · subst c3
    have H1 : (some true) = some r := by rw [if_pos rfl] at H; exact H
    clear H
    have H := H1
    clear H1
    obtain rfl := Option.some.inj H
    go_enter Try.func9, Try.ntmps9
    go_wp2_with (first | ((with_reducible refine gate_callee (f := 36) rfl ?_); refine goesL_ (some 11) rfl rfl Try.func36 (by kernel_rfl) rfl #[.slice A0 l0.length c0] rfl (by (try simp only [List.map_toArray, List.map_cons, List.map_nil]); first | done | rfl | (simp only [List.length_drop, List.length_take]; rfl)) ?_; (with_reducible refine (laws_big.calls _ _ l0 true _ ?side1 ?side2 A2.out).mono ?_); (case side1 => repeat (first | exact HR0.out | (with_reducible refine Kd.C_alloc ?_ _) | (with_reducible refine Kd.C_drewN ?_ _) | (with_reducible refine Kd.C_drew ?_))); (case side2 => exact HC0.out); rintro e w' ⟨rfl, ⟨nd, rfl⟩⟩; refine ⟨_, rfl, ?_⟩))
    go_ret
    exact ⟨by first | rfl | (simp [errW_none, errW_some] <;> rfl) | (simp [*, errW_none, errW_some] <;> rfl), by repeat (first | (with_reducible first | exact HB.out | apply below_alloc | apply pw_below_drewN | apply below_drew1) | exact HB.out)⟩
  · replace c3 := Bool.eq_false_iff.mpr c3
    subst c3
    have H1 : ((spec_DrawAddRule.f k l0).bind fun bt406 => ((impl_AddRule.f k bt406.1 bt406.2.1 bt406.2.2.1 bt406.2.2.2.1 bt406.2.2.2.2.1 bt406.2.2.2.2.2.1 bt406.2.2.2.2.2.2.1 bt406.2.2.2.2.2.2.2.1 bt406.2.2.2.2.2.2.2.2).bind fun bt418 => ((impl_CanAddRule.f k bt406.1 bt406.2.1 bt406.2.2.1 bt406.2.2.2.1 bt406.2.2.2.2.1 bt406.2.2.2.2.2.1 bt406.2.2.2.2.2.2.1 bt406.2.2.2.2.2.2.2.1 bt406.2.2.2.2.2.2.2.2).bind fun t422 => (if (bt418.2 != t422) = true then (laws_FnQuotas.j0 k l0 true) else (if bt418.2 = true then ((impl_IsFair.f k bt406.1).bind fun t423 => (if t423 = true then ((impl_IsFair.f k bt418.1).bind fun t424 => (if t424 = true then ((impl_RoomFor.f k bt406.1 bt406.2.1).bind fun t425 => (if t425 < 1 then (laws_FnQuotas.j0 k l0 true) else (if (bt418.1.length : Int) = (wrap64 ((bt406.1.length : Int) + 1)) then (laws_FnQuotas.j0 k l0 false) else (laws_FnQuotas.j0 k l0 true)))) else (laws_FnQuotas.j0 k l0 true))) else ((impl_RoomFor.f k bt406.1 bt406.2.1).bind fun t426 => (if t426 < 1 then (laws_FnQuotas.j0 k l0 true) else (if (bt418.1.length : Int) = (wrap64 ((bt406.1.length : Int) + 1)) then (laws_FnQuotas.j0 k l0 false) else (laws_FnQuotas.j0 k l0 true)))))) else ((impl_EqualRules.f k bt418.1 bt406.1).bind fun t427 => (laws_FnQuotas.j0 k l0 (!t427)))))))) = some r := by rw [if_neg (show ¬ (false = true) by decide)] at H; exact H
    clear H
    have H := H1
    clear H1
    replace H := Option.bind_eq_some_iff.mp H
    obtain ⟨⟨t406, t409, t410, t411, t412, t413, t414, t415, t416⟩, A40, H⟩ := H
    replace H : ((impl_AddRule.f k t406 t409 t410 t411 t412 t413 t414 t415 t416).bind fun bt418 => ((impl_CanAddRule.f k t406 t409 t410 t411 t412 t413 t414 t415 t416).bind fun t422 => (if (bt418.2 != t422) = true then (laws_FnQuotas.j0 k l0 true) else (if bt418.2 = true then ((impl_IsFair.f k t406).bind fun t423 => (if t423 = true then ((impl_IsFair.f k bt418.1).bind fun t424 => (if t424 = true then ((impl_RoomFor.f k t406 t409).bind fun t425 => (if t425 < 1 then (laws_FnQuotas.j0 k l0 true) else (if (bt418.1.length : Int) = (wrap64 ((t406.length : Int) + 1)) then (laws_FnQuotas.j0 k l0 false) else (laws_FnQuotas.j0 k l0 true)))) else (laws_FnQuotas.j0 k l0 true))) else ((impl_RoomFor.f k t406 t409).bind fun t426 => (if t426 < 1 then (laws_FnQuotas.j0 k l0 true) else (if (bt418.1.length : Int) = (wrap64 ((t406.length : Int) + 1)) then (laws_FnQuotas.j0 k l0 false) else (laws_FnQuotas.j0 k l0 true)))))) else ((impl_EqualRules.f k bt418.1 t406).bind fun t427 => (laws_FnQuotas.j0 k l0 (!t427))))))) = some r := H
    have A4 := Aside0.mk A40
    clear A40
    replace H := Option.bind_eq_some_iff.mp H
    obtain ⟨⟨t418, t421⟩, A50, H⟩ := H
    replace H : ((impl_CanAddRule.f k t406 t409 t410 t411 t412 t413 t414 t415 t416).bind fun t422 => (if (t421 != t422) = true then (laws_FnQuotas.j0 k l0 true) else (if t421 = true then ((impl_IsFair.f k t406).bind fun t423 => (if t423 = true then ((impl_IsFair.f k t418).bind fun t424 => (if t424 = true then ((impl_RoomFor.f k t406 t409).bind fun t425 => (if t425 < 1 then (laws_FnQuotas.j0 k l0 true) else (if (t418.length : Int) = (wrap64 ((t406.length : Int) + 1)) then (laws_FnQuotas.j0 k l0 false) else (laws_FnQuotas.j0 k l0 true)))) else (laws_FnQuotas.j0 k l0 true))) else ((impl_RoomFor.f k t406 t409).bind fun t426 => (if t426 < 1 then (laws_FnQuotas.j0 k l0 true) else (if (t418.length : Int) = (wrap64 ((t406.length : Int) + 1)) then (laws_FnQuotas.j0 k l0 false) else (laws_FnQuotas.j0 k l0 true)))))) else ((impl_EqualRules.f k t418 t406).bind fun t427 => (laws_FnQuotas.j0 k l0 (!t427)))))) = some r := H
    have A5 := Aside0.mk A50
    clear A50
    have HC6 := Aside0.mk H
    clear H
    go_enter Try.func9, Try.ntmps9
    go_upto_region 5 with (first | ((with_reducible refine gate_callee (f := 36) rfl ?_); refine goesL_ (some 11) rfl rfl Try.func36 (by kernel_rfl) rfl #[.slice A0 l0.length c0] rfl (by (try simp only [List.map_toArray, List.map_cons, List.map_nil]); first | done | rfl | (simp only [List.length_drop, List.length_take]; rfl)) ?_; (with_reducible refine (laws_big.calls _ _ l0 false _ ?side1 ?side2 A2.out).mono ?_); (case side1 => repeat (first | exact HR0.out | (with_reducible refine Kd.C_alloc ?_ _) | (with_reducible refine Kd.C_drewN ?_ _) | (with_reducible refine Kd.C_drew ?_))); (case side2 => exact HC0.out); rintro e w' ⟨rfl, ⟨nd, rfl⟩⟩; refine ⟨_, rfl, ?_⟩) | ((with_reducible refine gate_callee (f := 50) rfl ?_); refine goesL_ (some 14) rfl rfl Try.func50 (by kernel_rfl) rfl #[.slice A0 l0.length c0] rfl (by (try simp only [List.map_toArray, List.map_cons, List.map_nil]); first | done | rfl | (simp only [List.length_drop, List.length_take]; rfl)) ?_; (with_reducible refine (spec_DrawAddRule.calls k _ _ l0 t406 t409 t410 t411 t412 t413 t414 t415 t416 _ ?side1 ?side2 A4.out).mono ?_); (case side1 => repeat (first | exact HR0.out | (with_reducible refine Kd.C_alloc ?_ _) | (with_reducible refine Kd.C_drewN ?_ _) | (with_reducible refine Kd.C_drew ?_))); (case side2 => exact HC0.out); rintro e w7 ⟨v407, rfl, ho0, hb⟩; refine ⟨_, rfl, ?_⟩; have n0_ := am (Kd.R_lower ho0 (below_size (by repeat (first | (with_reducible first | exact HB.out | apply below_alloc | apply pw_below_drewN | apply below_drew1) | exact HB.out)))); have n1_ := am (below_step (by repeat (first | (with_reducible first | exact HB.out | apply below_alloc | apply pw_below_drewN | apply below_drew1) | exact HB.out)) hb); clear HB; have HO408 := n0_; have HB := n1_; clear n0_ n1_; (try clear hb); (try clear hb2); (try clear hk); (try clear hi); (try clear ho0)) | ((with_reducible refine gate_dst (N := 4) rfl ?_); (try (refine gate_guard (by rfl) ?_; dsimp only)); refine box_event ?hg (N := 4) ?hd (cs := #[.int .i64 0, .int .i64 0, .int .i64 0, .int .i64 0, .int .i64 0, .int .i64 0, .int .i64 0, .int .i64 0]) (t := 35) ?hr ?_; (case hd => rfl); (case hg => rfl); (case hr => first | (go_simp; done) | (go_simp; rfl)); intro gb417 hg w8 hbox hb; have n0_ := am (Kd.R_below (Kd.R_elderB (by (with_reducible repeat (first | apply Kd.R_alloc | apply Kd.R_drewN | apply Kd.R_drew)); exact HO408.out) gb417 (Nat.le_of_eq hg.symm)) hb); have q_ := hbx_ (by repeat (first | (with_reducible first | exact HB.out | apply below_alloc | apply pw_below_drewN | apply below_drew1) | exact HB.out)) hg hb; have n1_ := q_.1; have n2_ := am (hbox); have n3_ := q_.2; have n4_ := n3_; clear HO408; clear HB; have HO408 := n0_; have HB := n1_; have BK417 := n2_; have GW417 := n3_; have GE417 := n4_; clear n0_ n1_ n2_ n3_ n4_; clear hb hbox hg; obtain ⟨hcz9_0, hcz9_1, hcz9_2, hcz9_3, hcz9_4, hcz9_5, hcz9_6, hcz9_7, hfz9_0, hfz9_1, hfz9_2, hfz9_3, hfz9_4, hfz9_5, hfz9_6, hfz9_7⟩ := blk8 BK417.out; obtain ⟨Ao10, co10, eo10⟩ := Kd.R_slice HO408.out; subst eo10) | ((with_reducible refine gate_callee (f := 33) rfl ?_); refine goesL_ (some 20) rfl rfl Try.func33 (by kernel_rfl) rfl #[.slice Ao10 t406.length co10, .agg #[.int .i64 t409, .int .i64 t410, .int .i64 t411, .int .i64 t412, .int .i64 t413, .int .i64 t414, .int .i64 t415, .int .i64 t416]] rfl (by (try simp only [List.map_toArray, List.map_cons, List.map_nil]); first | done | rfl | (simp only [List.length_drop, List.length_take]; rfl)) ?_; (with_reducible refine (impl_AddRule.calls k _ _ t406 t409 t410 t411 t412 t413 t414 t415 t416 t418 t421 _ ?side1 ?side2 A5.out).mono ?_); (case side1 => refine (Kd.R_reads' (e := 35) (base := w.heap.size) (ok := fun k_ => (True ∧ k_ ≠ gb417)) (n := t406.length) (c := co10) ?_).2.2; exact (by (with_reducible repeat (first | apply Kd.R_alloc | apply Kd.R_drewN | apply Kd.R_drew)); exact (Kd.R_mono (Kd.R_far (p := ⟨gb417, 7, none⟩) (Kd.R_far (p := ⟨gb417, 6, none⟩) (Kd.R_far (p := ⟨gb417, 5, none⟩) (Kd.R_far (p := ⟨gb417, 4, none⟩) (Kd.R_far (p := ⟨gb417, 3, none⟩) (Kd.R_far (p := ⟨gb417, 2, none⟩) (Kd.R_far (p := ⟨gb417, 1, none⟩) (Kd.R_far (p := ⟨gb417, 0, none⟩) (Kd.R_mono HO408.out (fun k_ hk => (⟨hk, hk.2⟩ : _ ∧ k_ ≠ gb417))) (fun _ hk => hk.2) (.int .i64 t409)) (fun _ hk => hk.2) (.int .i64 t410)) (fun _ hk => hk.2) (.int .i64 t411)) (fun _ hk => hk.2) (.int .i64 t412)) (fun _ hk => hk.2) (.int .i64 t413)) (fun _ hk => hk.2) (.int .i64 t414)) (fun _ hk => hk.2) (.int .i64 t415)) (fun _ hk => hk.2) (.int .i64 t416)) (fun _ h_ => h_.1)))); (case side2 => exact (Kd.R_reads' HO408.out).2.1); rintro e w11 ⟨v419, rfl, ho0, hb⟩; refine ⟨_, rfl, ?_⟩; have n0_ := am (Kd.R_elder' (by (with_reducible repeat (first | apply Kd.R_alloc | apply Kd.R_drewN | apply Kd.R_drew)); exact (Kd.R_mono (Kd.R_far (p := ⟨gb417, 7, none⟩) (Kd.R_far (p := ⟨gb417, 6, none⟩) (Kd.R_far (p := ⟨gb417, 5, none⟩) (Kd.R_far (p := ⟨gb417, 4, none⟩) (Kd.R_far (p := ⟨gb417, 3, none⟩) (Kd.R_far (p := ⟨gb417, 2, none⟩) (Kd.R_far (p := ⟨gb417, 1, none⟩) (Kd.R_far (p := ⟨gb417, 0, none⟩) (Kd.R_mono HO408.out (fun k_ hk => (⟨hk, hk.2⟩ : _ ∧ k_ ≠ gb417))) (fun _ hk => hk.2) (.int .i64 t409)) (fun _ hk => hk.2) (.int .i64 t410)) (fun _ hk => hk.2) (.int .i64 t411)) (fun _ hk => hk.2) (.int .i64 t412)) (fun _ hk => hk.2) (.int .i64 t413)) (fun _ hk => hk.2) (.int .i64 t414)) (fun _ hk => hk.2) (.int .i64 t415)) (fun _ hk => hk.2) (.int .i64 t416)) (fun _ h_ => h_.1))) (Kd.R_base ho0) hb); have n1_ := am (Kd.R_lower (Kd.R_newB (Kd.R_new' ho0 (Kd.R_lt (by (with_reducible repeat (first | apply Kd.R_alloc | apply Kd.R_drewN | apply Kd.R_drew)); exact (Kd.R_mono (Kd.R_far (p := ⟨gb417, 7, none⟩) (Kd.R_far (p := ⟨gb417, 6, none⟩) (Kd.R_far (p := ⟨gb417, 5, none⟩) (Kd.R_far (p := ⟨gb417, 4, none⟩) (Kd.R_far (p := ⟨gb417, 3, none⟩) (Kd.R_far (p := ⟨gb417, 2, none⟩) (Kd.R_far (p := ⟨gb417, 1, none⟩) (Kd.R_far (p := ⟨gb417, 0, none⟩) (Kd.R_mono HO408.out (fun k_ hk => (⟨hk, hk.2⟩ : _ ∧ k_ ≠ gb417))) (fun _ hk => hk.2) (.int .i64 t409)) (fun _ hk => hk.2) (.int .i64 t410)) (fun _ hk => hk.2) (.int .i64 t411)) (fun _ hk => hk.2) (.int .i64 t412)) (fun _ hk => hk.2) (.int .i64 t413)) (fun _ hk => hk.2) (.int .i64 t414)) (fun _ hk => hk.2) (.int .i64 t415)) (fun _ hk => hk.2) (.int .i64 t416)) (fun _ h_ => h_.1))))) (g := gb417) (o := .cells #[.int .i64 t409, .int .i64 t410, .int .i64 t411, .int .i64 t412, .int .i64 t413, .int .i64 t414, .int .i64 t415, .int .i64 t416] 35 (0, 0)) (by (with_reducible repeat (first | refine blk_drewN ?_ _ | refine blk_drew ?_ | refine blk_alloc ?_ _)); refine blk_put (cs := #[.int .i64 t409, .int .i64 t410, .int .i64 t411, .int .i64 t412, .int .i64 t413, .int .i64 t414, .int .i64 t415, .int .i64 0]) ?_ 7 _ rfl; (with_reducible repeat (first | refine blk_drewN ?_ _ | refine blk_drew ?_ | refine blk_alloc ?_ _)); refine blk_put (cs := #[.int .i64 t409, .int .i64 t410, .int .i64 t411, .int .i64 t412, .int .i64 t413, .int .i64 t414, .int .i64 0, .int .i64 0]) ?_ 6 _ rfl; (with_reducible repeat (first | refine blk_drewN ?_ _ | refine blk_drew ?_ | refine blk_alloc ?_ _)); refine blk_put (cs := #[.int .i64 t409, .int .i64 t410, .int .i64 t411, .int .i64 t412, .int .i64 t413, .int .i64 0, .int .i64 0, .int .i64 0]) ?_ 5 _ rfl; (with_reducible repeat (first | refine blk_drewN ?_ _ | refine blk_drew ?_ | refine blk_alloc ?_ _)); refine blk_put (cs := #[.int .i64 t409, .int .i64 t410, .int .i64 t411, .int .i64 t412, .int .i64 0, .int .i64 0, .int .i64 0, .int .i64 0]) ?_ 4 _ rfl; (with_reducible repeat (first | refine blk_drewN ?_ _ | refine blk_drew ?_ | refine blk_alloc ?_ _)); refine blk_put (cs := #[.int .i64 t409, .int .i64 t410, .int .i64 t411, .int .i64 0, .int .i64 0, .int .i64 0, .int .i64 0, .int .i64 0]) ?_ 3 _ rfl; (with_reducible repeat (first | refine blk_drewN ?_ _ | refine blk_drew ?_ | refine blk_alloc ?_ _)); refine blk_put (cs := #[.int .i64 t409, .int .i64 t410, .int .i64 0, .int .i64 0, .int .i64 0, .int .i64 0, .int .i64 0, .int .i64 0]) ?_ 2 _ rfl; (with_reducible repeat (first | refine blk_drewN ?_ _ | refine blk_drew ?_ | refine blk_alloc ?_ _)); refine blk_put (cs := #[.int .i64 t409, .int .i64 0, .int .i64 0, .int .i64 0, .int .i64 0, .int .i64 0, .int .i64 0, .int .i64 0]) ?_ 1 _ rfl; (with_reducible repeat (first | refine blk_drewN ?_ _ | refine blk_drew ?_ | refine blk_alloc ?_ _)); refine blk_put (cs := #[.int .i64 0, .int .i64 0, .int .i64 0, .int .i64 0, .int .i64 0, .int .i64 0, .int .i64 0, .int .i64 0]) ?_ 0 _ rfl; (with_reducible repeat (first | refine blk_drewN ?_ _ | refine blk_drew ?_ | refine blk_alloc ?_ _)); exact BK417.out)) (below_size (by repeat (first | (with_reducible first | exact HB.out | apply below_alloc | apply pw_below_drewN | apply below_drew1 | refine below_set ?_ GE417.out) | exact HB.out)))); have n2_ := am (blk_below (g := gb417) (o := .cells #[.int .i64 t409, .int .i64 t410, .int .i64 t411, .int .i64 t412, .int .i64 t413, .int .i64 t414, .int .i64 t415, .int .i64 t416] 35 (0, 0)) (by (with_reducible repeat (first | refine blk_drewN ?_ _ | refine blk_drew ?_ | refine blk_alloc ?_ _)); refine blk_put (cs := #[.int .i64 t409, .int .i64 t410, .int .i64 t411, .int .i64 t412, .int .i64 t413, .int .i64 t414, .int .i64 t415, .int .i64 0]) ?_ 7 _ rfl; (with_reducible repeat (first | refine blk_drewN ?_ _ | refine blk_drew ?_ | refine blk_alloc ?_ _)); refine blk_put (cs := #[.int .i64 t409, .int .i64 t410, .int .i64 t411, .int .i64 t412, .int .i64 t413, .int .i64 t414, .int .i64 0, .int .i64 0]) ?_ 6 _ rfl; (with_reducible repeat (first | refine blk_drewN ?_ _ | refine blk_drew ?_ | refine blk_alloc ?_ _)); refine blk_put (cs := #[.int .i64 t409, .int .i64 t410, .int .i64 t411, .int .i64 t412, .int .i64 t413, .int .i64 0, .int .i64 0, .int .i64 0]) ?_ 5 _ rfl; (with_reducible repeat (first | refine blk_drewN ?_ _ | refine blk_drew ?_ | refine blk_alloc ?_ _)); refine blk_put (cs := #[.int .i64 t409, .int .i64 t410, .int .i64 t411, .int .i64 t412, .int .i64 0, .int .i64 0, .int .i64 0, .int .i64 0]) ?_ 4 _ rfl; (with_reducible repeat (first | refine blk_drewN ?_ _ | refine blk_drew ?_ | refine blk_alloc ?_ _)); refine blk_put (cs := #[.int .i64 t409, .int .i64 t410, .int .i64 t411, .int .i64 0, .int .i64 0, .int .i64 0, .int .i64 0, .int .i64 0]) ?_ 3 _ rfl; (with_reducible repeat (first | refine blk_drewN ?_ _ | refine blk_drew ?_ | refine blk_alloc ?_ _)); refine blk_put (cs := #[.int .i64 t409, .int .i64 t410, .int .i64 0, .int .i64 0, .int .i64 0, .int .i64 0, .int .i64 0, .int .i64 0]) ?_ 2 _ rfl; (with_reducible repeat (first | refine blk_drewN ?_ _ | refine blk_drew ?_ | refine blk_alloc ?_ _)); refine blk_put (cs := #[.int .i64 t409, .int .i64 0, .int .i64 0, .int .i64 0, .int .i64 0, .int .i64 0, .int .i64 0, .int .i64 0]) ?_ 1 _ rfl; (with_reducible repeat (first | refine blk_drewN ?_ _ | refine blk_drew ?_ | refine blk_alloc ?_ _)); refine blk_put (cs := #[.int .i64 0, .int .i64 0, .int .i64 0, .int .i64 0, .int .i64 0, .int .i64 0, .int .i64 0, .int .i64 0]) ?_ 0 _ rfl; (with_reducible repeat (first | refine blk_drewN ?_ _ | refine blk_drew ?_ | refine blk_alloc ?_ _)); exact BK417.out) hb); have n3_ := am (below_step (by repeat (first | (with_reducible first | exact HB.out | apply below_alloc | apply pw_below_drewN | apply below_drew1 | refine below_set ?_ GE417.out) | exact HB.out)) hb); clear HO408; clear BK417; clear HB; have HO408 := n0_; have HO420 := n1_; have BK417 := n2_; have HB := n3_; clear n0_ n1_ n2_ n3_; (try clear hb); (try clear hb2); (try clear hk); (try clear hi); (try clear ho0)))
    (try simp only [Act.put, List.setIfInBounds_toArray, List.set_cons_zero, List.set_cons_succ])
    go_cut [64] (fun v64 wc => ∃ (kq : Nat) (x64_5 : Bool), v64 = .bool x64_5 ∧ Aside0 (laws_FnQuotas.j0 kq l0 x64_5 = some r) ∧ Aside0 (kq ≤ k) ∧ Aside0 (wc.heap[gb417]? = some (.cells #[.int .i64 t409, .int .i64 t410, .int .i64 t411, .int .i64 t412, .int .i64 t413, .int .i64 t414, .int .i64 t415, .int .i64 t416] 35 (0, 0))) ∧ Aside0 (Below w.heap.size w wc))
    case first =>
      have H := HC6.out
      clear HC6
      replace H := Option.bind_eq_some_iff.mp H
      obtain ⟨t422, A120, H⟩ := H
      replace H : (if (t421 != t422) = true then (laws_FnQuotas.j0 k l0 true) else (if t421 = true then ((impl_IsFair.f k t406).bind fun t423 => (if t423 = true then ((impl_IsFair.f k t418).bind fun t424 => (if t424 = true then ((impl_RoomFor.f k t406 t409).bind fun t425 => (if t425 < 1 then (laws_FnQuotas.j0 k l0 true) else (if (t418.length : Int) = (wrap64 ((t406.length : Int) + 1)) then (laws_FnQuotas.j0 k l0 false) else (laws_FnQuotas.j0 k l0 true)))) else (laws_FnQuotas.j0 k l0 true))) else ((impl_RoomFor.f k t406 t409).bind fun t426 => (if t426 < 1 then (laws_FnQuotas.j0 k l0 true) else (if (t418.length : Int) = (wrap64 ((t406.length : Int) + 1)) then (laws_FnQuotas.j0 k l0 false) else (laws_FnQuotas.j0 k l0 true)))))) else ((impl_EqualRules.f k t418 t406).bind fun t427 => (laws_FnQuotas.j0 k l0 (!t427))))) = some r := H
      have A12 := Aside0.mk A120
      clear A120
      by_cases c13 : (t421 != t422) = true
      · rw [if_pos c13] at H
        have c13b0 : (t421 != t422) = true := c13
        (try (have c13b1 : decide (t421 = t422) = false := by simpa using c13))
        (try (have c13b2 : (t421 == t422) = false := by simpa using c13))
        (try (have c13b3 : ¬ (t421 = t422) := by simpa using c13))
        clear c13
        (first | rw [c13b0] | (simp only [i64_w, i32_w]; rw [c13b0]) | skip)
        have H' := Aside0.mk H
        clear H
        have hcz14_0 : w11.cell? ⟨gb417, 0, none⟩ = some (.int .i64 t409) := (blk_cell BK417.out 0).trans rfl
        have hcz14_1 : w11.cell? ⟨gb417, 1, none⟩ = some (.int .i64 t410) := (blk_cell BK417.out 1).trans rfl
        have hcz14_2 : w11.cell? ⟨gb417, 2, none⟩ = some (.int .i64 t411) := (blk_cell BK417.out 2).trans rfl
        have hcz14_3 : w11.cell? ⟨gb417, 3, none⟩ = some (.int .i64 t412) := (blk_cell BK417.out 3).trans rfl
        have hcz14_4 : w11.cell? ⟨gb417, 4, none⟩ = some (.int .i64 t413) := (blk_cell BK417.out 4).trans rfl
        have hcz14_5 : w11.cell? ⟨gb417, 5, none⟩ = some (.int .i64 t414) := (blk_cell BK417.out 5).trans rfl
        have hcz14_6 : w11.cell? ⟨gb417, 6, none⟩ = some (.int .i64 t415) := (blk_cell BK417.out 6).trans rfl
        have hcz14_7 : w11.cell? ⟨gb417, 7, none⟩ = some (.int .i64 t416) := (blk_cell BK417.out 7).trans rfl
        have hfz14_0 := blk_frozen BK417.out 0
        have hfz14_1 := blk_frozen BK417.out 1
        have hfz14_2 := blk_frozen BK417.out 2
        have hfz14_3 := blk_frozen BK417.out 3
        have hfz14_4 := blk_frozen BK417.out 4
        have hfz14_5 := blk_frozen BK417.out 5
        have hfz14_6 := blk_frozen BK417.out 6
        have hfz14_7 := blk_frozen BK417.out 7
        go_wp2_with (first | ((with_reducible refine gate_callee (f := 19) rfl ?_); refine goesL_ (some 26) rfl rfl Try.func19 (by kernel_rfl) rfl #[.slice Ao10 t406.length co10, .agg #[.int .i64 t409, .int .i64 t410, .int .i64 t411, .int .i64 t412, .int .i64 t413, .int .i64 t414, .int .i64 t415, .int .i64 t416]] rfl (by (try simp only [List.map_toArray, List.map_cons, List.map_nil]); first | done | rfl | (simp only [List.length_drop, List.length_take]; rfl)) ?_; (with_reducible refine (impl_CanAddRule.calls k _ _ t406 t409 t410 t411 t412 t413 t414 t415 t416 t422 _ ?side1 ?side2 A12.out).mono ?_); (case side1 => repeat (first | exact (Kd.R_reads' HO408.out).2.2 | (with_reducible refine Kd.C_alloc ?_ _) | (with_reducible refine Kd.C_drewN ?_ _) | (with_reducible refine Kd.C_drew ?_))); (case side2 => exact (Kd.R_reads' HO408.out).2.1); rintro e w15 ⟨rfl, hb⟩; refine ⟨_, rfl, ?_⟩; have n0_ := am (Kd.R_below (by (with_reducible repeat (first | apply Kd.R_alloc | apply Kd.R_drewN | apply Kd.R_drew)); exact HO408.out) hb); have n1_ := am (Kd.R_below (by (with_reducible repeat (first | apply Kd.R_alloc | apply Kd.R_drewN | apply Kd.R_drew)); exact HO420.out) hb); have n2_ := am (blk_below (by (with_reducible repeat (first | refine blk_drewN ?_ _ | refine blk_drew ?_ | refine blk_alloc ?_ _)); exact BK417.out) hb); have n3_ := am (below_step (by repeat (first | (with_reducible first | exact HB.out | apply below_alloc | apply pw_below_drewN | apply below_drew1 | refine below_set ?_ GE417.out) | exact HB.out)) hb); clear HO408; clear HO420; clear BK417; clear HB; have HO408 := n0_; have HO420 := n1_; have BK417 := n2_; have HB := n3_; clear n0_ n1_ n2_ n3_; (try clear hb); (try clear hb2); (try clear hk); (try clear hi)))
        go_meet
        case rel => exact ⟨_, (true), (by first | rfl | (simp; done) | (simp [*]; done)), H', ⟨by first | omega | exact Nat.le_refl _⟩, ⟨by (with_reducible repeat (first | refine blk_drewN ?_ _ | refine blk_drew ?_ | refine blk_alloc ?_ _)); exact BK417.out⟩, ⟨by repeat (first | (with_reducible first | exact HB.out | apply below_alloc | apply pw_below_drewN | apply below_drew1 | refine below_set ?_ GE417.out) | exact HB.out)⟩⟩
      · rw [if_neg c13] at H
        have c13b0 : (t421 != t422) = false := by simpa using c13
        (try (have c13b1 : decide (t421 = t422) = true := by simpa using c13))
        (try (have c13b2 : (t421 == t422) = true := by simpa using c13))
        clear c13
        (first | rw [c13b0] | (simp only [i64_w, i32_w]; rw [c13b0]) | skip)
        by_cases c16 : t421 = true
        · subst c16
          have H1 : ((impl_IsFair.f k t406).bind fun t423 => (if t423 = true then ((impl_IsFair.f k t418).bind fun t424 => (if t424 = true then ((impl_RoomFor.f k t406 t409).bind fun t425 => (if t425 < 1 then (laws_FnQuotas.j0 k l0 true) else (if (t418.length : Int) = (wrap64 ((t406.length : Int) + 1)) then (laws_FnQuotas.j0 k l0 false) else (laws_FnQuotas.j0 k l0 true)))) else (laws_FnQuotas.j0 k l0 true))) else ((impl_RoomFor.f k t406 t409).bind fun t426 => (if t426 < 1 then (laws_FnQuotas.j0 k l0 true) else (if (t418.length : Int) = (wrap64 ((t406.length : Int) + 1)) then (laws_FnQuotas.j0 k l0 false) else (laws_FnQuotas.j0 k l0 true)))))) = some r := by rw [if_pos rfl] at H; exact H
          clear H
          have H := H1
          clear H1
          replace H := Option.bind_eq_some_iff.mp H
          obtain ⟨t423, A170, H⟩ := H
          replace H : (if t423 = true then ((impl_IsFair.f k t418).bind fun t424 => (if t424 = true then ((impl_RoomFor.f k t406 t409).bind fun t425 => (if t425 < 1 then (laws_FnQuotas.j0 k l0 true) else (if (t418.length : Int) = (wrap64 ((t406.length : Int) + 1)) then (laws_FnQuotas.j0 k l0 false) else (laws_FnQuotas.j0 k l0 true)))) else (laws_FnQuotas.j0 k l0 true))) else ((impl_RoomFor.f k t406 t409).bind fun t426 => (if t426 < 1 then (laws_FnQuotas.j0 k l0 true) else (if (t418.length : Int) = (wrap64 ((t406.length : Int) + 1)) then (laws_FnQuotas.j0 k l0 false) else (laws_FnQuotas.j0 k l0 true))))) = some r := H
          have A17 := Aside0.mk A170
          clear A170
          by_cases c18 : t423 = true
          · subst c18
            have H1 : ((impl_IsFair.f k t418).bind fun t424 => (if t424 = true then ((impl_RoomFor.f k t406 t409).bind fun t425 => (if t425 < 1 then (laws_FnQuotas.j0 k l0 true) else (if (t418.length : Int) = (wrap64 ((t406.length : Int) + 1)) then (laws_FnQuotas.j0 k l0 false) else (laws_FnQuotas.j0 k l0 true)))) else (laws_FnQuotas.j0 k l0 true))) = some r := by rw [if_pos rfl] at H; exact H
            clear H
            have H := H1
            clear H1
            replace H := Option.bind_eq_some_iff.mp H
            obtain ⟨t424, A190, H⟩ := H
            replace H : (if t424 = true then ((impl_RoomFor.f k t406 t409).bind fun t425 => (if t425 < 1 then (laws_FnQuotas.j0 k l0 true) else (if (t418.length : Int) = (wrap64 ((t406.length : Int) + 1)) then (laws_FnQuotas.j0 k l0 false) else (laws_FnQuotas.j0 k l0 true)))) else (laws_FnQuotas.j0 k l0 true)) = some r := H
            have A19 := Aside0.mk A190
            clear A190
            by_cases c20 : t424 = true
            · subst c20
              have H1 : ((impl_RoomFor.f k t406 t409).bind fun t425 => (if t425 < 1 then (laws_FnQuotas.j0 k l0 true) else (if (t418.length : Int) = (wrap64 ((t406.length : Int) + 1)) then (laws_FnQuotas.j0 k l0 false) else (laws_FnQuotas.j0 k l0 true)))) = some r := by rw [if_pos rfl] at H; exact H
              clear H
              have H := H1
              clear H1
              replace H := Option.bind_eq_some_iff.mp H
              obtain ⟨t425, A210, H⟩ := H
              replace H : (if t425 < 1 then (laws_FnQuotas.j0 k l0 true) else (if (t418.length : Int) = (wrap64 ((t406.length : Int) + 1)) then (laws_FnQuotas.j0 k l0 false) else (laws_FnQuotas.j0 k l0 true))) = some r := H
              have A21 := Aside0.mk A210
              clear A210
              by_cases c22 : t425 < 1
              · rw [if_pos c22] at H
                have c22b0 : decide (t425 < 1) = true := decide_eq_true c22
                clear c22
                have H' := Aside0.mk H
                clear H
                have hcz23_0 : w11.cell? ⟨gb417, 0, none⟩ = some (.int .i64 t409) := (blk_cell BK417.out 0).trans rfl
                have hcz23_1 : w11.cell? ⟨gb417, 1, none⟩ = some (.int .i64 t410) := (blk_cell BK417.out 1).trans rfl
                have hcz23_2 : w11.cell? ⟨gb417, 2, none⟩ = some (.int .i64 t411) := (blk_cell BK417.out 2).trans rfl
                have hcz23_3 : w11.cell? ⟨gb417, 3, none⟩ = some (.int .i64 t412) := (blk_cell BK417.out 3).trans rfl
                have hcz23_4 : w11.cell? ⟨gb417, 4, none⟩ = some (.int .i64 t413) := (blk_cell BK417.out 4).trans rfl
                have hcz23_5 : w11.cell? ⟨gb417, 5, none⟩ = some (.int .i64 t414) := (blk_cell BK417.out 5).trans rfl
                have hcz23_6 : w11.cell? ⟨gb417, 6, none⟩ = some (.int .i64 t415) := (blk_cell BK417.out 6).trans rfl
                have hcz23_7 : w11.cell? ⟨gb417, 7, none⟩ = some (.int .i64 t416) := (blk_cell BK417.out 7).trans rfl
                have hfz23_0 := blk_frozen BK417.out 0
                have hfz23_1 := blk_frozen BK417.out 1
                have hfz23_2 := blk_frozen BK417.out 2
                have hfz23_3 := blk_frozen BK417.out 3
                have hfz23_4 := blk_frozen BK417.out 4
                have hfz23_5 := blk_frozen BK417.out 5
                have hfz23_6 := blk_frozen BK417.out 6
                have hfz23_7 := blk_frozen BK417.out 7
                go_wp2_with (first | ((with_reducible refine gate_callee (f := 19) rfl ?_); refine goesL_ (some 26) rfl rfl Try.func19 (by kernel_rfl) rfl #[.slice Ao10 t406.length co10, .agg #[.int .i64 t409, .int .i64 t410, .int .i64 t411, .int .i64 t412, .int .i64 t413, .int .i64 t414, .int .i64 t415, .int .i64 t416]] rfl (by (try simp only [List.map_toArray, List.map_cons, List.map_nil]); first | done | rfl | (simp only [List.length_drop, List.length_take]; rfl)) ?_; (with_reducible refine (impl_CanAddRule.calls k _ _ t406 t409 t410 t411 t412 t413 t414 t415 t416 t422 _ ?side1 ?side2 A12.out).mono ?_); (case side1 => repeat (first | exact (Kd.R_reads' HO408.out).2.2 | (with_reducible refine Kd.C_alloc ?_ _) | (with_reducible refine Kd.C_drewN ?_ _) | (with_reducible refine Kd.C_drew ?_))); (case side2 => exact (Kd.R_reads' HO408.out).2.1); rintro e w24 ⟨rfl, hb⟩; refine ⟨_, rfl, ?_⟩; have n0_ := am (Kd.R_below (by (with_reducible repeat (first | apply Kd.R_alloc | apply Kd.R_drewN | apply Kd.R_drew)); exact HO408.out) hb); have n1_ := am (Kd.R_below (by (with_reducible repeat (first | apply Kd.R_alloc | apply Kd.R_drewN | apply Kd.R_drew)); exact HO420.out) hb); have n2_ := am (blk_below (by (with_reducible repeat (first | refine blk_drewN ?_ _ | refine blk_drew ?_ | refine blk_alloc ?_ _)); exact BK417.out) hb); have n3_ := am (below_step (by repeat (first | (with_reducible first | exact HB.out | apply below_alloc | apply pw_below_drewN | apply below_drew1 | refine below_set ?_ GE417.out) | exact HB.out)) hb); clear HO408; clear HO420; clear BK417; clear HB; have HO408 := n0_; have HO420 := n1_; have BK417 := n2_; have HB := n3_; clear n0_ n1_ n2_ n3_; (try clear hb); (try clear hb2); (try clear hk); (try clear hi)) | (go_at_call 51; (with_reducible refine (impl_IsFair.calls k _ _ t406 true _ ?side1 ?side2 A17.out).mono ?_); (case side1 => repeat (first | exact (Kd.R_reads' HO408.out).2.2 | (with_reducible refine Kd.C_alloc ?_ _) | (with_reducible refine Kd.C_drewN ?_ _) | (with_reducible refine Kd.C_drew ?_))); (case side2 => exact (Kd.R_reads' HO408.out).2.1); rintro e w25 ⟨rfl, hb⟩; have n0_ := am (Kd.R_below (by (with_reducible repeat (first | apply Kd.R_alloc | apply Kd.R_drewN | apply Kd.R_drew)); exact HO408.out) hb); have n1_ := am (Kd.R_below (by (with_reducible repeat (first | apply Kd.R_alloc | apply Kd.R_drewN | apply Kd.R_drew)); exact HO420.out) hb); have n2_ := am (blk_below (by (with_reducible repeat (first | refine blk_drewN ?_ _ | refine blk_drew ?_ | refine blk_alloc ?_ _)); exact BK417.out) hb); have n3_ := am (below_step (by repeat (first | (with_reducible first | exact HB.out | apply below_alloc | apply pw_below_drewN | apply below_drew1 | refine below_set ?_ GE417.out) | exact HB.out)) hb); clear HO408; clear HO420; clear BK417; clear HB; have HO408 := n0_; have HO420 := n1_; have BK417 := n2_; have HB := n3_; clear n0_ n1_ n2_ n3_; (try clear hb); (try clear hb2); (try clear hk); (try clear hi); obtain ⟨Ao26, co26, eo26⟩ := Kd.R_slice HO420.out; subst eo26) | (go_at_call 51; (with_reducible refine (impl_IsFair.calls k _ _ t418 true _ ?side1 ?side2 A19.out).mono ?_); (case side1 => repeat (first | exact (Kd.R_reads' HO420.out).2.2 | (with_reducible refine Kd.C_alloc ?_ _) | (with_reducible refine Kd.C_drewN ?_ _) | (with_reducible refine Kd.C_drew ?_))); (case side2 => exact (Kd.R_reads' HO420.out).2.1); rintro e w27 ⟨rfl, hb⟩; have n0_ := am (Kd.R_below (by (with_reducible repeat (first | apply Kd.R_alloc | apply Kd.R_drewN | apply Kd.R_drew)); exact HO408.out) hb); have n1_ := am (Kd.R_below (by (with_reducible repeat (first | apply Kd.R_alloc | apply Kd.R_drewN | apply Kd.R_drew)); exact HO420.out) hb); have n2_ := am (blk_below (by (with_reducible repeat (first | refine blk_drewN ?_ _ | refine blk_drew ?_ | refine blk_alloc ?_ _)); exact BK417.out) hb); have n3_ := am (below_step (by repeat (first | (with_reducible first | exact HB.out | apply below_alloc | apply pw_below_drewN | apply below_drew1 | refine below_set ?_ GE417.out) | exact HB.out)) hb); clear HO408; clear HO420; clear BK417; clear HB; have HO408 := n0_; have HO420 := n1_; have BK417 := n2_; have HB := n3_; clear n0_ n1_ n2_ n3_; (try clear hb); (try clear hb2); (try clear hk); (try clear hi); obtain ⟨hcz28_0, hcz28_1, hcz28_2, hcz28_3, hcz28_4, hcz28_5, hcz28_6, hcz28_7, hfz28_0, hfz28_1, hfz28_2, hfz28_3, hfz28_4, hfz28_5, hfz28_6, hfz28_7⟩ := blk8 BK417.out) | (go_at_call 52; (with_reducible refine (impl_RoomFor.calls k _ _ t406 t409 t425 _ ?side1 ?side2 A21.out).mono ?_); (case side1 => repeat (first | exact (Kd.R_reads' HO408.out).2.2 | (with_reducible refine Kd.C_alloc ?_ _) | (with_reducible refine Kd.C_drewN ?_ _) | (with_reducible refine Kd.C_drew ?_))); (case side2 => exact (Kd.R_reads' HO408.out).2.1); rintro e w29 ⟨rfl, hb⟩; have n0_ := am (Kd.R_below (by (with_reducible repeat (first | apply Kd.R_alloc | apply Kd.R_drewN | apply Kd.R_drew)); exact HO408.out) hb); have n1_ := am (Kd.R_below (by (with_reducible repeat (first | apply Kd.R_alloc | apply Kd.R_drewN | apply Kd.R_drew)); exact HO420.out) hb); have n2_ := am (blk_below (by (with_reducible repeat (first | refine blk_drewN ?_ _ | refine blk_drew ?_ | refine blk_alloc ?_ _)); exact BK417.out) hb); have n3_ := am (below_step (by repeat (first | (with_reducible first | exact HB.out | apply below_alloc | apply pw_below_drewN | apply below_drew1 | refine below_set ?_ GE417.out) | exact HB.out)) hb); clear HO408; clear HO420; clear BK417; clear HB; have HO408 := n0_; have HO420 := n1_; have BK417 := n2_; have HB := n3_; clear n0_ n1_ n2_ n3_; (try clear hb); (try clear hb2); (try clear hk); (try clear hi)))
                go_meet
                case rel => exact ⟨_, (true), (by first | rfl | (simp; done) | (simp [*]; done)), H', ⟨by first | omega | exact Nat.le_refl _⟩, ⟨by (with_reducible repeat (first | refine blk_drewN ?_ _ | refine blk_drew ?_ | refine blk_alloc ?_ _)); exact BK417.out⟩, ⟨by repeat (first | (with_reducible first | exact HB.out | apply below_alloc | apply pw_below_drewN | apply below_drew1 | refine below_set ?_ GE417.out) | exact HB.out)⟩⟩
              · rw [if_neg c22] at H
                have c22b0 : decide (t425 < 1) = false := decide_eq_false c22
                clear c22
                by_cases c30 : (t418.length : Int) = (wrap64 ((t406.length : Int) + 1))
                · rw [if_pos c30] at H
                  have c30b0 : ((t418.length : Int) == (wrap64 ((t406.length : Int) + 1))) = true := beq_iff_eq.mpr c30
                  have c30b1 : ((t418.length : Int) != (wrap64 ((t406.length : Int) + 1))) = false := bne_eq_false_iff_eq.mpr c30
                  clear c30
                  have H' := Aside0.mk H
                  clear H
                  have hcz31_0 : w11.cell? ⟨gb417, 0, none⟩ = some (.int .i64 t409) := (blk_cell BK417.out 0).trans rfl
                  have hcz31_1 : w11.cell? ⟨gb417, 1, none⟩ = some (.int .i64 t410) := (blk_cell BK417.out 1).trans rfl
                  have hcz31_2 : w11.cell? ⟨gb417, 2, none⟩ = some (.int .i64 t411) := (blk_cell BK417.out 2).trans rfl
                  have hcz31_3 : w11.cell? ⟨gb417, 3, none⟩ = some (.int .i64 t412) := (blk_cell BK417.out 3).trans rfl
                  have hcz31_4 : w11.cell? ⟨gb417, 4, none⟩ = some (.int .i64 t413) := (blk_cell BK417.out 4).trans rfl
                  have hcz31_5 : w11.cell? ⟨gb417, 5, none⟩ = some (.int .i64 t414) := (blk_cell BK417.out 5).trans rfl
                  have hcz31_6 : w11.cell? ⟨gb417, 6, none⟩ = some (.int .i64 t415) := (blk_cell BK417.out 6).trans rfl
                  have hcz31_7 : w11.cell? ⟨gb417, 7, none⟩ = some (.int .i64 t416) := (blk_cell BK417.out 7).trans rfl
                  have hfz31_0 := blk_frozen BK417.out 0
                  have hfz31_1 := blk_frozen BK417.out 1
                  have hfz31_2 := blk_frozen BK417.out 2
                  have hfz31_3 := blk_frozen BK417.out 3
                  have hfz31_4 := blk_frozen BK417.out 4
                  have hfz31_5 := blk_frozen BK417.out 5
                  have hfz31_6 := blk_frozen BK417.out 6
                  have hfz31_7 := blk_frozen BK417.out 7
                  go_wp2_with (first | ((with_reducible refine gate_callee (f := 19) rfl ?_); refine goesL_ (some 26) rfl rfl Try.func19 (by kernel_rfl) rfl #[.slice Ao10 t406.length co10, .agg #[.int .i64 t409, .int .i64 t410, .int .i64 t411, .int .i64 t412, .int .i64 t413, .int .i64 t414, .int .i64 t415, .int .i64 t416]] rfl (by (try simp only [List.map_toArray, List.map_cons, List.map_nil]); first | done | rfl | (simp only [List.length_drop, List.length_take]; rfl)) ?_; (with_reducible refine (impl_CanAddRule.calls k _ _ t406 t409 t410 t411 t412 t413 t414 t415 t416 t422 _ ?side1 ?side2 A12.out).mono ?_); (case side1 => repeat (first | exact (Kd.R_reads' HO408.out).2.2 | (with_reducible refine Kd.C_alloc ?_ _) | (with_reducible refine Kd.C_drewN ?_ _) | (with_reducible refine Kd.C_drew ?_))); (case side2 => exact (Kd.R_reads' HO408.out).2.1); rintro e w32 ⟨rfl, hb⟩; refine ⟨_, rfl, ?_⟩; have n0_ := am (Kd.R_below (by (with_reducible repeat (first | apply Kd.R_alloc | apply Kd.R_drewN | apply Kd.R_drew)); exact HO408.out) hb); have n1_ := am (Kd.R_below (by (with_reducible repeat (first | apply Kd.R_alloc | apply Kd.R_drewN | apply Kd.R_drew)); exact HO420.out) hb); have n2_ := am (blk_below (by (with_reducible repeat (first | refine blk_drewN ?_ _ | refine blk_drew ?_ | refine blk_alloc ?_ _)); exact BK417.out) hb); have n3_ := am (below_step (by repeat (first | (with_reducible first | exact HB.out | apply below_alloc | apply pw_below_drewN | apply below_drew1 | refine below_set ?_ GE417.out) | exact HB.out)) hb); clear HO408; clear HO420; clear BK417; clear HB; have HO408 := n0_; have HO420 := n1_; have BK417 := n2_; have HB := n3_; clear n0_ n1_ n2_ n3_; (try clear hb); (try clear hb2); (try clear hk); (try clear hi)) | (go_at_call 51; (with_reducible refine (impl_IsFair.calls k _ _ t406 true _ ?side1 ?side2 A17.out).mono ?_); (case side1 => repeat (first | exact (Kd.R_reads' HO408.out).2.2 | (with_reducible refine Kd.C_alloc ?_ _) | (with_reducible refine Kd.C_drewN ?_ _) | (with_reducible refine Kd.C_drew ?_))); (case side2 => exact (Kd.R_reads' HO408.out).2.1); rintro e w33 ⟨rfl, hb⟩; have n0_ := am (Kd.R_below (by (with_reducible repeat (first | apply Kd.R_alloc | apply Kd.R_drewN | apply Kd.R_drew)); exact HO408.out) hb); have n1_ := am (Kd.R_below (by (with_reducible repeat (first | apply Kd.R_alloc | apply Kd.R_drewN | apply Kd.R_drew)); exact HO420.out) hb); have n2_ := am (blk_below (by (with_reducible repeat (first | refine blk_drewN ?_ _ | refine blk_drew ?_ | refine blk_alloc ?_ _)); exact BK417.out) hb); have n3_ := am (below_step (by repeat (first | (with_reducible first | exact HB.out | apply below_alloc | apply pw_below_drewN | apply below_drew1 | refine below_set ?_ GE417.out) | exact HB.out)) hb); clear HO408; clear HO420; clear BK417; clear HB; have HO408 := n0_; have HO420 := n1_; have BK417 := n2_; have HB := n3_; clear n0_ n1_ n2_ n3_; (try clear hb); (try clear hb2); (try clear hk); (try clear hi); obtain ⟨Ao34, co34, eo34⟩ := Kd.R_slice HO420.out; subst eo34) | (go_at_call 51; (with_reducible refine (impl_IsFair.calls k _ _ t418 true _ ?side1 ?side2 A19.out).mono ?_); (case side1 => repeat (first | exact (Kd.R_reads' HO420.out).2.2 | (with_reducible refine Kd.C_alloc ?_ _) | (with_reducible refine Kd.C_drewN ?_ _) | (with_reducible refine Kd.C_drew ?_))); (case side2 => exact (Kd.R_reads' HO420.out).2.1); rintro e w35 ⟨rfl, hb⟩; have n0_ := am (Kd.R_below (by (with_reducible repeat (first | apply Kd.R_alloc | apply Kd.R_drewN | apply Kd.R_drew)); exact HO408.out) hb); have n1_ := am (Kd.R_below (by (with_reducible repeat (first | apply Kd.R_alloc | apply Kd.R_drewN | apply Kd.R_drew)); exact HO420.out) hb); have n2_ := am (blk_below (by (with_reducible repeat (first | refine blk_drewN ?_ _ | refine blk_drew ?_ | refine blk_alloc ?_ _)); exact BK417.out) hb); have n3_ := am (below_step (by repeat (first | (with_reducible first | exact HB.out | apply below_alloc | apply pw_below_drewN | apply below_drew1 | refine below_set ?_ GE417.out) | exact HB.out)) hb); clear HO408; clear HO420; clear BK417; clear HB; have HO408 := n0_; have HO420 := n1_; have BK417 := n2_; have HB := n3_; clear n0_ n1_ n2_ n3_; (try clear hb); (try clear hb2); (try clear hk); (try clear hi); obtain ⟨hcz36_0, hcz36_1, hcz36_2, hcz36_3, hcz36_4, hcz36_5, hcz36_6, hcz36_7, hfz36_0, hfz36_1, hfz36_2, hfz36_3, hfz36_4, hfz36_5, hfz36_6, hfz36_7⟩ := blk8 BK417.out) | (go_at_call 52; (with_reducible refine (impl_RoomFor.calls k _ _ t406 t409 t425 _ ?side1 ?side2 A21.out).mono ?_); (case side1 => repeat (first | exact (Kd.R_reads' HO408.out).2.2 | (with_reducible refine Kd.C_alloc ?_ _) | (with_reducible refine Kd.C_drewN ?_ _) | (with_reducible refine Kd.C_drew ?_))); (case side2 => exact (Kd.R_reads' HO408.out).2.1); rintro e w37 ⟨rfl, hb⟩; have n0_ := am (Kd.R_below (by (with_reducible repeat (first | apply Kd.R_alloc | apply Kd.R_drewN | apply Kd.R_drew)); exact HO408.out) hb); have n1_ := am (Kd.R_below (by (with_reducible repeat (first | apply Kd.R_alloc | apply Kd.R_drewN | apply Kd.R_drew)); exact HO420.out) hb); have n2_ := am (blk_below (by (with_reducible repeat (first | refine blk_drewN ?_ _ | refine blk_drew ?_ | refine blk_alloc ?_ _)); exact BK417.out) hb); have n3_ := am (below_step (by repeat (first | (with_reducible first | exact HB.out | apply below_alloc | apply pw_below_drewN | apply below_drew1 | refine below_set ?_ GE417.out) | exact HB.out)) hb); clear HO408; clear HO420; clear BK417; clear HB; have HO408 := n0_; have HO420 := n1_; have BK417 := n2_; have HB := n3_; clear n0_ n1_ n2_ n3_; (try clear hb); (try clear hb2); (try clear hk); (try clear hi)))
                  go_meet
                  case rel => exact ⟨_, (false), (by first | rfl | (simp; done) | (simp [*]; done)), H', ⟨by first | omega | exact Nat.le_refl _⟩, ⟨by (with_reducible repeat (first | refine blk_drewN ?_ _ | refine blk_drew ?_ | refine blk_alloc ?_ _)); exact BK417.out⟩, ⟨by repeat (first | (with_reducible first | exact HB.out | apply below_alloc | apply pw_below_drewN | apply below_drew1 | refine below_set ?_ GE417.out) | exact HB.out)⟩⟩
                · rw [if_neg c30] at H
                  have c30b0 : ((t418.length : Int) == (wrap64 ((t406.length : Int) + 1))) = false := beq_eq_false_iff_ne.mpr c30
                  have c30b1 : ((t418.length : Int) != (wrap64 ((t406.length : Int) + 1))) = true := bne_iff_ne.mpr c30
                  have H' := Aside0.mk H
                  clear H
                  have hcz38_0 : w11.cell? ⟨gb417, 0, none⟩ = some (.int .i64 t409) := (blk_cell BK417.out 0).trans rfl
                  have hcz38_1 : w11.cell? ⟨gb417, 1, none⟩ = some (.int .i64 t410) := (blk_cell BK417.out 1).trans rfl
                  have hcz38_2 : w11.cell? ⟨gb417, 2, none⟩ = some (.int .i64 t411) := (blk_cell BK417.out 2).trans rfl
                  have hcz38_3 : w11.cell? ⟨gb417, 3, none⟩ = some (.int .i64 t412) := (blk_cell BK417.out 3).trans rfl
                  have hcz38_4 : w11.cell? ⟨gb417, 4, none⟩ = some (.int .i64 t413) := (blk_cell BK417.out 4).trans rfl
                  have hcz38_5 : w11.cell? ⟨gb417, 5, none⟩ = some (.int .i64 t414) := (blk_cell BK417.out 5).trans rfl
                  have hcz38_6 : w11.cell? ⟨gb417, 6, none⟩ = some (.int .i64 t415) := (blk_cell BK417.out 6).trans rfl
                  have hcz38_7 : w11.cell? ⟨gb417, 7, none⟩ = some (.int .i64 t416) := (blk_cell BK417.out 7).trans rfl
                  have hfz38_0 := blk_frozen BK417.out 0
                  have hfz38_1 := blk_frozen BK417.out 1
                  have hfz38_2 := blk_frozen BK417.out 2
                  have hfz38_3 := blk_frozen BK417.out 3
                  have hfz38_4 := blk_frozen BK417.out 4
                  have hfz38_5 := blk_frozen BK417.out 5
                  have hfz38_6 := blk_frozen BK417.out 6
                  have hfz38_7 := blk_frozen BK417.out 7
                  go_wp2_with (first | ((with_reducible refine gate_callee (f := 19) rfl ?_); refine goesL_ (some 26) rfl rfl Try.func19 (by kernel_rfl) rfl #[.slice Ao10 t406.length co10, .agg #[.int .i64 t409, .int .i64 t410, .int .i64 t411, .int .i64 t412, .int .i64 t413, .int .i64 t414, .int .i64 t415, .int .i64 t416]] rfl (by (try simp only [List.map_toArray, List.map_cons, List.map_nil]); first | done | rfl | (simp only [List.length_drop, List.length_take]; rfl)) ?_; (with_reducible refine (impl_CanAddRule.calls k _ _ t406 t409 t410 t411 t412 t413 t414 t415 t416 t422 _ ?side1 ?side2 A12.out).mono ?_); (case side1 => repeat (first | exact (Kd.R_reads' HO408.out).2.2 | (with_reducible refine Kd.C_alloc ?_ _) | (with_reducible refine Kd.C_drewN ?_ _) | (with_reducible refine Kd.C_drew ?_))); (case side2 => exact (Kd.R_reads' HO408.out).2.1); rintro e w39 ⟨rfl, hb⟩; refine ⟨_, rfl, ?_⟩; have n0_ := am (Kd.R_below (by (with_reducible repeat (first | apply Kd.R_alloc | apply Kd.R_drewN | apply Kd.R_drew)); exact HO408.out) hb); have n1_ := am (Kd.R_below (by (with_reducible repeat (first | apply Kd.R_alloc | apply Kd.R_drewN | apply Kd.R_drew)); exact HO420.out) hb); have n2_ := am (blk_below (by (with_reducible repeat (first | refine blk_drewN ?_ _ | refine blk_drew ?_ | refine blk_alloc ?_ _)); exact BK417.out) hb); have n3_ := am (below_step (by repeat (first | (with_reducible first | exact HB.out | apply below_alloc | apply pw_below_drewN | apply below_drew1 | refine below_set ?_ GE417.out) | exact HB.out)) hb); clear HO408; clear HO420; clear BK417; clear HB; have HO408 := n0_; have HO420 := n1_; have BK417 := n2_; have HB := n3_; clear n0_ n1_ n2_ n3_; (try clear hb); (try clear hb2); (try clear hk); (try clear hi)) | (go_at_call 51; (with_reducible refine (impl_IsFair.calls k _ _ t406 true _ ?side1 ?side2 A17.out).mono ?_); (case side1 => repeat (first | exact (Kd.R_reads' HO408.out).2.2 | (with_reducible refine Kd.C_alloc ?_ _) | (with_reducible refine Kd.C_drewN ?_ _) | (with_reducible refine Kd.C_drew ?_))); (case side2 => exact (Kd.R_reads' HO408.out).2.1); rintro e w40 ⟨rfl, hb⟩; have n0_ := am (Kd.R_below (by (with_reducible repeat (first | apply Kd.R_alloc | apply Kd.R_drewN | apply Kd.R_drew)); exact HO408.out) hb); have n1_ := am (Kd.R_below (by (with_reducible repeat (first | apply Kd.R_alloc | apply Kd.R_drewN | apply Kd.R_drew)); exact HO420.out) hb); have n2_ := am (blk_below (by (with_reducible repeat (first | refine blk_drewN ?_ _ | refine blk_drew ?_ | refine blk_alloc ?_ _)); exact BK417.out) hb); have n3_ := am (below_step (by repeat (first | (with_reducible first | exact HB.out | apply below_alloc | apply pw_below_drewN | apply below_drew1 | refine below_set ?_ GE417.out) | exact HB.out)) hb); clear HO408; clear HO420; clear BK417; clear HB; have HO408 := n0_; have HO420 := n1_; have BK417 := n2_; have HB := n3_; clear n0_ n1_ n2_ n3_; (try clear hb); (try clear hb2); (try clear hk); (try clear hi); obtain ⟨Ao41, co41, eo41⟩ := Kd.R_slice HO420.out; subst eo41) | (go_at_call 51; (with_reducible refine (impl_IsFair.calls k _ _ t418 true _ ?side1 ?side2 A19.out).mono ?_); (case side1 => repeat (first | exact (Kd.R_reads' HO420.out).2.2 | (with_reducible refine Kd.C_alloc ?_ _) | (with_reducible refine Kd.C_drewN ?_ _) | (with_reducible refine Kd.C_drew ?_))); (case side2 => exact (Kd.R_reads' HO420.out).2.1); rintro e w42 ⟨rfl, hb⟩; have n0_ := am (Kd.R_below (by (with_reducible repeat (first | apply Kd.R_alloc | apply Kd.R_drewN | apply Kd.R_drew)); exact HO408.out) hb); have n1_ := am (Kd.R_below (by (with_reducible repeat (first | apply Kd.R_alloc | apply Kd.R_drewN | apply Kd.R_drew)); exact HO420.out) hb); have n2_ := am (blk_below (by (with_reducible repeat (first | refine blk_drewN ?_ _ | refine blk_drew ?_ | refine blk_alloc ?_ _)); exact BK417.out) hb); have n3_ := am (below_step (by repeat (first | (with_reducible first | exact HB.out | apply below_alloc | apply pw_below_drewN | apply below_drew1 | refine below_set ?_ GE417.out) | exact HB.out)) hb); clear HO408; clear HO420; clear BK417; clear HB; have HO408 := n0_; have HO420 := n1_; have BK417 := n2_; have HB := n3_; clear n0_ n1_ n2_ n3_; (try clear hb); (try clear hb2); (try clear hk); (try clear hi); obtain ⟨hcz43_0, hcz43_1, hcz43_2, hcz43_3, hcz43_4, hcz43_5, hcz43_6, hcz43_7, hfz43_0, hfz43_1, hfz43_2, hfz43_3, hfz43_4, hfz43_5, hfz43_6, hfz43_7⟩ := blk8 BK417.out) | (go_at_call 52; (with_reducible refine (impl_RoomFor.calls k _ _ t406 t409 t425 _ ?side1 ?side2 A21.out).mono ?_); (case side1 => repeat (first | exact (Kd.R_reads' HO408.out).2.2 | (with_reducible refine Kd.C_alloc ?_ _) | (with_reducible refine Kd.C_drewN ?_ _) | (with_reducible refine Kd.C_drew ?_))); (case side2 => exact (Kd.R_reads' HO408.out).2.1); rintro e w44 ⟨rfl, hb⟩; have n0_ := am (Kd.R_below (by (with_reducible repeat (first | apply Kd.R_alloc | apply Kd.R_drewN | apply Kd.R_drew)); exact HO408.out) hb); have n1_ := am (Kd.R_below (by (with_reducible repeat (first | apply Kd.R_alloc | apply Kd.R_drewN | apply Kd.R_drew)); exact HO420.out) hb); have n2_ := am (blk_below (by (with_reducible repeat (first | refine blk_drewN ?_ _ | refine blk_drew ?_ | refine blk_alloc ?_ _)); exact BK417.out) hb); have n3_ := am (below_step (by repeat (first | (with_reducible first | exact HB.out | apply below_alloc | apply pw_below_drewN | apply below_drew1 | refine below_set ?_ GE417.out) | exact HB.out)) hb); clear HO408; clear HO420; clear BK417; clear HB; have HO408 := n0_; have HO420 := n1_; have BK417 := n2_; have HB := n3_; clear n0_ n1_ n2_ n3_; (try clear hb); (try clear hb2); (try clear hk); (try clear hi)))
                  go_meet
                  case rel => exact ⟨_, (true), (by first | rfl | (simp; done) | (simp [*]; done)), H', ⟨by first | omega | exact Nat.le_refl _⟩, ⟨by (with_reducible repeat (first | refine blk_drewN ?_ _ | refine blk_drew ?_ | refine blk_alloc ?_ _)); exact BK417.out⟩, ⟨by repeat (first | (with_reducible first | exact HB.out | apply below_alloc | apply pw_below_drewN | apply below_drew1 | refine below_set ?_ GE417.out) | exact HB.out)⟩⟩
            · replace c20 := Bool.eq_false_iff.mpr c20
              subst c20
              have H1 : (laws_FnQuotas.j0 k l0 true) = some r := by rw [if_neg (show ¬ (false = true) by decide)] at H; exact H
              clear H
              have H := H1
              clear H1
              have H' := Aside0.mk H
              clear H
              have hcz45_0 : w11.cell? ⟨gb417, 0, none⟩ = some (.int .i64 t409) := (blk_cell BK417.out 0).trans rfl
              have hcz45_1 : w11.cell? ⟨gb417, 1, none⟩ = some (.int .i64 t410) := (blk_cell BK417.out 1).trans rfl
              have hcz45_2 : w11.cell? ⟨gb417, 2, none⟩ = some (.int .i64 t411) := (blk_cell BK417.out 2).trans rfl
              have hcz45_3 : w11.cell? ⟨gb417, 3, none⟩ = some (.int .i64 t412) := (blk_cell BK417.out 3).trans rfl
              have hcz45_4 : w11.cell? ⟨gb417, 4, none⟩ = some (.int .i64 t413) := (blk_cell BK417.out 4).trans rfl
              have hcz45_5 : w11.cell? ⟨gb417, 5, none⟩ = some (.int .i64 t414) := (blk_cell BK417.out 5).trans rfl
              have hcz45_6 : w11.cell? ⟨gb417, 6, none⟩ = some (.int .i64 t415) := (blk_cell BK417.out 6).trans rfl
              have hcz45_7 : w11.cell? ⟨gb417, 7, none⟩ = some (.int .i64 t416) := (blk_cell BK417.out 7).trans rfl
              have hfz45_0 := blk_frozen BK417.out 0
              have hfz45_1 := blk_frozen BK417.out 1
              have hfz45_2 := blk_frozen BK417.out 2
              have hfz45_3 := blk_frozen BK417.out 3
              have hfz45_4 := blk_frozen BK417.out 4
              have hfz45_5 := blk_frozen BK417.out 5
              have hfz45_6 := blk_frozen BK417.out 6
              have hfz45_7 := blk_frozen BK417.out 7
              go_wp2_with (first | ((with_reducible refine gate_callee (f := 19) rfl ?_); refine goesL_ (some 26) rfl rfl Try.func19 (by kernel_rfl) rfl #[.slice Ao10 t406.length co10, .agg #[.int .i64 t409, .int .i64 t410, .int .i64 t411, .int .i64 t412, .int .i64 t413, .int .i64 t414, .int .i64 t415, .int .i64 t416]] rfl (by (try simp only [List.map_toArray, List.map_cons, List.map_nil]); first | done | rfl | (simp only [List.length_drop, List.length_take]; rfl)) ?_; (with_reducible refine (impl_CanAddRule.calls k _ _ t406 t409 t410 t411 t412 t413 t414 t415 t416 t422 _ ?side1 ?side2 A12.out).mono ?_); (case side1 => repeat (first | exact (Kd.R_reads' HO408.out).2.2 | (with_reducible refine Kd.C_alloc ?_ _) | (with_reducible refine Kd.C_drewN ?_ _) | (with_reducible refine Kd.C_drew ?_))); (case side2 => exact (Kd.R_reads' HO408.out).2.1); rintro e w46 ⟨rfl, hb⟩; refine ⟨_, rfl, ?_⟩; have n0_ := am (Kd.R_below (by (with_reducible repeat (first | apply Kd.R_alloc | apply Kd.R_drewN | apply Kd.R_drew)); exact HO408.out) hb); have n1_ := am (Kd.R_below (by (with_reducible repeat (first | apply Kd.R_alloc | apply Kd.R_drewN | apply Kd.R_drew)); exact HO420.out) hb); have n2_ := am (blk_below (by (with_reducible repeat (first | refine blk_drewN ?_ _ | refine blk_drew ?_ | refine blk_alloc ?_ _)); exact BK417.out) hb); have n3_ := am (below_step (by repeat (first | (with_reducible first | exact HB.out | apply below_alloc | apply pw_below_drewN | apply below_drew1 | refine below_set ?_ GE417.out) | exact HB.out)) hb); clear HO408; clear HO420; clear BK417; clear HB; have HO408 := n0_; have HO420 := n1_; have BK417 := n2_; have HB := n3_; clear n0_ n1_ n2_ n3_; (try clear hb); (try clear hb2); (try clear hk); (try clear hi)) | (go_at_call 51; (with_reducible refine (impl_IsFair.calls k _ _ t406 true _ ?side1 ?side2 A17.out).mono ?_); (case side1 => repeat (first | exact (Kd.R_reads' HO408.out).2.2 | (with_reducible refine Kd.C_alloc ?_ _) | (with_reducible refine Kd.C_drewN ?_ _) | (with_reducible refine Kd.C_drew ?_))); (case side2 => exact (Kd.R_reads' HO408.out).2.1); rintro e w47 ⟨rfl, hb⟩; have n0_ := am (Kd.R_below (by (with_reducible repeat (first | apply Kd.R_alloc | apply Kd.R_drewN | apply Kd.R_drew)); exact HO408.out) hb); have n1_ := am (Kd.R_below (by (with_reducible repeat (first | apply Kd.R_alloc | apply Kd.R_drewN | apply Kd.R_drew)); exact HO420.out) hb); have n2_ := am (blk_below (by (with_reducible repeat (first | refine blk_drewN ?_ _ | refine blk_drew ?_ | refine blk_alloc ?_ _)); exact BK417.out) hb); have n3_ := am (below_step (by repeat (first | (with_reducible first | exact HB.out | apply below_alloc | apply pw_below_drewN | apply below_drew1 | refine below_set ?_ GE417.out) | exact HB.out)) hb); clear HO408; clear HO420; clear BK417; clear HB; have HO408 := n0_; have HO420 := n1_; have BK417 := n2_; have HB := n3_; clear n0_ n1_ n2_ n3_; (try clear hb); (try clear hb2); (try clear hk); (try clear hi); obtain ⟨Ao48, co48, eo48⟩ := Kd.R_slice HO420.out; subst eo48) | (go_at_call 51; (with_reducible refine (impl_IsFair.calls k _ _ t418 false _ ?side1 ?side2 A19.out).mono ?_); (case side1 => repeat (first | exact (Kd.R_reads' HO420.out).2.2 | (with_reducible refine Kd.C_alloc ?_ _) | (with_reducible refine Kd.C_drewN ?_ _) | (with_reducible refine Kd.C_drew ?_))); (case side2 => exact (Kd.R_reads' HO420.out).2.1); rintro e w49 ⟨rfl, hb⟩; have n0_ := am (Kd.R_below (by (with_reducible repeat (first | apply Kd.R_alloc | apply Kd.R_drewN | apply Kd.R_drew)); exact HO408.out) hb); have n1_ := am (Kd.R_below (by (with_reducible repeat (first | apply Kd.R_alloc | apply Kd.R_drewN | apply Kd.R_drew)); exact HO420.out) hb); have n2_ := am (blk_below (by (with_reducible repeat (first | refine blk_drewN ?_ _ | refine blk_drew ?_ | refine blk_alloc ?_ _)); exact BK417.out) hb); have n3_ := am (below_step (by repeat (first | (with_reducible first | exact HB.out | apply below_alloc | apply pw_below_drewN | apply below_drew1 | refine below_set ?_ GE417.out) | exact HB.out)) hb); clear HO408; clear HO420; clear BK417; clear HB; have HO408 := n0_; have HO420 := n1_; have BK417 := n2_; have HB := n3_; clear n0_ n1_ n2_ n3_; (try clear hb); (try clear hb2); (try clear hk); (try clear hi)))
              go_meet
              case rel => exact ⟨_, (true), (by first | rfl | (simp; done) | (simp [*]; done)), H', ⟨by first | omega | exact Nat.le_refl _⟩, ⟨by (with_reducible repeat (first | refine blk_drewN ?_ _ | refine blk_drew ?_ | refine blk_alloc ?_ _)); exact BK417.out⟩, ⟨by repeat (first | (with_reducible first | exact HB.out | apply below_alloc | apply pw_below_drewN | apply below_drew1 | refine below_set ?_ GE417.out) | exact HB.out)⟩⟩
          · replace c18 := Bool.eq_false_iff.mpr c18
            subst c18
            have H1 : ((impl_RoomFor.f k t406 t409).bind fun t426 => (if t426 < 1 then (laws_FnQuotas.j0 k l0 true) else (if (t418.length : Int) = (wrap64 ((t406.length : Int) + 1)) then (laws_FnQuotas.j0 k l0 false) else (laws_FnQuotas.j0 k l0 true)))) = some r := by rw [if_neg (show ¬ (false = true) by decide)] at H; exact H
            clear H
            have H := H1
            clear H1
            replace H := Option.bind_eq_some_iff.mp H
            obtain ⟨t426, A500, H⟩ := H
            replace H : (if t426 < 1 then (laws_FnQuotas.j0 k l0 true) else (if (t418.length : Int) = (wrap64 ((t406.length : Int) + 1)) then (laws_FnQuotas.j0 k l0 false) else (laws_FnQuotas.j0 k l0 true))) = some r := H
            have A50 := Aside0.mk A500
            clear A500
            by_cases c51 : t426 < 1
            · rw [if_pos c51] at H
              have c51b0 : decide (t426 < 1) = true := decide_eq_true c51
              clear c51
              have H' := Aside0.mk H
              clear H
              have hcz52_0 : w11.cell? ⟨gb417, 0, none⟩ = some (.int .i64 t409) := (blk_cell BK417.out 0).trans rfl
              have hcz52_1 : w11.cell? ⟨gb417, 1, none⟩ = some (.int .i64 t410) := (blk_cell BK417.out 1).trans rfl
              have hcz52_2 : w11.cell? ⟨gb417, 2, none⟩ = some (.int .i64 t411) := (blk_cell BK417.out 2).trans rfl
              have hcz52_3 : w11.cell? ⟨gb417, 3, none⟩ = some (.int .i64 t412) := (blk_cell BK417.out 3).trans rfl
              have hcz52_4 : w11.cell? ⟨gb417, 4, none⟩ = some (.int .i64 t413) := (blk_cell BK417.out 4).trans rfl
              have hcz52_5 : w11.cell? ⟨gb417, 5, none⟩ = some (.int .i64 t414) := (blk_cell BK417.out 5).trans rfl
              have hcz52_6 : w11.cell? ⟨gb417, 6, none⟩ = some (.int .i64 t415) := (blk_cell BK417.out 6).trans rfl
              have hcz52_7 : w11.cell? ⟨gb417, 7, none⟩ = some (.int .i64 t416) := (blk_cell BK417.out 7).trans rfl
              have hfz52_0 := blk_frozen BK417.out 0
              have hfz52_1 := blk_frozen BK417.out 1
              have hfz52_2 := blk_frozen BK417.out 2
              have hfz52_3 := blk_frozen BK417.out 3
              have hfz52_4 := blk_frozen BK417.out 4
              have hfz52_5 := blk_frozen BK417.out 5
              have hfz52_6 := blk_frozen BK417.out 6
              have hfz52_7 := blk_frozen BK417.out 7
              go_wp2_with (first | ((with_reducible refine gate_callee (f := 19) rfl ?_); refine goesL_ (some 26) rfl rfl Try.func19 (by kernel_rfl) rfl #[.slice Ao10 t406.length co10, .agg #[.int .i64 t409, .int .i64 t410, .int .i64 t411, .int .i64 t412, .int .i64 t413, .int .i64 t414, .int .i64 t415, .int .i64 t416]] rfl (by (try simp only [List.map_toArray, List.map_cons, List.map_nil]); first | done | rfl | (simp only [List.length_drop, List.length_take]; rfl)) ?_; (with_reducible refine (impl_CanAddRule.calls k _ _ t406 t409 t410 t411 t412 t413 t414 t415 t416 t422 _ ?side1 ?side2 A12.out).mono ?_); (case side1 => repeat (first | exact (Kd.R_reads' HO408.out).2.2 | (with_reducible refine Kd.C_alloc ?_ _) | (with_reducible refine Kd.C_drewN ?_ _) | (with_reducible refine Kd.C_drew ?_))); (case side2 => exact (Kd.R_reads' HO408.out).2.1); rintro e w53 ⟨rfl, hb⟩; refine ⟨_, rfl, ?_⟩; have n0_ := am (Kd.R_below (by (with_reducible repeat (first | apply Kd.R_alloc | apply Kd.R_drewN | apply Kd.R_drew)); exact HO408.out) hb); have n1_ := am (Kd.R_below (by (with_reducible repeat (first | apply Kd.R_alloc | apply Kd.R_drewN | apply Kd.R_drew)); exact HO420.out) hb); have n2_ := am (blk_below (by (with_reducible repeat (first | refine blk_drewN ?_ _ | refine blk_drew ?_ | refine blk_alloc ?_ _)); exact BK417.out) hb); have n3_ := am (below_step (by repeat (first | (with_reducible first | exact HB.out | apply below_alloc | apply pw_below_drewN | apply below_drew1 | refine below_set ?_ GE417.out) | exact HB.out)) hb); clear HO408; clear HO420; clear BK417; clear HB; have HO408 := n0_; have HO420 := n1_; have BK417 := n2_; have HB := n3_; clear n0_ n1_ n2_ n3_; (try clear hb); (try clear hb2); (try clear hk); (try clear hi)) | (go_at_call 51; (with_reducible refine (impl_IsFair.calls k _ _ t406 false _ ?side1 ?side2 A17.out).mono ?_); (case side1 => repeat (first | exact (Kd.R_reads' HO408.out).2.2 | (with_reducible refine Kd.C_alloc ?_ _) | (with_reducible refine Kd.C_drewN ?_ _) | (with_reducible refine Kd.C_drew ?_))); (case side2 => exact (Kd.R_reads' HO408.out).2.1); rintro e w54 ⟨rfl, hb⟩; have n0_ := am (Kd.R_below (by (with_reducible repeat (first | apply Kd.R_alloc | apply Kd.R_drewN | apply Kd.R_drew)); exact HO408.out) hb); have n1_ := am (Kd.R_below (by (with_reducible repeat (first | apply Kd.R_alloc | apply Kd.R_drewN | apply Kd.R_drew)); exact HO420.out) hb); have n2_ := am (blk_below (by (with_reducible repeat (first | refine blk_drewN ?_ _ | refine blk_drew ?_ | refine blk_alloc ?_ _)); exact BK417.out) hb); have n3_ := am (below_step (by repeat (first | (with_reducible first | exact HB.out | apply below_alloc | apply pw_below_drewN | apply below_drew1 | refine below_set ?_ GE417.out) | exact HB.out)) hb); clear HO408; clear HO420; clear BK417; clear HB; have HO408 := n0_; have HO420 := n1_; have BK417 := n2_; have HB := n3_; clear n0_ n1_ n2_ n3_; (try clear hb); (try clear hb2); (try clear hk); (try clear hi); obtain ⟨hcz55_0, hcz55_1, hcz55_2, hcz55_3, hcz55_4, hcz55_5, hcz55_6, hcz55_7, hfz55_0, hfz55_1, hfz55_2, hfz55_3, hfz55_4, hfz55_5, hfz55_6, hfz55_7⟩ := blk8 BK417.out) | (go_at_call 52; (with_reducible refine (impl_RoomFor.calls k _ _ t406 t409 t426 _ ?side1 ?side2 A50.out).mono ?_); (case side1 => repeat (first | exact (Kd.R_reads' HO408.out).2.2 | (with_reducible refine Kd.C_alloc ?_ _) | (with_reducible refine Kd.C_drewN ?_ _) | (with_reducible refine Kd.C_drew ?_))); (case side2 => exact (Kd.R_reads' HO408.out).2.1); rintro e w56 ⟨rfl, hb⟩; have n0_ := am (Kd.R_below (by (with_reducible repeat (first | apply Kd.R_alloc | apply Kd.R_drewN | apply Kd.R_drew)); exact HO408.out) hb); have n1_ := am (Kd.R_below (by (with_reducible repeat (first | apply Kd.R_alloc | apply Kd.R_drewN | apply Kd.R_drew)); exact HO420.out) hb); have n2_ := am (blk_below (by (with_reducible repeat (first | refine blk_drewN ?_ _ | refine blk_drew ?_ | refine blk_alloc ?_ _)); exact BK417.out) hb); have n3_ := am (below_step (by repeat (first | (with_reducible first | exact HB.out | apply below_alloc | apply pw_below_drewN | apply below_drew1 | refine below_set ?_ GE417.out) | exact HB.out)) hb); clear HO408; clear HO420; clear BK417; clear HB; have HO408 := n0_; have HO420 := n1_; have BK417 := n2_; have HB := n3_; clear n0_ n1_ n2_ n3_; (try clear hb); (try clear hb2); (try clear hk); (try clear hi)))
              go_meet
              case rel => exact ⟨_, (true), (by first | rfl | (simp; done) | (simp [*]; done)), H', ⟨by first | omega | exact Nat.le_refl _⟩, ⟨by (with_reducible repeat (first | refine blk_drewN ?_ _ | refine blk_drew ?_ | refine blk_alloc ?_ _)); exact BK417.out⟩, ⟨by repeat (first | (with_reducible first | exact HB.out | apply below_alloc | apply pw_below_drewN | apply below_drew1 | refine below_set ?_ GE417.out) | exact HB.out)⟩⟩
            · rw [if_neg c51] at H
              have c51b0 : decide (t426 < 1) = false := decide_eq_false c51
              clear c51
              by_cases c57 : (t418.length : Int) = (wrap64 ((t406.length : Int) + 1))
              · rw [if_pos c57] at H
                have c57b0 : ((t418.length : Int) == (wrap64 ((t406.length : Int) + 1))) = true := beq_iff_eq.mpr c57
                have c57b1 : ((t418.length : Int) != (wrap64 ((t406.length : Int) + 1))) = false := bne_eq_false_iff_eq.mpr c57
                clear c57
                have H' := Aside0.mk H
                clear H
                have hcz58_0 : w11.cell? ⟨gb417, 0, none⟩ = some (.int .i64 t409) := (blk_cell BK417.out 0).trans rfl
                have hcz58_1 : w11.cell? ⟨gb417, 1, none⟩ = some (.int .i64 t410) := (blk_cell BK417.out 1).trans rfl
                have hcz58_2 : w11.cell? ⟨gb417, 2, none⟩ = some (.int .i64 t411) := (blk_cell BK417.out 2).trans rfl
                have hcz58_3 : w11.cell? ⟨gb417, 3, none⟩ = some (.int .i64 t412) := (blk_cell BK417.out 3).trans rfl
                have hcz58_4 : w11.cell? ⟨gb417, 4, none⟩ = some (.int .i64 t413) := (blk_cell BK417.out 4).trans rfl
                have hcz58_5 : w11.cell? ⟨gb417, 5, none⟩ = some (.int .i64 t414) := (blk_cell BK417.out 5).trans rfl
                have hcz58_6 : w11.cell? ⟨gb417, 6, none⟩ = some (.int .i64 t415) := (blk_cell BK417.out 6).trans rfl
                have hcz58_7 : w11.cell? ⟨gb417, 7, none⟩ = some (.int .i64 t416) := (blk_cell BK417.out 7).trans rfl
                have hfz58_0 := blk_frozen BK417.out 0
                have hfz58_1 := blk_frozen BK417.out 1
                have hfz58_2 := blk_frozen BK417.out 2
                have hfz58_3 := blk_frozen BK417.out 3
                have hfz58_4 := blk_frozen BK417.out 4
                have hfz58_5 := blk_frozen BK417.out 5
                have hfz58_6 := blk_frozen BK417.out 6
                have hfz58_7 := blk_frozen BK417.out 7
                go_wp2_with (first | ((with_reducible refine gate_callee (f := 19) rfl ?_); refine goesL_ (some 26) rfl rfl Try.func19 (by kernel_rfl) rfl #[.slice Ao10 t406.length co10, .agg #[.int .i64 t409, .int .i64 t410, .int .i64 t411, .int .i64 t412, .int .i64 t413, .int .i64 t414, .int .i64 t415, .int .i64 t416]] rfl (by (try simp only [List.map_toArray, List.map_cons, List.map_nil]); first | done | rfl | (simp only [List.length_drop, List.length_take]; rfl)) ?_; (with_reducible refine (impl_CanAddRule.calls k _ _ t406 t409 t410 t411 t412 t413 t414 t415 t416 t422 _ ?side1 ?side2 A12.out).mono ?_); (case side1 => repeat (first | exact (Kd.R_reads' HO408.out).2.2 | (with_reducible refine Kd.C_alloc ?_ _) | (with_reducible refine Kd.C_drewN ?_ _) | (with_reducible refine Kd.C_drew ?_))); (case side2 => exact (Kd.R_reads' HO408.out).2.1); rintro e w59 ⟨rfl, hb⟩; refine ⟨_, rfl, ?_⟩; have n0_ := am (Kd.R_below (by (with_reducible repeat (first | apply Kd.R_alloc | apply Kd.R_drewN | apply Kd.R_drew)); exact HO408.out) hb); have n1_ := am (Kd.R_below (by (with_reducible repeat (first | apply Kd.R_alloc | apply Kd.R_drewN | apply Kd.R_drew)); exact HO420.out) hb); have n2_ := am (blk_below (by (with_reducible repeat (first | refine blk_drewN ?_ _ | refine blk_drew ?_ | refine blk_alloc ?_ _)); exact BK417.out) hb); have n3_ := am (below_step (by repeat (first | (with_reducible first | exact HB.out | apply below_alloc | apply pw_below_drewN | apply below_drew1 | refine below_set ?_ GE417.out) | exact HB.out)) hb); clear HO408; clear HO420; clear BK417; clear HB; have HO408 := n0_; have HO420 := n1_; have BK417 := n2_; have HB := n3_; clear n0_ n1_ n2_ n3_; (try clear hb); (try clear hb2); (try clear hk); (try clear hi)) | (go_at_call 51; (with_reducible refine (impl_IsFair.calls k _ _ t406 false _ ?side1 ?side2 A17.out).mono ?_); (case side1 => repeat (first | exact (Kd.R_reads' HO408.out).2.2 | (with_reducible refine Kd.C_alloc ?_ _) | (with_reducible refine Kd.C_drewN ?_ _) | (with_reducible refine Kd.C_drew ?_))); (case side2 => exact (Kd.R_reads' HO408.out).2.1); rintro e w60 ⟨rfl, hb⟩; have n0_ := am (Kd.R_below (by (with_reducible repeat (first | apply Kd.R_alloc | apply Kd.R_drewN | apply Kd.R_drew)); exact HO408.out) hb); have n1_ := am (Kd.R_below (by (with_reducible repeat (first | apply Kd.R_alloc | apply Kd.R_drewN | apply Kd.R_drew)); exact HO420.out) hb); have n2_ := am (blk_below (by (with_reducible repeat (first | refine blk_drewN ?_ _ | refine blk_drew ?_ | refine blk_alloc ?_ _)); exact BK417.out) hb); have n3_ := am (below_step (by repeat (first | (with_reducible first | exact HB.out | apply below_alloc | apply pw_below_drewN | apply below_drew1 | refine below_set ?_ GE417.out) | exact HB.out)) hb); clear HO408; clear HO420; clear BK417; clear HB; have HO408 := n0_; have HO420 := n1_; have BK417 := n2_; have HB := n3_; clear n0_ n1_ n2_ n3_; (try clear hb); (try clear hb2); (try clear hk); (try clear hi); obtain ⟨hcz61_0, hcz61_1, hcz61_2, hcz61_3, hcz61_4, hcz61_5, hcz61_6, hcz61_7, hfz61_0, hfz61_1, hfz61_2, hfz61_3, hfz61_4, hfz61_5, hfz61_6, hfz61_7⟩ := blk8 BK417.out) | (go_at_call 52; (with_reducible refine (impl_RoomFor.calls k _ _ t406 t409 t426 _ ?side1 ?side2 A50.out).mono ?_); (case side1 => repeat (first | exact (Kd.R_reads' HO408.out).2.2 | (with_reducible refine Kd.C_alloc ?_ _) | (with_reducible refine Kd.C_drewN ?_ _) | (with_reducible refine Kd.C_drew ?_))); (case side2 => exact (Kd.R_reads' HO408.out).2.1); rintro e w62 ⟨rfl, hb⟩; have n0_ := am (Kd.R_below (by (with_reducible repeat (first | apply Kd.R_alloc | apply Kd.R_drewN | apply Kd.R_drew)); exact HO408.out) hb); have n1_ := am (Kd.R_below (by (with_reducible repeat (first | apply Kd.R_alloc | apply Kd.R_drewN | apply Kd.R_drew)); exact HO420.out) hb); have n2_ := am (blk_below (by (with_reducible repeat (first | refine blk_drewN ?_ _ | refine blk_drew ?_ | refine blk_alloc ?_ _)); exact BK417.out) hb); have n3_ := am (below_step (by repeat (first | (with_reducible first | exact HB.out | apply below_alloc | apply pw_below_drewN | apply below_drew1 | refine below_set ?_ GE417.out) | exact HB.out)) hb); clear HO408; clear HO420; clear BK417; clear HB; have HO408 := n0_; have HO420 := n1_; have BK417 := n2_; have HB := n3_; clear n0_ n1_ n2_ n3_; (try clear hb); (try clear hb2); (try clear hk); (try clear hi); obtain ⟨Ao63, co63, eo63⟩ := Kd.R_slice HO420.out; subst eo63))
                go_meet
                case rel => exact ⟨_, (false), (by first | rfl | (simp; done) | (simp [*]; done)), H', ⟨by first | omega | exact Nat.le_refl _⟩, ⟨by (with_reducible repeat (first | refine blk_drewN ?_ _ | refine blk_drew ?_ | refine blk_alloc ?_ _)); exact BK417.out⟩, ⟨by repeat (first | (with_reducible first | exact HB.out | apply below_alloc | apply pw_below_drewN | apply below_drew1 | refine below_set ?_ GE417.out) | exact HB.out)⟩⟩
              · rw [if_neg c57] at H
                have c57b0 : ((t418.length : Int) == (wrap64 ((t406.length : Int) + 1))) = false := beq_eq_false_iff_ne.mpr c57
                have c57b1 : ((t418.length : Int) != (wrap64 ((t406.length : Int) + 1))) = true := bne_iff_ne.mpr c57
                have H' := Aside0.mk H
                clear H
                have hcz64_0 : w11.cell? ⟨gb417, 0, none⟩ = some (.int .i64 t409) := (blk_cell BK417.out 0).trans rfl
                have hcz64_1 : w11.cell? ⟨gb417, 1, none⟩ = some (.int .i64 t410) := (blk_cell BK417.out 1).trans rfl
                have hcz64_2 : w11.cell? ⟨gb417, 2, none⟩ = some (.int .i64 t411) := (blk_cell BK417.out 2).trans rfl
                have hcz64_3 : w11.cell? ⟨gb417, 3, none⟩ = some (.int .i64 t412) := (blk_cell BK417.out 3).trans rfl
                have hcz64_4 : w11.cell? ⟨gb417, 4, none⟩ = some (.int .i64 t413) := (blk_cell BK417.out 4).trans rfl
                have hcz64_5 : w11.cell? ⟨gb417, 5, none⟩ = some (.int .i64 t414) := (blk_cell BK417.out 5).trans rfl
                have hcz64_6 : w11.cell? ⟨gb417, 6, none⟩ = some (.int .i64 t415) := (blk_cell BK417.out 6).trans rfl
                have hcz64_7 : w11.cell? ⟨gb417, 7, none⟩ = some (.int .i64 t416) := (blk_cell BK417.out 7).trans rfl
                have hfz64_0 := blk_frozen BK417.out 0
                have hfz64_1 := blk_frozen BK417.out 1
                have hfz64_2 := blk_frozen BK417.out 2
                have hfz64_3 := blk_frozen BK417.out 3
                have hfz64_4 := blk_frozen BK417.out 4
                have hfz64_5 := blk_frozen BK417.out 5
                have hfz64_6 := blk_frozen BK417.out 6
                have hfz64_7 := blk_frozen BK417.out 7
                go_wp2_with (first | ((with_reducible refine gate_callee (f := 19) rfl ?_); refine goesL_ (some 26) rfl rfl Try.func19 (by kernel_rfl) rfl #[.slice Ao10 t406.length co10, .agg #[.int .i64 t409, .int .i64 t410, .int .i64 t411, .int .i64 t412, .int .i64 t413, .int .i64 t414, .int .i64 t415, .int .i64 t416]] rfl (by (try simp only [List.map_toArray, List.map_cons, List.map_nil]); first | done | rfl | (simp only [List.length_drop, List.length_take]; rfl)) ?_; (with_reducible refine (impl_CanAddRule.calls k _ _ t406 t409 t410 t411 t412 t413 t414 t415 t416 t422 _ ?side1 ?side2 A12.out).mono ?_); (case side1 => repeat (first | exact (Kd.R_reads' HO408.out).2.2 | (with_reducible refine Kd.C_alloc ?_ _) | (with_reducible refine Kd.C_drewN ?_ _) | (with_reducible refine Kd.C_drew ?_))); (case side2 => exact (Kd.R_reads' HO408.out).2.1); rintro e w65 ⟨rfl, hb⟩; refine ⟨_, rfl, ?_⟩; have n0_ := am (Kd.R_below (by (with_reducible repeat (first | apply Kd.R_alloc | apply Kd.R_drewN | apply Kd.R_drew)); exact HO408.out) hb); have n1_ := am (Kd.R_below (by (with_reducible repeat (first | apply Kd.R_alloc | apply Kd.R_drewN | apply Kd.R_drew)); exact HO420.out) hb); have n2_ := am (blk_below (by (with_reducible repeat (first | refine blk_drewN ?_ _ | refine blk_drew ?_ | refine blk_alloc ?_ _)); exact BK417.out) hb); have n3_ := am (below_step (by repeat (first | (with_reducible first | exact HB.out | apply below_alloc | apply pw_below_drewN | apply below_drew1 | refine below_set ?_ GE417.out) | exact HB.out)) hb); clear HO408; clear HO420; clear BK417; clear HB; have HO408 := n0_; have HO420 := n1_; have BK417 := n2_; have HB := n3_; clear n0_ n1_ n2_ n3_; (try clear hb); (try clear hb2); (try clear hk); (try clear hi)) | (go_at_call 51; (with_reducible refine (impl_IsFair.calls k _ _ t406 false _ ?side1 ?side2 A17.out).mono ?_); (case side1 => repeat (first | exact (Kd.R_reads' HO408.out).2.2 | (with_reducible refine Kd.C_alloc ?_ _) | (with_reducible refine Kd.C_drewN ?_ _) | (with_reducible refine Kd.C_drew ?_))); (case side2 => exact (Kd.R_reads' HO408.out).2.1); rintro e w66 ⟨rfl, hb⟩; have n0_ := am (Kd.R_below (by (with_reducible repeat (first | apply Kd.R_alloc | apply Kd.R_drewN | apply Kd.R_drew)); exact HO408.out) hb); have n1_ := am (Kd.R_below (by (with_reducible repeat (first | apply Kd.R_alloc | apply Kd.R_drewN | apply Kd.R_drew)); exact HO420.out) hb); have n2_ := am (blk_below (by (with_reducible repeat (first | refine blk_drewN ?_ _ | refine blk_drew ?_ | refine blk_alloc ?_ _)); exact BK417.out) hb); have n3_ := am (below_step (by repeat (first | (with_reducible first | exact HB.out | apply below_alloc | apply pw_below_drewN | apply below_drew1 | refine below_set ?_ GE417.out) | exact HB.out)) hb); clear HO408; clear HO420; clear BK417; clear HB; have HO408 := n0_; have HO420 := n1_; have BK417 := n2_; have HB := n3_; clear n0_ n1_ n2_ n3_; (try clear hb); (try clear hb2); (try clear hk); (try clear hi); obtain ⟨hcz67_0, hcz67_1, hcz67_2, hcz67_3, hcz67_4, hcz67_5, hcz67_6, hcz67_7, hfz67_0, hfz67_1, hfz67_2, hfz67_3, hfz67_4, hfz67_5, hfz67_6, hfz67_7⟩ := blk8 BK417.out) | (go_at_call 52; (with_reducible refine (impl_RoomFor.calls k _ _ t406 t409 t426 _ ?side1 ?side2 A50.out).mono ?_); (case side1 => repeat (first | exact (Kd.R_reads' HO408.out).2.2 | (with_reducible refine Kd.C_alloc ?_ _) | (with_reducible refine Kd.C_drewN ?_ _) | (with_reducible refine Kd.C_drew ?_))); (case side2 => exact (Kd.R_reads' HO408.out).2.1); rintro e w68 ⟨rfl, hb⟩; have n0_ := am (Kd.R_below (by (with_reducible repeat (first | apply Kd.R_alloc | apply Kd.R_drewN | apply Kd.R_drew)); exact HO408.out) hb); have n1_ := am (Kd.R_below (by (with_reducible repeat (first | apply Kd.R_alloc | apply Kd.R_drewN | apply Kd.R_drew)); exact HO420.out) hb); have n2_ := am (blk_below (by (with_reducible repeat (first | refine blk_drewN ?_ _ | refine blk_drew ?_ | refine blk_alloc ?_ _)); exact BK417.out) hb); have n3_ := am (below_step (by repeat (first | (with_reducible first | exact HB.out | apply below_alloc | apply pw_below_drewN | apply below_drew1 | refine below_set ?_ GE417.out) | exact HB.out)) hb); clear HO408; clear HO420; clear BK417; clear HB; have HO408 := n0_; have HO420 := n1_; have BK417 := n2_; have HB := n3_; clear n0_ n1_ n2_ n3_; (try clear hb); (try clear hb2); (try clear hk); (try clear hi); obtain ⟨Ao69, co69, eo69⟩ := Kd.R_slice HO420.out; subst eo69))
                go_meet
                case rel => exact ⟨_, (true), (by first | rfl | (simp; done) | (simp [*]; done)), H', ⟨by first | omega | exact Nat.le_refl _⟩, ⟨by (with_reducible repeat (first | refine blk_drewN ?_ _ | refine blk_drew ?_ | refine blk_alloc ?_ _)); exact BK417.out⟩, ⟨by repeat (first | (with_reducible first | exact HB.out | apply below_alloc | apply pw_below_drewN | apply below_drew1 | refine below_set ?_ GE417.out) | exact HB.out)⟩⟩
        · replace c16 := Bool.eq_false_iff.mpr c16
          subst c16
          have H1 : ((impl_EqualRules.f k t418 t406).bind fun t427 => (laws_FnQuotas.j0 k l0 (!t427))) = some r := by rw [if_neg (show ¬ (false = true) by decide)] at H; exact H
          clear H
          have H := H1
          clear H1
          replace H := Option.bind_eq_some_iff.mp H
          obtain ⟨t427, A700, H⟩ := H
          replace H : (laws_FnQuotas.j0 k l0 (!t427)) = some r := H
          have A70 := Aside0.mk A700
          clear A700
          have H' := Aside0.mk H
          clear H
          have hcz71_0 : w11.cell? ⟨gb417, 0, none⟩ = some (.int .i64 t409) := (blk_cell BK417.out 0).trans rfl
          have hcz71_1 : w11.cell? ⟨gb417, 1, none⟩ = some (.int .i64 t410) := (blk_cell BK417.out 1).trans rfl
          have hcz71_2 : w11.cell? ⟨gb417, 2, none⟩ = some (.int .i64 t411) := (blk_cell BK417.out 2).trans rfl
          have hcz71_3 : w11.cell? ⟨gb417, 3, none⟩ = some (.int .i64 t412) := (blk_cell BK417.out 3).trans rfl
          have hcz71_4 : w11.cell? ⟨gb417, 4, none⟩ = some (.int .i64 t413) := (blk_cell BK417.out 4).trans rfl
          have hcz71_5 : w11.cell? ⟨gb417, 5, none⟩ = some (.int .i64 t414) := (blk_cell BK417.out 5).trans rfl
          have hcz71_6 : w11.cell? ⟨gb417, 6, none⟩ = some (.int .i64 t415) := (blk_cell BK417.out 6).trans rfl
          have hcz71_7 : w11.cell? ⟨gb417, 7, none⟩ = some (.int .i64 t416) := (blk_cell BK417.out 7).trans rfl
          have hfz71_0 := blk_frozen BK417.out 0
          have hfz71_1 := blk_frozen BK417.out 1
          have hfz71_2 := blk_frozen BK417.out 2
          have hfz71_3 := blk_frozen BK417.out 3
          have hfz71_4 := blk_frozen BK417.out 4
          have hfz71_5 := blk_frozen BK417.out 5
          have hfz71_6 := blk_frozen BK417.out 6
          have hfz71_7 := blk_frozen BK417.out 7
          go_wp2_with (first | ((with_reducible refine gate_callee (f := 19) rfl ?_); refine goesL_ (some 26) rfl rfl Try.func19 (by kernel_rfl) rfl #[.slice Ao10 t406.length co10, .agg #[.int .i64 t409, .int .i64 t410, .int .i64 t411, .int .i64 t412, .int .i64 t413, .int .i64 t414, .int .i64 t415, .int .i64 t416]] rfl (by (try simp only [List.map_toArray, List.map_cons, List.map_nil]); first | done | rfl | (simp only [List.length_drop, List.length_take]; rfl)) ?_; (with_reducible refine (impl_CanAddRule.calls k _ _ t406 t409 t410 t411 t412 t413 t414 t415 t416 t422 _ ?side1 ?side2 A12.out).mono ?_); (case side1 => repeat (first | exact (Kd.R_reads' HO408.out).2.2 | (with_reducible refine Kd.C_alloc ?_ _) | (with_reducible refine Kd.C_drewN ?_ _) | (with_reducible refine Kd.C_drew ?_))); (case side2 => exact (Kd.R_reads' HO408.out).2.1); rintro e w72 ⟨rfl, hb⟩; refine ⟨_, rfl, ?_⟩; have n0_ := am (Kd.R_below (by (with_reducible repeat (first | apply Kd.R_alloc | apply Kd.R_drewN | apply Kd.R_drew)); exact HO408.out) hb); have n1_ := am (Kd.R_below (by (with_reducible repeat (first | apply Kd.R_alloc | apply Kd.R_drewN | apply Kd.R_drew)); exact HO420.out) hb); have n2_ := am (blk_below (by (with_reducible repeat (first | refine blk_drewN ?_ _ | refine blk_drew ?_ | refine blk_alloc ?_ _)); exact BK417.out) hb); have n3_ := am (below_step (by repeat (first | (with_reducible first | exact HB.out | apply below_alloc | apply pw_below_drewN | apply below_drew1 | refine below_set ?_ GE417.out) | exact HB.out)) hb); clear HO408; clear HO420; clear BK417; clear HB; have HO408 := n0_; have HO420 := n1_; have BK417 := n2_; have HB := n3_; clear n0_ n1_ n2_ n3_; (try clear hb); (try clear hb2); (try clear hk); (try clear hi); obtain ⟨Ao73, co73, eo73⟩ := Kd.R_slice HO420.out; subst eo73) | (go_at_call 53; (with_reducible refine (impl_EqualRules.calls k _ _ t418 _ _ t406 t427 _ ?side1 ?side2 ?side3 ?side4 A70.out).mono ?_); (case side1 => repeat (first | exact (Kd.R_reads' HO420.out).2.2 | (with_reducible refine Kd.C_alloc ?_ _) | (with_reducible refine Kd.C_drewN ?_ _) | (with_reducible refine Kd.C_drew ?_))); (case side2 => exact (Kd.R_reads' HO420.out).2.1); (case side3 => repeat (first | exact (Kd.R_reads' HO408.out).2.2 | (with_reducible refine Kd.C_alloc ?_ _) | (with_reducible refine Kd.C_drewN ?_ _) | (with_reducible refine Kd.C_drew ?_))); (case side4 => exact (Kd.R_reads' HO408.out).2.1); rintro e w' ⟨rfl, ⟨nd, rfl⟩⟩))
          go_meet
          case rel => exact ⟨_, (!t427), (by first | rfl | (simp; done) | (simp [*]; done)), H', ⟨by first | omega | exact Nat.le_refl _⟩, ⟨by (with_reducible repeat (first | refine blk_drewN ?_ _ | refine blk_drew ?_ | refine blk_alloc ?_ _)); exact BK417.out⟩, ⟨by repeat (first | (with_reducible first | exact HB.out | apply below_alloc | apply pw_below_drewN | apply below_drew1 | refine below_set ?_ GE417.out) | exact HB.out)⟩⟩
    case rest =>
      clear HC6
      try clear c1
      try clear c2
      try clear p2
      try clear c3
      try clear c5
      try clear p6
      try clear c9
      try clear c13
      try clear c13b0
      try clear c13b1
      try clear c13b2
      try clear c16
      try clear c18
      try clear c19
      try clear c20
      try clear c22
      try clear c22b0
      try clear c30
      try clear c30b0
      try clear c30b1
      try clear c33
      try clear c36
      try clear c50
      try clear c51
      try clear c51b0
      try clear c57
      try clear c57b0
      try clear c57b1
      try clear p64
      try clear hcz14_0
      try clear hcz14_1
      try clear hcz14_2
      try clear hcz14_3
      try clear hcz14_4
      try clear hcz14_5
      try clear hcz14_6
      try clear hcz14_7
      try clear hcz23_0
      try clear hcz23_1
      try clear hcz23_2
      try clear hcz23_3
      try clear hcz23_4
      try clear hcz23_5
      try clear hcz23_6
      try clear hcz23_7
      try clear hcz28_0
      try clear hcz28_1
      try clear hcz28_2
      try clear hcz28_3
      try clear hcz28_4
      try clear hcz28_5
      try clear hcz28_6
      try clear hcz28_7
      try clear hcz31_0
      try clear hcz31_1
      try clear hcz31_2
      try clear hcz31_3
      try clear hcz31_4
      try clear hcz31_5
      try clear hcz31_6
      try clear hcz31_7
      try clear hcz36_0
      try clear hcz36_1
      try clear hcz36_2
      try clear hcz36_3
      try clear hcz36_4
      try clear hcz36_5
      try clear hcz36_6
      try clear hcz36_7
      try clear hcz38_0
      try clear hcz38_1
      try clear hcz38_2
      try clear hcz38_3
      try clear hcz38_4
      try clear hcz38_5
      try clear hcz38_6
      try clear hcz38_7
      try clear hcz43_0
      try clear hcz43_1
      try clear hcz43_2
      try clear hcz43_3
      try clear hcz43_4
      try clear hcz43_5
      try clear hcz43_6
      try clear hcz43_7
      try clear hcz45_0
      try clear hcz45_1
      try clear hcz45_2
      try clear hcz45_3
      try clear hcz45_4
      try clear hcz45_5
      try clear hcz45_6
      try clear hcz45_7
      try clear hcz52_0
      try clear hcz52_1
      try clear hcz52_2
      try clear hcz52_3
      try clear hcz52_4
      try clear hcz52_5
      try clear hcz52_6
      try clear hcz52_7
      try clear hcz55_0
      try clear hcz55_1
      try clear hcz55_2
      try clear hcz55_3
      try clear hcz55_4
      try clear hcz55_5
      try clear hcz55_6
      try clear hcz55_7
      try clear hcz58_0
      try clear hcz58_1
      try clear hcz58_2
      try clear hcz58_3
      try clear hcz58_4
      try clear hcz58_5
      try clear hcz58_6
      try clear hcz58_7
      try clear hcz61_0
      try clear hcz61_1
      try clear hcz61_2
      try clear hcz61_3
      try clear hcz61_4
      try clear hcz61_5
      try clear hcz61_6
      try clear hcz61_7
      try clear hcz64_0
      try clear hcz64_1
      try clear hcz64_2
      try clear hcz64_3
      try clear hcz64_4
      try clear hcz64_5
      try clear hcz64_6
      try clear hcz64_7
      try clear hcz67_0
      try clear hcz67_1
      try clear hcz67_2
      try clear hcz67_3
      try clear hcz67_4
      try clear hcz67_5
      try clear hcz67_6
      try clear hcz67_7
      try clear hcz71_0
      try clear hcz71_1
      try clear hcz71_2
      try clear hcz71_3
      try clear hcz71_4
      try clear hcz71_5
      try clear hcz71_6
      try clear hcz71_7
      try clear hcz9_0
      try clear hcz9_1
      try clear hcz9_2
      try clear hcz9_3
      try clear hcz9_4
      try clear hcz9_5
      try clear hcz9_6
      try clear hcz9_7
      try clear hfz14_0
      try clear hfz14_1
      try clear hfz14_2
      try clear hfz14_3
      try clear hfz14_4
      try clear hfz14_5
      try clear hfz14_6
      try clear hfz14_7
      try clear hfz23_0
      try clear hfz23_1
      try clear hfz23_2
      try clear hfz23_3
      try clear hfz23_4
      try clear hfz23_5
      try clear hfz23_6
      try clear hfz23_7
      try clear hfz28_0
      try clear hfz28_1
      try clear hfz28_2
      try clear hfz28_3
      try clear hfz28_4
      try clear hfz28_5
      try clear hfz28_6
      try clear hfz28_7
      try clear hfz31_0
      try clear hfz31_1
      try clear hfz31_2
      try clear hfz31_3
      try clear hfz31_4
      try clear hfz31_5
      try clear hfz31_6
      try clear hfz31_7
      try clear hfz36_0
      try clear hfz36_1
      try clear hfz36_2
      try clear hfz36_3
      try clear hfz36_4
      try clear hfz36_5
      try clear hfz36_6
      try clear hfz36_7
      try clear hfz38_0
      try clear hfz38_1
      try clear hfz38_2
      try clear hfz38_3
      try clear hfz38_4
      try clear hfz38_5
      try clear hfz38_6
      try clear hfz38_7
      try clear hfz43_0
      try clear hfz43_1
      try clear hfz43_2
      try clear hfz43_3
      try clear hfz43_4
      try clear hfz43_5
      try clear hfz43_6
      try clear hfz43_7
      try clear hfz45_0
      try clear hfz45_1
      try clear hfz45_2
      try clear hfz45_3
      try clear hfz45_4
      try clear hfz45_5
      try clear hfz45_6
      try clear hfz45_7
      try clear hfz52_0
      try clear hfz52_1
      try clear hfz52_2
      try clear hfz52_3
      try clear hfz52_4
      try clear hfz52_5
      try clear hfz52_6
      try clear hfz52_7
      try clear hfz55_0
      try clear hfz55_1
      try clear hfz55_2
      try clear hfz55_3
      try clear hfz55_4
      try clear hfz55_5
      try clear hfz55_6
      try clear hfz55_7
      try clear hfz58_0
      try clear hfz58_1
      try clear hfz58_2
      try clear hfz58_3
      try clear hfz58_4
      try clear hfz58_5
      try clear hfz58_6
      try clear hfz58_7
      try clear hfz61_0
      try clear hfz61_1
      try clear hfz61_2
      try clear hfz61_3
      try clear hfz61_4
      try clear hfz61_5
      try clear hfz61_6
      try clear hfz61_7
      try clear hfz64_0
      try clear hfz64_1
      try clear hfz64_2
      try clear hfz64_3
      try clear hfz64_4
      try clear hfz64_5
      try clear hfz64_6
      try clear hfz64_7
      try clear hfz67_0
      try clear hfz67_1
      try clear hfz67_2
      try clear hfz67_3
      try clear hfz67_4
      try clear hfz67_5
      try clear hfz67_6
      try clear hfz67_7
      try clear hfz71_0
      try clear hfz71_1
      try clear hfz71_2
      try clear hfz71_3
      try clear hfz71_4
      try clear hfz71_5
      try clear hfz71_6
      try clear hfz71_7
      try clear hfz9_0
      try clear hfz9_1
      try clear hfz9_2
      try clear hfz9_3
      try clear hfz9_4
      try clear hfz9_5
      try clear hfz9_6
      try clear hfz9_7
      obtain ⟨kq, x64_5, rfl, HA, HJ5, BK417, HB⟩ := hcut
      cases kq with
      | zero => exact absurd HA.out (by simp [laws_FnQuotas.j0])
      | succ kj5 =>
        have H := HA.out
        clear HA
        simp only [laws_FnQuotas.j0] at H
        by_cases c74 : x64_5 = true
        · subst c74
          have H1 : (some false) = some r := by rw [if_pos rfl] at H; exact H
          clear H
          have H := H1
          clear H1
          exact absurd ((Option.some.inj H).trans HRT.out) (by decide)
        · replace c74 := Bool.eq_false_iff.mpr c74
          subst c74
          have H1 : ((spec_DrawDropRules.f kj5 l0).bind fun bt428 => ((impl_DropRules.f kj5 bt428.1 bt428.2).bind fun t432 => ((impl_RulesOf.f kj5 bt428.1 bt428.2).bind fun t435 => (if (wrap64 ((t432.length : Int) + (t435.length : Int))) = (bt428.1.length : Int) then ((impl_RulesOf.f kj5 t432 bt428.2).bind fun t438 => (if (t438.length : Int) = 0 then ((impl_RoomFor.f kj5 t432 bt428.2).bind fun t441 => ((impl_RoomFor.f kj5 bt428.1 bt428.2).bind fun t442 => (if t441 ≥ t442 then ((impl_RoomFor.f kj5 bt428.1 bt428.2).bind fun t443 => (some (decide (t443 ≥ 0)))) else (some false)))) else (some false))) else (some false))))) = some r := by rw [if_neg (show ¬ (false = true) by decide)] at H; exact H
          clear H
          have H := H1
          clear H1
          replace H := Option.bind_eq_some_iff.mp H
          obtain ⟨⟨t428, t429⟩, A750, H⟩ := H
          replace H : ((impl_DropRules.f kj5 t428 t429).bind fun t432 => ((impl_RulesOf.f kj5 t428 t429).bind fun t435 => (if (wrap64 ((t432.length : Int) + (t435.length : Int))) = (t428.length : Int) then ((impl_RulesOf.f kj5 t432 t429).bind fun t438 => (if (t438.length : Int) = 0 then ((impl_RoomFor.f kj5 t432 t429).bind fun t441 => ((impl_RoomFor.f kj5 t428 t429).bind fun t442 => (if t441 ≥ t442 then ((impl_RoomFor.f kj5 t428 t429).bind fun t443 => (some (decide (t443 ≥ 0)))) else (some false)))) else (some false))) else (some false)))) = some r := H
          have A75 := Aside0.mk A750
          clear A750
          replace H := Option.bind_eq_some_iff.mp H
          obtain ⟨t432, A760, H⟩ := H
          replace H : ((impl_RulesOf.f kj5 t428 t429).bind fun t435 => (if (wrap64 ((t432.length : Int) + (t435.length : Int))) = (t428.length : Int) then ((impl_RulesOf.f kj5 t432 t429).bind fun t438 => (if (t438.length : Int) = 0 then ((impl_RoomFor.f kj5 t432 t429).bind fun t441 => ((impl_RoomFor.f kj5 t428 t429).bind fun t442 => (if t441 ≥ t442 then ((impl_RoomFor.f kj5 t428 t429).bind fun t443 => (some (decide (t443 ≥ 0)))) else (some false)))) else (some false))) else (some false))) = some r := H
          have A76 := Aside0.mk A760
          clear A760
          replace H := Option.bind_eq_some_iff.mp H
          obtain ⟨t435, A770, H⟩ := H
          replace H : (if (wrap64 ((t432.length : Int) + (t435.length : Int))) = (t428.length : Int) then ((impl_RulesOf.f kj5 t432 t429).bind fun t438 => (if (t438.length : Int) = 0 then ((impl_RoomFor.f kj5 t432 t429).bind fun t441 => ((impl_RoomFor.f kj5 t428 t429).bind fun t442 => (if t441 ≥ t442 then ((impl_RoomFor.f kj5 t428 t429).bind fun t443 => (some (decide (t443 ≥ 0)))) else (some false)))) else (some false))) else (some false)) = some r := H
          have A77 := Aside0.mk A770
          clear A770
          by_cases c78 : (wrap64 ((t432.length : Int) + (t435.length : Int))) = (t428.length : Int)
          · rw [if_pos c78] at H
            have c78b0 : ((wrap64 ((t432.length : Int) + (t435.length : Int))) == (t428.length : Int)) = true := beq_iff_eq.mpr c78
            have c78b1 : ((wrap64 ((t432.length : Int) + (t435.length : Int))) != (t428.length : Int)) = false := bne_eq_false_iff_eq.mpr c78
            clear c78
            replace H := Option.bind_eq_some_iff.mp H
            obtain ⟨t438, A790, H⟩ := H
            replace H : (if (t438.length : Int) = 0 then ((impl_RoomFor.f kj5 t432 t429).bind fun t441 => ((impl_RoomFor.f kj5 t428 t429).bind fun t442 => (if t441 ≥ t442 then ((impl_RoomFor.f kj5 t428 t429).bind fun t443 => (some (decide (t443 ≥ 0)))) else (some false)))) else (some false)) = some r := H
            have A79 := Aside0.mk A790
            clear A790
            by_cases c80 : (t438.length : Int) = 0
            · rw [if_pos c80] at H
              have c80b0 : ((t438.length : Int) == 0) = true := beq_iff_eq.mpr c80
              have c80b1 : ((t438.length : Int) != 0) = false := bne_eq_false_iff_eq.mpr c80
              clear c80
              replace H := Option.bind_eq_some_iff.mp H
              obtain ⟨t441, A810, H⟩ := H
              replace H : ((impl_RoomFor.f kj5 t428 t429).bind fun t442 => (if t441 ≥ t442 then ((impl_RoomFor.f kj5 t428 t429).bind fun t443 => (some (decide (t443 ≥ 0)))) else (some false))) = some r := H
              have A81 := Aside0.mk A810
              clear A810
              replace H := Option.bind_eq_some_iff.mp H
              obtain ⟨t442, A820, H⟩ := H
              replace H : (if t441 ≥ t442 then ((impl_RoomFor.f kj5 t428 t429).bind fun t443 => (some (decide (t443 ≥ 0)))) else (some false)) = some r := H
              have A82 := Aside0.mk A820
              clear A820
              by_cases c83 : t441 ≥ t442
              · rw [if_pos c83] at H
                have c83b0 : decide (t442 ≤ t441) = true := decide_eq_true c83
                clear c83
                replace H := Option.bind_eq_some_iff.mp H
                obtain ⟨t443, A840, H⟩ := H
                replace H : (some (decide (t443 ≥ 0))) = some r := H
                obtain rfl : t442 = t443 := Option.some.inj (A82.out.symm.trans A840)
                have A84 := Aside0.mk A840
                clear A840
                obtain rfl := Option.some.inj H
                go_wp2_with (first | ((with_reducible refine gate_callee (f := 54) rfl ?_); refine goesL_ (some 67) rfl rfl Try.func54 (by kernel_rfl) rfl #[.slice A0 l0.length c0] rfl (by (try simp only [List.map_toArray, List.map_cons, List.map_nil]); first | done | rfl | (simp only [List.length_drop, List.length_take]; rfl)) ?_; (with_reducible refine (spec_DrawDropRules.calls kj5 _ _ l0 t428 t429 _ ?side1 ?side2 A75.out).mono ?_); (case side1 => repeat (first | exact (Kd.C_below HR0.out HB.out) | (with_reducible refine Kd.C_alloc ?_ _) | (with_reducible refine Kd.C_drewN ?_ _) | (with_reducible refine Kd.C_drew ?_))); (case side2 => exact HC0.out); rintro e w85 ⟨v430, rfl, ho0, hb⟩; refine ⟨_, rfl, ?_⟩; have n0_ := am (Kd.R_lower (Kd.R_newB ho0 (g := gb417) (o := .cells #[.int .i64 t409, .int .i64 t410, .int .i64 t411, .int .i64 t412, .int .i64 t413, .int .i64 t414, .int .i64 t415, .int .i64 t416] 35 (0, 0)) (by (with_reducible repeat (first | refine blk_drewN ?_ _ | refine blk_drew ?_ | refine blk_alloc ?_ _)); exact BK417.out)) (below_size (by repeat (first | (with_reducible first | exact HB.out | apply below_alloc | apply pw_below_drewN | apply below_drew1 | refine below_set ?_ GE417.out) | exact HB.out)))); have n1_ := am (blk_below (by (with_reducible repeat (first | refine blk_drewN ?_ _ | refine blk_drew ?_ | refine blk_alloc ?_ _)); exact BK417.out) hb); have n2_ := am (below_step (by repeat (first | (with_reducible first | exact HB.out | apply below_alloc | apply pw_below_drewN | apply below_drew1 | refine below_set ?_ GE417.out) | exact HB.out)) hb); clear BK417; clear HB; have HO431 := n0_; have BK417 := n1_; have HB := n2_; clear n0_ n1_ n2_; (try clear hb); (try clear hb2); (try clear hk); (try clear hi); (try clear ho0); obtain ⟨Ao86, co86, eo86⟩ := Kd.R_slice HO431.out; subst eo86) | ((with_reducible refine gate_callee (f := 55) rfl ?_); refine goesL_ (some 72) rfl rfl Try.func55 (by kernel_rfl) rfl #[.slice Ao86 t428.length co86, .int .i64 t429] rfl (by (try simp only [List.map_toArray, List.map_cons, List.map_nil]); first | done | rfl | (simp only [List.length_drop, List.length_take]; rfl)) ?_; (with_reducible refine (impl_DropRules.calls kj5 _ _ t428 t429 t432 _ ?side1 ?side2 A76.out).mono ?_); (case side1 => repeat (first | exact (Kd.R_reads' HO431.out).2.2 | (with_reducible refine Kd.C_alloc ?_ _) | (with_reducible refine Kd.C_drewN ?_ _) | (with_reducible refine Kd.C_drew ?_))); (case side2 => exact (Kd.R_reads' HO431.out).2.1); rintro e w87 ⟨v433, rfl, ho0, hb⟩; refine ⟨_, rfl, ?_⟩; have n0_ := am (Kd.R_elder' (by (with_reducible repeat (first | apply Kd.R_alloc | apply Kd.R_drewN | apply Kd.R_drew)); exact HO431.out) (Kd.R_base ho0) hb); have n1_ := am (Kd.R_lower (Kd.R_newB (Kd.R_new' ho0 (Kd.R_lt (by (with_reducible repeat (first | apply Kd.R_alloc | apply Kd.R_drewN | apply Kd.R_drew)); exact HO431.out))) (g := gb417) (o := .cells #[.int .i64 t409, .int .i64 t410, .int .i64 t411, .int .i64 t412, .int .i64 t413, .int .i64 t414, .int .i64 t415, .int .i64 t416] 35 (0, 0)) (by (with_reducible repeat (first | refine blk_drewN ?_ _ | refine blk_drew ?_ | refine blk_alloc ?_ _)); exact BK417.out)) (below_size (by repeat (first | (with_reducible first | exact HB.out | apply below_alloc | apply pw_below_drewN | apply below_drew1 | refine below_set ?_ GE417.out) | exact HB.out)))); have n2_ := am (blk_below (by (with_reducible repeat (first | refine blk_drewN ?_ _ | refine blk_drew ?_ | refine blk_alloc ?_ _)); exact BK417.out) hb); have n3_ := am (below_step (by repeat (first | (with_reducible first | exact HB.out | apply below_alloc | apply pw_below_drewN | apply below_drew1 | refine below_set ?_ GE417.out) | exact HB.out)) hb); clear HO431; clear BK417; clear HB; have HO431 := n0_; have HO434 := n1_; have BK417 := n2_; have HB := n3_; clear n0_ n1_ n2_ n3_; (try clear hb); (try clear hb2); (try clear hk); (try clear hi); (try clear ho0); obtain ⟨Ao88, co88, eo88⟩ := Kd.R_slice HO434.out; subst eo88) | ((with_reducible refine gate_callee (f := 56) rfl ?_); refine goesL_ (some 77) rfl rfl Try.func56 (by kernel_rfl) rfl #[.slice Ao86 t428.length co86, .int .i64 t429] rfl (by (try simp only [List.map_toArray, List.map_cons, List.map_nil]); first | done | rfl | (simp only [List.length_drop, List.length_take]; rfl)) ?_; (with_reducible refine (impl_RulesOf.calls kj5 _ _ t428 t429 t435 _ ?side1 ?side2 A77.out).mono ?_); (case side1 => repeat (first | exact (Kd.R_reads' HO431.out).2.2 | (with_reducible refine Kd.C_alloc ?_ _) | (with_reducible refine Kd.C_drewN ?_ _) | (with_reducible refine Kd.C_drew ?_))); (case side2 => exact (Kd.R_reads' HO431.out).2.1); rintro e w89 ⟨v436, rfl, ho0, hb⟩; refine ⟨_, rfl, ?_⟩; have n0_ := am (Kd.R_elder' (by (with_reducible repeat (first | apply Kd.R_alloc | apply Kd.R_drewN | apply Kd.R_drew)); exact HO431.out) (Kd.R_base ho0) hb); have n1_ := am (Kd.R_elder' (by (with_reducible repeat (first | apply Kd.R_alloc | apply Kd.R_drewN | apply Kd.R_drew)); exact HO434.out) (Kd.R_base ho0) hb); have n2_ := am (Kd.R_lower (Kd.R_newB (Kd.R_new' (Kd.R_new' ho0 (Kd.R_lt (by (with_reducible repeat (first | apply Kd.R_alloc | apply Kd.R_drewN | apply Kd.R_drew)); exact HO431.out))) (Kd.R_lt (by (with_reducible repeat (first | apply Kd.R_alloc | apply Kd.R_drewN | apply Kd.R_drew)); exact HO434.out))) (g := gb417) (o := .cells #[.int .i64 t409, .int .i64 t410, .int .i64 t411, .int .i64 t412, .int .i64 t413, .int .i64 t414, .int .i64 t415, .int .i64 t416] 35 (0, 0)) (by (with_reducible repeat (first | refine blk_drewN ?_ _ | refine blk_drew ?_ | refine blk_alloc ?_ _)); exact BK417.out)) (below_size (by repeat (first | (with_reducible first | exact HB.out | apply below_alloc | apply pw_below_drewN | apply below_drew1 | refine below_set ?_ GE417.out) | exact HB.out)))); have n3_ := am (blk_below (by (with_reducible repeat (first | refine blk_drewN ?_ _ | refine blk_drew ?_ | refine blk_alloc ?_ _)); exact BK417.out) hb); have n4_ := am (below_step (by repeat (first | (with_reducible first | exact HB.out | apply below_alloc | apply pw_below_drewN | apply below_drew1 | refine below_set ?_ GE417.out) | exact HB.out)) hb); clear HO431; clear HO434; clear BK417; clear HB; have HO431 := n0_; have HO434 := n1_; have HO437 := n2_; have BK417 := n3_; have HB := n4_; clear n0_ n1_ n2_ n3_ n4_; (try clear hb); (try clear hb2); (try clear hk); (try clear hi); (try clear ho0); obtain ⟨Ao90, co90, eo90⟩ := Kd.R_slice HO437.out; subst eo90) | (go_at_call 56; (with_reducible refine (impl_RulesOf.calls kj5 _ _ t432 t429 t438 _ ?side1 ?side2 A79.out).mono ?_); (case side1 => repeat (first | exact (Kd.R_reads' HO434.out).2.2 | (with_reducible refine Kd.C_alloc ?_ _) | (with_reducible refine Kd.C_drewN ?_ _) | (with_reducible refine Kd.C_drew ?_))); (case side2 => exact (Kd.R_reads' HO434.out).2.1); rintro e w91 ⟨v439, rfl, ho0, hb⟩; have n0_ := am (Kd.R_elder' (by (with_reducible repeat (first | apply Kd.R_alloc | apply Kd.R_drewN | apply Kd.R_drew)); exact HO431.out) (Kd.R_base ho0) hb); have n1_ := am (Kd.R_elder' (by (with_reducible repeat (first | apply Kd.R_alloc | apply Kd.R_drewN | apply Kd.R_drew)); exact HO434.out) (Kd.R_base ho0) hb); have n2_ := am (Kd.R_elder' (by (with_reducible repeat (first | apply Kd.R_alloc | apply Kd.R_drewN | apply Kd.R_drew)); exact HO437.out) (Kd.R_base ho0) hb); have n3_ := am (Kd.R_lower (Kd.R_newB (Kd.R_new' (Kd.R_new' (Kd.R_new' ho0 (Kd.R_lt (by (with_reducible repeat (first | apply Kd.R_alloc | apply Kd.R_drewN | apply Kd.R_drew)); exact HO431.out))) (Kd.R_lt (by (with_reducible repeat (first | apply Kd.R_alloc | apply Kd.R_drewN | apply Kd.R_drew)); exact HO434.out))) (Kd.R_lt (by (with_reducible repeat (first | apply Kd.R_alloc | apply Kd.R_drewN | apply Kd.R_drew)); exact HO437.out))) (g := gb417) (o := .cells #[.int .i64 t409, .int .i64 t410, .int .i64 t411, .int .i64 t412, .int .i64 t413, .int .i64 t414, .int .i64 t415, .int .i64 t416] 35 (0, 0)) (by (with_reducible repeat (first | refine blk_drewN ?_ _ | refine blk_drew ?_ | refine blk_alloc ?_ _)); exact BK417.out)) (below_size (by repeat (first | (with_reducible first | exact HB.out | apply below_alloc | apply pw_below_drewN | apply below_drew1 | refine below_set ?_ GE417.out) | exact HB.out)))); have n4_ := am (blk_below (by (with_reducible repeat (first | refine blk_drewN ?_ _ | refine blk_drew ?_ | refine blk_alloc ?_ _)); exact BK417.out) hb); have n5_ := am (below_step (by repeat (first | (with_reducible first | exact HB.out | apply below_alloc | apply pw_below_drewN | apply below_drew1 | refine below_set ?_ GE417.out) | exact HB.out)) hb); clear HO431; clear HO434; clear HO437; clear BK417; clear HB; have HO431 := n0_; have HO434 := n1_; have HO437 := n2_; have HO440 := n3_; have BK417 := n4_; have HB := n5_; clear n0_ n1_ n2_ n3_ n4_ n5_; (try clear hb); (try clear hb2); (try clear hk); (try clear hi); (try clear ho0); obtain ⟨Ao92, co92, eo92⟩ := Kd.R_slice HO440.out; subst eo92) | (go_at_call 52; (with_reducible refine (impl_RoomFor.calls kj5 _ _ t432 t429 t441 _ ?side1 ?side2 A81.out).mono ?_); (case side1 => repeat (first | exact (Kd.R_reads' HO434.out).2.2 | (with_reducible refine Kd.C_alloc ?_ _) | (with_reducible refine Kd.C_drewN ?_ _) | (with_reducible refine Kd.C_drew ?_))); (case side2 => exact (Kd.R_reads' HO434.out).2.1); rintro e w93 ⟨rfl, hb⟩; have n0_ := am (Kd.R_below (by (with_reducible repeat (first | apply Kd.R_alloc | apply Kd.R_drewN | apply Kd.R_drew)); exact HO431.out) hb); have n1_ := am (Kd.R_below (by (with_reducible repeat (first | apply Kd.R_alloc | apply Kd.R_drewN | apply Kd.R_drew)); exact HO434.out) hb); have n2_ := am (Kd.R_below (by (with_reducible repeat (first | apply Kd.R_alloc | apply Kd.R_drewN | apply Kd.R_drew)); exact HO437.out) hb); have n3_ := am (Kd.R_below (by (with_reducible repeat (first | apply Kd.R_alloc | apply Kd.R_drewN | apply Kd.R_drew)); exact HO440.out) hb); have n4_ := am (blk_below (by (with_reducible repeat (first | refine blk_drewN ?_ _ | refine blk_drew ?_ | refine blk_alloc ?_ _)); exact BK417.out) hb); have n5_ := am (below_step (by repeat (first | (with_reducible first | exact HB.out | apply below_alloc | apply pw_below_drewN | apply below_drew1 | refine below_set ?_ GE417.out) | exact HB.out)) hb); clear HO431; clear HO434; clear HO437; clear HO440; clear BK417; clear HB; have HO431 := n0_; have HO434 := n1_; have HO437 := n2_; have HO440 := n3_; have BK417 := n4_; have HB := n5_; clear n0_ n1_ n2_ n3_ n4_ n5_; (try clear hb); (try clear hb2); (try clear hk); (try clear hi)) | (go_at_call 52; (with_reducible refine (impl_RoomFor.calls kj5 _ _ t428 t429 t442 _ ?side1 ?side2 A82.out).mono ?_); (case side1 => repeat (first | exact (Kd.R_reads' HO431.out).2.2 | (with_reducible refine Kd.C_alloc ?_ _) | (with_reducible refine Kd.C_drewN ?_ _) | (with_reducible refine Kd.C_drew ?_))); (case side2 => exact (Kd.R_reads' HO431.out).2.1); rintro e w94 ⟨rfl, hb⟩; have n0_ := am (Kd.R_below (by (with_reducible repeat (first | apply Kd.R_alloc | apply Kd.R_drewN | apply Kd.R_drew)); exact HO431.out) hb); have n1_ := am (Kd.R_below (by (with_reducible repeat (first | apply Kd.R_alloc | apply Kd.R_drewN | apply Kd.R_drew)); exact HO434.out) hb); have n2_ := am (Kd.R_below (by (with_reducible repeat (first | apply Kd.R_alloc | apply Kd.R_drewN | apply Kd.R_drew)); exact HO437.out) hb); have n3_ := am (Kd.R_below (by (with_reducible repeat (first | apply Kd.R_alloc | apply Kd.R_drewN | apply Kd.R_drew)); exact HO440.out) hb); have n4_ := am (blk_below (by (with_reducible repeat (first | refine blk_drewN ?_ _ | refine blk_drew ?_ | refine blk_alloc ?_ _)); exact BK417.out) hb); have n5_ := am (below_step (by repeat (first | (with_reducible first | exact HB.out | apply below_alloc | apply pw_below_drewN | apply below_drew1 | refine below_set ?_ GE417.out) | exact HB.out)) hb); clear HO431; clear HO434; clear HO437; clear HO440; clear BK417; clear HB; have HO431 := n0_; have HO434 := n1_; have HO437 := n2_; have HO440 := n3_; have BK417 := n4_; have HB := n5_; clear n0_ n1_ n2_ n3_ n4_ n5_; (try clear hb); (try clear hb2); (try clear hk); (try clear hi)) | (go_at_call 52; (with_reducible refine (impl_RoomFor.calls kj5 _ _ t428 t429 t442 _ ?side1 ?side2 A84.out).mono ?_); (case side1 => repeat (first | exact (Kd.R_reads' HO431.out).2.2 | (with_reducible refine Kd.C_alloc ?_ _) | (with_reducible refine Kd.C_drewN ?_ _) | (with_reducible refine Kd.C_drew ?_))); (case side2 => exact (Kd.R_reads' HO431.out).2.1); rintro e w95 ⟨rfl, hb⟩; have n0_ := am (Kd.R_below (by (with_reducible repeat (first | apply Kd.R_alloc | apply Kd.R_drewN | apply Kd.R_drew)); exact HO431.out) hb); have n1_ := am (Kd.R_below (by (with_reducible repeat (first | apply Kd.R_alloc | apply Kd.R_drewN | apply Kd.R_drew)); exact HO434.out) hb); have n2_ := am (Kd.R_below (by (with_reducible repeat (first | apply Kd.R_alloc | apply Kd.R_drewN | apply Kd.R_drew)); exact HO437.out) hb); have n3_ := am (Kd.R_below (by (with_reducible repeat (first | apply Kd.R_alloc | apply Kd.R_drewN | apply Kd.R_drew)); exact HO440.out) hb); have n4_ := am (blk_below (by (with_reducible repeat (first | refine blk_drewN ?_ _ | refine blk_drew ?_ | refine blk_alloc ?_ _)); exact BK417.out) hb); have n5_ := am (below_step (by repeat (first | (with_reducible first | exact HB.out | apply below_alloc | apply pw_below_drewN | apply below_drew1 | refine below_set ?_ GE417.out) | exact HB.out)) hb); clear HO431; clear HO434; clear HO437; clear HO440; clear BK417; clear HB; have HO431 := n0_; have HO434 := n1_; have HO437 := n2_; have HO440 := n3_; have BK417 := n4_; have HB := n5_; clear n0_ n1_ n2_ n3_ n4_ n5_; (try clear hb); (try clear hb2); (try clear hk); (try clear hi)))
                go_ret
                exact ⟨by first | rfl | (simp [errW_none, errW_some] <;> rfl) | (simp [*, errW_none, errW_some] <;> rfl), by repeat (first | (with_reducible first | exact HB.out | apply below_alloc | apply pw_below_drewN | apply below_drew1 | refine below_set ?_ GE417.out) | exact HB.out)⟩
              · rw [if_neg c83] at H
                have c83b0 : decide (t442 ≤ t441) = false := decide_eq_false c83
                clear c83
                exact absurd ((Option.some.inj H).trans HRT.out) (by decide)
            · rw [if_neg c80] at H
              have c80b0 : ((t438.length : Int) == 0) = false := beq_eq_false_iff_ne.mpr c80
              have c80b1 : ((t438.length : Int) != 0) = true := bne_iff_ne.mpr c80
              have c80b2 : ¬ (t438 = []) := fun h_ => c80 (by rw [h_]; rfl)
              exact absurd ((Option.some.inj H).trans HRT.out) (by decide)
          · rw [if_neg c78] at H
            have c78b0 : ((wrap64 ((t432.length : Int) + (t435.length : Int))) == (t428.length : Int)) = false := beq_eq_false_iff_ne.mpr c78
            have c78b1 : ((wrap64 ((t432.length : Int) + (t435.length : Int))) != (t428.length : Int)) = true := bne_iff_ne.mpr c78
            exact absurd ((Option.some.inj H).trans HRT.out) (by decide)

/-- THE ONE PURE STATEMENT of laws_FnQuotas: yours. -/
def laws_FnQuotas.Pure : Prop := ∀ (l0 : List Int), l0.length ≤ maxLen → l0.length * 1 ≤ 140737488351232 → (∀ x ∈ l0, (Lit.int .u8 x).wf = true) → ∃ k, laws_FnQuotas.f k l0 = some true
theorem laws_FnQuotas.walk (P : laws_FnQuotas.Pure) (a0 : Option Addr) (len0 cap0 : Nat) (z0 : List Int) (w : World) (w0 : (a0 = none ∧ len0 = 0 ∧ cap0 = 0 ∧ z0 = []) ∨ ∃ x, a0 = some x ∧ len0 ≤ cap0 ∧ cap0 ≤ maxLen ∧ z0.length = cap0 ∧ (∀ i, i < z0.length → w.cell? (x.add i) = some (.int .u8 (z0.getD i 0))) ∧ ∀ n ∈ z0, (Lit.int .u8 n).wf = true) (y0 : len0 * 1 ≤ 140737488351232) :
    Calls Try.prog 9 #[.slice a0 len0 cap0] w fun e w' => e = .returned (.bool true) ∧ Below w.heap.size w w' := by
  obtain ⟨l0, rfl, hr0, hm0, hw0, hc0⟩ := ReadsInt.ofRowC w0
  obtain ⟨k, h⟩ := P l0 hm0 y0 hw0
  refine (laws_FnQuotas.calls k _ _ l0 true w (Kd.C_of_reads (d := (0 : Int)) (h1 := fun _ => rfl) hr0) hc0 h rfl).mono ?_
  rintro e w' ⟨rfl, hd⟩
  exact ⟨rfl, hd⟩

end Go.Proofs.Ytacgichgadoddaa.QH
